/- Texts under the proof of FnHandleGroup: helper words, the functions' contracts and the plain laws. No condition. -/
import Derived.Test.YtfphcdbnnienhaaProg
import Derived.Below
import Derived.Deep.Draws
import Derived.Deep.AppendLies
import Derived.Maps.AppendAt
import Derived.OwnWalk
import Derived.Laws.BytesArg
import Derived.Laws.MakeOwn
import Derived.Laws.OwnMore
import Derived.Deep.OwnRows
import Derived.Tactics
import Derived.Lib.ConvBytes
import Derived.Laws.Slices
import Derived.WalkKit
import Derived.KernelRfl
import Derived.RowKit3
import Derived.Deep.LoopGhost
import Derived.Deep.QuietTactic
import Derived.BigQuiet
import Derived.WideLaws
import Derived.Deep.DeepCutAuto
import Derived.Deep.CutBlock
import Derived.Deep.RegionHeld3
import Derived.Laws.Rows
import Derived.Lib.AppendStr
import Derived.ArgAppend
import Derived.Laws.IdiomCopy
import Derived.OrdersHeld
import Derived.Laws.BitsLemmas
import Derived.RowKit
import Derived.Shelf.Abstract
import Derived.Test.YtfphcdbnnienhaaQFnHandleGroupwWords
import Derived.Test.YtfphcdbnnienhaaQFnHandleGroupwLast
import Derived.Test.YtfphcdbnnienhaaQFnHandleGroupwTab
import Derived.Test.YtfphcdbnnienhaaQFnHandleGroupwFour
import Derived.Test.YtfphcdbnnienhaaQFnHandleGroupwQPut
import Derived.Test.YtfphcdbnnienhaaQFnHandleGroupwApart
import Derived.Test.YtfphcdbnnienhaaQFnHandleGroupwArr
import Derived.Test.YtfphcdbnnienhaaQFnHandleGroupwZeros
import Derived.Test.YtfphcdbnnienhaaQFnHandleGroupwFoot
import Derived.Test.YtfphcdbnnienhaaQFnHandleGroupwKept
import Derived.Test.YtfphcdbnnienhaaQFnHandleGroupwShare
import Derived.Test.YtfphcdbnnienhaaQFnHandleGroupwN
import Derived.Test.YtfphcdbnnienhaaQFnHandleGroupwFootNe
import Derived.Test.YtfphcdbnnienhaaQFnHandleGroupwAt
import Derived.Test.YtfphcdbnnienhaaQFnHandleGroupwEqStruct
import Derived.Test.YtfphcdbnnienhaaQFnHandleGroupwRepsOne
import Derived.Test.YtfphcdbnnienhaaQFnHandleGroupwInv
import Derived.Test.YtfphcdbnnienhaaQFnHandleGroupwInvWords
import Derived.Test.YtfphcdbnnienhaaQFnHandleGroupwGuard
import Derived.Test.YtfphcdbnnienhaaQFnHandleGroupwNEv
import Derived.Test.YtfphcdbnnienhaaQFnHandleGroupwMore
import Derived.Test.YtfphcdbnnienhaaQFnHandleGroupwMine
namespace Go.Proofs.Ytfphcdbnnienhaa.P
open Go.RowKit Go.Proofs.YtfphcdbnnienhaaW.PrintWords Go.Proofs.YtfphcdbnnienhaaW.PrintLast Go.Proofs.YtfphcdbnnienhaaW.PrintMore
theorem s1_ {α : Type} (l : List α) (i : Nat) (a : α) : l.toArray.setIfInBounds i a = (l.set i a).toArray := List.setIfInBounds_toArray l i a
theorem s2_ {α : Type} (a b : α) (l : List α) : (a :: l).set 0 b = b :: l := rfl
theorem s3_ {α : Type} (a b : α) (l : List α) (n : Nat) : (a :: l).set (n + 1) b = a :: l.set n b := rfl
theorem a0_ {P : Prop} (h : P) : Aside0 P := Aside0.mk h
theorem hb_ {n : Nat} {w w' : World} (h : Below n w w' := by repeat (first | (with_reducible first | exact HB.out | apply below_alloc | apply pw_below_drewN | apply below_drew1 | refine below_set ?_ (Aside0.out (by assumption))) | exact HB.out)) : Below n w w' := h
theorem lm_ {P : Prop} (h : P := by (try simp only [List.map_toArray, List.map_cons, List.map_nil]); first | done | rfl | (simp only [List.length_drop, List.length_take]; rfl)) : P := h
theorem rr_ {P Q : Prop} (x : P) (h : P → Q := by intro x_; (with_reducible repeat (first | apply Kd.R_alloc | apply Kd.R_drewN | apply Kd.R_drew)); exact x_) : Q := h x
theorem rm_ {α : Type} {d : Kd α} {e : Nat} {w w' : World} {base : Nat} {ok ok' : Nat → Prop} {v : Value} {xs : List α} (x : d.R e w base ok v xs) (f : ∀ k, ok k → ok' k) (h : d.R e w base ok' v xs → d.R e w' base ok' v xs := by intro x_; (with_reducible repeat (first | apply Kd.R_alloc | apply Kd.R_drewN | apply Kd.R_drew)); exact x_) : d.R e w' base ok' v xs := h (Kd.R_mono x f)
theorem bb_ {P Q : Prop} (x : P) (h : P → Q := by intro x_; (with_reducible repeat (first | refine blk_drewN ?_ _ | refine blk_drew ?_ | refine blk_alloc ?_ _)); exact x_) : Q := h x
theorem cc_ {P Q : Prop} (x : P) (h : P → Q := by intro x_; repeat (first | exact x_ | (with_reducible refine Kd.C_alloc ?_ _) | (with_reducible refine Kd.C_drewN ?_ _) | (with_reducible refine Kd.C_drew ?_))) : Q := h x
theorem kb_ {w0 w w1 : World} {g : Nat} {o : Obj} (x : Aside0 (w0.heap[g]? = some o)) (hb : Below w.heap.size w w1) (h : w0.heap[g]? = some o → w.heap[g]? = some o := by intro x_; (with_reducible repeat (first | refine blk_drewN ?_ _ | refine blk_drew ?_ | refine blk_alloc ?_ _)); exact x_) : Aside0 (w1.heap[g]? = some o) := ⟨blk_below (h x.1) hb⟩
theorem kf_ {w0 w w1 : World} {g b : Nat} {t : TypeId} {cs : Array Value} (x : Aside0 (w0.heap[g]? = some (.cells cs t (0, 0)))) (ne : Aside0 (g ≠ b)) (hb : Below w.heap.size w w1) (h : w0.heap[g]? = some (.cells cs t (0, 0)) → g ≠ b → w.heap[g]? = some (.cells cs t (0, 0)) := by intro x_ n_; (with_reducible repeat (first | refine blk_drewN ?_ _ | refine blk_drew ?_ | refine blk_alloc ?_ _)); refine blk_far ?_ n_ _; (with_reducible repeat (first | refine blk_drewN ?_ _ | refine blk_drew ?_ | refine blk_alloc ?_ _)); exact x_) : Aside0 (w1.heap[g]? = some (.cells cs t (0, 0))) := ⟨blk_below (h x.1 ne.1) hb⟩
theorem rb_ {α : Type} {d : Kd α} {e : Nat} {w0 w w1 : World} {base : Nat} {ok : Nat → Prop} {v : Value} {xs : List α} (x : Aside0 (d.R e w0 base ok v xs)) (hb : Below w.heap.size w w1) (h : d.R e w0 base ok v xs → d.R e w base ok v xs := by intro x_; (with_reducible repeat (first | apply Kd.R_alloc | apply Kd.R_drewN | apply Kd.R_drew)); exact x_) : Aside0 (d.R e w1 base ok v xs) := ⟨Kd.R_below (h x.1) hb⟩
theorem hk_ {w W : World} {g : Nat} {row : Option Nat} (h : KeepBut w W g row := by repeat (first | (with_reducible first | exact HK.out | apply KeepBut.set_ | apply keep_drewN | apply keep_drew | apply keep_alloc | refine keep_far ?_ (Aside0.out (by assumption)) _) | exact HK.out)) : KeepBut w W g row := h
theorem bff_ {P Q : Prop} (x : P) (h : P → Q := by intro x_; repeat (first | (with_reducible first | exact x_ | refine blk_drewN ?_ _ | refine blk_drew ?_ | refine blk_alloc ?_ _ | refine blk_far ?_ (Aside0.out (by assumption)) _) | exact x_)) : Q := h x
theorem kk_ {w0 w w1 : World} {g g' : Nat} {row : Option Nat} {o : Obj} (hk : KeepBut w w1 g row) (x : Aside0 (w0.heap[g']? = some o)) (ne : Aside0 (g' ≠ g)) (hr : some g' ≠ row := by simp) (h : w0.heap[g']? = some o → w.heap[g']? = some o := by intro x_; repeat (first | (with_reducible first | exact x_ | refine blk_drewN ?_ _ | refine blk_drew ?_ | refine blk_alloc ?_ _ | refine blk_far ?_ (Aside0.out (by assumption)) _) | exact x_)) : Aside0 (w1.heap[g']? = some o) := ⟨KeepBut.blk hk (h x.1) ne.1 hr⟩
end Go.Proofs.Ytfphcdbnnienhaa.P
namespace Go.Proofs.Ytfphcdbnnienhaa.P
open Go.RowKit Go.Proofs.YtfphcdbnnienhaaW.PrintWords Go.Proofs.YtfphcdbnnienhaaW.PrintLast Go.Proofs.YtfphcdbnnienhaaW.PrintMore
attribute [local go_sem] max2_int min2_int max_two min_two max_three min_three max_four min_four
set_option linter.unusedVariables false
set_option linter.unusedSimpArgs false
def errW : Option Int → Value
 | none=>.nilIface
 | some c=>.iface 0 (.int .i64 c)
theorem errW_none : errW none = .nilIface:=rfl
theorem errW_some (c : Int) : errW (some c) = .iface 0 (.int .i64 c):=rfl
theorem info3 : (Try.prog.info? 3).map (fun i=>(i.zero,i.size,i.bytes)) = some (some (.int .i64 0),1,8):=by kernel_rfl
theorem info5 : (Try.prog.info? 5).map (fun i=>(i.zero,i.size,i.bytes)) = some (some (.int .u8 0),1,1):=by kernel_rfl
theorem info9 : (Try.prog.info? 9).map (fun i=>(i.zero,i.size,i.bytes)) = some (some (.string ⟨#[]⟩),1,16):=by kernel_rfl
theorem info26 : (Try.prog.info? 26).map (fun i=>(i.zero,i.size,i.bytes)) = some (some (.slice none 0 0),1,24):=by kernel_rfl
theorem info43 : (Try.prog.info? 43).map (fun i=>(i.zero,i.size,i.bytes)) = some (some (.agg #[(.int .i64 0),(.int .i64 0)]),2,16):=by kernel_rfl
theorem info47 : (Try.prog.info? 47).map (fun i=>(i.zero,i.size,i.bytes)) = some (some (.agg #[(.int .i64 0),(.bool false),(.int .i64 0),(.int .i64 0)]),4,32):=by kernel_rfl
theorem info85 : (Try.prog.info? 85).map (fun i=>(i.zero,i.size,i.bytes)) = some (some (.agg #[(.string ⟨#[]⟩),(.int .i64 0)]),2,24):=by kernel_rfl
structure S85 where
 f0 : ByteArray
 f1 : Int
def z85 : S85:=⟨(⟨#[]⟩ : ByteArray),(0 : Int)⟩
def k85 : Kd S85:=Kd.iso (Kd.pair Kd.string (Kd.int .i64)) (fun x : S85=>(x.f0,x.f1))
theorem k85_open {w : World} {x : S85} {cs : List Value} (h : k85.K w x cs) : cs = [.string x.f0,.int .i64 x.f1]:=by
 obtain ⟨_,_,rfl,rfl,rfl⟩:=h
 exact rfl
theorem k85_openM {w : World} {base : Nat} {ok : Nat → Prop} {x : S85} {cs : List Value} (h : k85.M w base ok x cs) : cs = [.string x.f0,.int .i64 x.f1]:=by
 obtain ⟨_,_,rfl,rfl,rfl⟩:=h
 exact rfl
theorem k85_mk (w : World) (x : S85)  : k85.K w x [.string x.f0,.int .i64 x.f1]:=⟨[.string x.f0],[.int .i64 x.f1],rfl,rfl,rfl⟩
theorem k85_mkM (w : World) (base : Nat) (ok : Nat → Prop) (x : S85)  : k85.M w base ok x [.string x.f0,.int .i64 x.f1]:=⟨[.string x.f0],[.int .i64 x.f1],rfl,rfl,rfl⟩
def rd_T85 (xs : List S85) (i : Int) : S85:=xs.getD i.toNat z85
theorem at_T85 {w : World} {A : Option Addr} {n : Nat} {xs : List S85} (h : Kd.C k85 w A n xs) (i : Int) (h0 : 0 ≤ i) (h1 : i < n) : ∃ ad ,A = some ad ∧ w.cell? (ad.add (i.toNat * 2)) = some (.string (rd_T85 xs i).f0) ∧ w.cell? ⟨(ad.add (i.toNat * 2)).block,(ad.add (i.toNat * 2)).off + 1,none⟩ = some (.int .i64 (rd_T85 xs i).f1):=by
 obtain ⟨ad,c,e,_,hK,hc0⟩:=Kd.C_get h z85 i h0 h1
 have hc : ∀ j u,c[j]? = some u → w.cell? (ad.add (i.toNat * 2 + j)) = some u:=hc0
 obtain rfl:=k85_open hK
 exact ⟨ad,e,hc 0 _ rfl,by rw [← add_field _ _ 1 (by omega)];exact hc 1 _ rfl⟩
structure S47 where
 f0 : Int
 f1 : Bool
 f2 : Int
 f3 : Int
def z47 : S47:=⟨(0 : Int),false,(0 : Int),(0 : Int)⟩
def k47 : Kd S47:=Kd.iso (Kd.pair (Kd.int .i64) (Kd.pair Kd.bool (Kd.pair (Kd.int .i64) (Kd.int .i64)))) (fun x : S47=>(x.f0,x.f1,x.f2,x.f3))
theorem k47_open {w : World} {x : S47} {cs : List Value} (h : k47.K w x cs) : cs = [.int .i64 x.f0,.bool x.f1,.int .i64 x.f2,.int .i64 x.f3]:=by
 obtain ⟨_,_,rfl,rfl,⟨_,_,rfl,rfl,⟨_,_,rfl,rfl,rfl⟩⟩⟩:=h
 exact rfl
theorem k47_openM {w : World} {base : Nat} {ok : Nat → Prop} {x : S47} {cs : List Value} (h : k47.M w base ok x cs) : cs = [.int .i64 x.f0,.bool x.f1,.int .i64 x.f2,.int .i64 x.f3]:=by
 obtain ⟨_,_,rfl,rfl,⟨_,_,rfl,rfl,⟨_,_,rfl,rfl,rfl⟩⟩⟩:=h
 exact rfl
theorem k47_mk (w : World) (x : S47)  : k47.K w x [.int .i64 x.f0,.bool x.f1,.int .i64 x.f2,.int .i64 x.f3]:=⟨[.int .i64 x.f0],[.bool x.f1,.int .i64 x.f2,.int .i64 x.f3],rfl,rfl,⟨[.bool x.f1],[.int .i64 x.f2,.int .i64 x.f3],rfl,rfl,⟨[.int .i64 x.f2],[.int .i64 x.f3],rfl,rfl,rfl⟩⟩⟩
theorem k47_mkM (w : World) (base : Nat) (ok : Nat → Prop) (x : S47)  : k47.M w base ok x [.int .i64 x.f0,.bool x.f1,.int .i64 x.f2,.int .i64 x.f3]:=⟨[.int .i64 x.f0],[.bool x.f1,.int .i64 x.f2,.int .i64 x.f3],rfl,rfl,⟨[.bool x.f1],[.int .i64 x.f2,.int .i64 x.f3],rfl,rfl,⟨[.int .i64 x.f2],[.int .i64 x.f3],rfl,rfl,rfl⟩⟩⟩
def rd_T47 (xs : List S47) (i : Int) : S47:=xs.getD i.toNat z47
theorem at_T47 {w : World} {A : Option Addr} {n : Nat} {xs : List S47} (h : Kd.C k47 w A n xs) (i : Int) (h0 : 0 ≤ i) (h1 : i < n) : ∃ ad ,A = some ad ∧ w.cell? (ad.add (i.toNat * 4)) = some (.int .i64 (rd_T47 xs i).f0) ∧ w.cell? ⟨(ad.add (i.toNat * 4)).block,(ad.add (i.toNat * 4)).off + 1,none⟩ = some (.bool (rd_T47 xs i).f1) ∧ w.cell? ⟨(ad.add (i.toNat * 4)).block,(ad.add (i.toNat * 4)).off + 2,none⟩ = some (.int .i64 (rd_T47 xs i).f2) ∧ w.cell? ⟨(ad.add (i.toNat * 4)).block,(ad.add (i.toNat * 4)).off + 3,none⟩ = some (.int .i64 (rd_T47 xs i).f3):=by
 obtain ⟨ad,c,e,_,hK,hc0⟩:=Kd.C_get h z47 i h0 h1
 have hc : ∀ j u,c[j]? = some u → w.cell? (ad.add (i.toNat * 4 + j)) = some u:=hc0
 obtain rfl:=k47_open hK
 exact ⟨ad,e,hc 0 _ rfl,by rw [← add_field _ _ 1 (by omega)];exact hc 1 _ rfl,by rw [← add_field _ _ 2 (by omega)];exact hc 2 _ rfl,by rw [← add_field _ _ 3 (by omega)];exact hc 3 _ rfl⟩
def rd_L6 (xs : List (List S85)) (i : Int) : (List S85):=xs.getD i.toNat ([] : List S85)
theorem at_L6 {w : World} {A : Option Addr} {n : Nat} {xs : List (List S85)} (h : Kd.C (Kd.slice 85 k85) w A n xs) (i : Int) (h0 : 0 ≤ i) (h1 : i < n) : ∃ ad A0 c0,A = some ad ∧ w.cell? (ad.add i.toNat) = some (.slice A0 (rd_L6 xs i).length c0) ∧ (rd_L6 xs i).length ≤ c0 ∧ k85.C w A0 (rd_L6 xs i).length (rd_L6 xs i):=by
 obtain ⟨ad,c,e,_,hK,hc0⟩:=Kd.C_get h ([] : List S85) i h0 h1
 have hc : ∀ j u,c[j]? = some u → w.cell? (ad.add (i.toNat * 1 + j)) = some u:=hc0
 obtain ⟨A0,c0,rfl,l0,g0⟩:=hK
 exact ⟨ad,A0,c0,e,by have hq:=hc 0 _ rfl;rwa [Nat.mul_one,Nat.add_zero] at hq,l0,g0⟩
structure S25 where
 f0 : (List S85)
def z25 : S25:=⟨([] : List S85)⟩
def k25 : Kd S25:=Kd.iso (Kd.slice 85 k85) (fun x : S25=>x.f0)
theorem k25_open {w : World} {x : S25} {cs : List Value} (h : k25.K w x cs) : ∃ A0 c0,cs = [.slice A0 x.f0.length c0] ∧ x.f0.length ≤ c0 ∧ k85.C w A0 x.f0.length x.f0:=by
 obtain ⟨A0,c0,rfl,l0,g0⟩:=h
 exact ⟨A0,c0,rfl,l0,g0⟩
theorem k25_openM {w : World} {base : Nat} {ok : Nat → Prop} {x : S25} {cs : List Value} (h : k25.M w base ok x cs) : ∃ v0,cs = [v0] ∧ k85.R 85 w base ok v0 x.f0:=by
 obtain ⟨v0,rfl,g0⟩:=h
 exact ⟨v0,rfl,g0⟩
theorem k25_mk (w : World) (x : S25) {A0 : Option Addr} {c0 : Nat} (l0 : x.f0.length ≤ c0) (g0 : k85.C w A0 x.f0.length x.f0) : k25.K w x [.slice A0 x.f0.length c0]:=⟨A0,c0,rfl,l0,g0⟩
theorem k25_mkM (w : World) (base : Nat) (ok : Nat → Prop) (x : S25) {v0 : Value} (g0 : k85.R 85 w base ok v0 x.f0) : k25.M w base ok x [v0]:=⟨v0,rfl,g0⟩
def rd_T25 (xs : List S25) (i : Int) : S25:=xs.getD i.toNat z25
theorem at_T25 {w : World} {A : Option Addr} {n : Nat} {xs : List S25} (h : Kd.C k25 w A n xs) (i : Int) (h0 : 0 ≤ i) (h1 : i < n) : ∃ ad A0 c0,A = some ad ∧ w.cell? (ad.add i.toNat) = some (.slice A0 (rd_T25 xs i).f0.length c0) ∧ (rd_T25 xs i).f0.length ≤ c0 ∧ k85.C w A0 (rd_T25 xs i).f0.length (rd_T25 xs i).f0:=by
 obtain ⟨ad,c,e,_,hK,hc0⟩:=Kd.C_get h z25 i h0 h1
 have hc : ∀ j u,c[j]? = some u → w.cell? (ad.add (i.toNat * 1 + j)) = some u:=hc0
 obtain ⟨A0,c0,rfl,l0,g0⟩:=k25_open hK
 exact ⟨ad,A0,c0,e,by have hq:=hc 0 _ rfl;rwa [Nat.mul_one,Nat.add_zero] at hq,l0,g0⟩
def rd_L8 (xs : List (List S47)) (i : Int) : (List S47):=xs.getD i.toNat ([] : List S47)
theorem at_L8 {w : World} {A : Option Addr} {n : Nat} {xs : List (List S47)} (h : Kd.C (Kd.slice 47 k47) w A n xs) (i : Int) (h0 : 0 ≤ i) (h1 : i < n) : ∃ ad A0 c0,A = some ad ∧ w.cell? (ad.add i.toNat) = some (.slice A0 (rd_L8 xs i).length c0) ∧ (rd_L8 xs i).length ≤ c0 ∧ k47.C w A0 (rd_L8 xs i).length (rd_L8 xs i):=by
 obtain ⟨ad,c,e,_,hK,hc0⟩:=Kd.C_get h ([] : List S47) i h0 h1
 have hc : ∀ j u,c[j]? = some u → w.cell? (ad.add (i.toNat * 1 + j)) = some u:=hc0
 obtain ⟨A0,c0,rfl,l0,g0⟩:=hK
 exact ⟨ad,A0,c0,e,by have hq:=hc 0 _ rfl;rwa [Nat.mul_one,Nat.add_zero] at hq,l0,g0⟩
structure S43 where
 f0 : Int
 f1 : Int
def z43 : S43:=⟨(0 : Int),(0 : Int)⟩
def k43 : Kd S43:=Kd.iso (Kd.pair (Kd.int .i64) (Kd.int .i64)) (fun x : S43=>(x.f0,x.f1))
theorem k43_open {w : World} {x : S43} {cs : List Value} (h : k43.K w x cs) : cs = [.int .i64 x.f0,.int .i64 x.f1]:=by
 obtain ⟨_,_,rfl,rfl,rfl⟩:=h
 exact rfl
theorem k43_openM {w : World} {base : Nat} {ok : Nat → Prop} {x : S43} {cs : List Value} (h : k43.M w base ok x cs) : cs = [.int .i64 x.f0,.int .i64 x.f1]:=by
 obtain ⟨_,_,rfl,rfl,rfl⟩:=h
 exact rfl
theorem k43_mk (w : World) (x : S43)  : k43.K w x [.int .i64 x.f0,.int .i64 x.f1]:=⟨[.int .i64 x.f0],[.int .i64 x.f1],rfl,rfl,rfl⟩
theorem k43_mkM (w : World) (base : Nat) (ok : Nat → Prop) (x : S43)  : k43.M w base ok x [.int .i64 x.f0,.int .i64 x.f1]:=⟨[.int .i64 x.f0],[.int .i64 x.f1],rfl,rfl,rfl⟩
def rd_T43 (xs : List S43) (i : Int) : S43:=xs.getD i.toNat z43
theorem at_T43 {w : World} {A : Option Addr} {n : Nat} {xs : List S43} (h : Kd.C k43 w A n xs) (i : Int) (h0 : 0 ≤ i) (h1 : i < n) : ∃ ad ,A = some ad ∧ w.cell? (ad.add (i.toNat * 2)) = some (.int .i64 (rd_T43 xs i).f0) ∧ w.cell? ⟨(ad.add (i.toNat * 2)).block,(ad.add (i.toNat * 2)).off + 1,none⟩ = some (.int .i64 (rd_T43 xs i).f1):=by
 obtain ⟨ad,c,e,_,hK,hc0⟩:=Kd.C_get h z43 i h0 h1
 have hc : ∀ j u,c[j]? = some u → w.cell? (ad.add (i.toNat * 2 + j)) = some u:=hc0
 obtain rfl:=k43_open hK
 exact ⟨ad,e,hc 0 _ rfl,by rw [← add_field _ _ 1 (by omega)];exact hc 1 _ rfl⟩
def rd_L10 (xs : List (List Int)) (i : Int) : (List Int):=xs.getD i.toNat ([] : List Int)
theorem at_L10 {w : World} {A : Option Addr} {n : Nat} {xs : List (List Int)} (h : Kd.C (Kd.slice 3 (Kd.int .i64)) w A n xs) (i : Int) (h0 : 0 ≤ i) (h1 : i < n) : ∃ ad A0 c0,A = some ad ∧ w.cell? (ad.add i.toNat) = some (.slice A0 (rd_L10 xs i).length c0) ∧ (rd_L10 xs i).length ≤ c0 ∧ (Kd.int .i64).C w A0 (rd_L10 xs i).length (rd_L10 xs i):=by
 obtain ⟨ad,c,e,_,hK,hc0⟩:=Kd.C_get h ([] : List Int) i h0 h1
 have hc : ∀ j u,c[j]? = some u → w.cell? (ad.add (i.toNat * 1 + j)) = some u:=hc0
 obtain ⟨A0,c0,rfl,l0,g0⟩:=hK
 exact ⟨ad,A0,c0,e,by have hq:=hc 0 _ rfl;rwa [Nat.mul_one,Nat.add_zero] at hq,l0,g0⟩
end Go.Proofs.Ytfphcdbnnienhaa.P
section
namespace Go.Proofs.Ytfphcdbnnienhaa.P
open Go.RowKit Go.Proofs.YtfphcdbnnienhaaW.PrintWords Go.Proofs.YtfphcdbnnienhaaW.PrintLast Go.Proofs.YtfphcdbnnienhaaW.PrintMore
attribute [local go_sem] max2_int min2_int max_two min_two max_three min_three max_four min_four
set_option linter.unusedVariables false
set_option linter.unusedSimpArgs false
def Ev {α : Type} (F : Nat → Option α) (x : α) : Prop:=∃ K,∀ k,K ≤ k → F k = some x
namespace Ev
variable {α β : Type}
theorem of_mono {F : Nat → Option α} {x : α} (hm : ∀ k,LeO (F k) (F (k + 1))) {K : Nat} (h : F K = some x) : Ev F x:=⟨K,fun _ hk=>at_rounds hm hk h⟩
theorem const {a : Option α} {x : α} (h : a = some x) : Ev (fun _=>a) x:=⟨0,fun _ _=>h⟩
theorem bind {F : Nat → Option α} {G : Nat → α → Option β} {x : α} {y : β} (h : Ev F x) (h2 : Ev (fun k=>G k x) y) : Ev (fun k=>(F k).bind (G k)) y:=by
 obtain ⟨K,hK⟩:=h
 obtain ⟨K2,hK2⟩:=h2
 refine ⟨max K K2,fun k hk=>?_⟩
 show (F k).bind (G k) = some y
 rw [hK k (Nat.le_trans (Nat.le_max_left _ _) hk)]
 exact hK2 k (Nat.le_trans (Nat.le_max_right _ _) hk)
theorem pos {F G : Nat → Option α} {x : α} {c : Prop} [Decidable c] (hc : c) (h : Ev F x) : Ev (fun k=>if c then F k else G k) x:=by
 obtain ⟨K,hK⟩:=h
 exact ⟨K,fun k hk=>by show (if c then F k else G k) = some x;rw [if_pos hc];exact hK k hk⟩
theorem neg {F G : Nat → Option α} {x : α} {c : Prop} [Decidable c] (hc : ¬ c) (h : Ev G x) : Ev (fun k=>if c then F k else G k) x:=by
 obtain ⟨K,hK⟩:=h
 exact ⟨K,fun k hk=>by show (if c then F k else G k) = some x;rw [if_neg hc];exact hK k hk⟩
theorem succ {F : Nat → Option α} {x : α} (h : Ev (fun k=>F (k + 1)) x) : Ev F x:=by
 obtain ⟨K,hK⟩:=h
 refine ⟨K + 1,fun k hk=>?_⟩
 obtain ⟨j,rfl⟩ : ∃ j,k = j + 1:=⟨k - 1,by omega⟩
 exact hK j (by omega)
theorem out {F : Nat → Option α} {x : α} (h : Ev F x) : ∃ k,F k = some x:=by
 obtain ⟨K,hK⟩:=h
 exact ⟨K,hK K (Nat.le_refl _)⟩
theorem congr {F G : Nat → Option α} {x : α} (h : Ev F x) (e : ∀ k,G k = F k) : Ev G x:=by
 obtain ⟨K,hK⟩:=h
 exact ⟨K,fun k hk=>(e k).trans (hK k hk)⟩
end Ev
theorem st_loop {σ ρ : Type} (L : Nat → σ → Int → Option ρ) (n : Nat) (S : Nat → σ) (v : ρ) (hstep : ∀ k i,i < n → L (k + 1) (S i) (i : Int) = L k (S (i + 1)) ((i + 1 : Nat) : Int)) (hend : ∀ k,L (k + 1) (S n) (n : Int) = some v) : L (n + 1) (S 0) 0 = some v:=by
 have key : ∀ d i k,i + d = n → L (d + 1 + k) (S i) (i : Int) = some v:=by
  intro d
  induction d with
  | zero =>
   intro i k hi
   obtain rfl : i = n:=by omega
   rw [show 0 + 1 + k = k + 1 by omega]
   exact hend k
  | succ d ih =>
   intro i k hi
   rw [show d + 1 + 1 + k = (d + 1 + k) + 1 by omega,hstep _ i (by omega)]
   exact ih (i + 1) k (by omega)
 have:=key n 0 0 (by omega)
 simpa using this
theorem fill_at {α β : Type} (xs : List α) (c : α → β) (z : α) (y : β) (i : Nat) (hi : i < xs.length) : (((xs.take i).map c) ++ List.replicate (xs.length - i) y).set i (c (xs.getD i z)) = ((xs.take (i + 1)).map c) ++ List.replicate (xs.length - (i + 1)) y:=by
 have h1 : xs.take (i + 1) = xs.take i ++ [xs.getD i z]:=by
  rw [List.take_succ_eq_append_getElem hi,List.getD_eq_getElem?_getD,List.getElem?_eq_getElem hi]
  rfl
 rw [h1,List.set_append_right _ _ (by simp;omega)]
 have h2 : i - ((xs.take i).map c).length = 0:=by simp;omega
 rw [h2,show xs.length - i = (xs.length - (i + 1)) + 1 by omega,List.replicate_succ,s2_,List.map_append,List.append_assoc]
 rfl
theorem fill_len {α β : Type} (xs : List α) (c : α → β) (y : β) (i : Nat) (hi : i ≤ xs.length) : (((xs.take i).map c) ++ List.replicate (xs.length - i) y).length = xs.length:=by
 simp
 omega
theorem rd_nat (l : List Int) (i : Nat) (hi : i < l.length) : rd l (i : Int) = l.getD i 0:=by simp [rd]
def marks (a : Int) (n : Nat) : List Int:=(List.range n).map (fun i : Nat=>a + (i : Int))
theorem marks_len (a : Int) (n : Nat) : (marks a n).length = n:=by simp [marks]
end Go.Proofs.Ytfphcdbnnienhaa.P
end
namespace Go.Proofs.Ytfphcdbnnienhaa.P
open Go.RowKit Go.Proofs.YtfphcdbnnienhaaW.PrintWords Go.Proofs.YtfphcdbnnienhaaW.PrintLast Go.Proofs.YtfphcdbnnienhaaW.PrintMore
attribute [local go_sem] max2_int min2_int max_two min_two max_three min_three max_four min_four
set_option linter.unusedVariables false
set_option linter.unusedSimpArgs false
abbrev Cls:=S85
def okName (s : ByteArray) : Bool:=s.data.toList.all (fun c=>decide (97 ≤ c.toNat) && decide (c.toNat ≤ 122)) && (decide (1 ≤ s.size) && decide (s.size ≤ 6))
def named (t : List Cls) (n : ByteArray) : Int:=idxP (fun x : Cls=>x.f0.toList == n.toList) t
def okCls (t : List Cls) (i : Nat) (x : Cls) : Bool:=okName x.f0 && (decide (named t x.f0 = (i : Int)) && (if i = 0 then decide (x.f1 = -1) else decide (0 ≤ x.f1) && decide (x.f1 ≤ (i : Int) - 1)))
def vT (t : List Cls) : Bool:=(List.range t.length).all (fun i=>okCls t i (t.getD i z85)) && (decide (1 ≤ t.length) && decide (t.length ≤ 8))
def smT (t : List Cls) : Bool:=t.all fun x=>decide (x.f0.size < 9223372036854775807)
def hasC (t : List Cls) (a : Int) : Bool:=decide (0 ≤ a) && decide (a < (t.length : Int))
def upF (t : List Cls) : Nat → Int → List Int
 | 0,_=>[]
 | n + 1,a=>if 0 ≤ a then a :: upF t n (rd_T85 t a).f1 else []
def abv (t : List Cls) (a : Int) : List Int:=upF t (a.toNat + 1) a
def isA (t : List Cls) (a b : Int) : Bool:=(abv t a).contains b
theorem vT_len {t : List Cls} (h : vT t = true) : 1 ≤ t.length ∧ t.length ≤ 8:=by
 unfold vT at h
 simp only [Bool.and_eq_true,decide_eq_true_eq] at h
 exact h.2
theorem vT_at {t : List Cls} (h : vT t = true) (i : Nat) (hi : i < t.length) : okCls t i (t.getD i z85) = true:=by
 unfold vT at h
 simp only [Bool.and_eq_true,List.all_eq_true,List.mem_range] at h
 exact h.1 i hi
theorem vT_name {t : List Cls} (h : vT t = true) (i : Nat) (hi : i < t.length) : okName (t.getD i z85).f0 = true ∧ named t (t.getD i z85).f0 = i:=by
 have:=vT_at h i hi
 unfold okCls at this
 simp only [Bool.and_eq_true,decide_eq_true_eq] at this
 exact ⟨this.1,this.2.1⟩
theorem vT_root {t : List Cls} (h : vT t = true) : (t.getD 0 z85).f1 = -1:=by
 have:=vT_at h 0 (by have:=vT_len h;omega)
 unfold okCls at this
 simp only [Bool.and_eq_true,decide_eq_true_eq,if_pos] at this
 exact this.2.2
theorem vT_par {t : List Cls} (h : vT t = true) (i : Nat) (h0 : 0 < i) (hi : i < t.length) : 0 ≤ (t.getD i z85).f1 ∧ (t.getD i z85).f1 ≤ (i : Int) - 1:=by
 have:=vT_at h i hi
 unfold okCls at this
 rw [if_neg (by omega)] at this
 simp only [Bool.and_eq_true,decide_eq_true_eq] at this
 exact this.2.2
theorem vT_par' {t : List Cls} (h : vT t = true) (a : Int) (h0 : 0 ≤ a) (ha : a < (t.length : Int)) : -1 ≤ (rd_T85 t a).f1 ∧ (rd_T85 t a).f1 < a:=by
 unfold rd_T85
 by_cases e : a = 0
 ·subst e
  have:=vT_root h
  simp only [Int.toNat_zero]
  omega
 ·have:=vT_par h a.toNat (by omega) (by omega)
  omega
theorem upF_more {t : List Cls} (h : vT t = true) : ∀ (n m : Nat) (a : Int),a < (t.length : Int) → a < (n : Int) → a < (m : Int) → upF t n a = upF t m a:=by
 intro n
 induction n with
 | zero=>intro m a ha hn hm;cases m with
  | zero=>rfl
  | succ m=>simp only [upF];rw [if_neg (by omega)]
 | succ n ih =>
  intro m a ha hn hm
  cases m with
  | zero=>simp only [upF];rw [if_neg (by omega)]
  | succ m =>
   simp only [upF]
   by_cases h0 : 0 ≤ a
   ·rw [if_pos h0,if_pos h0]
    have:=vT_par' h a h0 ha
    rw [ih m _ (by omega) (by omega) (by omega)]
   ·rw [if_neg h0,if_neg h0]
theorem abv_step {t : List Cls} (h : vT t = true) (a : Int) (h0 : 0 ≤ a) (ha : a < (t.length : Int)) : abv t a = a :: abv t (rd_T85 t a).f1:=by
 have:=vT_par' h a h0 ha
 unfold abv
 rw [upF,if_pos h0,upF_more h a.toNat ((rd_T85 t a).f1.toNat + 1) _ (by omega) (by omega) (by omega)]
theorem abv_neg (t : List Cls) (a : Int) (h0 : a < 0) : abv t a = []:=by
 unfold abv
 rw [upF,if_neg (by omega)]
theorem upF_len (t : List Cls) : ∀ (n : Nat) (a : Int),(upF t n a).length ≤ n:=by
 intro n
 induction n with
 | zero=>intro a;simp [upF]
 | succ n ih =>
  intro a
  simp only [upF]
  split
  ·have:=ih (rd_T85 t a).f1
   simp only [List.length_cons];omega
  ·simp
theorem vT_small {t : List Cls} (h : vT t = true) : smT t = true:=by
 unfold smT
 rw [List.all_eq_true]
 intro x hx
 obtain ⟨i,hi,rfl⟩:=List.getElem_of_mem hx
 have:=(vT_name h i hi).1
 unfold okName at this
 simp only [Bool.and_eq_true,decide_eq_true_eq] at this
 have h2 : (t.getD i z85) = t[i]:=by simp [hi]
 rw [h2] at this
 simp only [decide_eq_true_eq]
 omega
theorem smT_at {t : List Cls} (h : smT t = true) (i : Nat) (hi : i < t.length) : t[i].f0.size ≤ 9223372036854775806:=by
 unfold smT at h
 rw [List.all_eq_true] at h
 have:=h t[i] (List.getElem_mem hi)
 simp only [decide_eq_true_eq] at this
 omega
theorem hasC_iff {t : List Cls} {a : Int} : hasC t a = true ↔ 0 ≤ a ∧ a < (t.length : Int):=by
 unfold hasC;simp
theorem abv_len {t : List Cls} (h : vT t = true) (a : Int) (ha : a < (t.length : Int)) : (abv t a).length ≤ 8:=by
 have h1:=upF_len t (a.toNat + 1) a
 have h2:=vT_len h
 unfold abv
 by_cases h0 : 0 ≤ a
 ·omega
 ·rw [upF,if_neg h0];simp
end Go.Proofs.Ytfphcdbnnienhaa.P
namespace Go.Proofs.Ytfphcdbnnienhaa.P
open Go.RowKit Go.Proofs.YtfphcdbnnienhaaW.PrintWords Go.Proofs.YtfphcdbnnienhaaW.PrintLast Go.Proofs.YtfphcdbnnienhaaW.PrintMore
attribute [local go_sem] max2_int min2_int max_two min_two max_three min_three max_four min_four
set_option linter.unusedVariables false
set_option linter.unusedSimpArgs false
abbrev Prt:=S47
def endG (g : List Prt) (i : Nat) : Nat:=i + 1 + ((g.drop (i + 1)).takeWhile (fun p=>decide ((g.getD i z47).f0 < p.f0))).length
def okP1 (t : List Cls) (i : Nat) (p : Prt) : Bool:=(decide (0 ≤ p.f3) && decide (p.f3 ≤ 99)) && ((decide (0 ≤ p.f0) && decide (p.f0 ≤ 5)) && (!(p.f1 && !(p.f2 == 0)) && (!(!p.f1 && !hasC t p.f2) && ((p.f0 == 0) == ((i : Int) == 0)))))
def okUp (q p : Prt) : Bool:=!(decide (q.f0 + 1 < p.f0)) && !(decide (q.f0 < p.f0) && !q.f1)
def okP (t : List Cls) (g : List Prt) (i : Nat) (p : Prt) : Bool:=okP1 t i p && ((if i = 0 then true else okUp (g.getD (i - 1) z47) p) && !(p.f1 && ((endG g i : Int) == (i : Int) + 1)))
def psG (t : List Cls) (g : List Prt) : Bool:=(List.range g.length).all (fun i=>okP t g i (g.getD i z47))
def vG (t : List Cls) (g : List Prt) : Bool:=psG t g && (vT t && (decide (1 ≤ g.length) && decide (g.length ≤ 16)))
theorem endG_le (g : List Prt) (i : Nat) (hi : i < g.length) : endG g i ≤ g.length:=by
 unfold endG
 have h:=(List.takeWhile_sublist (fun p : Prt=>decide ((g.getD i z47).f0 < p.f0)) (l:=g.drop (i + 1))).length_le
 rw [List.length_drop] at h
 omega
theorem psG_at {t : List Cls} {g : List Prt} (h : psG t g = true) (i : Nat) (hi : i < g.length) : okP t g i (g.getD i z47) = true:=by
 unfold psG at h
 rw [List.all_eq_true] at h
 exact h i (by simpa using hi)
theorem psG_of {t : List Cls} {g : List Prt} (h : ∀ j,j < g.length → okP t g j (g.getD j z47) = true) : psG t g = true:=by
 unfold psG
 rw [List.all_eq_true]
 intro i hi
 exact h i (by simpa using hi)
theorem vG_false {t : List Cls} {g : List Prt} {i : Nat} (hi : i < g.length) (h : okP t g i (g.getD i z47) = false) : vG t g = false:=by
 cases hv : vG t g with
 | false=>rfl
 | true =>
  unfold vG at hv
  rw [Bool.and_eq_true] at hv
  rw [psG_at hv.1 i hi] at h
  cases h
theorem okP_depth {t : List Cls} {g : List Prt} {i : Nat} {p : Prt} (h : okP t g i p = true) : 0 ≤ p.f0 ∧ p.f0 ≤ 5:=by
 unfold okP okP1 at h
 simp only [Bool.and_eq_true,decide_eq_true_eq] at h
 exact h.1.2.1
def belowB (g : List Prt) (i : Nat) : Bool:=decide (i + 1 < g.length) && decide ((g.getD i z47).f0 < (g.getD (i + 1) z47).f0)
theorem endG_below (g : List Prt) (i : Nat) : ((endG g i : Int) == (i : Int) + 1) = !belowB g i:=by
 unfold endG belowB
 by_cases h : i + 1 < g.length
 ·rw [decide_eq_true h,Bool.true_and,List.drop_eq_getElem_cons h,List.takeWhile_cons]
  have e : g.getD (i + 1) z47 = g[i + 1]:=by simp [List.getD,h]
  rw [e]
  by_cases h2 : (g.getD i z47).f0 < g[i + 1].f0
  ·rw [decide_eq_true h2,if_pos rfl,List.length_cons]
   exact beq_eq_false_iff_ne.2 (by omega)
  ·rw [decide_eq_false h2,if_neg (by simp)]
   exact beq_iff_eq.2 (by simp)
 ·rw [decide_eq_false h,List.drop_eq_nil_of_le (by omega)]
  exact beq_iff_eq.2 (by simp)
def okB (t : List Cls) (g : List Prt) (i : Nat) (p : Prt) : Bool:=if p.f1 = true then (p.f2 == 0) && belowB g i else hasC t p.f2
def okU (g : List Prt) (i : Nat) (p : Prt) : Bool:=if i = 0 then true else !(decide ((g.getD (i - 1) z47).f0 < p.f0) && !((g.getD (i - 1) z47).f1 && (p.f0 == (g.getD (i - 1) z47).f0 + 1)))
theorem okP_eq (t : List Cls) (g : List Prt) (i : Nat) (p : Prt) : okP t g i p = ((decide (0 ≤ p.f3) && decide (p.f3 ≤ 99)) && ((decide (0 ≤ p.f0) && decide (p.f0 ≤ 5)) && (!((p.f0 == 0) != ((i : Int) == 0)) && (okU g i p && okB t g i p)))):=by
 unfold okP okP1 okB okU okUp
 rw [endG_below]
 generalize (decide (0 ≤ p.f3) && decide (p.f3 ≤ 99)) = b1
 generalize (decide (0 ≤ p.f0) && decide (p.f0 ≤ 5)) = b2
 generalize hasC t p.f2 = b4
 generalize belowB g i = b5
 have hu : ∀ q : Prt,(!(decide (q.f0 + 1 < p.f0)) && !(decide (q.f0 < p.f0) && !q.f1)) = !(decide (q.f0 < p.f0) && !(q.f1 && (p.f0 == q.f0 + 1))):=by
  intro q
  by_cases h1 : q.f0 < p.f0
  ·by_cases h2 : q.f0 + 1 < p.f0
   ·have h3 : (p.f0 == q.f0 + 1) = false:=beq_eq_false_iff_ne.2 (by omega)
    rw [decide_eq_true h1,decide_eq_true h2,h3]
    cases q.f1 <;> rfl
   ·have h3 : (p.f0 == q.f0 + 1) = true:=beq_iff_eq.2 (by omega)
    rw [decide_eq_true h1,decide_eq_false h2,h3]
    cases q.f1 <;> rfl
  ·have h2 : ¬ q.f0 + 1 < p.f0:=by omega
   rw [decide_eq_false h1,decide_eq_false h2]
   rfl
 rw [hu]
 generalize (!(decide ((g.getD (i - 1) z47).f0 < p.f0) && !((g.getD (i - 1) z47).f1 && (p.f0 == (g.getD (i - 1) z47).f0 + 1)))) = b6
 by_cases h0 : i = 0
 ·rw [if_pos h0]
  generalize ((i : Int) == 0) = b7
  generalize (p.f0 == 0) = b8
  generalize (p.f2 == 0) = b9
  cases p.f1 <;> cases b1 <;> cases b2 <;> cases b4 <;> cases b5 <;> cases b7 <;> cases b8 <;> cases b9 <;> rfl
 ·rw [if_neg h0]
  generalize ((i : Int) == 0) = b7
  generalize (p.f0 == 0) = b8
  generalize (p.f2 == 0) = b9
  cases p.f1 <;> cases b1 <;> cases b2 <;> cases b4 <;> cases b5 <;> cases b6 <;> cases b7 <;> cases b8 <;> cases b9 <;> rfl
def hasP (t : List Cls) (g : List Prt) (a : Int) : Bool:=vG t g && (hasC t a && g.any (fun p=>!p.f1 && isA t p.f2 a))
theorem vG_leaf {t : List Cls} {g : List Prt} (h : vG t g = true) (p : Prt) (hp : p ∈ g) (h1 : p.f1 = false) : 0 ≤ p.f2 ∧ p.f2 < (t.length : Int):=by
 unfold vG at h
 rw [Bool.and_eq_true] at h
 obtain ⟨i,hi,rfl⟩:=List.getElem_of_mem hp
 have:=psG_at h.1 i hi
 have e : g.getD i z47 = g[i]:=by simp [List.getD,hi]
 rw [e] at this
 unfold okP okP1 at this
 simp only [Bool.and_eq_true] at this
 have h4:=this.1.2.2.2.1
 rw [h1] at h4
 have h5 : hasC t g[i].f2 = true:=by simpa using h4
 unfold hasC at h5
 simpa using h5
theorem vG_tree {t : List Cls} {g : List Prt} (h : vG t g = true) : vT t = true ∧ 1 ≤ g.length ∧ g.length ≤ 16:=by
 unfold vG at h
 simp only [Bool.and_eq_true,decide_eq_true_eq] at h
 exact h.2
end Go.Proofs.Ytfphcdbnnienhaa.P
namespace Go.Proofs.Ytfphcdbnnienhaa.P
open Go.RowKit Go.Proofs.YtfphcdbnnienhaaW.PrintWords Go.Proofs.YtfphcdbnnienhaaW.PrintLast Go.Proofs.YtfphcdbnnienhaaW.PrintMore
attribute [local go_sem] max2_int min2_int max_two min_two max_three min_three max_four min_four
set_option linter.unusedVariables false
set_option linter.unusedSimpArgs false
def impl_within.f (a0 : Int) (a1 : Int) (a2 : Int) : Option (Bool):=if a0 ≥ a1 then (some (decide (a0 ≤ a2))) else (some false)
set_option maxHeartbeats 8000000 in
set_option maxRecDepth 100000 in
theorem impl_within.calls (a0 : Int) (a1 : Int) (a2 : Int) (r : Bool) (w : World) (h : impl_within.f a0 a1 a2 = some r) :
  Calls Try.prog 70 #[.int .i64 a0,.int .i64 a1,.int .i64 a2] w fun e w'=>e = .returned (.bool r) ∧ Drawn0 w w':=by
 have H : (if a0 ≥ a1 then (some (decide (a0 ≤ a2))) else (some false)) = some r:=h
 clear h
 by_cases c4 : a0 ≥ a1
 ·rw [if_pos c4] at H
  have c4b0 : decide (a1 ≤ a0) = true:=decide_eq_true c4
  clear c4
  obtain rfl:=Option.some.inj H
  go_enter Try.func70,Try.ntmps70
  go_wp2
  go_ret
  exact ⟨by first | rfl | (simp;done) | (simp [*];done),by repeat (first | exact Drawn0.refl _ | apply Drawn0.step)⟩
 ·rw [if_neg c4] at H
  have c4b0 : decide (a1 ≤ a0) = false:=decide_eq_false c4
  clear c4
  obtain rfl:=Option.some.inj H
  go_enter Try.func70,Try.ntmps70
  go_wp2
  go_ret
  exact ⟨by first | rfl | (simp;done) | (simp [*];done),by repeat (first | exact Drawn0.refl _ | apply Drawn0.step)⟩
theorem impl_within_ev (a b c : Int) : impl_within.f a b c = some (decide (b ≤ a) && decide (a ≤ c)):=by
 unfold impl_within.f
 by_cases h : a ≥ b
 ·rw [if_pos h,decide_eq_true (show b ≤ a from h),Bool.true_and]
 ·rw [if_neg h,decide_eq_false (show ¬ b ≤ a from h),Bool.false_and]
end Go.Proofs.Ytfphcdbnnienhaa.P
namespace Go.Proofs.Ytfphcdbnnienhaa.P
open Go.RowKit Go.Proofs.YtfphcdbnnienhaaW.PrintWords Go.Proofs.YtfphcdbnnienhaaW.PrintLast Go.Proofs.YtfphcdbnnienhaaW.PrintMore
attribute [local go_sem] max2_int min2_int max_two min_two max_three min_three max_four min_four
set_option linter.unusedVariables false
set_option linter.unusedSimpArgs false
def impl_nameOk.l0 : Nat → ByteArray → Int → Int → Option (Bool)
 | 0,_,_,_=>none
 | k + 1,x0,x5,x6=>if x6 < x5 then (if 0 ≤ x6 then (if x6 < (x0.size : Int) then (if (bt x0 x6) < 97 then (some false) else (if (bt x0 x6) > 122 then (some false) else (impl_nameOk.l0 k x0 x5 (wrap64 (x6 + 1))))) else (none)) else (none)) else ((impl_within.f (x0.size : Int) 1 6).bind fun t1=>(some t1))
def impl_nameOk.f (k : Nat) (a0 : ByteArray) : Option (Bool):=impl_nameOk.l0 k a0 (a0.size : Int) 0
theorem impl_nameOk.mono_l : ∀ k,(∀ y0 y1 y2,LeO (impl_nameOk.l0 k y0 y1 y2) (impl_nameOk.l0 (k + 1) y0 y1 y2))
 | 0=>fun _ _ _ r h=>by simp [impl_nameOk.l0] at h
 | k + 1=>by
  have ih0:=impl_nameOk.mono_l k
  ·intro y0 y1 y2
   unfold impl_nameOk.l0
   repeat' first
   | (with_reducible exact ih0 _ _ _)
   | (with_reducible exact LeO.refl _)
   | (with_reducible exact LeO.none _)
   | (with_reducible refine LeO.ite ?_ ?_)
   | (with_reducible refine LeO.bind ?_ (fun _=>?_))
   | exact ih0 _ _ _
   | exact LeO.none _
   | refine LeO.ite ?_ ?_
   | refine LeO.bind ?_ (fun _=>?_)
theorem impl_nameOk.mono : ∀ a0 k,LeO (impl_nameOk.f k a0) (impl_nameOk.f (k + 1) a0):=by
 intro a0 k
 have ih0:=impl_nameOk.mono_l k
 unfold impl_nameOk.f
 repeat' first
   | (with_reducible exact ih0 _ _ _)
   | (with_reducible exact LeO.refl _)
   | (with_reducible exact LeO.none _)
   | (with_reducible refine LeO.ite ?_ ?_)
   | (with_reducible refine LeO.bind ?_ (fun _=>?_))
   | exact ih0 _ _ _
   | exact LeO.none _
   | refine LeO.ite ?_ ?_
   | refine LeO.bind ?_ (fun _=>?_)
set_option maxHeartbeats 8000000 in
set_option maxRecDepth 100000 in
theorem impl_nameOk.calls (k : Nat) (a0 : ByteArray) (r : Bool) (w : World) (h : impl_nameOk.f k a0 = some r) :
  Calls Try.prog 68 #[.string a0] w fun e w'=>e = .returned (.bool r) ∧ Drawn0 w w':=by
 have H : (impl_nameOk.l0 k a0 (a0.size : Int) 0) = some r:=h
 clear h
 have H':=a0_ H
 clear H
 go_enter Try.func68,Try.ntmps68
 go_wp2
 go_loopg [6] k (fun kq v6 w'=>∃ (x6_1 : Int),v6 = .int .i64 x6_1 ∧ Aside0 (impl_nameOk.l0 kq a0 (a0.size : Int) x6_1 = some r) ∧ Aside0 (kq ≤ k) ∧ Drawn0 w w')
 case atStart=>exact ⟨(0),(by first | rfl | (simp;done) | (simp [*];done)),H',⟨Nat.le_refl _⟩,by repeat (first | exact Drawn0.refl _ | apply Drawn0.step)⟩
 case round =>
  clear H'
  obtain ⟨x6_1,rfl,HA,HK1,⟨m1,rfl⟩⟩:=hrel
  cases gk with
  | zero=>exact absurd HA.out (by simp [impl_nameOk.l0])
  | succ k1 =>
   have H:=HA.out
   clear HA
   simp only [impl_nameOk.l0] at H
   by_cases c2 : x6_1 < (a0.size : Int)
   ·rw [if_pos c2] at H
    have c2b0 : decide (x6_1 < (a0.size : Int)) = true:=decide_eq_true c2
    clear c2
    by_cases c3 : 0 ≤ x6_1
    ·rw [if_pos c3] at H
     have c3b0 : decide (0 ≤ x6_1) = true:=decide_eq_true c3
     clear c3
     by_cases c4 : x6_1 < (a0.size : Int)
     ·rw [if_pos c4] at H
      have c4b0 : decide (x6_1 < (a0.size : Int)) = true:=decide_eq_true c4
      clear c4
      by_cases c6 : (bt a0 x6_1) < 97
      ·rw [if_pos c6] at H
       have c6b0 : decide ((bt a0 x6_1) < 97) = true:=decide_eq_true c6
       clear c6
       obtain rfl:=Option.some.inj H
       have p5 : 0 ≤ (x6_1 : Int):=of_decide_eq_true (by first | (with_reducible assumption) | assumption)
       have q5 : x6_1 < (a0.size : Int):=of_decide_eq_true (by first | (with_reducible assumption) | assumption)
       have hx5:=bt_at a0 x6_1
       replace p5:=eq_true p5
       replace q5:=eq_true q5
       go_wp2
       go_ret
       exact ⟨by first | rfl | (simp;done) | (simp [*];done),by repeat (first | exact Drawn0.refl _ | apply Drawn0.step)⟩
      ·rw [if_neg c6] at H
       have c6b0 : decide ((bt a0 x6_1) < 97) = false:=decide_eq_false c6
       clear c6
       by_cases c8 : (bt a0 x6_1) > 122
       ·rw [if_pos c8] at H
        have c8b0 : decide (122 < (bt a0 x6_1)) = true:=decide_eq_true c8
        clear c8
        obtain rfl:=Option.some.inj H
        have p5 : 0 ≤ (x6_1 : Int):=of_decide_eq_true (by first | (with_reducible assumption) | assumption)
        have q5 : x6_1 < (a0.size : Int):=of_decide_eq_true (by first | (with_reducible assumption) | assumption)
        have hx5:=bt_at a0 x6_1
        replace p5:=eq_true p5
        replace q5:=eq_true q5
        have p7 : 0 ≤ (x6_1 : Int):=of_decide_eq_true (by first | (with_reducible assumption) | assumption)
        have q7 : x6_1 < (a0.size : Int):=of_decide_eq_true (by first | (with_reducible assumption) | assumption)
        have hx7:=bt_at a0 x6_1
        replace p7:=eq_true p7
        replace q7:=eq_true q7
        go_wp2
        go_ret
        exact ⟨by first | rfl | (simp;done) | (simp [*];done),by repeat (first | exact Drawn0.refl _ | apply Drawn0.step)⟩
       ·rw [if_neg c8] at H
        have c8b0 : decide (122 < (bt a0 x6_1)) = false:=decide_eq_false c8
        clear c8
        have H':=a0_ H
        clear H
        have p5 : 0 ≤ (x6_1 : Int):=of_decide_eq_true (by first | (with_reducible assumption) | assumption)
        have q5 : x6_1 < (a0.size : Int):=of_decide_eq_true (by first | (with_reducible assumption) | assumption)
        have hx5:=bt_at a0 x6_1
        replace p5:=eq_true p5
        replace q5:=eq_true q5
        have p7 : 0 ≤ (x6_1 : Int):=of_decide_eq_true (by first | (with_reducible assumption) | assumption)
        have q7 : x6_1 < (a0.size : Int):=of_decide_eq_true (by first | (with_reducible assumption) | assumption)
        have hx7:=bt_at a0 x6_1
        replace p7:=eq_true p7
        replace q7:=eq_true q7
        go_wp2
        go_roundg k1
        case measure=>have:=HK1.out;omega
        case rel=>exact ⟨(wrap64 (x6_1 + 1)),(by first | rfl | (simp;done) | (simp [*];done)),H',⟨by have:=HK1.out;omega⟩,by repeat (first | exact Drawn0.refl _ | apply Drawn0.step)⟩
     ·rw [if_neg c4] at H
      exact absurd H (by simp)
    ·rw [if_neg c3] at H
     exact absurd H (by simp)
   ·rw [if_neg c2] at H
    have c2b0 : decide (x6_1 < (a0.size : Int)) = false:=decide_eq_false c2
    clear c2
    replace H:=Option.bind_eq_some_iff.mp H
    obtain ⟨t1,A90,H⟩:=H
    replace H : (some t1) = some r:=H
    have A9:=a0_ A90
    clear A90
    obtain rfl:=Option.some.inj H
    go_wp2_with (first | ((with_reducible refine gate_callee (f:=70) rfl ?_);refine goesL_ (some 22) rfl rfl Try.func70 (by kernel_rfl) rfl #[.int .i64 (a0.size : Int),.int .i64 1,.int .i64 6] rfl lm_ ?_;(with_reducible refine (impl_within.calls (a0.size : Int) 1 6 t1 _ A9.out).mono ?_);rintro e w' ⟨rfl,⟨nd,rfl⟩⟩;refine ⟨_,rfl,?_⟩))
    go_ret
    exact ⟨by first | rfl | (simp;done) | (simp [*];done),by repeat (first | exact Drawn0.refl _ | apply Drawn0.step)⟩
theorem impl_nameOk_l0 (s : ByteArray) (hs : s.size ≤ 9223372036854775807) (d : Nat) : ∀ (k : Nat) (i : Nat),i ≤ s.size → s.size - i = d → d < k → impl_nameOk.l0 k s (s.size : Int) (i : Int) = some ((s.data.toList.drop i).all (fun c=>decide (97 ≤ c.toNat) && decide (c.toNat ≤ 122)) && (decide (1 ≤ s.size) && decide (s.size ≤ 6))):=by
 induction d with
 | zero =>
  intro k i hi hd hk
  obtain ⟨k,rfl⟩ : ∃ m,k = m + 1:=⟨k - 1,by omega⟩
  simp only [impl_nameOk.l0]
  rw [if_neg (by omega)]
  have : s.data.toList.drop i = []:=by
   apply List.drop_eq_nil_of_le
   have : s.data.toList.length = s.size:=toL_len s
   omega
  rw [this]
  simp only [impl_within.f,List.all_nil,Bool.true_and]
  by_cases h1 : 1 ≤ s.size
  ·rw [if_pos (show (s.size : Int) ≥ 1 by omega)]
   by_cases h2 : s.size ≤ 6
   ·simp [h1,h2];omega
   ·simp [h2];omega
  ·rw [if_neg (show ¬ (s.size : Int) ≥ 1 by omega)];simp [h1]
 | succ d ih =>
  intro k i hi hd hk
  obtain ⟨k,rfl⟩ : ∃ m,k = m + 1:=⟨k - 1,by omega⟩
  have hlt : i < s.size:=by omega
  have hl : s.data.toList.length = s.size:=toL_len s
  simp only [impl_nameOk.l0]
  rw [if_pos (show (i : Int) < (s.size : Int) by omega),if_pos (show (0 : Int) ≤ (i : Int) by omega),if_pos (show (i : Int) < (s.size : Int) by omega),bt_getElem s i hlt]
  have hd2 : s.data.toList.drop i = s[i] :: s.data.toList.drop (i + 1):=by
   rw [List.drop_eq_getElem_cons (by omega)]
   congr 1
  rw [hd2,List.all_cons]
  by_cases h1 : (s[i].toNat : Int) < 97
  ·rw [if_pos h1];have : ¬ 97 ≤ s[i].toNat:=by omega
   simp [this]
  ·rw [if_neg h1]
   by_cases h2 : (s[i].toNat : Int) > 122
   ·rw [if_pos h2];have : ¬ s[i].toNat ≤ 122:=by omega
    simp [this]
   ·rw [if_neg h2,wrap_succ (n:=s.size) (by omega) (by omega) (by omega)]
    have:=ih k (i + 1) (by omega) (by omega) (by omega)
    rw [show ((i : Int) + 1) = ((i + 1 : Nat) : Int) by omega,this]
    have a : 97 ≤ s[i].toNat:=by omega
    have b : s[i].toNat ≤ 122:=by omega
    simp [a,b]
theorem impl_nameOk_ev (s : ByteArray) (hs : s.size ≤ 9223372036854775807) : impl_nameOk.f (s.size + 1) s = some (okName s):=by
 unfold impl_nameOk.f okName
 have:=impl_nameOk_l0 s hs s.size (s.size + 1) 0 (by omega) (by omega) (by omega)
 simpa using this
end Go.Proofs.Ytfphcdbnnienhaa.P
namespace Go.Proofs.Ytfphcdbnnienhaa.P
open Go.RowKit Go.Proofs.YtfphcdbnnienhaaW.PrintWords Go.Proofs.YtfphcdbnnienhaaW.PrintLast Go.Proofs.YtfphcdbnnienhaaW.PrintMore
attribute [local go_sem] max2_int min2_int max_two min_two max_three min_three max_four min_four
set_option linter.unusedVariables false
set_option linter.unusedSimpArgs false
set_option maxHeartbeats 2000000 in
theorem slices_IndexFunc_Class.callsF (A : Option Addr) (c : Nat) (l : List S85) (g : Nat) (lb : Array Value) (p : S85 → Bool) (w : World) (eg : ∀ args w,(callFunc g args).run Try.prog w = .ok (.enter g args) w)
  (hr : Kd.C k85 w A l.length l) (hc : l.length ≤ c) (hp : ∀ x,x ∈ l → ∀ W,Below w.heap.size w W → Calls Try.prog g (#[.agg #[.string x.f0,.int .i64 x.f1]] ++ lb) W fun e w'=>e = .returned (.bool (p x)) ∧ Below W.heap.size W w') :
  Calls Try.prog 87 #[.slice A l.length c,.func (.func g) #[] lb] w fun e w'=>e = .returned (.int .i64 (idxP p l)) ∧ Below w.heap.size w w':=by
 have HR:=a0_ hr
 have HP:=a0_ hp
 have hmax : l.length ≤ 9223372036854775807:=hr.2.1
 clear hr hp hc
 go_enter Try.func87,Try.ntmps87
 go_wp2
 go_loopg [5,8] l.length (fun gg _ s8 wr=>∃ kk : Nat,kk ≤ l.length ∧ l.length - kk ≤ gg ∧ s8 = .int .i64 kk ∧ Aside0 (Below w.heap.size w wr) ∧ Aside0 (∀ j (hj : j < l.length),j < kk → p l[j] = false))
 case atStart=>exact ⟨0,Nat.zero_le _,by omega,rfl,⟨Below.refl _ w⟩,⟨fun j _ hj=>absurd hj (Nat.not_lt_zero _)⟩⟩
 case round =>
  obtain ⟨kk,hkk,hg,rfl,BW,HA⟩:=hrel
  by_cases hlt : kk < l.length
  ·have hltz : (kk : Int) < (l.length : Int):=by omega
   obtain ⟨ad,ea,hx0,hx1⟩:=at_T85 HR.out (kk : Int) (by omega) (by omega)
   cases ea
   have hrd : rd_T85 l (kk : Int) = l[kk]:=by simp [rd_T85,hlt]
   rw [hrd] at hx0 hx1
   rw [Int.toNat_natCast] at hx0 hx1
   replace hx0:=(BW.out.cell (World.block_lt_of_cell? w _ hx0)).trans hx0
   replace hx1:=(BW.out.cell (World.block_lt_of_cell? w _ hx1)).trans hx1
   have hcall:=HP.out l[kk] (List.getElem_mem hlt) wr BW.out
   clear hrd
   generalize hy : l[kk] = y at hx0 hx1 hcall
   have B:=a0_ hy
   clear hy
   cases hq : p y with
   | true =>
    rw [hq] at hcall
    go_wp2_with (go_at_fn g;refine hcall.mono ?_;rintro e w' ⟨rfl,hb'⟩)
    go_ret
    refine ⟨?_,below_step BW.out hb'⟩
    rw [idxP_hit p l kk hlt (by rw [B.out];exact hq) HA.out];rfl
   | false =>
    rw [hq] at hcall
    go_wp2_with (go_at_fn g;refine hcall.mono ?_;rintro e w' ⟨rfl,hb'⟩)
    go_roundg (l.length - (kk + 1))
    case measure=>omega
    case rel =>
     refine ⟨kk + 1,by omega,by omega,by go_num,⟨below_step BW.out hb'⟩,⟨fun j hj hjk=>?_⟩⟩
     by_cases e : j = kk
     ·subst e
      rw [B.out];exact hq
     ·exact HA.out j hj (by omega)
  ·have hltz : ¬ (kk : Int) < (l.length : Int):=by omega
   have : kk = l.length:=by omega
   subst this
   go_wp2
   go_ret
   refine ⟨?_,BW.out⟩
   rw [idxP_miss p l (fun j hj=>HA.out j hj hj)];rfl
end Go.Proofs.Ytfphcdbnnienhaa.P
namespace Go.Proofs.Ytfphcdbnnienhaa.P
open Go.RowKit Go.Proofs.YtfphcdbnnienhaaW.PrintWords Go.Proofs.YtfphcdbnnienhaaW.PrintLast Go.Proofs.YtfphcdbnnienhaaW.PrintMore
attribute [local go_sem] max2_int min2_int max_two min_two max_three min_three max_four min_four
set_option linter.unusedVariables false
set_option linter.unusedSimpArgs false
theorem impl_Tree_named_1.callsF (B : Nat) (nm : ByteArray) (x : S85) (w : World) (hB : w.heap[B]? = some (.cells #[.string nm] 9 (0,0))) :
  Calls Try.prog 88 #[.agg #[.string x.f0,.int .i64 x.f1],.pointer (some ⟨B,0,none⟩)] w fun e w'=>e = .returned (.bool (x.f0.toList == nm.toList)) ∧ Below w.heap.size w w':=by
 have hc : w.cell? ⟨B,0,none⟩ = some (.string nm):=(blk_cell hB 0).trans rfl
 have hlt : B < w.heap.size:=(Array.getElem?_eq_some_iff.1 hB).1
 have hne : B ≠ w.heap.size:=by omega
 clear hB
 go_enter Try.func88,Try.ntmps88
 go_wp2
 all_goals (go_ret;exact ⟨by simp_all,(Below.refl _ w).alloc (Nat.le_refl _) _⟩)
end Go.Proofs.Ytfphcdbnnienhaa.P
namespace Go.Proofs.Ytfphcdbnnienhaa.P
open Go.RowKit Go.Proofs.YtfphcdbnnienhaaW.PrintWords Go.Proofs.YtfphcdbnnienhaaW.PrintLast Go.Proofs.YtfphcdbnnienhaaW.PrintMore
attribute [local go_sem] max2_int min2_int max_two min_two max_three min_three max_four min_four
set_option linter.unusedVariables false
set_option linter.unusedSimpArgs false
def impl_Tree_named.f (l0_0 : List (S85)) (a1 : ByteArray) : Option Int:=some (idxP (fun x : S85=>x.f0.toList == a1.toList) l0_0)
set_option maxHeartbeats 2000000 in
theorem impl_Tree_named.calls (A0_0 : Option Addr) (c0_0 : Nat) (l0_0 : List (S85)) (a1 : ByteArray) (r : Int) (w : World) (hr0_0 : Kd.C k85 w A0_0 l0_0.length l0_0) (hc0_0 : l0_0.length ≤ c0_0) (h : impl_Tree_named.f l0_0 a1 = some r) :
  Calls Try.prog 69 #[.agg #[.slice A0_0 l0_0.length c0_0],.string a1] w fun e w'=>e = .returned (.int .i64 r) ∧ Below w.heap.size w w':=by
 obtain rfl:=Option.some.inj h
 clear h
 have hu31:=Try.underlying25
 have eg : ∀ args w,(callFunc 88 args).run Try.prog w = .ok (.enter 88 args) w:=enters_of Try.func88 (by kernel_rfl) rfl
 have hcon:=fun (W : World) (hb : Below w.heap.size w W) (hB : W.heap[w.heap.size + 1]? = some (.cells #[.string a1] 9 (0,0)))=>slices_IndexFunc_Class.callsF A0_0 c0_0 l0_0 88 #[.pointer (some ⟨w.heap.size + 1,0,none⟩)] (fun x=>x.f0.toList == a1.toList) W eg (Kd.C_below hr0_0 hb) hc0_0 (fun x _ W' hW=>by
  have:=impl_Tree_named_1.callsF (w.heap.size + 1) a1 x W' (blk_keptB hB hW)
  simpa using this)
 clear hr0_0 hc0_0
 generalize idxP (fun x : S85=>x.f0.toList == a1.toList) l0_0 = r at hcon ⊢
 have HC:=a0_ hcon
 clear hcon
 go_enter Try.func69,Try.ntmps69
 go_wp2_with (go_at_call 87;refine (HC.out _ ?hb ?hB).mono ?_;(case hb=>exact below2 w _ _);(case hB=>exact heap_new2 w _ _);rintro e w' ⟨rfl,hb'⟩)
 go_ret
 exact ⟨rfl,(below2 w _ _).trans (hb'.mono (by simp;omega))⟩
end Go.Proofs.Ytfphcdbnnienhaa.P
namespace Go.Proofs.Ytfphcdbnnienhaa.P
open Go.RowKit Go.Proofs.YtfphcdbnnienhaaW.PrintWords Go.Proofs.YtfphcdbnnienhaaW.PrintLast Go.Proofs.YtfphcdbnnienhaaW.PrintMore
attribute [local go_sem] max2_int min2_int max_two min_two max_three min_three max_four min_four
set_option linter.unusedVariables false
set_option linter.unusedSimpArgs false
def impl_ValidTree.f (l0_0 : List (S85)) : Option Bool:=if smT l0_0 = true then some (vT l0_0) else none
set_option maxHeartbeats 4000000 in
set_option maxRecDepth 100000 in
theorem impl_ValidTree.calls (A0_0 : Option Addr) (c0_0 : Nat) (l0_0 : List (S85)) (r : Bool) (w : World) (hr0_0 : Kd.C k85 w A0_0 l0_0.length l0_0) (hc0_0 : l0_0.length ≤ c0_0) (h : impl_ValidTree.f l0_0 = some r) :
  Calls Try.prog 41 #[.agg #[.slice A0_0 l0_0.length c0_0]] w fun e w'=>e = .returned (.bool r) ∧ Below w.heap.size w w':=by
 have hu31:=Try.underlying25
 have hsm : smT l0_0 = true:=by
  apply Classical.byContradiction
  intro hn
  rw [impl_ValidTree.f,if_neg hn] at h
  cases h
 rw [impl_ValidTree.f,if_pos hsm] at h
 have HRr:=a0_ (Option.some.inj h)
 have HSM:=a0_ hsm
 have HR:=a0_ hr0_0
 have hmax : l0_0.length ≤ 9223372036854775807:=hr0_0.2.1
 clear h hsm hr0_0
 go_enter Try.func41,Try.ntmps41
 go_wp2
 go_loopg [8] l0_0.length (fun gg s8 wr=>∃ kk : Nat,kk ≤ l0_0.length ∧ l0_0.length - kk ≤ gg ∧ s8 = .int .i64 kk ∧ Aside0 (Below w.heap.size w wr) ∧ Aside0 (wr.heap[w.heap.size]? = some (.cells #[.slice A0_0 l0_0.length c0_0] 25 (0,0))) ∧ Aside0 (∀ j,j < kk → okCls l0_0 j (l0_0.getD j z85) = true))
 case atStart=>exact ⟨0,Nat.zero_le _,by omega,rfl,⟨below1 w _⟩,⟨heap_new1 w _⟩,⟨fun j hj=>absurd hj (Nat.not_lt_zero _)⟩⟩
 case round =>
  obtain ⟨kk,hkk,hg,rfl,BW,BK,HA⟩:=hrel
  have hcz : wr.cell? ⟨w.heap.size,0,none⟩ = some (.slice A0_0 l0_0.length c0_0):=(blk_cell BK.out 0).trans rfl
  by_cases hlt : kk < l0_0.length
  ·have hltz : (kk : Int) < (l0_0.length : Int):=by omega
   obtain ⟨ad,ea,hx0,hx1⟩:=at_T85 HR.out (kk : Int) (by omega) (by omega)
   cases ea
   have hrd : rd_T85 l0_0 (kk : Int) = l0_0[kk]:=by simp [rd_T85,hlt]
   rw [hrd] at hx0 hx1
   rw [Int.toNat_natCast] at hx0 hx1
   replace hx0:=(BW.out.cell (World.block_lt_of_cell? w _ hx0)).trans hx0
   replace hx1:=(BW.out.cell (World.block_lt_of_cell? w _ hx1)).trans hx1
   clear hrd
   generalize hy : l0_0[kk] = y at hx0 hx1
   have B:=a0_ hy
   clear hy
   go_upto_region 4 with (fail)
   have hW1:=a0_ (below_alloc BW.out (.cells #[.string y.f0,.int .i64 y.f1] 85))
   have hW2:=a0_ (blk_alloc BK.out (.cells #[.string y.f0,.int .i64 y.f1] 85))
   have hW3:=(blk_cell hW2.out 0).trans rfl
   have hW4:=(blk_cell (heap_new1 wr (.cells #[.string y.f0,.int .i64 y.f1] 85)) 0).trans rfl
   have hW5:=(blk_cell (heap_new1 wr (.cells #[.string y.f0,.int .i64 y.f1] 85)) 1).trans rfl
   clear hcz hx0 hx1 BW BK
   generalize wr.alloc (.cells #[.string y.f0,.int .i64 y.f1] 85) = W1 at hW1 hW2 hW3 hW4 hW5 ⊢
   generalize wr.heap.size = gb at hW4 hW5 ⊢
   have hy1 : y.f0.size ≤ 9223372036854775806:=by rw [← B.out];exact smT_at HSM.out kk hlt
   have A1:=a0_ (impl_nameOk_ev y.f0 (by omega))
   have hcn0:=fun (W : World) (hW : Below w.heap.size w W)=>impl_Tree_named.calls (some ad) c0_0 l0_0 y.f0 (named l0_0 y.f0) W (Kd.C_below HR.out hW) hc0_0 rfl
   have hok : okCls l0_0 kk (l0_0.getD kk z85) = okCls l0_0 kk y:=by
    rw [← B.out];simp [List.getD,hlt]
   have hdef : okCls l0_0 kk y = (okName y.f0 && (decide (named l0_0 y.f0 = (kk : Int)) && (if kk = 0 then decide (y.f1 = -1) else decide (0 ≤ y.f1) && decide (y.f1 ≤ (kk : Int) - 1)))):=rfl
   generalize named l0_0 y.f0 = nn at hcn0 hdef
   have HCN:=a0_ hcn0
   have HOK:=a0_ hok
   have HDF:=a0_ hdef
   clear hcn0 hok hdef hy1
   go_cut [45] (fun v45 wc=>v45 = .bool (!okCls l0_0 kk y) ∧ Aside0 (Below w.heap.size w wc) ∧ Aside0 (wc.heap[w.heap.size]? = some (.cells #[.slice (some ad) l0_0.length c0_0] 25 (0,0))))
   case first =>
    have hw1 : IntKind.i64.wrap ((kk : Int) - 1) = (kk : Int) - 1:=by rw [IntKind.wrap_i64];omega
    have A2:=a0_ (show impl_within.f y.f1 0 ((kk : Int) - 1) = some (decide (0 ≤ y.f1) && decide (y.f1 ≤ (kk : Int) - 1)) by
     unfold impl_within.f
     by_cases h0 : 0 ≤ y.f1
     ·rw [if_pos h0];simp [h0]
     ·rw [if_neg h0];simp [h0])
    cases hb1 : okName y.f0 with
    | false =>
     rw [hb1] at A1
     have BV : okCls l0_0 kk y = false:=by rw [HDF.out,hb1];rfl
     clear HDF HOK
     go_wp2_with (first
     | (go_at_call 68;(with_reducible refine (impl_nameOk.calls _ y.f0 _ _ A1.out).mono ?_);rintro e w' ⟨rfl,hd⟩;have hb:=drawn_below hd;replace hW3:=pw_cell_below hb hW3;replace hW4:=pw_cell_below hb hW4;replace hW5:=pw_cell_below hb hW5;replace hW1:=a0_ (below_step hW1.out hb);replace hW2:=a0_ (blk_keptB hW2.out hb);clear hb hd)
     | (go_at_call 69;(with_reducible refine (HCN.out _ hW1.out).mono ?_);rintro e w' ⟨rfl,hb⟩;replace hW3:=pw_cell_below hb hW3;replace hW4:=pw_cell_below hb hW4;replace hW5:=pw_cell_below hb hW5;replace hW1:=a0_ (below_step hW1.out hb);replace hW2:=a0_ (blk_keptB hW2.out hb);clear hb)
     | (go_at_call 70;(with_reducible refine (impl_within.calls y.f1 0 ((kk : Int) - 1) _ _ A2.out).mono ?_);rintro e w' ⟨rfl,hd⟩;have hb:=drawn_below hd;replace hW3:=pw_cell_below hb hW3;replace hW4:=pw_cell_below hb hW4;replace hW5:=pw_cell_below hb hW5;replace hW1:=a0_ (below_step hW1.out hb);replace hW2:=a0_ (blk_keptB hW2.out hb);clear hb hd))
     go_meet
     case rel=>exact ⟨by (rw [BV]);first | rfl | (simp [*];done),⟨hW1.out⟩,⟨hW2.out⟩⟩
    | true =>
     rw [hb1] at A1
     by_cases hb2 : nn ≠ (kk : Int)
     ·have BV : okCls l0_0 kk y = false:=by rw [HDF.out,hb1,decide_eq_false hb2];rfl
      have d2 : (nn != (kk : Int)) = true:=bne_iff_ne.2 hb2
      have d2' : (nn == (kk : Int)) = false:=beq_eq_false_iff_ne.2 hb2
      clear HDF HOK hb2
      go_wp2_with (first
     | (go_at_call 68;(with_reducible refine (impl_nameOk.calls _ y.f0 _ _ A1.out).mono ?_);rintro e w' ⟨rfl,hd⟩;have hb:=drawn_below hd;replace hW3:=pw_cell_below hb hW3;replace hW4:=pw_cell_below hb hW4;replace hW5:=pw_cell_below hb hW5;replace hW1:=a0_ (below_step hW1.out hb);replace hW2:=a0_ (blk_keptB hW2.out hb);clear hb hd)
     | (go_at_call 69;(with_reducible refine (HCN.out _ hW1.out).mono ?_);rintro e w' ⟨rfl,hb⟩;replace hW3:=pw_cell_below hb hW3;replace hW4:=pw_cell_below hb hW4;replace hW5:=pw_cell_below hb hW5;replace hW1:=a0_ (below_step hW1.out hb);replace hW2:=a0_ (blk_keptB hW2.out hb);clear hb)
     | (go_at_call 70;(with_reducible refine (impl_within.calls y.f1 0 ((kk : Int) - 1) _ _ A2.out).mono ?_);rintro e w' ⟨rfl,hd⟩;have hb:=drawn_below hd;replace hW3:=pw_cell_below hb hW3;replace hW4:=pw_cell_below hb hW4;replace hW5:=pw_cell_below hb hW5;replace hW1:=a0_ (below_step hW1.out hb);replace hW2:=a0_ (blk_keptB hW2.out hb);clear hb hd))
      go_meet
      case rel=>exact ⟨by (rw [BV]);first | rfl | (simp [*];done),⟨hW1.out⟩,⟨hW2.out⟩⟩
     ·have hnm : nn = (kk : Int):=Classical.byContradiction fun hn=>hb2 hn
      have d2 : (nn != (kk : Int)) = false:=bne_eq_false_iff_eq.2 hnm
      have d2' : (nn == (kk : Int)) = true:=beq_iff_eq.2 hnm
      have BV0 : okCls l0_0 kk y = (if kk = 0 then decide (y.f1 = -1) else decide (0 ≤ y.f1) && decide (y.f1 ≤ (kk : Int) - 1)):=by rw [HDF.out,hb1,decide_eq_true hnm];rfl
      clear HDF HOK hb2 hnm
      by_cases hk0 : kk = 0
      ·have BV : okCls l0_0 kk y = decide (y.f1 = -1):=by rw [BV0,if_pos hk0]
       have e0 : ((kk : Int) == 0) = true:=beq_iff_eq.2 (by omega)
       have e1 : decide (0 < (kk : Int)) = false:=decide_eq_false (by omega)
       have e1n : decide (0 < kk) = false:=decide_eq_false (by omega)
       clear BV0
       by_cases hp : y.f1 = -1
       ·have e2 : (y.f1 != -1) = false:=by rw [hp];rfl
        have e3 : (y.f1 == -1) = true:=by rw [hp];rfl
        rw [decide_eq_true hp] at BV
        clear hp hk0
        go_wp2_with (first
     | (go_at_call 68;(with_reducible refine (impl_nameOk.calls _ y.f0 _ _ A1.out).mono ?_);rintro e w' ⟨rfl,hd⟩;have hb:=drawn_below hd;replace hW3:=pw_cell_below hb hW3;replace hW4:=pw_cell_below hb hW4;replace hW5:=pw_cell_below hb hW5;replace hW1:=a0_ (below_step hW1.out hb);replace hW2:=a0_ (blk_keptB hW2.out hb);clear hb hd)
     | (go_at_call 69;(with_reducible refine (HCN.out _ hW1.out).mono ?_);rintro e w' ⟨rfl,hb⟩;replace hW3:=pw_cell_below hb hW3;replace hW4:=pw_cell_below hb hW4;replace hW5:=pw_cell_below hb hW5;replace hW1:=a0_ (below_step hW1.out hb);replace hW2:=a0_ (blk_keptB hW2.out hb);clear hb)
     | (go_at_call 70;(with_reducible refine (impl_within.calls y.f1 0 ((kk : Int) - 1) _ _ A2.out).mono ?_);rintro e w' ⟨rfl,hd⟩;have hb:=drawn_below hd;replace hW3:=pw_cell_below hb hW3;replace hW4:=pw_cell_below hb hW4;replace hW5:=pw_cell_below hb hW5;replace hW1:=a0_ (below_step hW1.out hb);replace hW2:=a0_ (blk_keptB hW2.out hb);clear hb hd))
        go_meet
        case rel=>exact ⟨by (rw [BV]);first | rfl | (simp [*];done),⟨hW1.out⟩,⟨hW2.out⟩⟩
       ·have e2 : (y.f1 != -1) = true:=bne_iff_ne.2 hp
        have e3 : (y.f1 == -1) = false:=beq_eq_false_iff_ne.2 hp
        rw [decide_eq_false hp] at BV
        clear hp hk0
        go_wp2_with (first
     | (go_at_call 68;(with_reducible refine (impl_nameOk.calls _ y.f0 _ _ A1.out).mono ?_);rintro e w' ⟨rfl,hd⟩;have hb:=drawn_below hd;replace hW3:=pw_cell_below hb hW3;replace hW4:=pw_cell_below hb hW4;replace hW5:=pw_cell_below hb hW5;replace hW1:=a0_ (below_step hW1.out hb);replace hW2:=a0_ (blk_keptB hW2.out hb);clear hb hd)
     | (go_at_call 69;(with_reducible refine (HCN.out _ hW1.out).mono ?_);rintro e w' ⟨rfl,hb⟩;replace hW3:=pw_cell_below hb hW3;replace hW4:=pw_cell_below hb hW4;replace hW5:=pw_cell_below hb hW5;replace hW1:=a0_ (below_step hW1.out hb);replace hW2:=a0_ (blk_keptB hW2.out hb);clear hb)
     | (go_at_call 70;(with_reducible refine (impl_within.calls y.f1 0 ((kk : Int) - 1) _ _ A2.out).mono ?_);rintro e w' ⟨rfl,hd⟩;have hb:=drawn_below hd;replace hW3:=pw_cell_below hb hW3;replace hW4:=pw_cell_below hb hW4;replace hW5:=pw_cell_below hb hW5;replace hW1:=a0_ (below_step hW1.out hb);replace hW2:=a0_ (blk_keptB hW2.out hb);clear hb hd))
        go_meet
        case rel=>exact ⟨by (rw [BV]);first | rfl | (simp [*];done),⟨hW1.out⟩,⟨hW2.out⟩⟩
      ·have BV : okCls l0_0 kk y = (decide (0 ≤ y.f1) && decide (y.f1 ≤ (kk : Int) - 1)):=by rw [BV0,if_neg hk0]
       have e0 : ((kk : Int) == 0) = false:=beq_eq_false_iff_ne.2 (by omega)
       have e1 : decide (0 < (kk : Int)) = true:=decide_eq_true (by omega)
       have e1n : decide (0 < kk) = true:=decide_eq_true (by omega)
       rw [← BV] at A2
       clear BV BV0 hk0
       cases BV : okCls l0_0 kk y with
       | false =>
        rw [BV] at A2
        go_wp2_with (first
     | (go_at_call 68;(with_reducible refine (impl_nameOk.calls _ y.f0 _ _ A1.out).mono ?_);rintro e w' ⟨rfl,hd⟩;have hb:=drawn_below hd;replace hW3:=pw_cell_below hb hW3;replace hW4:=pw_cell_below hb hW4;replace hW5:=pw_cell_below hb hW5;replace hW1:=a0_ (below_step hW1.out hb);replace hW2:=a0_ (blk_keptB hW2.out hb);clear hb hd)
     | (go_at_call 69;(with_reducible refine (HCN.out _ hW1.out).mono ?_);rintro e w' ⟨rfl,hb⟩;replace hW3:=pw_cell_below hb hW3;replace hW4:=pw_cell_below hb hW4;replace hW5:=pw_cell_below hb hW5;replace hW1:=a0_ (below_step hW1.out hb);replace hW2:=a0_ (blk_keptB hW2.out hb);clear hb)
     | (go_at_call 70;(with_reducible refine (impl_within.calls y.f1 0 ((kk : Int) - 1) _ _ A2.out).mono ?_);rintro e w' ⟨rfl,hd⟩;have hb:=drawn_below hd;replace hW3:=pw_cell_below hb hW3;replace hW4:=pw_cell_below hb hW4;replace hW5:=pw_cell_below hb hW5;replace hW1:=a0_ (below_step hW1.out hb);replace hW2:=a0_ (blk_keptB hW2.out hb);clear hb hd))
        go_meet
        case rel=>exact ⟨by (rw [BV]);first | rfl | (simp [*];done),⟨hW1.out⟩,⟨hW2.out⟩⟩
       | true =>
        rw [BV] at A2
        go_wp2_with (first
     | (go_at_call 68;(with_reducible refine (impl_nameOk.calls _ y.f0 _ _ A1.out).mono ?_);rintro e w' ⟨rfl,hd⟩;have hb:=drawn_below hd;replace hW3:=pw_cell_below hb hW3;replace hW4:=pw_cell_below hb hW4;replace hW5:=pw_cell_below hb hW5;replace hW1:=a0_ (below_step hW1.out hb);replace hW2:=a0_ (blk_keptB hW2.out hb);clear hb hd)
     | (go_at_call 69;(with_reducible refine (HCN.out _ hW1.out).mono ?_);rintro e w' ⟨rfl,hb⟩;replace hW3:=pw_cell_below hb hW3;replace hW4:=pw_cell_below hb hW4;replace hW5:=pw_cell_below hb hW5;replace hW1:=a0_ (below_step hW1.out hb);replace hW2:=a0_ (blk_keptB hW2.out hb);clear hb)
     | (go_at_call 70;(with_reducible refine (impl_within.calls y.f1 0 ((kk : Int) - 1) _ _ A2.out).mono ?_);rintro e w' ⟨rfl,hd⟩;have hb:=drawn_below hd;replace hW3:=pw_cell_below hb hW3;replace hW4:=pw_cell_below hb hW4;replace hW5:=pw_cell_below hb hW5;replace hW1:=a0_ (below_step hW1.out hb);replace hW2:=a0_ (blk_keptB hW2.out hb);clear hb hd))
        go_meet
        case rel=>exact ⟨by (rw [BV]);first | rfl | (simp [*];done),⟨hW1.out⟩,⟨hW2.out⟩⟩
   case rest =>
    obtain ⟨rfl,hW,hK⟩:=hcut
    have hb:=HOK.out
    cases BV : okCls l0_0 kk y with
    | false =>
     go_wp2
     go_ret
     refine ⟨?_,hW.out⟩
     rw [← HRr.out]
     have : vT l0_0 = false:=by
      cases hv : vT l0_0 with
      | false=>rfl
      | true=>have:=vT_at hv kk hlt;rw [HOK.out,BV] at this;cases this
     rw [this];rfl
    | true =>
     go_wp2
     go_roundg (l0_0.length - (kk + 1))
     case measure=>omega
     case rel =>
      refine ⟨kk + 1,by omega,by omega,by go_num,⟨hW.out⟩,⟨hK.out⟩,⟨fun j hj=>?_⟩⟩
      by_cases e : j = kk
      ·subst e;rw [HOK.out,BV]
      ·exact HA.out j (by omega)
  ·have hltz : ¬ (kk : Int) < (l0_0.length : Int):=by omega
   have : kk = l0_0.length:=by omega
   subst this
   have A3:=a0_ (show impl_within.f (l0_0.length : Int) 1 8 = some (vT l0_0) by
    have hall : (List.range l0_0.length).all (fun i=>okCls l0_0 i (l0_0.getD i z85)) = true:=by
     rw [List.all_eq_true];intro i hi;exact HA.out i (by simpa using hi)
    unfold impl_within.f vT
    rw [hall]
    by_cases h1 : (1 : Int) ≤ l0_0.length
    ·rw [if_pos h1]
     have h1' : 1 ≤ l0_0.length:=by omega
     by_cases h8 : l0_0.length ≤ 8
     ·simp [h1',h8];omega
     ·simp [h8];omega
    ·rw [if_neg h1]
     have h1' : ¬ 1 ≤ l0_0.length:=by omega
     simp [h1'])
   rw [HRr.out] at A3
   go_wp2_with (go_at_call 70;(with_reducible refine (impl_within.calls (l0_0.length : Int) 1 8 _ _ A3.out).mono ?_);rintro e w' ⟨rfl,⟨nd,rfl⟩⟩)
   go_ret
   exact ⟨rfl,pw_below_drewN BW.out _⟩
end Go.Proofs.Ytfphcdbnnienhaa.P
namespace Go.Proofs.Ytfphcdbnnienhaa.P
open Go.RowKit Go.Proofs.YtfphcdbnnienhaaW.PrintWords Go.Proofs.YtfphcdbnnienhaaW.PrintLast Go.Proofs.YtfphcdbnnienhaaW.PrintMore
attribute [local go_sem] max2_int min2_int max_two min_two max_three min_three max_four min_four
set_option linter.unusedVariables false
set_option linter.unusedSimpArgs false
def impl_Tree_has.f (l0_0 : List (S85)) (a1 : Int) : Option (Bool):=(impl_within.f a1 0 (wrap64 ((l0_0.length : Int) - 1))).bind fun t2=>(some t2)
set_option maxHeartbeats 8000000 in
set_option maxRecDepth 100000 in
theorem impl_Tree_has.calls (A0_0 : Option Addr) (c0_0 : Nat) (l0_0 : List (S85)) (a1 : Int) (r : Bool) (w : World) (hr0_0 : Kd.C k85 w A0_0 l0_0.length l0_0) (hc0_0 : l0_0.length ≤ c0_0) (h : impl_Tree_has.f l0_0 a1 = some r) :
  Calls Try.prog 44 #[.agg #[.slice A0_0 l0_0.length c0_0],.int .i64 a1] w fun e w'=>e = .returned (.bool r) ∧ Below w.heap.size w w':=by
 have hu25:=Try.underlying25
 have HR0_0:=a0_ hr0_0
 have HC0_0:=a0_ hc0_0
 clear hr0_0 hc0_0
 have HB:=a0_ (Below.refl w.heap.size w)
 have H : ((impl_within.f a1 0 (wrap64 ((l0_0.length : Int) - 1))).bind fun t2=>(some t2)) = some r:=h
 clear h
 replace H:=Option.bind_eq_some_iff.mp H
 obtain ⟨t2,A30,H⟩:=H
 replace H : (some t2) = some r:=H
 have A3:=a0_ A30
 clear A30
 obtain rfl:=Option.some.inj H
 go_enter Try.func44,Try.ntmps44
 go_wp2_with (first | ((with_reducible refine gate_dst (N:=2) rfl ?_);refine box_event ?hg (N:=2) ?hd (cs:=#[.slice A0_0 l0_0.length c0_0]) (t:=25) ?hr ?_;(case hd=>rfl);(case hg=>rfl);(case hr=>first | (go_simp;done) | (go_simp;rfl));intro gb1 hg w4 hbox hb;have BK1:=a0_ (hbox);have GW1:=a0_ ((by rw [hg];exact (below_size hb_) : w.heap.size ≤ gb1));have GE1:=a0_ ((by rw [hg];exact (below_size hb_) : w.heap.size ≤ gb1));replace HB:=a0_ (below_step hb_ hb);clear hb hbox hg;have hcz5_0 : w4.cell? ⟨gb1,0,none⟩ = some (.slice A0_0 l0_0.length c0_0):=(blk_cell BK1.out 0).trans rfl;have hfz5_0:=blk_frozen BK1.out 0) | ((with_reducible refine gate_callee (f:=70) rfl ?_);refine goesL_ (some 10) rfl rfl Try.func70 (by kernel_rfl) rfl #[.int .i64 a1,.int .i64 0,.int .i64 (wrap64 ((l0_0.length : Int) - 1))] rfl lm_ ?_;(with_reducible refine (impl_within.calls a1 0 (wrap64 ((l0_0.length : Int) - 1)) t2 _ A3.out).mono ?_);rintro e w' ⟨rfl,⟨nd,rfl⟩⟩;refine ⟨_,rfl,?_⟩))
 go_ret
 exact ⟨by first | rfl | (simp [errW_none,errW_some] <;> rfl) | (simp [*,errW_none,errW_some] <;> rfl),hb_⟩
theorem impl_Tree_has_ev (t : List Cls) (a : Int) (hl : t.length ≤ 9223372036854775807) : impl_Tree_has.f t a = some (hasC t a):=by
 unfold impl_Tree_has.f impl_within.f hasC
 rw [wrap_pred (by omega) (by omega)]
 by_cases h0 : a ≥ 0
 ·rw [if_pos h0]
  have h0' : 0 ≤ a:=h0
  simp only [Option.bind_some,Option.some.injEq,decide_eq_true h0',Bool.true_and]
  by_cases h1 : a < (t.length : Int)
  ·rw [decide_eq_true h1,decide_eq_true (by omega)]
  ·rw [decide_eq_false h1,decide_eq_false (by omega)]
 ·rw [if_neg h0]
  have h0' : ¬ 0 ≤ a:=h0
  simp [decide_eq_false h0']
end Go.Proofs.Ytfphcdbnnienhaa.P
namespace Go.Proofs.Ytfphcdbnnienhaa.P
open Go.RowKit Go.Proofs.YtfphcdbnnienhaaW.PrintWords Go.Proofs.YtfphcdbnnienhaaW.PrintLast Go.Proofs.YtfphcdbnnienhaaW.PrintMore
attribute [local go_sem] max2_int min2_int max_two min_two max_three min_three max_four min_four
set_option linter.unusedVariables false
set_option linter.unusedSimpArgs false
def impl_codeOk.f (a0 : Int) : Option (Bool):=(impl_within.f a0 0 99).bind fun t1=>(some t1)
set_option maxHeartbeats 8000000 in
set_option maxRecDepth 100000 in
theorem impl_codeOk.calls (a0 : Int) (r : Bool) (w : World) (h : impl_codeOk.f a0 = some r) :
  Calls Try.prog 71 #[.int .i64 a0] w fun e w'=>e = .returned (.bool r) ∧ Drawn0 w w':=by
 have H : ((impl_within.f a0 0 99).bind fun t1=>(some t1)) = some r:=h
 clear h
 replace H:=Option.bind_eq_some_iff.mp H
 obtain ⟨t1,A20,H⟩:=H
 replace H : (some t1) = some r:=H
 have A2:=a0_ A20
 clear A20
 obtain rfl:=Option.some.inj H
 go_enter Try.func71,Try.ntmps71
 go_wp2_with (first | ((with_reducible refine gate_callee (f:=70) rfl ?_);refine goesL_ (some 4) rfl rfl Try.func70 (by kernel_rfl) rfl #[.int .i64 a0,.int .i64 0,.int .i64 99] rfl lm_ ?_;(with_reducible refine (impl_within.calls a0 0 99 t1 _ A2.out).mono ?_);rintro e w' ⟨rfl,⟨nd,rfl⟩⟩;refine ⟨_,rfl,?_⟩))
 go_ret
 exact ⟨by first | rfl | (simp;done) | (simp [*];done),by repeat (first | exact Drawn0.refl _ | apply Drawn0.step)⟩
theorem impl_codeOk_ev (a : Int) : impl_codeOk.f a = some (decide (0 ≤ a) && decide (a ≤ 99)):=by
 unfold impl_codeOk.f
 rw [impl_within_ev]
 rfl
end Go.Proofs.Ytfphcdbnnienhaa.P
namespace Go.Proofs.Ytfphcdbnnienhaa.P
open Go.RowKit Go.Proofs.YtfphcdbnnienhaaW.PrintWords Go.Proofs.YtfphcdbnnienhaaW.PrintLast Go.Proofs.YtfphcdbnnienhaaW.PrintMore
attribute [local go_sem] max2_int min2_int max_two min_two max_three min_three max_four min_four
set_option linter.unusedVariables false
set_option linter.unusedSimpArgs false
mutual
def impl_partsOk.l0 : Nat → List (S47) → List (S47) → Int → Int → List (S85) → Option (Bool)
 | 0,_,_,_,_,_=>none
 | k + 1,x1,x8,x9,x10,x2000=>if x10 < x9 then (if 0 ≤ x10 then (if x10 < (x8.length : Int) then ((impl_codeOk.f ((rd_T47 x8 x10).f3)).bind fun t5=>(if t5 = true then ((impl_within.f ((rd_T47 x8 x10).f0) 0 5).bind fun t6=>(if t6 = true then (impl_partsOk.j1 k x1 x10 x8 x9 x10 ((((rd_T47 x8 x10).f0) == 0) != (x10 == 0)) x2000 ((rd_T47 x8 x10).f0) ((rd_T47 x8 x10).f1) ((rd_T47 x8 x10).f2) ((rd_T47 x8 x10).f3)) else (impl_partsOk.j1 k x1 x10 x8 x9 x10 true x2000 ((rd_T47 x8 x10).f0) ((rd_T47 x8 x10).f1) ((rd_T47 x8 x10).f2) ((rd_T47 x8 x10).f3)))) else (impl_partsOk.j1 k x1 x10 x8 x9 x10 true x2000 ((rd_T47 x8 x10).f0) ((rd_T47 x8 x10).f1) ((rd_T47 x8 x10).f2) ((rd_T47 x8 x10).f3)))) else (none)) else (none)) else ((impl_within.f (x1.length : Int) 1 16).bind fun t2=>(some t2))
def impl_partsOk.j1 : Nat → List (S47) → Int → List (S47) → Int → Int → Bool → List (S85) → Int → Bool → Int → Int → Option (Bool)
 | 0,_,_,_,_,_,_,_,_,_,_,_=>none
 | k + 1,x1,x5,x8,x9,x10,x32,x2000,x5000,x5001,x5002,x5003=>if x32 = true then (some false) else (if x5 > 0 then (if 0 ≤ (wrap64 (x5 - 1)) then (if (wrap64 (x5 - 1)) < (x1.length : Int) then (if x5000 > ((rd_T47 x1 (wrap64 (x5 - 1))).f0) then (if (rd_T47 x1 (wrap64 (x5 - 1))).f1 = true then (impl_partsOk.j2 k x1 x5 x8 x9 x10 (!(x5000 == (wrap64 (((rd_T47 x1 (wrap64 (x5 - 1))).f0) + 1)))) x2000 x5000 x5001 x5002 x5003) else (impl_partsOk.j2 k x1 x5 x8 x9 x10 (!false) x2000 x5000 x5001 x5002 x5003)) else (impl_partsOk.j2 k x1 x5 x8 x9 x10 false x2000 x5000 x5001 x5002 x5003)) else (none)) else (none)) else (impl_partsOk.j2 k x1 x5 x8 x9 x10 false x2000 x5000 x5001 x5002 x5003))
def impl_partsOk.j2 : Nat → List (S47) → Int → List (S47) → Int → Int → Bool → List (S85) → Int → Bool → Int → Int → Option (Bool)
 | 0,_,_,_,_,_,_,_,_,_,_,_=>none
 | k + 1,x1,x5,x8,x9,x10,x66,x2000,x5000,x5001,x5002,x5003=>if x66 = true then (some false) else (if (wrap64 (x5 + 1)) < (x1.length : Int) then (if 0 ≤ (wrap64 (x5 + 1)) then (if x5001 = true then (if x5002 = 0 then (if (((rd_T47 x1 (wrap64 (x5 + 1))).f0) > x5000) then (impl_partsOk.l0 k x1 x8 x9 (wrap64 (x10 + 1)) x2000) else (some false)) else (some false)) else ((impl_Tree_has.f x2000 x5002).bind fun t11=>(if t11 = true then (impl_partsOk.l0 k x1 x8 x9 (wrap64 (x10 + 1)) x2000) else (some false)))) else (none)) else (if x5001 = true then (if x5002 = 0 then (some false) else (some false)) else ((impl_Tree_has.f x2000 x5002).bind fun t12=>(if t12 = true then (impl_partsOk.l0 k x1 x8 x9 (wrap64 (x10 + 1)) x2000) else (some false)))))
end
def impl_partsOk.f (k : Nat) (l0_0 : List (S85)) (l1 : List (S47)) : Option (Bool):=impl_partsOk.l0 k l1 l1 (l1.length : Int) 0 l0_0
theorem impl_partsOk.mono_l : ∀ k,(∀ y0 y1 y2 y3 y4,LeO (impl_partsOk.l0 k y0 y1 y2 y3 y4) (impl_partsOk.l0 (k + 1) y0 y1 y2 y3 y4)) ∧ (∀ y0 y1 y2 y3 y4 y5 y6 y7 y8 y9 y10,LeO (impl_partsOk.j1 k y0 y1 y2 y3 y4 y5 y6 y7 y8 y9 y10) (impl_partsOk.j1 (k + 1) y0 y1 y2 y3 y4 y5 y6 y7 y8 y9 y10)) ∧ (∀ y0 y1 y2 y3 y4 y5 y6 y7 y8 y9 y10,LeO (impl_partsOk.j2 k y0 y1 y2 y3 y4 y5 y6 y7 y8 y9 y10) (impl_partsOk.j2 (k + 1) y0 y1 y2 y3 y4 y5 y6 y7 y8 y9 y10))
 | 0=>⟨fun _ _ _ _ _ r h=>by simp [impl_partsOk.l0] at h,fun _ _ _ _ _ _ _ _ _ _ _ r h=>by simp [impl_partsOk.j1] at h,fun _ _ _ _ _ _ _ _ _ _ _ r h=>by simp [impl_partsOk.j2] at h⟩
 | k + 1=>by
  obtain ⟨ih0,ih1,ih2⟩:=impl_partsOk.mono_l k
  refine ⟨?_,?_,?_⟩
  ·intro y0 y1 y2 y3 y4
   unfold impl_partsOk.l0
   repeat' first
   | (with_reducible exact ih0 _ _ _ _ _)
   | (with_reducible exact ih1 _ _ _ _ _ _ _ _ _ _ _)
   | (with_reducible exact ih2 _ _ _ _ _ _ _ _ _ _ _)
   | (with_reducible exact LeO.refl _)
   | (with_reducible exact LeO.none _)
   | (with_reducible refine LeO.ite ?_ ?_)
   | (with_reducible refine LeO.bind ?_ (fun _=>?_))
   | exact ih0 _ _ _ _ _
   | exact ih1 _ _ _ _ _ _ _ _ _ _ _
   | exact ih2 _ _ _ _ _ _ _ _ _ _ _
   | exact LeO.none _
   | refine LeO.ite ?_ ?_
   | refine LeO.bind ?_ (fun _=>?_)
  ·intro y0 y1 y2 y3 y4 y5 y6 y7 y8 y9 y10
   unfold impl_partsOk.j1
   repeat' first
   | (with_reducible exact ih0 _ _ _ _ _)
   | (with_reducible exact ih1 _ _ _ _ _ _ _ _ _ _ _)
   | (with_reducible exact ih2 _ _ _ _ _ _ _ _ _ _ _)
   | (with_reducible exact LeO.refl _)
   | (with_reducible exact LeO.none _)
   | (with_reducible refine LeO.ite ?_ ?_)
   | (with_reducible refine LeO.bind ?_ (fun _=>?_))
   | exact ih0 _ _ _ _ _
   | exact ih1 _ _ _ _ _ _ _ _ _ _ _
   | exact ih2 _ _ _ _ _ _ _ _ _ _ _
   | exact LeO.none _
   | refine LeO.ite ?_ ?_
   | refine LeO.bind ?_ (fun _=>?_)
  ·intro y0 y1 y2 y3 y4 y5 y6 y7 y8 y9 y10
   unfold impl_partsOk.j2
   repeat' first
   | (with_reducible exact ih0 _ _ _ _ _)
   | (with_reducible exact ih1 _ _ _ _ _ _ _ _ _ _ _)
   | (with_reducible exact ih2 _ _ _ _ _ _ _ _ _ _ _)
   | (with_reducible exact LeO.refl _)
   | (with_reducible exact LeO.none _)
   | (with_reducible refine LeO.ite ?_ ?_)
   | (with_reducible refine LeO.bind ?_ (fun _=>?_))
   | exact ih0 _ _ _ _ _
   | exact ih1 _ _ _ _ _ _ _ _ _ _ _
   | exact ih2 _ _ _ _ _ _ _ _ _ _ _
   | exact LeO.none _
   | refine LeO.ite ?_ ?_
   | refine LeO.bind ?_ (fun _=>?_)
theorem impl_partsOk.mono : ∀ a0 a1 k,LeO (impl_partsOk.f k a0 a1) (impl_partsOk.f (k + 1) a0 a1):=by
 intro a0 a1 k
 obtain ⟨ih0,ih1,ih2⟩:=impl_partsOk.mono_l k
 unfold impl_partsOk.f
 repeat' first
   | (with_reducible exact ih0 _ _ _ _ _)
   | (with_reducible exact ih1 _ _ _ _ _ _ _ _ _ _ _)
   | (with_reducible exact ih2 _ _ _ _ _ _ _ _ _ _ _)
   | (with_reducible exact LeO.refl _)
   | (with_reducible exact LeO.none _)
   | (with_reducible refine LeO.ite ?_ ?_)
   | (with_reducible refine LeO.bind ?_ (fun _=>?_))
   | exact ih0 _ _ _ _ _
   | exact ih1 _ _ _ _ _ _ _ _ _ _ _
   | exact ih2 _ _ _ _ _ _ _ _ _ _ _
   | exact LeO.none _
   | refine LeO.ite ?_ ?_
   | refine LeO.bind ?_ (fun _=>?_)
set_option maxHeartbeats 8000000 in
set_option maxRecDepth 100000 in
theorem impl_partsOk.calls (k : Nat) (A0_0 : Option Addr) (c0_0 : Nat) (l0_0 : List (S85)) (A1 : Option Addr) (c1 : Nat) (l1 : List (S47)) (r : Bool) (w : World) (hr0_0 : Kd.C k85 w A0_0 l0_0.length l0_0) (hc0_0 : l0_0.length ≤ c0_0) (hr1 : Kd.C k47 w A1 l1.length l1) (hc1 : l1.length ≤ c1) (h : impl_partsOk.f k l0_0 l1 = some r) :
  Calls Try.prog 42 #[.agg #[.slice A0_0 l0_0.length c0_0],.slice A1 l1.length c1] w fun e w'=>e = .returned (.bool r) ∧ Below w.heap.size w w':=by
 have hu25:=Try.underlying25
 have hu47:=Try.underlying47
 have HR0_0:=a0_ hr0_0
 have HC0_0:=a0_ hc0_0
 clear hr0_0 hc0_0
 have HR1:=a0_ hr1
 have HC1:=a0_ hc1
 clear hr1 hc1
 have HB:=a0_ (Below.refl w.heap.size w)
 have H : (impl_partsOk.l0 k l1 l1 (l1.length : Int) 0 l0_0) = some r:=h
 clear h
 have H':=a0_ H
 clear H
 go_enter Try.func42,Try.ntmps42
 go_wp2_with (first | ((with_reducible refine gate_dst (N:=2) rfl ?_);refine box_event ?hg (N:=2) ?hd (cs:=#[.slice A0_0 l0_0.length c0_0]) (t:=25) ?hr ?_;(case hd=>rfl);(case hg=>rfl);(case hr=>first | (go_simp;done) | (go_simp;rfl));intro gb1 hg w3 hbox hb;have BK1:=a0_ (hbox);have GW1:=a0_ ((by rw [hg];exact (below_size hb_) : w.heap.size ≤ gb1));have GE1:=a0_ ((by rw [hg];exact (below_size hb_) : w.heap.size ≤ gb1));replace HB:=a0_ (below_step hb_ hb);clear hb hbox hg))
 repeat (go_quiet (first | ((with_reducible refine gate_dst (N:=2) rfl ?_);refine box_event ?hg (N:=2) ?hd (cs:=#[.slice A0_0 l0_0.length c0_0]) (t:=25) ?hr ?_;(case hd=>rfl);(case hg=>rfl);(case hr=>first | (go_simp;done) | (go_simp;rfl));intro gb1 hg w3 hbox hb;have BK1:=a0_ (hbox);have GW1:=a0_ ((by rw [hg];exact (below_size hb_) : w.heap.size ≤ gb1));have GE1:=a0_ ((by rw [hg];exact (below_size hb_) : w.heap.size ≤ gb1));replace HB:=a0_ (below_step hb_ hb);clear hb hbox hg));try go_wp2_with (first | ((with_reducible refine gate_dst (N:=2) rfl ?_);refine box_event ?hg (N:=2) ?hd (cs:=#[.slice A0_0 l0_0.length c0_0]) (t:=25) ?hr ?_;(case hd=>rfl);(case hg=>rfl);(case hr=>first | (go_simp;done) | (go_simp;rfl));intro gb1 hg w3 hbox hb;have BK1:=a0_ (hbox);have GW1:=a0_ ((by rw [hg];exact (below_size hb_) : w.heap.size ≤ gb1));have GE1:=a0_ ((by rw [hg];exact (below_size hb_) : w.heap.size ≤ gb1));replace HB:=a0_ (below_step hb_ hb);clear hb hbox hg)))
 go_loopg [10] k (fun kq v10 w'=>∃ (x10_1 : Int),v10 = .int .i64 x10_1 ∧ Aside0 (impl_partsOk.l0 kq l1 l1 (l1.length : Int) x10_1 l0_0 = some r) ∧ Aside0 (kq ≤ k) ∧ Aside0 (w'.heap[gb1]? = some (.cells #[(.slice A0_0 l0_0.length c0_0)] 25 (0,0))) ∧ Aside0 (Below w.heap.size w w'))
 case atStart=>exact ⟨(0),(by first | rfl | (simp;done) | (simp [*];done)),H',⟨Nat.le_refl _⟩,⟨by (with_reducible repeat (first | refine blk_drewN ?_ _ | refine blk_drew ?_ | refine blk_alloc ?_ _));exact BK1.out⟩,⟨hb_⟩⟩
 case round =>
  clear H'
  try clear c1
  try clear p2
  obtain ⟨x10_1,rfl,HA,HK1,BK1,HB⟩:=hrel
  cases gk with
  | zero=>exact absurd HA.out (by simp [impl_partsOk.l0])
  | succ k1 =>
   have H:=HA.out
   clear HA
   simp only [impl_partsOk.l0] at H
   by_cases c4 : x10_1 < (l1.length : Int)
   ·rw [if_pos c4] at H
    have c4b0 : decide (x10_1 < (l1.length : Int)) = true:=decide_eq_true c4
    clear c4
    by_cases c5 : 0 ≤ x10_1
    ·rw [if_pos c5] at H
     have c5b0 : decide (0 ≤ x10_1) = true:=decide_eq_true c5
     clear c5
     by_cases c6 : x10_1 < (l1.length : Int)
     ·rw [if_pos c6] at H
      have c6b0 : decide (x10_1 < (l1.length : Int)) = true:=decide_eq_true c6
      clear c6
      have HC7:=a0_ H
      clear H
      have p3 : 0 ≤ (x10_1 : Int):=of_decide_eq_true (by first | (with_reducible assumption) | assumption)
      have q3 : x10_1 < (l1.length : Int):=of_decide_eq_true (by first | (with_reducible assumption) | assumption)
      obtain ⟨ad3,e3,hx3_0,hx3_1,hx3_2,hx3_3⟩:=at_T47 HR1.out x10_1 p3 q3
      cases e3
      replace hx3_0:=(HB.out.cell (World.block_lt_of_cell? w _ hx3_0)).trans hx3_0
      replace hx3_1:=(HB.out.cell (World.block_lt_of_cell? w _ hx3_1)).trans hx3_1
      replace hx3_2:=(HB.out.cell (World.block_lt_of_cell? w _ hx3_2)).trans hx3_2
      replace hx3_3:=(HB.out.cell (World.block_lt_of_cell? w _ hx3_3)).trans hx3_3
      replace p3:=eq_true p3
      replace q3:=eq_true q3
      go_upto_region 4 with (first | ((with_reducible refine gate_dst (N:=6) rfl ?_);refine box_event ?hg (N:=6) ?hd (cs:=#[.int .i64 0,.bool false,.int .i64 0,.int .i64 0]) (t:=47) ?hr ?_;(case hd=>rfl);(case hg=>rfl);(case hr=>first | (go_simp;done) | (go_simp;rfl));intro gb4 hg w8 hbox hb;have n0_:=kb_ BK1 hb;have n1_:=a0_ (below_step hb_ hb);have n2_:=a0_ (hbox);have n3_:=a0_ ((by rw [hg];exact (below_size hb_) : w.heap.size ≤ gb4));have n4_:=a0_ ((by rw [hg];exact (below_size hb_) : w.heap.size ≤ gb4));have n5_:=a0_ ((by rw [hg];exact Nat.ne_of_lt (blk_lt (bb_ BK1.out)) : gb1 ≠ gb4));have n6_:=a0_ ((by rw [hg];exact Nat.ne_of_gt (blk_lt (bb_ BK1.out)) : gb4 ≠ gb1));clear BK1 HB;have BK1:=n0_;have HB:=n1_;have BK4:=n2_;have GW4:=n3_;have GE4:=n4_;have NB1_4:=n5_;have NB4_1:=n6_;clear n0_ n1_ n2_ n3_ n4_ n5_ n6_;clear hb hbox hg;have hnb9:=NB4_1.out;have hnc9:=NB1_4.out;have hcz10_0 : w8.cell? ⟨gb4,0,none⟩ = some (.int .i64 0):=(blk_cell BK4.out 0).trans rfl;have hcz10_1 : w8.cell? ⟨gb4,1,none⟩ = some (.bool false):=(blk_cell BK4.out 1).trans rfl;have hcz10_2 : w8.cell? ⟨gb4,2,none⟩ = some (.int .i64 0):=(blk_cell BK4.out 2).trans rfl;have hcz10_3 : w8.cell? ⟨gb4,3,none⟩ = some (.int .i64 0):=(blk_cell BK4.out 3).trans rfl;have hfz10_0:=blk_frozen BK4.out 0;have hfz10_1:=blk_frozen BK4.out 1;have hfz10_2:=blk_frozen BK4.out 2;have hfz10_3:=blk_frozen BK4.out 3))
      repeat (go_quiet (first | ((with_reducible refine gate_dst (N:=6) rfl ?_);refine box_event ?hg (N:=6) ?hd (cs:=#[.int .i64 0,.bool false,.int .i64 0,.int .i64 0]) (t:=47) ?hr ?_;(case hd=>rfl);(case hg=>rfl);(case hr=>first | (go_simp;done) | (go_simp;rfl));intro gb4 hg w8 hbox hb;have n0_:=kb_ BK1 hb;have n1_:=a0_ (below_step hb_ hb);have n2_:=a0_ (hbox);have n3_:=a0_ ((by rw [hg];exact (below_size hb_) : w.heap.size ≤ gb4));have n4_:=a0_ ((by rw [hg];exact (below_size hb_) : w.heap.size ≤ gb4));have n5_:=a0_ ((by rw [hg];exact Nat.ne_of_lt (blk_lt (bb_ BK1.out)) : gb1 ≠ gb4));have n6_:=a0_ ((by rw [hg];exact Nat.ne_of_gt (blk_lt (bb_ BK1.out)) : gb4 ≠ gb1));clear BK1 HB;have BK1:=n0_;have HB:=n1_;have BK4:=n2_;have GW4:=n3_;have GE4:=n4_;have NB1_4:=n5_;have NB4_1:=n6_;clear n0_ n1_ n2_ n3_ n4_ n5_ n6_;clear hb hbox hg;have hnb9:=NB4_1.out;have hnc9:=NB1_4.out;have hcz10_0 : w8.cell? ⟨gb4,0,none⟩ = some (.int .i64 0):=(blk_cell BK4.out 0).trans rfl;have hcz10_1 : w8.cell? ⟨gb4,1,none⟩ = some (.bool false):=(blk_cell BK4.out 1).trans rfl;have hcz10_2 : w8.cell? ⟨gb4,2,none⟩ = some (.int .i64 0):=(blk_cell BK4.out 2).trans rfl;have hcz10_3 : w8.cell? ⟨gb4,3,none⟩ = some (.int .i64 0):=(blk_cell BK4.out 3).trans rfl;have hfz10_0:=blk_frozen BK4.out 0;have hfz10_1:=blk_frozen BK4.out 1;have hfz10_2:=blk_frozen BK4.out 2;have hfz10_3:=blk_frozen BK4.out 3));go_upto_region 4 with (first | ((with_reducible refine gate_dst (N:=6) rfl ?_);refine box_event ?hg (N:=6) ?hd (cs:=#[.int .i64 0,.bool false,.int .i64 0,.int .i64 0]) (t:=47) ?hr ?_;(case hd=>rfl);(case hg=>rfl);(case hr=>first | (go_simp;done) | (go_simp;rfl));intro gb4 hg w8 hbox hb;have n0_:=kb_ BK1 hb;have n1_:=a0_ (below_step hb_ hb);have n2_:=a0_ (hbox);have n3_:=a0_ ((by rw [hg];exact (below_size hb_) : w.heap.size ≤ gb4));have n4_:=a0_ ((by rw [hg];exact (below_size hb_) : w.heap.size ≤ gb4));have n5_:=a0_ ((by rw [hg];exact Nat.ne_of_lt (blk_lt (bb_ BK1.out)) : gb1 ≠ gb4));have n6_:=a0_ ((by rw [hg];exact Nat.ne_of_gt (blk_lt (bb_ BK1.out)) : gb4 ≠ gb1));clear BK1 HB;have BK1:=n0_;have HB:=n1_;have BK4:=n2_;have GW4:=n3_;have GE4:=n4_;have NB1_4:=n5_;have NB4_1:=n6_;clear n0_ n1_ n2_ n3_ n4_ n5_ n6_;clear hb hbox hg;have hnb9:=NB4_1.out;have hnc9:=NB1_4.out;have hcz10_0 : w8.cell? ⟨gb4,0,none⟩ = some (.int .i64 0):=(blk_cell BK4.out 0).trans rfl;have hcz10_1 : w8.cell? ⟨gb4,1,none⟩ = some (.bool false):=(blk_cell BK4.out 1).trans rfl;have hcz10_2 : w8.cell? ⟨gb4,2,none⟩ = some (.int .i64 0):=(blk_cell BK4.out 2).trans rfl;have hcz10_3 : w8.cell? ⟨gb4,3,none⟩ = some (.int .i64 0):=(blk_cell BK4.out 3).trans rfl;have hfz10_0:=blk_frozen BK4.out 0;have hfz10_1:=blk_frozen BK4.out 1;have hfz10_2:=blk_frozen BK4.out 2;have hfz10_3:=blk_frozen BK4.out 3)))
      (try simp only [Act.put,s1_,s2_,s3_])
      go_cut [32] (fun v32 wc=>∃ (kq : Nat) (x32_6 : Bool),v32 = .bool x32_6 ∧ Aside0 (impl_partsOk.j1 kq l1 x10_1 l1 (l1.length : Int) x10_1 x32_6 l0_0 ((rd_T47 l1 x10_1).f0) ((rd_T47 l1 x10_1).f1) ((rd_T47 l1 x10_1).f2) ((rd_T47 l1 x10_1).f3) = some r) ∧ Aside0 (kq ≤ k1) ∧ Aside0 (wc.heap[gb1]? = some (.cells #[(.slice A0_0 l0_0.length c0_0)] 25 (0,0))) ∧ Aside0 (wc.heap[gb4]? = some (.cells #[.int .i64 ((rd_T47 l1 x10_1).f0),.bool ((rd_T47 l1 x10_1).f1),.int .i64 ((rd_T47 l1 x10_1).f2),.int .i64 ((rd_T47 l1 x10_1).f3)] 47 (0,0))) ∧ Aside0 (Below w.heap.size w wc))
      case first =>
       have H:=HC7.out
       clear HC7
       replace H:=Option.bind_eq_some_iff.mp H
       obtain ⟨t5,A110,H⟩:=H
       try dsimp only at H
       have A11:=a0_ A110
       clear A110
       by_cases c12 : t5 = true
       ·subst c12
        have H1 : ((impl_within.f ((rd_T47 l1 x10_1).f0) 0 5).bind fun t6=>(if t6 = true then (impl_partsOk.j1 k1 l1 x10_1 l1 (l1.length : Int) x10_1 ((((rd_T47 l1 x10_1).f0) == 0) != (x10_1 == 0)) l0_0 ((rd_T47 l1 x10_1).f0) ((rd_T47 l1 x10_1).f1) ((rd_T47 l1 x10_1).f2) ((rd_T47 l1 x10_1).f3)) else (impl_partsOk.j1 k1 l1 x10_1 l1 (l1.length : Int) x10_1 true l0_0 ((rd_T47 l1 x10_1).f0) ((rd_T47 l1 x10_1).f1) ((rd_T47 l1 x10_1).f2) ((rd_T47 l1 x10_1).f3)))) = some r:=by rw [if_pos rfl] at H;exact H
        clear H
        have H:=H1
        clear H1
        replace H:=Option.bind_eq_some_iff.mp H
        obtain ⟨t6,A130,H⟩:=H
        try dsimp only at H
        have A13:=a0_ A130
        clear A130
        by_cases c14 : t6 = true
        ·subst c14
         have H1 : (impl_partsOk.j1 k1 l1 x10_1 l1 (l1.length : Int) x10_1 ((((rd_T47 l1 x10_1).f0) == 0) != (x10_1 == 0)) l0_0 ((rd_T47 l1 x10_1).f0) ((rd_T47 l1 x10_1).f1) ((rd_T47 l1 x10_1).f2) ((rd_T47 l1 x10_1).f3)) = some r:=by rw [if_pos rfl] at H;exact H
         clear H
         have H:=H1
         clear H1
         have H':=a0_ H
         clear H
         have hnb15:=NB4_1.out
         have hnc15:=NB1_4.out
         have hcz16_0 : w8.cell? ⟨gb4,0,none⟩ = some (.int .i64 0):=(blk_cell BK4.out 0).trans rfl
         have hcz16_1 : w8.cell? ⟨gb4,1,none⟩ = some (.bool false):=(blk_cell BK4.out 1).trans rfl
         have hcz16_2 : w8.cell? ⟨gb4,2,none⟩ = some (.int .i64 0):=(blk_cell BK4.out 2).trans rfl
         have hcz16_3 : w8.cell? ⟨gb4,3,none⟩ = some (.int .i64 0):=(blk_cell BK4.out 3).trans rfl
         have hfz16_0:=blk_frozen BK4.out 0
         have hfz16_1:=blk_frozen BK4.out 1
         have hfz16_2:=blk_frozen BK4.out 2
         have hfz16_3:=blk_frozen BK4.out 3
         go_wp2_with (first | (go_at_call 71;(with_reducible refine (impl_codeOk.calls ((rd_T47 l1 x10_1).f3) true _ A11.out).mono ?_);rintro e w' ⟨rfl,⟨nd,rfl⟩⟩;(try first | exact ⟨rfl,_,World.drewN_drewN _ _ _⟩ | exact ⟨rfl,_,Eq.trans (World.drewN_drewN _ _ _) (congrArg (World.drewN _) (Nat.add_assoc _ _ _))⟩)) | (go_at_call 70;(with_reducible refine (impl_within.calls ((rd_T47 l1 x10_1).f0) 0 5 true _ A13.out).mono ?_);rintro e w' ⟨rfl,⟨nd,rfl⟩⟩;(try first | exact ⟨rfl,_,World.drewN_drewN _ _ _⟩ | exact ⟨rfl,_,Eq.trans (World.drewN_drewN _ _ _) (congrArg (World.drewN _) (Nat.add_assoc _ _ _))⟩)))
         repeat (go_quiet (first | (go_at_call 71;(with_reducible refine (impl_codeOk.calls ((rd_T47 l1 x10_1).f3) true _ A11.out).mono ?_);rintro e w' ⟨rfl,⟨nd,rfl⟩⟩;(try first | exact ⟨rfl,_,World.drewN_drewN _ _ _⟩ | exact ⟨rfl,_,Eq.trans (World.drewN_drewN _ _ _) (congrArg (World.drewN _) (Nat.add_assoc _ _ _))⟩)) | (go_at_call 70;(with_reducible refine (impl_within.calls ((rd_T47 l1 x10_1).f0) 0 5 true _ A13.out).mono ?_);rintro e w' ⟨rfl,⟨nd,rfl⟩⟩;(try first | exact ⟨rfl,_,World.drewN_drewN _ _ _⟩ | exact ⟨rfl,_,Eq.trans (World.drewN_drewN _ _ _) (congrArg (World.drewN _) (Nat.add_assoc _ _ _))⟩)));try go_wp2_with (first | (go_at_call 71;(with_reducible refine (impl_codeOk.calls ((rd_T47 l1 x10_1).f3) true _ A11.out).mono ?_);rintro e w' ⟨rfl,⟨nd,rfl⟩⟩;(try first | exact ⟨rfl,_,World.drewN_drewN _ _ _⟩ | exact ⟨rfl,_,Eq.trans (World.drewN_drewN _ _ _) (congrArg (World.drewN _) (Nat.add_assoc _ _ _))⟩)) | (go_at_call 70;(with_reducible refine (impl_within.calls ((rd_T47 l1 x10_1).f0) 0 5 true _ A13.out).mono ?_);rintro e w' ⟨rfl,⟨nd,rfl⟩⟩;(try first | exact ⟨rfl,_,World.drewN_drewN _ _ _⟩ | exact ⟨rfl,_,Eq.trans (World.drewN_drewN _ _ _) (congrArg (World.drewN _) (Nat.add_assoc _ _ _))⟩))))
         go_meet
         case rel=>exact ⟨_,(((((rd_T47 l1 x10_1).f0) == 0) != (x10_1 == 0))),(by first | rfl | (simp;done) | (simp [*];done)),H',⟨by have:=HK1.out;first | omega | exact Nat.le_refl _⟩,⟨by (with_reducible repeat (first | refine blk_drewN ?_ _ | refine blk_drew ?_ | refine blk_alloc ?_ _));refine blk_far ?_ NB1_4.out _;(with_reducible repeat (first | refine blk_drewN ?_ _ | refine blk_drew ?_ | refine blk_alloc ?_ _));refine blk_far ?_ NB1_4.out _;(with_reducible repeat (first | refine blk_drewN ?_ _ | refine blk_drew ?_ | refine blk_alloc ?_ _));refine blk_far ?_ NB1_4.out _;(with_reducible repeat (first | refine blk_drewN ?_ _ | refine blk_drew ?_ | refine blk_alloc ?_ _));refine blk_far ?_ NB1_4.out _;(with_reducible repeat (first | refine blk_drewN ?_ _ | refine blk_drew ?_ | refine blk_alloc ?_ _));exact BK1.out⟩,⟨by (with_reducible repeat (first | refine blk_drewN ?_ _ | refine blk_drew ?_ | refine blk_alloc ?_ _));refine blk_put (cs:=#[.int .i64 ((rd_T47 l1 x10_1).f0),.bool ((rd_T47 l1 x10_1).f1),.int .i64 ((rd_T47 l1 x10_1).f2),.int .i64 0]) ?_ 3 _ rfl;(with_reducible repeat (first | refine blk_drewN ?_ _ | refine blk_drew ?_ | refine blk_alloc ?_ _));refine blk_put (cs:=#[.int .i64 ((rd_T47 l1 x10_1).f0),.bool ((rd_T47 l1 x10_1).f1),.int .i64 0,.int .i64 0]) ?_ 2 _ rfl;(with_reducible repeat (first | refine blk_drewN ?_ _ | refine blk_drew ?_ | refine blk_alloc ?_ _));refine blk_put (cs:=#[.int .i64 ((rd_T47 l1 x10_1).f0),.bool false,.int .i64 0,.int .i64 0]) ?_ 1 _ rfl;(with_reducible repeat (first | refine blk_drewN ?_ _ | refine blk_drew ?_ | refine blk_alloc ?_ _));refine blk_put (cs:=#[.int .i64 0,.bool false,.int .i64 0,.int .i64 0]) ?_ 0 _ rfl;(with_reducible repeat (first | refine blk_drewN ?_ _ | refine blk_drew ?_ | refine blk_alloc ?_ _));exact BK4.out⟩,⟨hb_⟩⟩
        ·replace c14:=Bool.eq_false_iff.mpr c14
         subst c14
         have H1 : (impl_partsOk.j1 k1 l1 x10_1 l1 (l1.length : Int) x10_1 true l0_0 ((rd_T47 l1 x10_1).f0) ((rd_T47 l1 x10_1).f1) ((rd_T47 l1 x10_1).f2) ((rd_T47 l1 x10_1).f3)) = some r:=by rw [if_neg (show ¬ (false = true) by decide)] at H;exact H
         clear H
         have H:=H1
         clear H1
         have H':=a0_ H
         clear H
         have hnb17:=NB4_1.out
         have hnc17:=NB1_4.out
         have hcz18_0 : w8.cell? ⟨gb4,0,none⟩ = some (.int .i64 0):=(blk_cell BK4.out 0).trans rfl
         have hcz18_1 : w8.cell? ⟨gb4,1,none⟩ = some (.bool false):=(blk_cell BK4.out 1).trans rfl
         have hcz18_2 : w8.cell? ⟨gb4,2,none⟩ = some (.int .i64 0):=(blk_cell BK4.out 2).trans rfl
         have hcz18_3 : w8.cell? ⟨gb4,3,none⟩ = some (.int .i64 0):=(blk_cell BK4.out 3).trans rfl
         have hfz18_0:=blk_frozen BK4.out 0
         have hfz18_1:=blk_frozen BK4.out 1
         have hfz18_2:=blk_frozen BK4.out 2
         have hfz18_3:=blk_frozen BK4.out 3
         go_wp2_with (first | (go_at_call 71;(with_reducible refine (impl_codeOk.calls ((rd_T47 l1 x10_1).f3) true _ A11.out).mono ?_);rintro e w' ⟨rfl,⟨nd,rfl⟩⟩;(try first | exact ⟨rfl,_,World.drewN_drewN _ _ _⟩ | exact ⟨rfl,_,Eq.trans (World.drewN_drewN _ _ _) (congrArg (World.drewN _) (Nat.add_assoc _ _ _))⟩)) | (go_at_call 70;(with_reducible refine (impl_within.calls ((rd_T47 l1 x10_1).f0) 0 5 false _ A13.out).mono ?_);rintro e w' ⟨rfl,⟨nd,rfl⟩⟩;(try first | exact ⟨rfl,_,World.drewN_drewN _ _ _⟩ | exact ⟨rfl,_,Eq.trans (World.drewN_drewN _ _ _) (congrArg (World.drewN _) (Nat.add_assoc _ _ _))⟩)))
         repeat (go_quiet (first | (go_at_call 71;(with_reducible refine (impl_codeOk.calls ((rd_T47 l1 x10_1).f3) true _ A11.out).mono ?_);rintro e w' ⟨rfl,⟨nd,rfl⟩⟩;(try first | exact ⟨rfl,_,World.drewN_drewN _ _ _⟩ | exact ⟨rfl,_,Eq.trans (World.drewN_drewN _ _ _) (congrArg (World.drewN _) (Nat.add_assoc _ _ _))⟩)) | (go_at_call 70;(with_reducible refine (impl_within.calls ((rd_T47 l1 x10_1).f0) 0 5 false _ A13.out).mono ?_);rintro e w' ⟨rfl,⟨nd,rfl⟩⟩;(try first | exact ⟨rfl,_,World.drewN_drewN _ _ _⟩ | exact ⟨rfl,_,Eq.trans (World.drewN_drewN _ _ _) (congrArg (World.drewN _) (Nat.add_assoc _ _ _))⟩)));try go_wp2_with (first | (go_at_call 71;(with_reducible refine (impl_codeOk.calls ((rd_T47 l1 x10_1).f3) true _ A11.out).mono ?_);rintro e w' ⟨rfl,⟨nd,rfl⟩⟩;(try first | exact ⟨rfl,_,World.drewN_drewN _ _ _⟩ | exact ⟨rfl,_,Eq.trans (World.drewN_drewN _ _ _) (congrArg (World.drewN _) (Nat.add_assoc _ _ _))⟩)) | (go_at_call 70;(with_reducible refine (impl_within.calls ((rd_T47 l1 x10_1).f0) 0 5 false _ A13.out).mono ?_);rintro e w' ⟨rfl,⟨nd,rfl⟩⟩;(try first | exact ⟨rfl,_,World.drewN_drewN _ _ _⟩ | exact ⟨rfl,_,Eq.trans (World.drewN_drewN _ _ _) (congrArg (World.drewN _) (Nat.add_assoc _ _ _))⟩))))
         go_meet
         case rel=>exact ⟨_,(true),(by first | rfl | (simp;done) | (simp [*];done)),H',⟨by have:=HK1.out;first | omega | exact Nat.le_refl _⟩,⟨by (with_reducible repeat (first | refine blk_drewN ?_ _ | refine blk_drew ?_ | refine blk_alloc ?_ _));refine blk_far ?_ NB1_4.out _;(with_reducible repeat (first | refine blk_drewN ?_ _ | refine blk_drew ?_ | refine blk_alloc ?_ _));refine blk_far ?_ NB1_4.out _;(with_reducible repeat (first | refine blk_drewN ?_ _ | refine blk_drew ?_ | refine blk_alloc ?_ _));refine blk_far ?_ NB1_4.out _;(with_reducible repeat (first | refine blk_drewN ?_ _ | refine blk_drew ?_ | refine blk_alloc ?_ _));refine blk_far ?_ NB1_4.out _;(with_reducible repeat (first | refine blk_drewN ?_ _ | refine blk_drew ?_ | refine blk_alloc ?_ _));exact BK1.out⟩,⟨by (with_reducible repeat (first | refine blk_drewN ?_ _ | refine blk_drew ?_ | refine blk_alloc ?_ _));refine blk_put (cs:=#[.int .i64 ((rd_T47 l1 x10_1).f0),.bool ((rd_T47 l1 x10_1).f1),.int .i64 ((rd_T47 l1 x10_1).f2),.int .i64 0]) ?_ 3 _ rfl;(with_reducible repeat (first | refine blk_drewN ?_ _ | refine blk_drew ?_ | refine blk_alloc ?_ _));refine blk_put (cs:=#[.int .i64 ((rd_T47 l1 x10_1).f0),.bool ((rd_T47 l1 x10_1).f1),.int .i64 0,.int .i64 0]) ?_ 2 _ rfl;(with_reducible repeat (first | refine blk_drewN ?_ _ | refine blk_drew ?_ | refine blk_alloc ?_ _));refine blk_put (cs:=#[.int .i64 ((rd_T47 l1 x10_1).f0),.bool false,.int .i64 0,.int .i64 0]) ?_ 1 _ rfl;(with_reducible repeat (first | refine blk_drewN ?_ _ | refine blk_drew ?_ | refine blk_alloc ?_ _));refine blk_put (cs:=#[.int .i64 0,.bool false,.int .i64 0,.int .i64 0]) ?_ 0 _ rfl;(with_reducible repeat (first | refine blk_drewN ?_ _ | refine blk_drew ?_ | refine blk_alloc ?_ _));exact BK4.out⟩,⟨hb_⟩⟩
       ·replace c12:=Bool.eq_false_iff.mpr c12
        subst c12
        have H1 : (impl_partsOk.j1 k1 l1 x10_1 l1 (l1.length : Int) x10_1 true l0_0 ((rd_T47 l1 x10_1).f0) ((rd_T47 l1 x10_1).f1) ((rd_T47 l1 x10_1).f2) ((rd_T47 l1 x10_1).f3)) = some r:=by rw [if_neg (show ¬ (false = true) by decide)] at H;exact H
        clear H
        have H:=H1
        clear H1
        have H':=a0_ H
        clear H
        have hnb19:=NB4_1.out
        have hnc19:=NB1_4.out
        have hcz20_0 : w8.cell? ⟨gb4,0,none⟩ = some (.int .i64 0):=(blk_cell BK4.out 0).trans rfl
        have hcz20_1 : w8.cell? ⟨gb4,1,none⟩ = some (.bool false):=(blk_cell BK4.out 1).trans rfl
        have hcz20_2 : w8.cell? ⟨gb4,2,none⟩ = some (.int .i64 0):=(blk_cell BK4.out 2).trans rfl
        have hcz20_3 : w8.cell? ⟨gb4,3,none⟩ = some (.int .i64 0):=(blk_cell BK4.out 3).trans rfl
        have hfz20_0:=blk_frozen BK4.out 0
        have hfz20_1:=blk_frozen BK4.out 1
        have hfz20_2:=blk_frozen BK4.out 2
        have hfz20_3:=blk_frozen BK4.out 3
        go_wp2_with (first | (go_at_call 71;(with_reducible refine (impl_codeOk.calls ((rd_T47 l1 x10_1).f3) false _ A11.out).mono ?_);rintro e w' ⟨rfl,⟨nd,rfl⟩⟩;(try first | exact ⟨rfl,_,World.drewN_drewN _ _ _⟩ | exact ⟨rfl,_,Eq.trans (World.drewN_drewN _ _ _) (congrArg (World.drewN _) (Nat.add_assoc _ _ _))⟩)))
        repeat (go_quiet (first | (go_at_call 71;(with_reducible refine (impl_codeOk.calls ((rd_T47 l1 x10_1).f3) false _ A11.out).mono ?_);rintro e w' ⟨rfl,⟨nd,rfl⟩⟩;(try first | exact ⟨rfl,_,World.drewN_drewN _ _ _⟩ | exact ⟨rfl,_,Eq.trans (World.drewN_drewN _ _ _) (congrArg (World.drewN _) (Nat.add_assoc _ _ _))⟩)));try go_wp2_with (first | (go_at_call 71;(with_reducible refine (impl_codeOk.calls ((rd_T47 l1 x10_1).f3) false _ A11.out).mono ?_);rintro e w' ⟨rfl,⟨nd,rfl⟩⟩;(try first | exact ⟨rfl,_,World.drewN_drewN _ _ _⟩ | exact ⟨rfl,_,Eq.trans (World.drewN_drewN _ _ _) (congrArg (World.drewN _) (Nat.add_assoc _ _ _))⟩))))
        go_meet
        case rel=>exact ⟨_,(true),(by first | rfl | (simp;done) | (simp [*];done)),H',⟨by have:=HK1.out;first | omega | exact Nat.le_refl _⟩,⟨by (with_reducible repeat (first | refine blk_drewN ?_ _ | refine blk_drew ?_ | refine blk_alloc ?_ _));refine blk_far ?_ NB1_4.out _;(with_reducible repeat (first | refine blk_drewN ?_ _ | refine blk_drew ?_ | refine blk_alloc ?_ _));refine blk_far ?_ NB1_4.out _;(with_reducible repeat (first | refine blk_drewN ?_ _ | refine blk_drew ?_ | refine blk_alloc ?_ _));refine blk_far ?_ NB1_4.out _;(with_reducible repeat (first | refine blk_drewN ?_ _ | refine blk_drew ?_ | refine blk_alloc ?_ _));refine blk_far ?_ NB1_4.out _;(with_reducible repeat (first | refine blk_drewN ?_ _ | refine blk_drew ?_ | refine blk_alloc ?_ _));exact BK1.out⟩,⟨by (with_reducible repeat (first | refine blk_drewN ?_ _ | refine blk_drew ?_ | refine blk_alloc ?_ _));refine blk_put (cs:=#[.int .i64 ((rd_T47 l1 x10_1).f0),.bool ((rd_T47 l1 x10_1).f1),.int .i64 ((rd_T47 l1 x10_1).f2),.int .i64 0]) ?_ 3 _ rfl;(with_reducible repeat (first | refine blk_drewN ?_ _ | refine blk_drew ?_ | refine blk_alloc ?_ _));refine blk_put (cs:=#[.int .i64 ((rd_T47 l1 x10_1).f0),.bool ((rd_T47 l1 x10_1).f1),.int .i64 0,.int .i64 0]) ?_ 2 _ rfl;(with_reducible repeat (first | refine blk_drewN ?_ _ | refine blk_drew ?_ | refine blk_alloc ?_ _));refine blk_put (cs:=#[.int .i64 ((rd_T47 l1 x10_1).f0),.bool false,.int .i64 0,.int .i64 0]) ?_ 1 _ rfl;(with_reducible repeat (first | refine blk_drewN ?_ _ | refine blk_drew ?_ | refine blk_alloc ?_ _));refine blk_put (cs:=#[.int .i64 0,.bool false,.int .i64 0,.int .i64 0]) ?_ 0 _ rfl;(with_reducible repeat (first | refine blk_drewN ?_ _ | refine blk_drew ?_ | refine blk_alloc ?_ _));exact BK4.out⟩,⟨hb_⟩⟩
      case rest =>
       clear HC7
       try clear c1
       try clear p2
       try clear p3
       try clear q3
       try clear hx3
       try clear c4
       try clear c4b0
       try clear c5
       try clear c5b0
       try clear c6
       try clear c6b0
       try clear c9
       try clear c12
       try clear c14
       try clear c15
       try clear c17
       try clear c19
       try clear hcz10_0
       try clear hcz10_1
       try clear hcz10_2
       try clear hcz10_3
       try clear hcz16_0
       try clear hcz16_1
       try clear hcz16_2
       try clear hcz16_3
       try clear hcz18_0
       try clear hcz18_1
       try clear hcz18_2
       try clear hcz18_3
       try clear hcz20_0
       try clear hcz20_1
       try clear hcz20_2
       try clear hcz20_3
       try clear hfz10_0
       try clear hfz10_1
       try clear hfz10_2
       try clear hfz10_3
       try clear hfz16_0
       try clear hfz16_1
       try clear hfz16_2
       try clear hfz16_3
       try clear hfz18_0
       try clear hfz18_1
       try clear hfz18_2
       try clear hfz18_3
       try clear hfz20_0
       try clear hfz20_1
       try clear hfz20_2
       try clear hfz20_3
       try clear hx3_0
       try clear hx3_1
       try clear hx3_2
       try clear hx3_3
       try clear p2
       try clear p3
       try clear q3
       obtain ⟨kq,x32_6,rfl,HA,HJ6,BK1,BK4,HB⟩:=hcut
       cases kq with
       | zero=>exact absurd HA.out (by simp [impl_partsOk.j1])
       | succ kj6 =>
        have H:=HA.out
        clear HA
        simp only [impl_partsOk.j1] at H
        by_cases c21 : x32_6 = true
        ·subst c21
         have H1 : (some false) = some r:=by rw [if_pos rfl] at H;exact H
         clear H
         have H:=H1
         clear H1
         obtain rfl:=Option.some.inj H
         go_wp2
         repeat (go_quiet (fail);try go_wp2)
         go_ret
         exact ⟨by first | rfl | (simp [errW_none,errW_some] <;> rfl) | (simp [*,errW_none,errW_some] <;> rfl),hb_⟩
        ·replace c21:=Bool.eq_false_iff.mpr c21
         subst c21
         have H1 : (if x10_1 > 0 then (if 0 ≤ (wrap64 (x10_1 - 1)) then (if (wrap64 (x10_1 - 1)) < (l1.length : Int) then (if ((rd_T47 l1 x10_1).f0) > ((rd_T47 l1 (wrap64 (x10_1 - 1))).f0) then (if (rd_T47 l1 (wrap64 (x10_1 - 1))).f1 = true then (impl_partsOk.j2 kj6 l1 x10_1 l1 (l1.length : Int) x10_1 (!(((rd_T47 l1 x10_1).f0) == (wrap64 (((rd_T47 l1 (wrap64 (x10_1 - 1))).f0) + 1)))) l0_0 ((rd_T47 l1 x10_1).f0) ((rd_T47 l1 x10_1).f1) ((rd_T47 l1 x10_1).f2) ((rd_T47 l1 x10_1).f3)) else (impl_partsOk.j2 kj6 l1 x10_1 l1 (l1.length : Int) x10_1 (!false) l0_0 ((rd_T47 l1 x10_1).f0) ((rd_T47 l1 x10_1).f1) ((rd_T47 l1 x10_1).f2) ((rd_T47 l1 x10_1).f3))) else (impl_partsOk.j2 kj6 l1 x10_1 l1 (l1.length : Int) x10_1 false l0_0 ((rd_T47 l1 x10_1).f0) ((rd_T47 l1 x10_1).f1) ((rd_T47 l1 x10_1).f2) ((rd_T47 l1 x10_1).f3))) else (none)) else (none)) else (impl_partsOk.j2 kj6 l1 x10_1 l1 (l1.length : Int) x10_1 false l0_0 ((rd_T47 l1 x10_1).f0) ((rd_T47 l1 x10_1).f1) ((rd_T47 l1 x10_1).f2) ((rd_T47 l1 x10_1).f3))) = some r:=by rw [if_neg (show ¬ (false = true) by decide)] at H;exact H
         clear H
         have H:=H1
         clear H1
         have HC22:=a0_ H
         clear H
         go_upto_region 6 with (fail)
         repeat (go_quiet (fail);go_upto_region 6 with (fail))
         go_cut [66] (fun v66 wc=>∃ (kq : Nat) (x66_21 : Bool),v66 = .bool x66_21 ∧ Aside0 (impl_partsOk.j2 kq l1 x10_1 l1 (l1.length : Int) x10_1 x66_21 l0_0 ((rd_T47 l1 x10_1).f0) ((rd_T47 l1 x10_1).f1) ((rd_T47 l1 x10_1).f2) ((rd_T47 l1 x10_1).f3) = some r) ∧ Aside0 (kq ≤ kj6) ∧ Aside0 (wc.heap[gb1]? = some (.cells #[(.slice A0_0 l0_0.length c0_0)] 25 (0,0))) ∧ Aside0 (wc.heap[gb4]? = some (.cells #[.int .i64 ((rd_T47 l1 x10_1).f0),.bool ((rd_T47 l1 x10_1).f1),.int .i64 ((rd_T47 l1 x10_1).f2),.int .i64 ((rd_T47 l1 x10_1).f3)] 47 (0,0))) ∧ Aside0 (Below w.heap.size w wc))
         case first =>
          have H:=HC22.out
          clear HC22
          by_cases c23 : x10_1 > 0
          ·rw [if_pos c23] at H
           have c23b0 : decide (0 < x10_1) = true:=decide_eq_true c23
           clear c23
           (first | rw [c23b0] | (simp only [i64_w,i32_w];rw [c23b0]) | skip)
           obtain ⟨ji24,hji24⟩ : ∃ j_ : Int,(wrap64 (x10_1 - 1)) = j_:=⟨_,rfl⟩
           replace H : (if 0 ≤ (ji24) then (if (ji24) < (l1.length : Int) then (if ((rd_T47 l1 x10_1).f0) > ((rd_T47 l1 (ji24)).f0) then (if (rd_T47 l1 (ji24)).f1 = true then (impl_partsOk.j2 kj6 l1 x10_1 l1 (l1.length : Int) x10_1 (!(((rd_T47 l1 x10_1).f0) == (wrap64 (((rd_T47 l1 (ji24)).f0) + 1)))) l0_0 ((rd_T47 l1 x10_1).f0) ((rd_T47 l1 x10_1).f1) ((rd_T47 l1 x10_1).f2) ((rd_T47 l1 x10_1).f3)) else (impl_partsOk.j2 kj6 l1 x10_1 l1 (l1.length : Int) x10_1 (!false) l0_0 ((rd_T47 l1 x10_1).f0) ((rd_T47 l1 x10_1).f1) ((rd_T47 l1 x10_1).f2) ((rd_T47 l1 x10_1).f3))) else (impl_partsOk.j2 kj6 l1 x10_1 l1 (l1.length : Int) x10_1 false l0_0 ((rd_T47 l1 x10_1).f0) ((rd_T47 l1 x10_1).f1) ((rd_T47 l1 x10_1).f2) ((rd_T47 l1 x10_1).f3))) else (none)) else (none)) = some r:=by first | (rw [hji24] at H;exact H) | (simp only [hji24] at H ⊢;exact H)
           have hji24w : (IntKind.i64.wrap (x10_1 - 1)) = ji24:=(i64_w _).trans hji24
           by_cases c25 : 0 ≤ (ji24)
           ·rw [if_pos c25] at H
            have c25b0 : decide (0 ≤ (ji24)) = true:=decide_eq_true c25
            clear c25
            by_cases c26 : (ji24) < (l1.length : Int)
            ·rw [if_pos c26] at H
             have c26b0 : decide ((ji24) < (l1.length : Int)) = true:=decide_eq_true c26
             clear c26
             by_cases c27 : ((rd_T47 l1 x10_1).f0) > ((rd_T47 l1 (ji24)).f0)
             ·rw [if_pos c27] at H
              have c27b0 : decide (((rd_T47 l1 (ji24)).f0) < ((rd_T47 l1 x10_1).f0)) = true:=decide_eq_true c27
              clear c27
              obtain ⟨bq28,hbq28⟩ : ∃ b_ : Bool,b_ = ((rd_T47 l1 (ji24)).f1):=⟨_,rfl⟩
              replace H : (if bq28 = true then (impl_partsOk.j2 kj6 l1 x10_1 l1 (l1.length : Int) x10_1 (!(((rd_T47 l1 x10_1).f0) == (wrap64 (((rd_T47 l1 (ji24)).f0) + 1)))) l0_0 ((rd_T47 l1 x10_1).f0) ((rd_T47 l1 x10_1).f1) ((rd_T47 l1 x10_1).f2) ((rd_T47 l1 x10_1).f3)) else (impl_partsOk.j2 kj6 l1 x10_1 l1 (l1.length : Int) x10_1 (!false) l0_0 ((rd_T47 l1 x10_1).f0) ((rd_T47 l1 x10_1).f1) ((rd_T47 l1 x10_1).f2) ((rd_T47 l1 x10_1).f3))) = some r:=by rw [← hbq28] at H;exact H
              have Nbq28:=a0_ hbq28
              clear hbq28
              by_cases c29 : bq28 = true
              ·subst c29
               have H1 : (impl_partsOk.j2 kj6 l1 x10_1 l1 (l1.length : Int) x10_1 (!(((rd_T47 l1 x10_1).f0) == (wrap64 (((rd_T47 l1 (ji24)).f0) + 1)))) l0_0 ((rd_T47 l1 x10_1).f0) ((rd_T47 l1 x10_1).f1) ((rd_T47 l1 x10_1).f2) ((rd_T47 l1 x10_1).f3)) = some r:=by rw [if_pos rfl] at H;exact H
               clear H
               have H:=H1
               clear H1
               have H':=a0_ H
               clear H
               have hnb30:=NB4_1.out
               have hnc30:=NB1_4.out
               have hcz31_0 : wc.cell? ⟨gb4,0,none⟩ = some (.int .i64 ((rd_T47 l1 x10_1).f0)):=(blk_cell BK4.out 0).trans rfl
               have hcz31_1 : wc.cell? ⟨gb4,1,none⟩ = some (.bool ((rd_T47 l1 x10_1).f1)):=(blk_cell BK4.out 1).trans rfl
               have hcz31_2 : wc.cell? ⟨gb4,2,none⟩ = some (.int .i64 ((rd_T47 l1 x10_1).f2)):=(blk_cell BK4.out 2).trans rfl
               have hcz31_3 : wc.cell? ⟨gb4,3,none⟩ = some (.int .i64 ((rd_T47 l1 x10_1).f3)):=(blk_cell BK4.out 3).trans rfl
               have hfz31_0:=blk_frozen BK4.out 0
               have hfz31_1:=blk_frozen BK4.out 1
               have hfz31_2:=blk_frozen BK4.out 2
               have hfz31_3:=blk_frozen BK4.out 3
               have p7 : 0 ≤ ((ji24) : Int):=of_decide_eq_true (by first | (with_reducible assumption) | assumption)
               have q7 : (ji24) < (l1.length : Int):=of_decide_eq_true (by first | (with_reducible assumption) | assumption)
               obtain ⟨ad7,e7,hx7_0,hx7_1,hx7_2,hx7_3⟩:=at_T47 HR1.out (ji24) p7 q7
               (try rw [← Nbq28.out] at hx7_1)
               obtain rfl : ad3 = ad7:=(by injection e7)
               replace hx7_0:=(HB.out.cell (World.block_lt_of_cell? w _ hx7_0)).trans hx7_0
               replace hx7_1:=(HB.out.cell (World.block_lt_of_cell? w _ hx7_1)).trans hx7_1
               replace hx7_2:=(HB.out.cell (World.block_lt_of_cell? w _ hx7_2)).trans hx7_2
               replace hx7_3:=(HB.out.cell (World.block_lt_of_cell? w _ hx7_3)).trans hx7_3
               replace p7:=eq_true p7
               replace q7:=eq_true q7
               have p8 : 0 ≤ ((ji24) : Int):=of_decide_eq_true (by first | (with_reducible assumption) | assumption)
               have q8 : (ji24) < (l1.length : Int):=of_decide_eq_true (by first | (with_reducible assumption) | assumption)
               obtain ⟨ad8,e8,hx8_0,hx8_1,hx8_2,hx8_3⟩:=at_T47 HR1.out (ji24) p8 q8
               (try rw [← Nbq28.out] at hx8_1)
               obtain rfl : ad3 = ad8:=(by injection e8)
               replace hx8_0:=(HB.out.cell (World.block_lt_of_cell? w _ hx8_0)).trans hx8_0
               replace hx8_1:=(HB.out.cell (World.block_lt_of_cell? w _ hx8_1)).trans hx8_1
               replace hx8_2:=(HB.out.cell (World.block_lt_of_cell? w _ hx8_2)).trans hx8_2
               replace hx8_3:=(HB.out.cell (World.block_lt_of_cell? w _ hx8_3)).trans hx8_3
               replace p8:=eq_true p8
               replace q8:=eq_true q8
               have p9 : 0 ≤ ((ji24) : Int):=of_decide_eq_true (by first | (with_reducible assumption) | assumption)
               have q9 : (ji24) < (l1.length : Int):=of_decide_eq_true (by first | (with_reducible assumption) | assumption)
               obtain ⟨ad9,e9,hx9_0,hx9_1,hx9_2,hx9_3⟩:=at_T47 HR1.out (ji24) p9 q9
               (try rw [← Nbq28.out] at hx9_1)
               obtain rfl : ad3 = ad9:=(by injection e9)
               replace hx9_0:=(HB.out.cell (World.block_lt_of_cell? w _ hx9_0)).trans hx9_0
               replace hx9_1:=(HB.out.cell (World.block_lt_of_cell? w _ hx9_1)).trans hx9_1
               replace hx9_2:=(HB.out.cell (World.block_lt_of_cell? w _ hx9_2)).trans hx9_2
               replace hx9_3:=(HB.out.cell (World.block_lt_of_cell? w _ hx9_3)).trans hx9_3
               replace p9:=eq_true p9
               replace q9:=eq_true q9
               go_wp2
               repeat (go_quiet (fail);try go_wp2)
               go_meet
               case rel=>exact ⟨_,(!(((rd_T47 l1 x10_1).f0) == (wrap64 (((rd_T47 l1 (ji24)).f0) + 1)))),(by first | rfl | (simp;done) | (simp only [← hji24] <;> (first | rfl | simp)) | (simp [*];done)),H',⟨by have:=HK1.out;have:=HJ6.out;first | omega | exact Nat.le_refl _⟩,⟨by (with_reducible repeat (first | refine blk_drewN ?_ _ | refine blk_drew ?_ | refine blk_alloc ?_ _));exact BK1.out⟩,⟨by (with_reducible repeat (first | refine blk_drewN ?_ _ | refine blk_drew ?_ | refine blk_alloc ?_ _));exact BK4.out⟩,⟨hb_⟩⟩
              ·replace c29:=Bool.eq_false_iff.mpr c29
               subst c29
               have H1 : (impl_partsOk.j2 kj6 l1 x10_1 l1 (l1.length : Int) x10_1 (!false) l0_0 ((rd_T47 l1 x10_1).f0) ((rd_T47 l1 x10_1).f1) ((rd_T47 l1 x10_1).f2) ((rd_T47 l1 x10_1).f3)) = some r:=by rw [if_neg (show ¬ (false = true) by decide)] at H;exact H
               clear H
               have H:=H1
               clear H1
               have H':=a0_ H
               clear H
               have hnb32:=NB4_1.out
               have hnc32:=NB1_4.out
               have hcz33_0 : wc.cell? ⟨gb4,0,none⟩ = some (.int .i64 ((rd_T47 l1 x10_1).f0)):=(blk_cell BK4.out 0).trans rfl
               have hcz33_1 : wc.cell? ⟨gb4,1,none⟩ = some (.bool ((rd_T47 l1 x10_1).f1)):=(blk_cell BK4.out 1).trans rfl
               have hcz33_2 : wc.cell? ⟨gb4,2,none⟩ = some (.int .i64 ((rd_T47 l1 x10_1).f2)):=(blk_cell BK4.out 2).trans rfl
               have hcz33_3 : wc.cell? ⟨gb4,3,none⟩ = some (.int .i64 ((rd_T47 l1 x10_1).f3)):=(blk_cell BK4.out 3).trans rfl
               have hfz33_0:=blk_frozen BK4.out 0
               have hfz33_1:=blk_frozen BK4.out 1
               have hfz33_2:=blk_frozen BK4.out 2
               have hfz33_3:=blk_frozen BK4.out 3
               have p7 : 0 ≤ ((ji24) : Int):=of_decide_eq_true (by first | (with_reducible assumption) | assumption)
               have q7 : (ji24) < (l1.length : Int):=of_decide_eq_true (by first | (with_reducible assumption) | assumption)
               obtain ⟨ad7,e7,hx7_0,hx7_1,hx7_2,hx7_3⟩:=at_T47 HR1.out (ji24) p7 q7
               (try rw [← Nbq28.out] at hx7_1)
               obtain rfl : ad3 = ad7:=(by injection e7)
               replace hx7_0:=(HB.out.cell (World.block_lt_of_cell? w _ hx7_0)).trans hx7_0
               replace hx7_1:=(HB.out.cell (World.block_lt_of_cell? w _ hx7_1)).trans hx7_1
               replace hx7_2:=(HB.out.cell (World.block_lt_of_cell? w _ hx7_2)).trans hx7_2
               replace hx7_3:=(HB.out.cell (World.block_lt_of_cell? w _ hx7_3)).trans hx7_3
               replace p7:=eq_true p7
               replace q7:=eq_true q7
               have p8 : 0 ≤ ((ji24) : Int):=of_decide_eq_true (by first | (with_reducible assumption) | assumption)
               have q8 : (ji24) < (l1.length : Int):=of_decide_eq_true (by first | (with_reducible assumption) | assumption)
               obtain ⟨ad8,e8,hx8_0,hx8_1,hx8_2,hx8_3⟩:=at_T47 HR1.out (ji24) p8 q8
               (try rw [← Nbq28.out] at hx8_1)
               obtain rfl : ad3 = ad8:=(by injection e8)
               replace hx8_0:=(HB.out.cell (World.block_lt_of_cell? w _ hx8_0)).trans hx8_0
               replace hx8_1:=(HB.out.cell (World.block_lt_of_cell? w _ hx8_1)).trans hx8_1
               replace hx8_2:=(HB.out.cell (World.block_lt_of_cell? w _ hx8_2)).trans hx8_2
               replace hx8_3:=(HB.out.cell (World.block_lt_of_cell? w _ hx8_3)).trans hx8_3
               replace p8:=eq_true p8
               replace q8:=eq_true q8
               go_wp2
               repeat (go_quiet (fail);try go_wp2)
               go_meet
               case rel=>exact ⟨_,(!false),(by first | rfl | (simp;done) | (simp [*];done)),H',⟨by have:=HK1.out;have:=HJ6.out;first | omega | exact Nat.le_refl _⟩,⟨by (with_reducible repeat (first | refine blk_drewN ?_ _ | refine blk_drew ?_ | refine blk_alloc ?_ _));exact BK1.out⟩,⟨by (with_reducible repeat (first | refine blk_drewN ?_ _ | refine blk_drew ?_ | refine blk_alloc ?_ _));exact BK4.out⟩,⟨hb_⟩⟩
             ·rw [if_neg c27] at H
              have c27b0 : decide (((rd_T47 l1 (ji24)).f0) < ((rd_T47 l1 x10_1).f0)) = false:=decide_eq_false c27
              clear c27
              have H':=a0_ H
              clear H
              have hnb34:=NB4_1.out
              have hnc34:=NB1_4.out
              have hcz35_0 : wc.cell? ⟨gb4,0,none⟩ = some (.int .i64 ((rd_T47 l1 x10_1).f0)):=(blk_cell BK4.out 0).trans rfl
              have hcz35_1 : wc.cell? ⟨gb4,1,none⟩ = some (.bool ((rd_T47 l1 x10_1).f1)):=(blk_cell BK4.out 1).trans rfl
              have hcz35_2 : wc.cell? ⟨gb4,2,none⟩ = some (.int .i64 ((rd_T47 l1 x10_1).f2)):=(blk_cell BK4.out 2).trans rfl
              have hcz35_3 : wc.cell? ⟨gb4,3,none⟩ = some (.int .i64 ((rd_T47 l1 x10_1).f3)):=(blk_cell BK4.out 3).trans rfl
              have hfz35_0:=blk_frozen BK4.out 0
              have hfz35_1:=blk_frozen BK4.out 1
              have hfz35_2:=blk_frozen BK4.out 2
              have hfz35_3:=blk_frozen BK4.out 3
              have p7 : 0 ≤ ((ji24) : Int):=of_decide_eq_true (by first | (with_reducible assumption) | assumption)
              have q7 : (ji24) < (l1.length : Int):=of_decide_eq_true (by first | (with_reducible assumption) | assumption)
              obtain ⟨ad7,e7,hx7_0,hx7_1,hx7_2,hx7_3⟩:=at_T47 HR1.out (ji24) p7 q7
              obtain rfl : ad3 = ad7:=(by injection e7)
              replace hx7_0:=(HB.out.cell (World.block_lt_of_cell? w _ hx7_0)).trans hx7_0
              replace hx7_1:=(HB.out.cell (World.block_lt_of_cell? w _ hx7_1)).trans hx7_1
              replace hx7_2:=(HB.out.cell (World.block_lt_of_cell? w _ hx7_2)).trans hx7_2
              replace hx7_3:=(HB.out.cell (World.block_lt_of_cell? w _ hx7_3)).trans hx7_3
              replace p7:=eq_true p7
              replace q7:=eq_true q7
              go_wp2
              repeat (go_quiet (fail);try go_wp2)
              go_meet
              case rel=>exact ⟨_,(false),(by first | rfl | (simp;done) | (simp [*];done)),H',⟨by have:=HK1.out;have:=HJ6.out;first | omega | exact Nat.le_refl _⟩,⟨by (with_reducible repeat (first | refine blk_drewN ?_ _ | refine blk_drew ?_ | refine blk_alloc ?_ _));exact BK1.out⟩,⟨by (with_reducible repeat (first | refine blk_drewN ?_ _ | refine blk_drew ?_ | refine blk_alloc ?_ _));exact BK4.out⟩,⟨hb_⟩⟩
            ·rw [if_neg c26] at H
             exact absurd H (by simp)
           ·rw [if_neg c25] at H
            exact absurd H (by simp)
          ·rw [if_neg c23] at H
           have c23b0 : decide (0 < x10_1) = false:=decide_eq_false c23
           clear c23
           (first | rw [c23b0] | (simp only [i64_w,i32_w];rw [c23b0]) | skip)
           have H':=a0_ H
           clear H
           go_wp2
           repeat (go_quiet (fail);try go_wp2)
           go_meet
           case rel=>exact ⟨_,(false),(by first | rfl | (simp;done) | (simp [*];done)),H',⟨by have:=HK1.out;have:=HJ6.out;first | omega | exact Nat.le_refl _⟩,⟨by (with_reducible repeat (first | refine blk_drewN ?_ _ | refine blk_drew ?_ | refine blk_alloc ?_ _));exact BK1.out⟩,⟨by (with_reducible repeat (first | refine blk_drewN ?_ _ | refine blk_drew ?_ | refine blk_alloc ?_ _));exact BK4.out⟩,⟨hb_⟩⟩
         case rest =>
          clear HC22
          try clear c1
          try clear c2
          try clear p2
          try clear q2
          try clear c3
          try clear p3
          try clear q3
          try clear hx3
          try clear c4
          try clear c4b0
          try clear c5
          try clear c5b0
          try clear c6
          try clear c6b0
          try clear p6
          try clear p7
          try clear q7
          try clear hx7
          try clear p8
          try clear q8
          try clear hx8
          try clear c9
          try clear p9
          try clear q9
          try clear hx9
          try clear c12
          try clear c14
          try clear c15
          try clear c17
          try clear c19
          try clear c21
          try clear c23
          try clear c23b0
          try clear c25
          try clear c25b0
          try clear c26
          try clear c26b0
          try clear c27
          try clear c27b0
          try clear q28
          try clear c29
          try clear c30
          try clear c32
          try clear c34
          try clear hcz10_0
          try clear hcz10_1
          try clear hcz10_2
          try clear hcz10_3
          try clear hcz16_0
          try clear hcz16_1
          try clear hcz16_2
          try clear hcz16_3
          try clear hcz18_0
          try clear hcz18_1
          try clear hcz18_2
          try clear hcz18_3
          try clear hcz20_0
          try clear hcz20_1
          try clear hcz20_2
          try clear hcz20_3
          try clear hcz31_0
          try clear hcz31_1
          try clear hcz31_2
          try clear hcz31_3
          try clear hcz33_0
          try clear hcz33_1
          try clear hcz33_2
          try clear hcz33_3
          try clear hcz35_0
          try clear hcz35_1
          try clear hcz35_2
          try clear hcz35_3
          try clear hfz10_0
          try clear hfz10_1
          try clear hfz10_2
          try clear hfz10_3
          try clear hfz16_0
          try clear hfz16_1
          try clear hfz16_2
          try clear hfz16_3
          try clear hfz18_0
          try clear hfz18_1
          try clear hfz18_2
          try clear hfz18_3
          try clear hfz20_0
          try clear hfz20_1
          try clear hfz20_2
          try clear hfz20_3
          try clear hfz31_0
          try clear hfz31_1
          try clear hfz31_2
          try clear hfz31_3
          try clear hfz33_0
          try clear hfz33_1
          try clear hfz33_2
          try clear hfz33_3
          try clear hfz35_0
          try clear hfz35_1
          try clear hfz35_2
          try clear hfz35_3
          try clear hx3_0
          try clear hx3_1
          try clear hx3_2
          try clear hx3_3
          try clear hx7_0
          try clear hx7_1
          try clear hx7_2
          try clear hx7_3
          try clear hx8_0
          try clear hx8_1
          try clear hx8_2
          try clear hx8_3
          try clear hx9_0
          try clear hx9_1
          try clear hx9_2
          try clear hx9_3
          try clear p2
          try clear p3
          try clear p7
          try clear p8
          try clear p9
          try clear q3
          try clear q7
          try clear q8
          try clear q9
          obtain ⟨kq,x66_21,rfl,HA,HJ21,BK1,BK4,HB⟩:=hcut
          cases kq with
          | zero=>exact absurd HA.out (by simp [impl_partsOk.j2])
          | succ kj21 =>
           have H:=HA.out
           clear HA
           simp only [impl_partsOk.j2] at H
           by_cases c36 : x66_21 = true
           ·subst c36
            have H1 : (some false) = some r:=by rw [if_pos rfl] at H;exact H
            clear H
            have H:=H1
            clear H1
            obtain rfl:=Option.some.inj H
            go_wp2
            repeat (go_quiet (fail);try go_wp2)
            go_ret
            exact ⟨by first | rfl | (simp [errW_none,errW_some] <;> rfl) | (simp [*,errW_none,errW_some] <;> rfl),hb_⟩
           ·replace c36:=Bool.eq_false_iff.mpr c36
            subst c36
            have H1 : (if (wrap64 (x10_1 + 1)) < (l1.length : Int) then (if 0 ≤ (wrap64 (x10_1 + 1)) then (if ((rd_T47 l1 x10_1).f1) = true then (if ((rd_T47 l1 x10_1).f2) = 0 then (if (((rd_T47 l1 (wrap64 (x10_1 + 1))).f0) > ((rd_T47 l1 x10_1).f0)) then (impl_partsOk.l0 kj21 l1 l1 (l1.length : Int) (wrap64 (x10_1 + 1)) l0_0) else (some false)) else (some false)) else ((impl_Tree_has.f l0_0 ((rd_T47 l1 x10_1).f2)).bind fun t11=>(if t11 = true then (impl_partsOk.l0 kj21 l1 l1 (l1.length : Int) (wrap64 (x10_1 + 1)) l0_0) else (some false)))) else (none)) else (if ((rd_T47 l1 x10_1).f1) = true then (if ((rd_T47 l1 x10_1).f2) = 0 then (some false) else (some false)) else ((impl_Tree_has.f l0_0 ((rd_T47 l1 x10_1).f2)).bind fun t12=>(if t12 = true then (impl_partsOk.l0 kj21 l1 l1 (l1.length : Int) (wrap64 (x10_1 + 1)) l0_0) else (some false))))) = some r:=by rw [if_neg (show ¬ (false = true) by decide)] at H;exact H
            clear H
            have H:=H1
            clear H1
            by_cases c37 : (wrap64 (x10_1 + 1)) < (l1.length : Int)
            ·rw [if_pos c37] at H
             have c37b0 : decide ((wrap64 (x10_1 + 1)) < (l1.length : Int)) = true:=decide_eq_true c37
             clear c37
             obtain ⟨ji38,hji38⟩ : ∃ j_ : Int,(wrap64 (x10_1 + 1)) = j_:=⟨_,rfl⟩
             replace H : (if 0 ≤ (ji38) then (if ((rd_T47 l1 x10_1).f1) = true then (if ((rd_T47 l1 x10_1).f2) = 0 then (if (((rd_T47 l1 (ji38)).f0) > ((rd_T47 l1 x10_1).f0)) then (impl_partsOk.l0 kj21 l1 l1 (l1.length : Int) ji38 l0_0) else (some false)) else (some false)) else ((impl_Tree_has.f l0_0 ((rd_T47 l1 x10_1).f2)).bind fun t11=>(if t11 = true then (impl_partsOk.l0 kj21 l1 l1 (l1.length : Int) ji38 l0_0) else (some false)))) else (none)) = some r:=by first | (rw [hji38] at H;exact H) | (simp only [hji38] at H ⊢;exact H)
             (try rw [hji38] at c37b0)
             have hji38w : (IntKind.i64.wrap (x10_1 + 1)) = ji38:=(i64_w _).trans hji38
             by_cases c39 : 0 ≤ (ji38)
             ·rw [if_pos c39] at H
              have c39b0 : decide (0 ≤ (ji38)) = true:=decide_eq_true c39
              clear c39
              by_cases c40 : ((rd_T47 l1 x10_1).f1) = true
              ·rw [if_pos c40] at H
               have c40b0 : ((rd_T47 l1 x10_1).f1) = true:=c40
               clear c40
               by_cases c41 : ((rd_T47 l1 x10_1).f2) = 0
               ·rw [if_pos c41] at H
                have c41b0 : (((rd_T47 l1 x10_1).f2) == 0) = true:=beq_iff_eq.mpr c41
                have c41b1 : (((rd_T47 l1 x10_1).f2) != 0) = false:=bne_eq_false_iff_eq.mpr c41
                clear c41
                by_cases c42 : (((rd_T47 l1 (ji38)).f0) > ((rd_T47 l1 x10_1).f0))
                ·rw [if_pos c42] at H
                 have c42b0 : decide (((rd_T47 l1 x10_1).f0) < ((rd_T47 l1 (ji38)).f0)) = true:=decide_eq_true c42
                 clear c42
                 have H':=a0_ H
                 clear H
                 have p10 : 0 ≤ ((ji38) : Int):=of_decide_eq_true (by first | (with_reducible assumption) | assumption)
                 have q10 : (ji38) < (l1.length : Int):=of_decide_eq_true (by first | (with_reducible assumption) | assumption)
                 obtain ⟨ad10,e10,hx10_0,hx10_1,hx10_2,hx10_3⟩:=at_T47 HR1.out (ji38) p10 q10
                 obtain rfl : ad3 = ad10:=(by injection e10)
                 replace hx10_0:=(HB.out.cell (World.block_lt_of_cell? w _ hx10_0)).trans hx10_0
                 replace hx10_1:=(HB.out.cell (World.block_lt_of_cell? w _ hx10_1)).trans hx10_1
                 replace hx10_2:=(HB.out.cell (World.block_lt_of_cell? w _ hx10_2)).trans hx10_2
                 replace hx10_3:=(HB.out.cell (World.block_lt_of_cell? w _ hx10_3)).trans hx10_3
                 replace p10:=eq_true p10
                 replace q10:=eq_true q10
                 have hnb43:=NB4_1.out
                 have hnc43:=NB1_4.out
                 have hcz44_0 : wc.cell? ⟨gb4,0,none⟩ = some (.int .i64 ((rd_T47 l1 x10_1).f0)):=(blk_cell BK4.out 0).trans rfl
                 have hcz44_1 : wc.cell? ⟨gb4,1,none⟩ = some (.bool ((rd_T47 l1 x10_1).f1)):=(blk_cell BK4.out 1).trans rfl
                 have hcz44_2 : wc.cell? ⟨gb4,2,none⟩ = some (.int .i64 ((rd_T47 l1 x10_1).f2)):=(blk_cell BK4.out 2).trans rfl
                 have hcz44_3 : wc.cell? ⟨gb4,3,none⟩ = some (.int .i64 ((rd_T47 l1 x10_1).f3)):=(blk_cell BK4.out 3).trans rfl
                 have hfz44_0:=blk_frozen BK4.out 0
                 have hfz44_1:=blk_frozen BK4.out 1
                 have hfz44_2:=blk_frozen BK4.out 2
                 have hfz44_3:=blk_frozen BK4.out 3
                 go_wp2
                 repeat (go_quiet (fail);try go_wp2)
                 go_roundg kj21
                 case measure=>have:=HK1.out;have:=HJ6.out;have:=HJ21.out;omega
                 case rel=>exact ⟨(ji38),(by first | rfl | (simp;done) | (simp only [← hji38] <;> (first | rfl | simp)) | (simp [*];done)),H',⟨by have:=HK1.out;have:=HJ6.out;have:=HJ21.out;omega⟩,⟨by (with_reducible repeat (first | refine blk_drewN ?_ _ | refine blk_drew ?_ | refine blk_alloc ?_ _));exact BK1.out⟩,⟨hb_⟩⟩
                ·rw [if_neg c42] at H
                 have c42b0 : decide (((rd_T47 l1 x10_1).f0) < ((rd_T47 l1 (ji38)).f0)) = false:=decide_eq_false c42
                 clear c42
                 obtain rfl:=Option.some.inj H
                 have p10 : 0 ≤ ((ji38) : Int):=of_decide_eq_true (by first | (with_reducible assumption) | assumption)
                 have q10 : (ji38) < (l1.length : Int):=of_decide_eq_true (by first | (with_reducible assumption) | assumption)
                 obtain ⟨ad10,e10,hx10_0,hx10_1,hx10_2,hx10_3⟩:=at_T47 HR1.out (ji38) p10 q10
                 obtain rfl : ad3 = ad10:=(by injection e10)
                 replace hx10_0:=(HB.out.cell (World.block_lt_of_cell? w _ hx10_0)).trans hx10_0
                 replace hx10_1:=(HB.out.cell (World.block_lt_of_cell? w _ hx10_1)).trans hx10_1
                 replace hx10_2:=(HB.out.cell (World.block_lt_of_cell? w _ hx10_2)).trans hx10_2
                 replace hx10_3:=(HB.out.cell (World.block_lt_of_cell? w _ hx10_3)).trans hx10_3
                 replace p10:=eq_true p10
                 replace q10:=eq_true q10
                 have hnb45:=NB4_1.out
                 have hnc45:=NB1_4.out
                 have hcz46_0 : wc.cell? ⟨gb4,0,none⟩ = some (.int .i64 ((rd_T47 l1 x10_1).f0)):=(blk_cell BK4.out 0).trans rfl
                 have hcz46_1 : wc.cell? ⟨gb4,1,none⟩ = some (.bool ((rd_T47 l1 x10_1).f1)):=(blk_cell BK4.out 1).trans rfl
                 have hcz46_2 : wc.cell? ⟨gb4,2,none⟩ = some (.int .i64 ((rd_T47 l1 x10_1).f2)):=(blk_cell BK4.out 2).trans rfl
                 have hcz46_3 : wc.cell? ⟨gb4,3,none⟩ = some (.int .i64 ((rd_T47 l1 x10_1).f3)):=(blk_cell BK4.out 3).trans rfl
                 have hfz46_0:=blk_frozen BK4.out 0
                 have hfz46_1:=blk_frozen BK4.out 1
                 have hfz46_2:=blk_frozen BK4.out 2
                 have hfz46_3:=blk_frozen BK4.out 3
                 go_wp2
                 repeat (go_quiet (fail);try go_wp2)
                 go_ret
                 exact ⟨by first | rfl | (simp [errW_none,errW_some] <;> rfl) | (simp only [← hji38];first | rfl | (simp [errW_none,errW_some] <;> rfl)) | (simp [*,errW_none,errW_some] <;> rfl),hb_⟩
               ·rw [if_neg c41] at H
                have c41b0 : (((rd_T47 l1 x10_1).f2) == 0) = false:=beq_eq_false_iff_ne.mpr c41
                have c41b1 : (((rd_T47 l1 x10_1).f2) != 0) = true:=bne_iff_ne.mpr c41
                obtain rfl:=Option.some.inj H
                have p10 : 0 ≤ ((ji38) : Int):=of_decide_eq_true (by first | (with_reducible assumption) | assumption)
                have q10 : (ji38) < (l1.length : Int):=of_decide_eq_true (by first | (with_reducible assumption) | assumption)
                obtain ⟨ad10,e10,hx10_0,hx10_1,hx10_2,hx10_3⟩:=at_T47 HR1.out (ji38) p10 q10
                obtain rfl : ad3 = ad10:=(by injection e10)
                replace hx10_0:=(HB.out.cell (World.block_lt_of_cell? w _ hx10_0)).trans hx10_0
                replace hx10_1:=(HB.out.cell (World.block_lt_of_cell? w _ hx10_1)).trans hx10_1
                replace hx10_2:=(HB.out.cell (World.block_lt_of_cell? w _ hx10_2)).trans hx10_2
                replace hx10_3:=(HB.out.cell (World.block_lt_of_cell? w _ hx10_3)).trans hx10_3
                replace p10:=eq_true p10
                replace q10:=eq_true q10
                have hnb47:=NB4_1.out
                have hnc47:=NB1_4.out
                have hcz48_0 : wc.cell? ⟨gb4,0,none⟩ = some (.int .i64 ((rd_T47 l1 x10_1).f0)):=(blk_cell BK4.out 0).trans rfl
                have hcz48_1 : wc.cell? ⟨gb4,1,none⟩ = some (.bool ((rd_T47 l1 x10_1).f1)):=(blk_cell BK4.out 1).trans rfl
                have hcz48_2 : wc.cell? ⟨gb4,2,none⟩ = some (.int .i64 ((rd_T47 l1 x10_1).f2)):=(blk_cell BK4.out 2).trans rfl
                have hcz48_3 : wc.cell? ⟨gb4,3,none⟩ = some (.int .i64 ((rd_T47 l1 x10_1).f3)):=(blk_cell BK4.out 3).trans rfl
                have hfz48_0:=blk_frozen BK4.out 0
                have hfz48_1:=blk_frozen BK4.out 1
                have hfz48_2:=blk_frozen BK4.out 2
                have hfz48_3:=blk_frozen BK4.out 3
                go_wp2
                repeat (go_quiet (fail);try go_wp2)
                go_ret
                exact ⟨by first | rfl | (simp [errW_none,errW_some] <;> rfl) | (simp only [← hji38];first | rfl | (simp [errW_none,errW_some] <;> rfl)) | (simp [*,errW_none,errW_some] <;> rfl),hb_⟩
              ·rw [if_neg c40] at H
               have c40b0 : ((rd_T47 l1 x10_1).f1) = false:=by simpa using c40
               clear c40
               replace H:=Option.bind_eq_some_iff.mp H
               obtain ⟨t11,A490,H⟩:=H
               try dsimp only at H
               have A49:=a0_ A490
               clear A490
               by_cases c50 : t11 = true
               ·subst c50
                have H1 : (impl_partsOk.l0 kj21 l1 l1 (l1.length : Int) ji38 l0_0) = some r:=by rw [if_pos rfl] at H;exact H
                clear H
                have H:=H1
                clear H1
                have H':=a0_ H
                clear H
                have p10 : 0 ≤ ((ji38) : Int):=of_decide_eq_true (by first | (with_reducible assumption) | assumption)
                have q10 : (ji38) < (l1.length : Int):=of_decide_eq_true (by first | (with_reducible assumption) | assumption)
                obtain ⟨ad10,e10,hx10_0,hx10_1,hx10_2,hx10_3⟩:=at_T47 HR1.out (ji38) p10 q10
                obtain rfl : ad3 = ad10:=(by injection e10)
                replace hx10_0:=(HB.out.cell (World.block_lt_of_cell? w _ hx10_0)).trans hx10_0
                replace hx10_1:=(HB.out.cell (World.block_lt_of_cell? w _ hx10_1)).trans hx10_1
                replace hx10_2:=(HB.out.cell (World.block_lt_of_cell? w _ hx10_2)).trans hx10_2
                replace hx10_3:=(HB.out.cell (World.block_lt_of_cell? w _ hx10_3)).trans hx10_3
                replace p10:=eq_true p10
                replace q10:=eq_true q10
                have hnb51:=NB4_1.out
                have hnc51:=NB1_4.out
                have hcz52_0 : wc.cell? ⟨gb4,0,none⟩ = some (.int .i64 ((rd_T47 l1 x10_1).f0)):=(blk_cell BK4.out 0).trans rfl
                have hcz52_1 : wc.cell? ⟨gb4,1,none⟩ = some (.bool ((rd_T47 l1 x10_1).f1)):=(blk_cell BK4.out 1).trans rfl
                have hcz52_2 : wc.cell? ⟨gb4,2,none⟩ = some (.int .i64 ((rd_T47 l1 x10_1).f2)):=(blk_cell BK4.out 2).trans rfl
                have hcz52_3 : wc.cell? ⟨gb4,3,none⟩ = some (.int .i64 ((rd_T47 l1 x10_1).f3)):=(blk_cell BK4.out 3).trans rfl
                have hfz52_0:=blk_frozen BK4.out 0
                have hfz52_1:=blk_frozen BK4.out 1
                have hfz52_2:=blk_frozen BK4.out 2
                have hfz52_3:=blk_frozen BK4.out 3
                have hcz53_0 : wc.cell? ⟨gb1,0,none⟩ = some (.slice A0_0 l0_0.length c0_0):=(blk_cell BK1.out 0).trans rfl
                have hfz53_0:=blk_frozen BK1.out 0
                go_wp2_with (first | (go_at_call 44;(with_reducible refine (impl_Tree_has.calls _ _ l0_0 ((rd_T47 l1 x10_1).f2) true _ ?side1 ?side2 A49.out).mono ?_);(case side1=>exact cc_ (Kd.C_below HR0_0.out HB.out));(case side2=>exact HC0_0.out);rintro e w54 ⟨rfl,hb⟩;replace BK1:=kb_ BK1 hb;replace BK4:=kb_ BK4 hb;replace HB:=a0_ (below_step hb_ hb);(try clear hb);(try clear hb2);(try clear hk);(try clear hi)))
                repeat (go_quiet (first | (go_at_call 44;(with_reducible refine (impl_Tree_has.calls _ _ l0_0 ((rd_T47 l1 x10_1).f2) true _ ?side1 ?side2 A49.out).mono ?_);(case side1=>exact cc_ (Kd.C_below HR0_0.out HB.out));(case side2=>exact HC0_0.out);rintro e w54 ⟨rfl,hb⟩;replace BK1:=kb_ BK1 hb;replace BK4:=kb_ BK4 hb;replace HB:=a0_ (below_step hb_ hb);(try clear hb);(try clear hb2);(try clear hk);(try clear hi)));try go_wp2_with (first | (go_at_call 44;(with_reducible refine (impl_Tree_has.calls _ _ l0_0 ((rd_T47 l1 x10_1).f2) true _ ?side1 ?side2 A49.out).mono ?_);(case side1=>exact cc_ (Kd.C_below HR0_0.out HB.out));(case side2=>exact HC0_0.out);rintro e w54 ⟨rfl,hb⟩;replace BK1:=kb_ BK1 hb;replace BK4:=kb_ BK4 hb;replace HB:=a0_ (below_step hb_ hb);(try clear hb);(try clear hb2);(try clear hk);(try clear hi))))
                go_roundg kj21
                case measure=>have:=HK1.out;have:=HJ6.out;have:=HJ21.out;omega
                case rel=>exact ⟨(ji38),(by first | rfl | (simp;done) | (simp only [← hji38] <;> (first | rfl | simp)) | (simp [*];done)),H',⟨by have:=HK1.out;have:=HJ6.out;have:=HJ21.out;omega⟩,⟨by (with_reducible repeat (first | refine blk_drewN ?_ _ | refine blk_drew ?_ | refine blk_alloc ?_ _));exact BK1.out⟩,⟨hb_⟩⟩
               ·replace c50:=Bool.eq_false_iff.mpr c50
                subst c50
                have H1 : (some false) = some r:=by rw [if_neg (show ¬ (false = true) by decide)] at H;exact H
                clear H
                have H:=H1
                clear H1
                obtain rfl:=Option.some.inj H
                have p10 : 0 ≤ ((ji38) : Int):=of_decide_eq_true (by first | (with_reducible assumption) | assumption)
                have q10 : (ji38) < (l1.length : Int):=of_decide_eq_true (by first | (with_reducible assumption) | assumption)
                obtain ⟨ad10,e10,hx10_0,hx10_1,hx10_2,hx10_3⟩:=at_T47 HR1.out (ji38) p10 q10
                obtain rfl : ad3 = ad10:=(by injection e10)
                replace hx10_0:=(HB.out.cell (World.block_lt_of_cell? w _ hx10_0)).trans hx10_0
                replace hx10_1:=(HB.out.cell (World.block_lt_of_cell? w _ hx10_1)).trans hx10_1
                replace hx10_2:=(HB.out.cell (World.block_lt_of_cell? w _ hx10_2)).trans hx10_2
                replace hx10_3:=(HB.out.cell (World.block_lt_of_cell? w _ hx10_3)).trans hx10_3
                replace p10:=eq_true p10
                replace q10:=eq_true q10
                have hnb55:=NB4_1.out
                have hnc55:=NB1_4.out
                have hcz56_0 : wc.cell? ⟨gb4,0,none⟩ = some (.int .i64 ((rd_T47 l1 x10_1).f0)):=(blk_cell BK4.out 0).trans rfl
                have hcz56_1 : wc.cell? ⟨gb4,1,none⟩ = some (.bool ((rd_T47 l1 x10_1).f1)):=(blk_cell BK4.out 1).trans rfl
                have hcz56_2 : wc.cell? ⟨gb4,2,none⟩ = some (.int .i64 ((rd_T47 l1 x10_1).f2)):=(blk_cell BK4.out 2).trans rfl
                have hcz56_3 : wc.cell? ⟨gb4,3,none⟩ = some (.int .i64 ((rd_T47 l1 x10_1).f3)):=(blk_cell BK4.out 3).trans rfl
                have hfz56_0:=blk_frozen BK4.out 0
                have hfz56_1:=blk_frozen BK4.out 1
                have hfz56_2:=blk_frozen BK4.out 2
                have hfz56_3:=blk_frozen BK4.out 3
                have hcz57_0 : wc.cell? ⟨gb1,0,none⟩ = some (.slice A0_0 l0_0.length c0_0):=(blk_cell BK1.out 0).trans rfl
                have hfz57_0:=blk_frozen BK1.out 0
                go_wp2_with (first | (go_at_call 44;(with_reducible refine (impl_Tree_has.calls _ _ l0_0 ((rd_T47 l1 x10_1).f2) false _ ?side1 ?side2 A49.out).mono ?_);(case side1=>exact cc_ (Kd.C_below HR0_0.out HB.out));(case side2=>exact HC0_0.out);rintro e w58 ⟨rfl,hb⟩;replace BK1:=kb_ BK1 hb;replace BK4:=kb_ BK4 hb;replace HB:=a0_ (below_step hb_ hb);(try clear hb);(try clear hb2);(try clear hk);(try clear hi)))
                repeat (go_quiet (first | (go_at_call 44;(with_reducible refine (impl_Tree_has.calls _ _ l0_0 ((rd_T47 l1 x10_1).f2) false _ ?side1 ?side2 A49.out).mono ?_);(case side1=>exact cc_ (Kd.C_below HR0_0.out HB.out));(case side2=>exact HC0_0.out);rintro e w58 ⟨rfl,hb⟩;replace BK1:=kb_ BK1 hb;replace BK4:=kb_ BK4 hb;replace HB:=a0_ (below_step hb_ hb);(try clear hb);(try clear hb2);(try clear hk);(try clear hi)));try go_wp2_with (first | (go_at_call 44;(with_reducible refine (impl_Tree_has.calls _ _ l0_0 ((rd_T47 l1 x10_1).f2) false _ ?side1 ?side2 A49.out).mono ?_);(case side1=>exact cc_ (Kd.C_below HR0_0.out HB.out));(case side2=>exact HC0_0.out);rintro e w58 ⟨rfl,hb⟩;replace BK1:=kb_ BK1 hb;replace BK4:=kb_ BK4 hb;replace HB:=a0_ (below_step hb_ hb);(try clear hb);(try clear hb2);(try clear hk);(try clear hi))))
                go_ret
                exact ⟨by first | rfl | (simp [errW_none,errW_some] <;> rfl) | (simp only [← hji38];first | rfl | (simp [errW_none,errW_some] <;> rfl)) | (simp [*,errW_none,errW_some] <;> rfl),hb_⟩
             ·rw [if_neg c39] at H
              exact absurd H (by simp)
            ·rw [if_neg c37] at H
             have c37b0 : decide ((wrap64 (x10_1 + 1)) < (l1.length : Int)) = false:=decide_eq_false c37
             clear c37
             by_cases c59 : ((rd_T47 l1 x10_1).f1) = true
             ·rw [if_pos c59] at H
              have c59b0 : ((rd_T47 l1 x10_1).f1) = true:=c59
              clear c59
              by_cases c60 : ((rd_T47 l1 x10_1).f2) = 0
              ·rw [if_pos c60] at H
               have c60b0 : (((rd_T47 l1 x10_1).f2) == 0) = true:=beq_iff_eq.mpr c60
               have c60b1 : (((rd_T47 l1 x10_1).f2) != 0) = false:=bne_eq_false_iff_eq.mpr c60
               clear c60
               obtain rfl:=Option.some.inj H
               have hnb61:=NB4_1.out
               have hnc61:=NB1_4.out
               have hcz62_0 : wc.cell? ⟨gb4,0,none⟩ = some (.int .i64 ((rd_T47 l1 x10_1).f0)):=(blk_cell BK4.out 0).trans rfl
               have hcz62_1 : wc.cell? ⟨gb4,1,none⟩ = some (.bool ((rd_T47 l1 x10_1).f1)):=(blk_cell BK4.out 1).trans rfl
               have hcz62_2 : wc.cell? ⟨gb4,2,none⟩ = some (.int .i64 ((rd_T47 l1 x10_1).f2)):=(blk_cell BK4.out 2).trans rfl
               have hcz62_3 : wc.cell? ⟨gb4,3,none⟩ = some (.int .i64 ((rd_T47 l1 x10_1).f3)):=(blk_cell BK4.out 3).trans rfl
               have hfz62_0:=blk_frozen BK4.out 0
               have hfz62_1:=blk_frozen BK4.out 1
               have hfz62_2:=blk_frozen BK4.out 2
               have hfz62_3:=blk_frozen BK4.out 3
               go_wp2
               repeat (go_quiet (fail);try go_wp2)
               go_ret
               exact ⟨by first | rfl | (simp [errW_none,errW_some] <;> rfl) | (simp [*,errW_none,errW_some] <;> rfl),hb_⟩
              ·rw [if_neg c60] at H
               have c60b0 : (((rd_T47 l1 x10_1).f2) == 0) = false:=beq_eq_false_iff_ne.mpr c60
               have c60b1 : (((rd_T47 l1 x10_1).f2) != 0) = true:=bne_iff_ne.mpr c60
               obtain rfl:=Option.some.inj H
               have hnb63:=NB4_1.out
               have hnc63:=NB1_4.out
               have hcz64_0 : wc.cell? ⟨gb4,0,none⟩ = some (.int .i64 ((rd_T47 l1 x10_1).f0)):=(blk_cell BK4.out 0).trans rfl
               have hcz64_1 : wc.cell? ⟨gb4,1,none⟩ = some (.bool ((rd_T47 l1 x10_1).f1)):=(blk_cell BK4.out 1).trans rfl
               have hcz64_2 : wc.cell? ⟨gb4,2,none⟩ = some (.int .i64 ((rd_T47 l1 x10_1).f2)):=(blk_cell BK4.out 2).trans rfl
               have hcz64_3 : wc.cell? ⟨gb4,3,none⟩ = some (.int .i64 ((rd_T47 l1 x10_1).f3)):=(blk_cell BK4.out 3).trans rfl
               have hfz64_0:=blk_frozen BK4.out 0
               have hfz64_1:=blk_frozen BK4.out 1
               have hfz64_2:=blk_frozen BK4.out 2
               have hfz64_3:=blk_frozen BK4.out 3
               go_wp2
               repeat (go_quiet (fail);try go_wp2)
               go_ret
               exact ⟨by first | rfl | (simp [errW_none,errW_some] <;> rfl) | (simp [*,errW_none,errW_some] <;> rfl),hb_⟩
             ·rw [if_neg c59] at H
              have c59b0 : ((rd_T47 l1 x10_1).f1) = false:=by simpa using c59
              clear c59
              replace H:=Option.bind_eq_some_iff.mp H
              obtain ⟨t12,A650,H⟩:=H
              try dsimp only at H
              have A65:=a0_ A650
              clear A650
              by_cases c66 : t12 = true
              ·subst c66
               have H1 : (impl_partsOk.l0 kj21 l1 l1 (l1.length : Int) (wrap64 (x10_1 + 1)) l0_0) = some r:=by rw [if_pos rfl] at H;exact H
               clear H
               have H:=H1
               clear H1
               have H':=a0_ H
               clear H
               have hnb67:=NB4_1.out
               have hnc67:=NB1_4.out
               have hcz68_0 : wc.cell? ⟨gb4,0,none⟩ = some (.int .i64 ((rd_T47 l1 x10_1).f0)):=(blk_cell BK4.out 0).trans rfl
               have hcz68_1 : wc.cell? ⟨gb4,1,none⟩ = some (.bool ((rd_T47 l1 x10_1).f1)):=(blk_cell BK4.out 1).trans rfl
               have hcz68_2 : wc.cell? ⟨gb4,2,none⟩ = some (.int .i64 ((rd_T47 l1 x10_1).f2)):=(blk_cell BK4.out 2).trans rfl
               have hcz68_3 : wc.cell? ⟨gb4,3,none⟩ = some (.int .i64 ((rd_T47 l1 x10_1).f3)):=(blk_cell BK4.out 3).trans rfl
               have hfz68_0:=blk_frozen BK4.out 0
               have hfz68_1:=blk_frozen BK4.out 1
               have hfz68_2:=blk_frozen BK4.out 2
               have hfz68_3:=blk_frozen BK4.out 3
               have hcz69_0 : wc.cell? ⟨gb1,0,none⟩ = some (.slice A0_0 l0_0.length c0_0):=(blk_cell BK1.out 0).trans rfl
               have hfz69_0:=blk_frozen BK1.out 0
               go_wp2_with (first | (go_at_call 44;(with_reducible refine (impl_Tree_has.calls _ _ l0_0 ((rd_T47 l1 x10_1).f2) true _ ?side1 ?side2 A65.out).mono ?_);(case side1=>exact cc_ (Kd.C_below HR0_0.out HB.out));(case side2=>exact HC0_0.out);rintro e w70 ⟨rfl,hb⟩;replace BK1:=kb_ BK1 hb;replace BK4:=kb_ BK4 hb;replace HB:=a0_ (below_step hb_ hb);(try clear hb);(try clear hb2);(try clear hk);(try clear hi)))
               repeat (go_quiet (first | (go_at_call 44;(with_reducible refine (impl_Tree_has.calls _ _ l0_0 ((rd_T47 l1 x10_1).f2) true _ ?side1 ?side2 A65.out).mono ?_);(case side1=>exact cc_ (Kd.C_below HR0_0.out HB.out));(case side2=>exact HC0_0.out);rintro e w70 ⟨rfl,hb⟩;replace BK1:=kb_ BK1 hb;replace BK4:=kb_ BK4 hb;replace HB:=a0_ (below_step hb_ hb);(try clear hb);(try clear hb2);(try clear hk);(try clear hi)));try go_wp2_with (first | (go_at_call 44;(with_reducible refine (impl_Tree_has.calls _ _ l0_0 ((rd_T47 l1 x10_1).f2) true _ ?side1 ?side2 A65.out).mono ?_);(case side1=>exact cc_ (Kd.C_below HR0_0.out HB.out));(case side2=>exact HC0_0.out);rintro e w70 ⟨rfl,hb⟩;replace BK1:=kb_ BK1 hb;replace BK4:=kb_ BK4 hb;replace HB:=a0_ (below_step hb_ hb);(try clear hb);(try clear hb2);(try clear hk);(try clear hi))))
               go_roundg kj21
               case measure=>have:=HK1.out;have:=HJ6.out;have:=HJ21.out;omega
               case rel=>exact ⟨(wrap64 (x10_1 + 1)),(by first | rfl | (simp;done) | (simp [*];done)),H',⟨by have:=HK1.out;have:=HJ6.out;have:=HJ21.out;omega⟩,⟨by (with_reducible repeat (first | refine blk_drewN ?_ _ | refine blk_drew ?_ | refine blk_alloc ?_ _));exact BK1.out⟩,⟨hb_⟩⟩
              ·replace c66:=Bool.eq_false_iff.mpr c66
               subst c66
               have H1 : (some false) = some r:=by rw [if_neg (show ¬ (false = true) by decide)] at H;exact H
               clear H
               have H:=H1
               clear H1
               obtain rfl:=Option.some.inj H
               have hnb71:=NB4_1.out
               have hnc71:=NB1_4.out
               have hcz72_0 : wc.cell? ⟨gb4,0,none⟩ = some (.int .i64 ((rd_T47 l1 x10_1).f0)):=(blk_cell BK4.out 0).trans rfl
               have hcz72_1 : wc.cell? ⟨gb4,1,none⟩ = some (.bool ((rd_T47 l1 x10_1).f1)):=(blk_cell BK4.out 1).trans rfl
               have hcz72_2 : wc.cell? ⟨gb4,2,none⟩ = some (.int .i64 ((rd_T47 l1 x10_1).f2)):=(blk_cell BK4.out 2).trans rfl
               have hcz72_3 : wc.cell? ⟨gb4,3,none⟩ = some (.int .i64 ((rd_T47 l1 x10_1).f3)):=(blk_cell BK4.out 3).trans rfl
               have hfz72_0:=blk_frozen BK4.out 0
               have hfz72_1:=blk_frozen BK4.out 1
               have hfz72_2:=blk_frozen BK4.out 2
               have hfz72_3:=blk_frozen BK4.out 3
               have hcz73_0 : wc.cell? ⟨gb1,0,none⟩ = some (.slice A0_0 l0_0.length c0_0):=(blk_cell BK1.out 0).trans rfl
               have hfz73_0:=blk_frozen BK1.out 0
               go_wp2_with (first | (go_at_call 44;(with_reducible refine (impl_Tree_has.calls _ _ l0_0 ((rd_T47 l1 x10_1).f2) false _ ?side1 ?side2 A65.out).mono ?_);(case side1=>exact cc_ (Kd.C_below HR0_0.out HB.out));(case side2=>exact HC0_0.out);rintro e w74 ⟨rfl,hb⟩;replace BK1:=kb_ BK1 hb;replace BK4:=kb_ BK4 hb;replace HB:=a0_ (below_step hb_ hb);(try clear hb);(try clear hb2);(try clear hk);(try clear hi)))
               repeat (go_quiet (first | (go_at_call 44;(with_reducible refine (impl_Tree_has.calls _ _ l0_0 ((rd_T47 l1 x10_1).f2) false _ ?side1 ?side2 A65.out).mono ?_);(case side1=>exact cc_ (Kd.C_below HR0_0.out HB.out));(case side2=>exact HC0_0.out);rintro e w74 ⟨rfl,hb⟩;replace BK1:=kb_ BK1 hb;replace BK4:=kb_ BK4 hb;replace HB:=a0_ (below_step hb_ hb);(try clear hb);(try clear hb2);(try clear hk);(try clear hi)));try go_wp2_with (first | (go_at_call 44;(with_reducible refine (impl_Tree_has.calls _ _ l0_0 ((rd_T47 l1 x10_1).f2) false _ ?side1 ?side2 A65.out).mono ?_);(case side1=>exact cc_ (Kd.C_below HR0_0.out HB.out));(case side2=>exact HC0_0.out);rintro e w74 ⟨rfl,hb⟩;replace BK1:=kb_ BK1 hb;replace BK4:=kb_ BK4 hb;replace HB:=a0_ (below_step hb_ hb);(try clear hb);(try clear hb2);(try clear hk);(try clear hi))))
               go_ret
               exact ⟨by first | rfl | (simp [errW_none,errW_some] <;> rfl) | (simp [*,errW_none,errW_some] <;> rfl),hb_⟩
     ·rw [if_neg c6] at H
      exact absurd H (by simp)
    ·rw [if_neg c5] at H
     exact absurd H (by simp)
   ·rw [if_neg c4] at H
    have c4b0 : decide (x10_1 < (l1.length : Int)) = false:=decide_eq_false c4
    clear c4
    replace H:=Option.bind_eq_some_iff.mp H
    obtain ⟨t2,A750,H⟩:=H
    replace H : (some t2) = some r:=H
    have A75:=a0_ A750
    clear A750
    obtain rfl:=Option.some.inj H
    go_wp2_with (first | (go_at_call 70;(with_reducible refine (impl_within.calls (l1.length : Int) 1 16 t2 _ A75.out).mono ?_);rintro e w' ⟨rfl,⟨nd,rfl⟩⟩;(try first | exact ⟨rfl,_,World.drewN_drewN _ _ _⟩ | exact ⟨rfl,_,Eq.trans (World.drewN_drewN _ _ _) (congrArg (World.drewN _) (Nat.add_assoc _ _ _))⟩)))
    repeat (go_quiet (first | (go_at_call 70;(with_reducible refine (impl_within.calls (l1.length : Int) 1 16 t2 _ A75.out).mono ?_);rintro e w' ⟨rfl,⟨nd,rfl⟩⟩;(try first | exact ⟨rfl,_,World.drewN_drewN _ _ _⟩ | exact ⟨rfl,_,Eq.trans (World.drewN_drewN _ _ _) (congrArg (World.drewN _) (Nat.add_assoc _ _ _))⟩)));try go_wp2_with (first | (go_at_call 70;(with_reducible refine (impl_within.calls (l1.length : Int) 1 16 t2 _ A75.out).mono ?_);rintro e w' ⟨rfl,⟨nd,rfl⟩⟩;(try first | exact ⟨rfl,_,World.drewN_drewN _ _ _⟩ | exact ⟨rfl,_,Eq.trans (World.drewN_drewN _ _ _) (congrArg (World.drewN _) (Nat.add_assoc _ _ _))⟩))))
    go_ret
    exact ⟨by first | rfl | (simp [errW_none,errW_some] <;> rfl) | (simp [*,errW_none,errW_some] <;> rfl),hb_⟩
theorem impl_partsOk_j2 (t : List Cls) (g : List Prt) (ht : t.length ≤ 9223372036854775807) (hl : g.length ≤ 9223372036854775807) (i : Nat) (hi : i < g.length) (p : Prt) (hp : g.getD i z47 = p) (b R : Bool)
  (hn : b = false → okB t g i p = true → Ev (fun k=>impl_partsOk.l0 k g g (g.length : Int) ((i + 1 : Nat) : Int) t) R) : Ev (fun k=>impl_partsOk.j2 k g (i : Int) g (g.length : Int) (i : Int) b t p.f0 p.f1 p.f2 p.f3) (!b && (okB t g i p && R)):=by
 have hw : wrap64 ((i : Int) + 1) = ((i + 1 : Nat) : Int):=by rw [wrap_succ (i:=(i : Int)) (n:=g.length) (by omega) (by omega) (by omega)];rfl
 have hrd : rd_T47 g ((i + 1 : Nat) : Int) = g.getD (i + 1) z47:=by simp [rd_T47]
 refine Ev.succ ?_
 simp only [impl_partsOk.j2,hw,hrd]
 cases b with
 | true=>exact Ev.pos rfl (Ev.const rfl)
 | false =>
  refine Ev.neg (by simp) ?_
  rw [Bool.not_false,Bool.true_and]
  replace hn:=hn rfl
  unfold okB at hn ⊢
  by_cases hlt : ((i + 1 : Nat) : Int) < (g.length : Int)
  ·refine Ev.pos hlt (Ev.pos (by omega) ?_)
   cases h1 : p.f1 with
   | true =>
    refine Ev.pos rfl ?_
    rw [h1,if_pos rfl] at hn
    rw [if_pos rfl]
    by_cases h2 : p.f2 = 0
    ·refine Ev.pos h2 ?_
     rw [beq_iff_eq.2 h2,Bool.true_and] at hn ⊢
     unfold belowB at hn ⊢
     rw [hp,decide_eq_true (show i + 1 < g.length by omega),Bool.true_and] at hn ⊢
     by_cases h3 : (g.getD (i + 1) z47).f0 > p.f0
     ·rw [decide_eq_true (show p.f0 < (g.getD (i + 1) z47).f0 from h3)] at hn ⊢
      rw [Bool.true_and]
      exact Ev.pos h3 (hn rfl)
     ·rw [decide_eq_false (show ¬ p.f0 < (g.getD (i + 1) z47).f0 from h3),Bool.false_and]
      exact Ev.neg h3 (Ev.const rfl)
    ·refine Ev.neg h2 ?_
     rw [beq_eq_false_iff_ne.2 h2]
     exact Ev.const rfl
   | false =>
    refine Ev.neg (by simp) ?_
    rw [h1,if_neg (by simp)] at hn
    rw [if_neg (by simp)]
    refine Ev.bind (Ev.const (impl_Tree_has_ev t p.f2 ht)) ?_
    cases h4 : hasC t p.f2 with
    | true=>exact Ev.pos rfl (hn h4)
    | false=>exact Ev.neg (by simp) (Ev.const rfl)
  ·refine Ev.neg hlt ?_
   cases h1 : p.f1 with
   | true =>
    refine Ev.pos rfl ?_
    rw [if_pos rfl]
    unfold belowB
    rw [decide_eq_false (show ¬ i + 1 < g.length by omega),Bool.false_and,Bool.and_false,Bool.false_and]
    by_cases h2 : p.f2 = 0
    ·exact Ev.pos h2 (Ev.const rfl)
    ·exact Ev.neg h2 (Ev.const rfl)
   | false =>
    refine Ev.neg (by simp) ?_
    rw [h1,if_neg (by simp)] at hn
    rw [if_neg (by simp)]
    refine Ev.bind (Ev.const (impl_Tree_has_ev t p.f2 ht)) ?_
    cases h4 : hasC t p.f2 with
    | true=>exact Ev.pos rfl (hn h4)
    | false=>exact Ev.neg (by simp) (Ev.const rfl)
theorem impl_partsOk_j1 (t : List Cls) (g : List Prt) (ht : t.length ≤ 9223372036854775807) (hl : g.length ≤ 9223372036854775807) (i : Nat) (hi : i < g.length) (p : Prt) (hp : g.getD i z47 = p) (b R : Bool) (hq : 0 < i → 0 ≤ (g.getD (i - 1) z47).f0 ∧ (g.getD (i - 1) z47).f0 ≤ 5)
  (hn : b = false → okU g i p = true → okB t g i p = true → Ev (fun k=>impl_partsOk.l0 k g g (g.length : Int) ((i + 1 : Nat) : Int) t) R) : Ev (fun k=>impl_partsOk.j1 k g (i : Int) g (g.length : Int) (i : Int) b t p.f0 p.f1 p.f2 p.f3) (!b && (okU g i p && (okB t g i p && R))):=by
 refine Ev.succ ?_
 simp only [impl_partsOk.j1]
 cases b with
 | true=>exact Ev.pos rfl (Ev.const rfl)
 | false =>
  refine Ev.neg (by simp) ?_
  rw [Bool.not_false,Bool.true_and]
  replace hn:=hn rfl
  unfold okU at hn ⊢
  by_cases h0 : i = 0
  ·refine Ev.neg (by omega) ?_
   rw [if_pos h0] at hn
   rw [if_pos h0,Bool.true_and]
   simpa using impl_partsOk_j2 t g ht hl i hi p hp false R (fun _=>hn rfl)
  ·have hb:=hq (by omega)
   have hw : wrap64 ((i : Int) - 1) = ((i - 1 : Nat) : Int):=by rw [wrap_pred (by omega) (by omega)];omega
   have hrd : rd_T47 g ((i - 1 : Nat) : Int) = g.getD (i - 1) z47:=by simp [rd_T47]
   rw [if_neg h0] at hn ⊢
   simp only [hw,hrd]
   generalize g.getD (i - 1) z47 = q at hb hn ⊢
   rw [wrap_in (i:=q.f0 + 1) (by omega) (by omega)]
   refine Ev.pos (by omega) (Ev.pos (by omega) (Ev.pos (by omega) ?_))
   by_cases h1 : p.f0 > q.f0
   ·refine Ev.pos h1 ?_
    rw [decide_eq_true (show q.f0 < p.f0 from h1),Bool.true_and] at hn ⊢
    cases hq1 : q.f1 with
    | true =>
     refine Ev.pos rfl ?_
     rw [hq1] at hn
     have:=impl_partsOk_j2 t g ht hl i hi p hp (!(p.f0 == q.f0 + 1)) R (fun e=>hn (by rw [Bool.true_and,e];rfl))
     simpa using this
    | false =>
     refine Ev.neg (by simp) ?_
     have:=impl_partsOk_j2 t g ht hl i hi p hp (!false) R (fun e=>by cases e)
     simpa using this
   ·refine Ev.neg h1 ?_
    rw [decide_eq_false (show ¬ q.f0 < p.f0 from h1),Bool.false_and] at hn ⊢
    simpa using impl_partsOk_j2 t g ht hl i hi p hp false R (fun _=>hn rfl)
theorem impl_partsOk_l0 (t : List Cls) (g : List Prt) (ht : t.length ≤ 9223372036854775807) (hl : g.length ≤ 9223372036854775807) : ∀ d i,i + d = g.length → (0 < i → okP t g (i - 1) (g.getD (i - 1) z47) = true) →
  Ev (fun k=>impl_partsOk.l0 k g g (g.length : Int) (i : Int) t) ((List.range' i d).all (fun i=>okP t g i (g.getD i z47)) && (decide (1 ≤ g.length) && decide (g.length ≤ 16))):=by
 intro d
 induction d with
 | zero =>
  intro i hi _
  refine Ev.succ ?_
  simp only [impl_partsOk.l0]
  refine Ev.neg (by omega) (Ev.bind (Ev.const (impl_within_ev _ _ _)) ?_)
  refine Ev.const ?_
  simp
  congr 1 <;> exact decide_eq_decide.2 (by omega)
 | succ d ih =>
  intro i hi hA
  have hlt : i < g.length:=by omega
  have hrd : rd_T47 g (i : Int) = g.getD i z47:=by simp [rd_T47]
  rw [List.range'_succ,List.all_cons]
  by_cases hok : okP t g i (g.getD i z47) = true
  ·have hn:=ih (i + 1) (by omega) (fun _=>hok)
   have hj:=fun b=>impl_partsOk_j1 t g ht hl i hlt _ rfl b _ (fun h=>okP_depth (hA h)) (fun _ _ _=>hn)
   rw [hok,Bool.true_and]
   rw [okP_eq] at hok
   simp only [Bool.and_eq_true] at hok
   obtain ⟨h1,h2,h3,h4,h5⟩:=hok
   refine Ev.succ ?_
   simp only [impl_partsOk.l0,hrd,impl_codeOk_ev,impl_within_ev,Option.bind_some]
   refine Ev.pos (by omega) (Ev.pos (by omega) (Ev.pos (by omega) (Ev.pos (by simpa using h1) (Ev.pos (by simpa using h2) ?_))))
   have:=hj (((g.getD i z47).f0 == 0) != ((i : Int) == 0))
   rw [h3,h4,h5,Bool.true_and,Bool.true_and,Bool.true_and] at this
   exact this
  ·have hok' : okP t g i (g.getD i z47) = false:=by simpa using hok
   rw [hok',Bool.false_and,Bool.false_and]
   have hj:=fun b (hb : b = false → okU g i (g.getD i z47) = true → okB t g i (g.getD i z47) = true → False)=>impl_partsOk_j1 t g ht hl i hlt _ rfl b false (fun h=>okP_depth (hA h)) (fun h1 h2 h3=>(hb h1 h2 h3).elim)
   simp only [Bool.and_false] at hj
   refine Ev.succ ?_
   simp only [impl_partsOk.l0,hrd,impl_codeOk_ev,impl_within_ev,Option.bind_some]
   refine Ev.pos (by omega) (Ev.pos (by omega) (Ev.pos (by omega) ?_))
   rw [okP_eq] at hok'
   by_cases h1 : (decide (0 ≤ (g.getD i z47).f3) && decide ((g.getD i z47).f3 ≤ 99)) = true
   ·refine Ev.pos h1 ?_
    rw [h1,Bool.true_and] at hok'
    by_cases h2 : (decide (0 ≤ (g.getD i z47).f0) && decide ((g.getD i z47).f0 ≤ 5)) = true
    ·refine Ev.pos h2 (hj _ (fun h3 h4 h5=>?_))
     rw [h2,h3,h4,h5] at hok'
     cases hok'
    ·exact Ev.neg h2 (hj true (fun h=>by cases h))
   ·exact Ev.neg h1 (hj true (fun h=>by cases h))
end Go.Proofs.Ytfphcdbnnienhaa.P
namespace Go.Proofs.Ytfphcdbnnienhaa.P
open Go.RowKit Go.Proofs.YtfphcdbnnienhaaW.PrintWords Go.Proofs.YtfphcdbnnienhaaW.PrintLast Go.Proofs.YtfphcdbnnienhaaW.PrintMore
attribute [local go_sem] max2_int min2_int max_two min_two max_three min_three max_four min_four
set_option linter.unusedVariables false
set_option linter.unusedSimpArgs false
def impl_ValidGroup.f (k : Nat) (l0_0 : List (S85)) (l1 : List (S47)) : Option (Bool):=(impl_ValidTree.f l0_0).bind fun t2=>(if t2 = true then ((impl_partsOk.f k l0_0 l1).bind fun t3=>(some t3)) else (some false))
theorem impl_ValidGroup.mono : ∀ a0 a1 k,LeO (impl_ValidGroup.f k a0 a1) (impl_ValidGroup.f (k + 1) a0 a1):=by
 intro a0 a1 k
 unfold impl_ValidGroup.f
 repeat' first
   | (with_reducible exact impl_partsOk.mono _ _ _)
   | (with_reducible exact LeO.refl _)
   | (with_reducible exact LeO.none _)
   | (with_reducible refine LeO.ite ?_ ?_)
   | (with_reducible refine LeO.bind ?_ (fun _=>?_))
   | exact impl_partsOk.mono _ _ _
   | exact LeO.none _
   | refine LeO.ite ?_ ?_
   | refine LeO.bind ?_ (fun _=>?_)
set_option maxHeartbeats 8000000 in
set_option maxRecDepth 100000 in
theorem impl_ValidGroup.calls (k : Nat) (A0_0 : Option Addr) (c0_0 : Nat) (l0_0 : List (S85)) (A1 : Option Addr) (c1 : Nat) (l1 : List (S47)) (r : Bool) (w : World) (hr0_0 : Kd.C k85 w A0_0 l0_0.length l0_0) (hc0_0 : l0_0.length ≤ c0_0) (hr1 : Kd.C k47 w A1 l1.length l1) (hc1 : l1.length ≤ c1) (h : impl_ValidGroup.f k l0_0 l1 = some r) :
  Calls Try.prog 15 #[.agg #[.slice A0_0 l0_0.length c0_0],.slice A1 l1.length c1] w fun e w'=>e = .returned (.bool r) ∧ Below w.heap.size w w':=by
 have hu25:=Try.underlying25
 have HR0_0:=a0_ hr0_0
 have HC0_0:=a0_ hc0_0
 clear hr0_0 hc0_0
 have HR1:=a0_ hr1
 have HC1:=a0_ hc1
 clear hr1 hc1
 have HB:=a0_ (Below.refl w.heap.size w)
 have H : ((impl_ValidTree.f l0_0).bind fun t2=>(if t2 = true then ((impl_partsOk.f k l0_0 l1).bind fun t3=>(some t3)) else (some false))) = some r:=h
 clear h
 replace H:=Option.bind_eq_some_iff.mp H
 obtain ⟨t2,A30,H⟩:=H
 try dsimp only at H
 have A3:=a0_ A30
 clear A30
 by_cases c4 : t2 = true
 ·subst c4
  have H1 : ((impl_partsOk.f k l0_0 l1).bind fun t3=>(some t3)) = some r:=by rw [if_pos rfl] at H;exact H
  clear H
  have H:=H1
  clear H1
  replace H:=Option.bind_eq_some_iff.mp H
  obtain ⟨t3,A50,H⟩:=H
  replace H : (some t3) = some r:=H
  have A5:=a0_ A50
  clear A50
  obtain rfl:=Option.some.inj H
  go_enter Try.func15,Try.ntmps15
  go_wp2_with (first | ((with_reducible refine gate_dst (N:=2) rfl ?_);refine box_event ?hg (N:=2) ?hd (cs:=#[.slice A0_0 l0_0.length c0_0]) (t:=25) ?hr ?_;(case hd=>rfl);(case hg=>rfl);(case hr=>first | (go_simp;done) | (go_simp;rfl));intro gb1 hg w6 hbox hb;have BK1:=a0_ (hbox);have GW1:=a0_ ((by rw [hg];exact (below_size hb_) : w.heap.size ≤ gb1));have GE1:=a0_ ((by rw [hg];exact (below_size hb_) : w.heap.size ≤ gb1));replace HB:=a0_ (below_step hb_ hb);clear hb hbox hg;have hcz7_0 : w6.cell? ⟨gb1,0,none⟩ = some (.slice A0_0 l0_0.length c0_0):=(blk_cell BK1.out 0).trans rfl;have hfz7_0:=blk_frozen BK1.out 0) | ((with_reducible refine gate_callee (f:=41) rfl ?_);refine goesL_ (some 6) rfl rfl Try.func41 (by kernel_rfl) rfl #[.agg #[.slice A0_0 l0_0.length c0_0]] rfl lm_ ?_;(with_reducible refine (impl_ValidTree.calls _ _ l0_0 true _ ?side1 ?side2 A3.out).mono ?_);(case side1=>exact cc_ (Kd.C_below HR0_0.out HB.out));(case side2=>exact HC0_0.out);rintro e w8 ⟨rfl,hb⟩;refine ⟨_,rfl,?_⟩;replace BK1:=kb_ BK1 hb;replace HB:=a0_ (below_step hb_ hb);(try clear hb);have hcz9_0 : w8.cell? ⟨gb1,0,none⟩ = some (.slice A0_0 l0_0.length c0_0):=(blk_cell BK1.out 0).trans rfl;have hfz9_0:=blk_frozen BK1.out 0) | (go_at_call 42;(with_reducible refine (impl_partsOk.calls k _ _ l0_0 _ _ l1 t3 _ ?side1 ?side2 ?side3 ?side4 A5.out).mono ?_);(case side1=>exact cc_ (Kd.C_below HR0_0.out HB.out));(case side2=>exact HC0_0.out);(case side3=>exact cc_ (Kd.C_below HR1.out HB.out));(case side4=>exact HC1.out);rintro e w10 ⟨rfl,hb⟩;replace BK1:=kb_ BK1 hb;replace HB:=a0_ (below_step hb_ hb);(try clear hb);(try clear hb2);(try clear hk);(try clear hi)))
  go_ret
  exact ⟨by first | rfl | (simp [errW_none,errW_some] <;> rfl) | (simp [*,errW_none,errW_some] <;> rfl),hb_⟩
 ·replace c4:=Bool.eq_false_iff.mpr c4
  subst c4
  have H1 : (some false) = some r:=by rw [if_neg (show ¬ (false = true) by decide)] at H;exact H
  clear H
  have H:=H1
  clear H1
  obtain rfl:=Option.some.inj H
  go_enter Try.func15,Try.ntmps15
  go_wp2_with (first | ((with_reducible refine gate_dst (N:=2) rfl ?_);refine box_event ?hg (N:=2) ?hd (cs:=#[.slice A0_0 l0_0.length c0_0]) (t:=25) ?hr ?_;(case hd=>rfl);(case hg=>rfl);(case hr=>first | (go_simp;done) | (go_simp;rfl));intro gb1 hg w11 hbox hb;have BK1:=a0_ (hbox);have GW1:=a0_ ((by rw [hg];exact (below_size hb_) : w.heap.size ≤ gb1));have GE1:=a0_ ((by rw [hg];exact (below_size hb_) : w.heap.size ≤ gb1));replace HB:=a0_ (below_step hb_ hb);clear hb hbox hg;have hcz12_0 : w11.cell? ⟨gb1,0,none⟩ = some (.slice A0_0 l0_0.length c0_0):=(blk_cell BK1.out 0).trans rfl;have hfz12_0:=blk_frozen BK1.out 0) | ((with_reducible refine gate_callee (f:=41) rfl ?_);refine goesL_ (some 6) rfl rfl Try.func41 (by kernel_rfl) rfl #[.agg #[.slice A0_0 l0_0.length c0_0]] rfl lm_ ?_;(with_reducible refine (impl_ValidTree.calls _ _ l0_0 false _ ?side1 ?side2 A3.out).mono ?_);(case side1=>exact cc_ (Kd.C_below HR0_0.out HB.out));(case side2=>exact HC0_0.out);rintro e w13 ⟨rfl,hb⟩;refine ⟨_,rfl,?_⟩;replace BK1:=kb_ BK1 hb;replace HB:=a0_ (below_step hb_ hb);(try clear hb);(try clear hb2);(try clear hk);(try clear hi)))
  go_ret
  exact ⟨by first | rfl | (simp [errW_none,errW_some] <;> rfl) | (simp [*,errW_none,errW_some] <;> rfl),hb_⟩
theorem impl_ValidGroup_ev (t : List Cls) (g : List Prt) (ht : t.length ≤ 9223372036854775807) (hl : g.length ≤ 9223372036854775807) (hs : smT t = true) : Ev (fun k=>impl_ValidGroup.f k t g) (vG t g):=by
 refine Ev.bind (Ev.const (show impl_ValidTree.f t = some (vT t) by rw [impl_ValidTree.f,if_pos hs])) ?_
 unfold vG psG
 cases hv : vT t with
 | false =>
  refine Ev.neg (by simp) (Ev.const ?_)
  simp
 | true =>
  refine Ev.pos rfl (Ev.bind ?_ (Ev.const rfl))
  have:=impl_partsOk_l0 t g ht hl g.length 0 (by omega) (fun h=>absurd h (by omega))
  rw [List.range_eq_range',Bool.true_and]
  exact this
end Go.Proofs.Ytfphcdbnnienhaa.P
namespace Go.Proofs.Ytfphcdbnnienhaa.P
open Go.RowKit Go.Proofs.YtfphcdbnnienhaaW.PrintWords Go.Proofs.YtfphcdbnnienhaaW.PrintLast Go.Proofs.YtfphcdbnnienhaaW.PrintMore
attribute [local go_sem] max2_int min2_int max_two min_two max_three min_three max_four min_four
set_option linter.unusedVariables false
set_option linter.unusedSimpArgs false
theorem eqA47 (d : Nat) (w : World) (x0 y0 : Int) (x1 y1 : Bool) (x2 y2 : Int) (x3 y3 : Int) :
  (Op.equalIn (d + 2) 47 (.agg #[.int .i64 x0,.bool x1,.int .i64 x2,.int .i64 x3]) (.agg #[.int .i64 y0,.bool y1,.int .i64 y2,.int .i64 y3])).run Try.prog w = .ok (x0 == y0 && (x1 == y1 && (x2 == y2 && (x3 == y3)))) w:=by
 refine eqA_of Try.underlying47 (by kernel_rfl) ?_
 refine eqf_cons (by rfl) (by go_simp;rfl) (by go_simp;rfl) (by go_simp) ?_
 refine eqf_cons (by rfl) (by go_simp;rfl) (by go_simp;rfl) (by go_simp) ?_
 refine eqf_cons (by rfl) (by go_simp;rfl) (by go_simp;rfl) (by go_simp) ?_
 exact eqf_last (by rfl) (by go_simp;rfl) (by go_simp;rfl) (by go_simp)
end Go.Proofs.Ytfphcdbnnienhaa.P
namespace Go.Proofs.Ytfphcdbnnienhaa.P
open Go.RowKit Go.Proofs.YtfphcdbnnienhaaW.PrintWords Go.Proofs.YtfphcdbnnienhaaW.PrintLast Go.Proofs.YtfphcdbnnienhaaW.PrintMore
attribute [local go_sem] max2_int min2_int max_two min_two max_three min_three max_four min_four
set_option linter.unusedVariables false
set_option linter.unusedSimpArgs false
attribute [local go_sem high] eqA47
def laws_equalGroup.l0 : Nat → List (S47) → List (S47) → Int → Option (Bool)
 | 0,_,_,_=>none
 | k + 1,x0,x1,x5=>if x5 < (x0.length : Int) then (if 0 ≤ x5 then (if x5 < (x1.length : Int) then (if (!(((rd_T47 x0 x5).f0) == ((rd_T47 x1 x5).f0)) || (!(((rd_T47 x0 x5).f1) == ((rd_T47 x1 x5).f1)) || (!(((rd_T47 x0 x5).f2) == ((rd_T47 x1 x5).f2)) || (!(((rd_T47 x0 x5).f3) == ((rd_T47 x1 x5).f3)))))) = true then (some false) else (laws_equalGroup.l0 k x0 x1 (wrap64 (x5 + 1)))) else (none)) else (none)) else (some true)
def laws_equalGroup.f (k : Nat) (l0 : List (S47)) (l1 : List (S47)) : Option (Bool):=if (l0.length : Int) = (l1.length : Int) then (laws_equalGroup.l0 k l0 l1 0) else (some false)
theorem laws_equalGroup.mono_l : ∀ k,(∀ y0 y1 y2,LeO (laws_equalGroup.l0 k y0 y1 y2) (laws_equalGroup.l0 (k + 1) y0 y1 y2))
 | 0=>fun _ _ _ r h=>by simp [laws_equalGroup.l0] at h
 | k + 1=>by
  have ih0:=laws_equalGroup.mono_l k
  ·intro y0 y1 y2
   unfold laws_equalGroup.l0
   repeat' first
   | (with_reducible exact ih0 _ _ _)
   | (with_reducible exact LeO.refl _)
   | (with_reducible exact LeO.none _)
   | (with_reducible refine LeO.ite ?_ ?_)
   | (with_reducible refine LeO.bind ?_ (fun _=>?_))
   | exact ih0 _ _ _
   | exact LeO.none _
   | refine LeO.ite ?_ ?_
   | refine LeO.bind ?_ (fun _=>?_)
theorem laws_equalGroup.mono : ∀ a0 a1 k,LeO (laws_equalGroup.f k a0 a1) (laws_equalGroup.f (k + 1) a0 a1):=by
 intro a0 a1 k
 have ih0:=laws_equalGroup.mono_l k
 unfold laws_equalGroup.f
 repeat' first
   | (with_reducible exact ih0 _ _ _)
   | (with_reducible exact LeO.refl _)
   | (with_reducible exact LeO.none _)
   | (with_reducible refine LeO.ite ?_ ?_)
   | (with_reducible refine LeO.bind ?_ (fun _=>?_))
   | exact ih0 _ _ _
   | exact LeO.none _
   | refine LeO.ite ?_ ?_
   | refine LeO.bind ?_ (fun _=>?_)
set_option maxHeartbeats 8000000 in
set_option maxRecDepth 100000 in
theorem laws_equalGroup.calls (k : Nat) (A0 : Option Addr) (c0 : Nat) (l0 : List (S47)) (A1 : Option Addr) (c1 : Nat) (l1 : List (S47)) (r : Bool) (w : World) (hr0 : Kd.C k47 w A0 l0.length l0) (hc0 : l0.length ≤ c0) (hr1 : Kd.C k47 w A1 l1.length l1) (hc1 : l1.length ≤ c1) (h : laws_equalGroup.f k l0 l1 = some r) :
  Calls Try.prog 13 #[.slice A0 l0.length c0,.slice A1 l1.length c1] w fun e w'=>e = .returned (.bool r) ∧ Drawn0 w w':=by
 have hu47:=Try.underlying47
 have HR0:=a0_ hr0
 have HC0:=a0_ hc0
 clear hr0 hc0
 have HR1:=a0_ hr1
 have HC1:=a0_ hc1
 clear hr1 hc1
 have H : (if (l0.length : Int) = (l1.length : Int) then (laws_equalGroup.l0 k l0 l1 0) else (some false)) = some r:=h
 clear h
 by_cases c3 : (l0.length : Int) = (l1.length : Int)
 ·rw [if_pos c3] at H
  have c3b0 : ((l0.length : Int) == (l1.length : Int)) = true:=beq_iff_eq.mpr c3
  have c3b1 : ((l0.length : Int) != (l1.length : Int)) = false:=bne_eq_false_iff_eq.mpr c3
  have c3b2 : (l0.length == l1.length) = true:=by first | simpa using c3 | (simp at c3 ⊢;omega)
  clear c3
  have H':=a0_ H
  clear H
  go_enter Try.func13,Try.ntmps13
  go_wp2
  repeat (go_quiet (fail);try go_wp2)
  go_loopg [5] k (fun kq v5 w'=>∃ (x5_1 : Int),v5 = .int .i64 x5_1 ∧ Aside0 (laws_equalGroup.l0 kq l0 l1 x5_1 = some r) ∧ Aside0 (kq ≤ k) ∧ Drawn0 w w')
  case atStart=>exact ⟨(0),(by first | rfl | (simp;done) | (simp [*];done)),H',⟨Nat.le_refl _⟩,by repeat (first | exact Drawn0.refl _ | apply Drawn0.step)⟩
  case round =>
   clear H'
   try clear c1
   try clear p2
   try clear c3
   try clear c3b0
   try clear c3b1
   try clear c3b2
   obtain ⟨x5_1,rfl,HA,HK1,⟨m1,rfl⟩⟩:=hrel
   cases gk with
   | zero=>exact absurd HA.out (by simp [laws_equalGroup.l0])
   | succ k1 =>
    have H:=HA.out
    clear HA
    simp only [laws_equalGroup.l0] at H
    by_cases c4 : x5_1 < (l0.length : Int)
    ·rw [if_pos c4] at H
     have c4b0 : decide (x5_1 < (l0.length : Int)) = true:=decide_eq_true c4
     clear c4
     by_cases c5 : 0 ≤ x5_1
     ·rw [if_pos c5] at H
      have c5b0 : decide (0 ≤ x5_1) = true:=decide_eq_true c5
      clear c5
      by_cases c6 : x5_1 < (l1.length : Int)
      ·rw [if_pos c6] at H
       have c6b0 : decide (x5_1 < (l1.length : Int)) = true:=decide_eq_true c6
       clear c6
       by_cases c7 : (!(((rd_T47 l0 x5_1).f0) == ((rd_T47 l1 x5_1).f0)) || (!(((rd_T47 l0 x5_1).f1) == ((rd_T47 l1 x5_1).f1)) || (!(((rd_T47 l0 x5_1).f2) == ((rd_T47 l1 x5_1).f2)) || (!(((rd_T47 l0 x5_1).f3) == ((rd_T47 l1 x5_1).f3)))))) = true
       ·rw [if_pos c7] at H
        have c7b0 : (!(((rd_T47 l0 x5_1).f0) == ((rd_T47 l1 x5_1).f0)) || (!(((rd_T47 l0 x5_1).f1) == ((rd_T47 l1 x5_1).f1)) || (!(((rd_T47 l0 x5_1).f2) == ((rd_T47 l1 x5_1).f2)) || (!(((rd_T47 l0 x5_1).f3) == ((rd_T47 l1 x5_1).f3)))))) = true:=c7
        clear c7
        obtain rfl:=Option.some.inj H
        have p1 : 0 ≤ (x5_1 : Int):=of_decide_eq_true (by first | (with_reducible assumption) | assumption)
        have q1 : x5_1 < (l0.length : Int):=of_decide_eq_true (by first | (with_reducible assumption) | assumption)
        obtain ⟨ad1,e1,hx1_0,hx1_1,hx1_2,hx1_3⟩:=at_T47 HR0.out x5_1 p1 q1
        cases e1
        replace p1:=eq_true p1
        replace q1:=eq_true q1
        have p2 : 0 ≤ (x5_1 : Int):=of_decide_eq_true (by first | (with_reducible assumption) | assumption)
        have q2 : x5_1 < (l1.length : Int):=of_decide_eq_true (by first | (with_reducible assumption) | assumption)
        obtain ⟨ad2,e2,hx2_0,hx2_1,hx2_2,hx2_3⟩:=at_T47 HR1.out x5_1 p2 q2
        cases e2
        replace p2:=eq_true p2
        replace q2:=eq_true q2
        go_wp2
        repeat (go_quiet (fail);try go_wp2)
        go_ret
        exact ⟨by first | rfl | (simp;done) | (simp [*];done),by repeat (first | exact Drawn0.refl _ | apply Drawn0.step)⟩
       ·rw [if_neg c7] at H
        have c7b0 : (!(((rd_T47 l0 x5_1).f0) == ((rd_T47 l1 x5_1).f0)) || (!(((rd_T47 l0 x5_1).f1) == ((rd_T47 l1 x5_1).f1)) || (!(((rd_T47 l0 x5_1).f2) == ((rd_T47 l1 x5_1).f2)) || (!(((rd_T47 l0 x5_1).f3) == ((rd_T47 l1 x5_1).f3)))))) = false:=by simpa using c7
        clear c7
        have H':=a0_ H
        clear H
        have p1 : 0 ≤ (x5_1 : Int):=of_decide_eq_true (by first | (with_reducible assumption) | assumption)
        have q1 : x5_1 < (l0.length : Int):=of_decide_eq_true (by first | (with_reducible assumption) | assumption)
        obtain ⟨ad1,e1,hx1_0,hx1_1,hx1_2,hx1_3⟩:=at_T47 HR0.out x5_1 p1 q1
        cases e1
        replace p1:=eq_true p1
        replace q1:=eq_true q1
        have p2 : 0 ≤ (x5_1 : Int):=of_decide_eq_true (by first | (with_reducible assumption) | assumption)
        have q2 : x5_1 < (l1.length : Int):=of_decide_eq_true (by first | (with_reducible assumption) | assumption)
        obtain ⟨ad2,e2,hx2_0,hx2_1,hx2_2,hx2_3⟩:=at_T47 HR1.out x5_1 p2 q2
        cases e2
        replace p2:=eq_true p2
        replace q2:=eq_true q2
        go_wp2
        repeat (go_quiet (fail);try go_wp2)
        go_roundg k1
        case measure=>have:=HK1.out;omega
        case rel=>exact ⟨(wrap64 (x5_1 + 1)),(by first | rfl | (simp;done) | (simp [*];done)),H',⟨by have:=HK1.out;omega⟩,by repeat (first | exact Drawn0.refl _ | apply Drawn0.step)⟩
      ·rw [if_neg c6] at H
       exact absurd H (by simp)
     ·rw [if_neg c5] at H
      exact absurd H (by simp)
    ·rw [if_neg c4] at H
     have c4b0 : decide (x5_1 < (l0.length : Int)) = false:=decide_eq_false c4
     clear c4
     obtain rfl:=Option.some.inj H
     go_wp2
     repeat (go_quiet (fail);try go_wp2)
     go_ret
     exact ⟨by first | rfl | (simp;done) | (simp [*];done),by repeat (first | exact Drawn0.refl _ | apply Drawn0.step)⟩
 ·rw [if_neg c3] at H
  have c3b0 : ((l0.length : Int) == (l1.length : Int)) = false:=beq_eq_false_iff_ne.mpr c3
  have c3b1 : ((l0.length : Int) != (l1.length : Int)) = true:=bne_iff_ne.mpr c3
  have c3b2 : (l0.length == l1.length) = false:=by first | simpa using c3 | (simp at c3 ⊢;omega)
  obtain rfl:=Option.some.inj H
  go_enter Try.func13,Try.ntmps13
  go_wp2
  repeat (go_quiet (fail);try go_wp2)
  go_ret
  exact ⟨by first | rfl | (simp;done) | (simp [*];done),by repeat (first | exact Drawn0.refl _ | apply Drawn0.step)⟩
theorem laws_equalGroup_ev (l : List Prt) (hl : l.length ≤ 9223372036854775806) : Ev (fun k=>laws_equalGroup.f k l l) true:=by
 have key : ∀ d j,j + d = l.length → Ev (fun k=>laws_equalGroup.l0 k l l (j : Int)) true:=by
  intro d
  induction d with
  | zero =>
   intro j hj
   refine Ev.succ ?_
   simp only [laws_equalGroup.l0]
   exact Ev.neg (by omega) (Ev.const rfl)
  | succ d ih =>
   intro j hj
   refine Ev.succ ?_
   simp only [laws_equalGroup.l0]
   refine Ev.pos (by omega) (Ev.pos (by omega) (Ev.pos (by omega) (Ev.neg (by simp) ?_)))
   rw [wrap_succ (i:=(j : Int)) (n:=l.length) (by omega) (by omega) (by omega)]
   exact ih (j + 1) (by omega)
 exact Ev.pos rfl (key l.length 0 (by omega))
end Go.Proofs.Ytfphcdbnnienhaa.P
namespace Go.Proofs.Ytfphcdbnnienhaa.P
open Go.RowKit Go.Proofs.YtfphcdbnnienhaaW.PrintWords Go.Proofs.YtfphcdbnnienhaaW.PrintLast Go.Proofs.YtfphcdbnnienhaaW.PrintMore
attribute [local go_sem] max2_int min2_int max_two min_two max_three min_three max_four min_four
set_option linter.unusedVariables false
set_option linter.unusedSimpArgs false
def toLf (p : Prt) : S43:=⟨p.f2,p.f3⟩
def lfs (g : List Prt) : List S43:=(g.filter (fun p=>!p.f1)).map toLf
theorem lfs_len (g : List Prt) : (lfs g).length ≤ g.length:=by
 unfold lfs
 rw [List.length_map]
 exact List.length_filter_le _ _
theorem lfs_step (g : List Prt) (i : Nat) (hi : i < g.length) : lfs (g.take (i + 1)) = lfs (g.take i) ++ (if g[i].f1 = true then [] else [⟨g[i].f2,g[i].f3⟩]):=by
 unfold lfs
 rw [List.take_succ_eq_append_getElem hi,List.filter_append,List.map_append,List.filter_cons,List.filter_nil]
 congr 1
 cases g[i].f1 <;> rfl
def leavesP (t : List Cls) (g : List Prt) : List S43:=if vG t g = true then lfs g else []
theorem leavesP_len (t : List Cls) (g : List Prt) : (leavesP t g).length ≤ g.length:=by
 unfold leavesP
 split
 ·exact lfs_len g
 ·simp
end Go.Proofs.Ytfphcdbnnienhaa.P
namespace Go.Proofs.Ytfphcdbnnienhaa.P
open Go.RowKit Go.Proofs.YtfphcdbnnienhaaW.PrintWords Go.Proofs.YtfphcdbnnienhaaW.PrintLast Go.Proofs.YtfphcdbnnienhaaW.PrintMore
attribute [local go_sem] max2_int min2_int max_two min_two max_three min_three max_four min_four
set_option linter.unusedVariables false
set_option linter.unusedSimpArgs false
def impl_LeavesOf.l0 : Nat → List (S43) → List (S47) → Int → Int → Option ((List (S43)))
 | 0,_,_,_,_=>none
 | k + 1,x5,x15,x16,x17=>if x17 < x16 then (if 0 ≤ x17 then (if x17 < (x15.length : Int) then (if ((rd_T47 x15 x17).f1 = true) then (impl_LeavesOf.l0 k x5 x15 x16 (wrap64 (x17 + 1))) else (if x5.length < 8796093022208 then (impl_LeavesOf.l0 k (x5 ++ [(⟨(rd_T47 x15 x17).f2,(rd_T47 x15 x17).f3⟩ : S43)]) x15 x16 (wrap64 (x17 + 1))) else (none))) else (none)) else (none)) else (if 0 ≤ (x5.length : Int) then (if (x5.length : Int) ≤ (x5.length : Int) then (some (x5.take ((x5.length : Int) : Int).toNat)) else (none)) else (none))
def impl_LeavesOf.f (k : Nat) (l0_0 : List (S85)) (l1 : List (S47)) : Option ((List (S43))):=(impl_ValidGroup.f k l0_0 l1).bind fun t2=>(if t2 = true then (if 0 ≤ (l1.length : Int) then (if ((l1.length : Int) : Int).toNat ≤ 17592186044416 then (impl_LeavesOf.l0 k (([] : List (S43))) l1 (l1.length : Int) 0) else (none)) else (none)) else (some ([] : List (S43))))
theorem impl_LeavesOf.mono_l : ∀ k,(∀ y0 y1 y2 y3,LeO (impl_LeavesOf.l0 k y0 y1 y2 y3) (impl_LeavesOf.l0 (k + 1) y0 y1 y2 y3))
 | 0=>fun _ _ _ _ r h=>by simp [impl_LeavesOf.l0] at h
 | k + 1=>by
  have ih0:=impl_LeavesOf.mono_l k
  ·intro y0 y1 y2 y3
   unfold impl_LeavesOf.l0
   repeat' first
   | (with_reducible exact ih0 _ _ _ _)
   | (with_reducible exact impl_ValidGroup.mono _ _ _)
   | (with_reducible exact LeO.refl _)
   | (with_reducible exact LeO.none _)
   | (with_reducible refine LeO.ite ?_ ?_)
   | (with_reducible refine LeO.bind ?_ (fun _=>?_))
   | exact ih0 _ _ _ _
   | exact impl_ValidGroup.mono _ _ _
   | exact LeO.none _
   | refine LeO.ite ?_ ?_
   | refine LeO.bind ?_ (fun _=>?_)
theorem impl_LeavesOf.mono : ∀ a0 a1 k,LeO (impl_LeavesOf.f k a0 a1) (impl_LeavesOf.f (k + 1) a0 a1):=by
 intro a0 a1 k
 have ih0:=impl_LeavesOf.mono_l k
 unfold impl_LeavesOf.f
 repeat' first
   | (with_reducible exact ih0 _ _ _ _)
   | (with_reducible exact impl_ValidGroup.mono _ _ _)
   | (with_reducible exact LeO.refl _)
   | (with_reducible exact LeO.none _)
   | (with_reducible refine LeO.ite ?_ ?_)
   | (with_reducible refine LeO.bind ?_ (fun _=>?_))
   | exact ih0 _ _ _ _
   | exact impl_ValidGroup.mono _ _ _
   | exact LeO.none _
   | refine LeO.ite ?_ ?_
   | refine LeO.bind ?_ (fun _=>?_)
set_option maxHeartbeats 8000000 in
set_option maxRecDepth 100000 in
theorem impl_LeavesOf.calls (k : Nat) (A0_0 : Option Addr) (c0_0 : Nat) (l0_0 : List (S85)) (A1 : Option Addr) (c1 : Nat) (l1 : List (S47)) (r : List (S43)) (w : World) (hr0_0 : Kd.C k85 w A0_0 l0_0.length l0_0) (hc0_0 : l0_0.length ≤ c0_0) (hr1 : Kd.C k47 w A1 l1.length l1) (hc1 : l1.length ≤ c1) (h : impl_LeavesOf.f k l0_0 l1 = some r) :
  Calls Try.prog 17 #[.agg #[.slice A0_0 l0_0.length c0_0],.slice A1 l1.length c1] w fun e w'=>∃ v0_ : Value,e = .returned (v0_) ∧ Kd.R k43 43 w' w.heap.size (fun _=>True) v0_ r ∧ Below w.heap.size w w':=by
 have hu25:=Try.underlying25
 have hu47:=Try.underlying47
 have hu43:=Try.underlying43
 have HR0_0:=a0_ hr0_0
 have HC0_0:=a0_ hc0_0
 clear hr0_0 hc0_0
 have HR1:=a0_ hr1
 have HC1:=a0_ hc1
 clear hr1 hc1
 have HB:=a0_ (Below.refl w.heap.size w)
 have H : ((impl_ValidGroup.f k l0_0 l1).bind fun t2=>(if t2 = true then (if 0 ≤ (l1.length : Int) then (if ((l1.length : Int) : Int).toNat ≤ 17592186044416 then (impl_LeavesOf.l0 k (([] : List (S43))) l1 (l1.length : Int) 0) else (none)) else (none)) else (some ([] : List (S43))))) = some r:=h
 clear h
 replace H:=Option.bind_eq_some_iff.mp H
 obtain ⟨t2,A30,H⟩:=H
 try dsimp only at H
 have A3:=a0_ A30
 clear A30
 by_cases c4 : t2 = true
 ·subst c4
  have H1 : (if 0 ≤ (l1.length : Int) then (if ((l1.length : Int) : Int).toNat ≤ 17592186044416 then (impl_LeavesOf.l0 k (([] : List (S43))) l1 (l1.length : Int) 0) else (none)) else (none)) = some r:=by rw [if_pos rfl] at H;exact H
  clear H
  have H:=H1
  clear H1
  by_cases c5 : 0 ≤ (l1.length : Int)
  ·rw [if_pos c5] at H
   have c5b0:=eq_true c5
   have c5b1 : decide (0 ≤ (l1.length : Int)) = true:=decide_eq_true c5
   clear c5
   by_cases c6 : ((l1.length : Int) : Int).toNat ≤ 17592186044416
   ·rw [if_pos c6] at H
    have c6b0:=eq_true c6
    have c6b1 : decide (((l1.length : Int) : Int).toNat ≤ 17592186044416) = true:=decide_eq_true c6
    clear c6
    obtain ⟨y3,hy3⟩ : ∃ y_ : List (S43),y_ = (([] : List (S43))):=⟨_,rfl⟩
    replace H : (impl_LeavesOf.l0 k y3 l1 (l1.length : Int) 0) = some r:=by first | (rw [hy3];with_reducible exact H) | (have H2_:=(Option.bind_some _ _).symm.trans H;rw [hy3];with_reducible exact H2_) | (have H2_:=(Option.bind_some _ _).symm.trans H;with_reducible exact H2_) | with_reducible exact H | (rw [hy3];exact H) | exact H
    have Ny3:=a0_ hy3
    clear hy3
    have H':=a0_ H
    clear H
    go_enter Try.func17,Try.ntmps17
    go_wp2_with (first | ((with_reducible refine gate_dst (N:=2) rfl ?_);refine box_event ?hg (N:=2) ?hd (cs:=#[.slice A0_0 l0_0.length c0_0]) (t:=25) ?hr ?_;(case hd=>rfl);(case hg=>rfl);(case hr=>first | (go_simp;done) | (go_simp;rfl));intro gb1 hg w7 hbox hb;have BK1:=a0_ (hbox);have GW1:=a0_ ((by rw [hg];exact (below_size hb_) : w.heap.size ≤ gb1));have GE1:=a0_ ((by rw [hg];exact (below_size hb_) : w.heap.size ≤ gb1));replace HB:=a0_ (below_step hb_ hb);clear hb hbox hg;have hcz8_0 : w7.cell? ⟨gb1,0,none⟩ = some (.slice A0_0 l0_0.length c0_0):=(blk_cell BK1.out 0).trans rfl;have hfz8_0:=blk_frozen BK1.out 0) | ((with_reducible refine gate_callee (f:=15) rfl ?_);refine goesL_ (some 10) rfl rfl Try.func15 (by kernel_rfl) rfl #[.agg #[.slice A0_0 l0_0.length c0_0],.slice A1 l1.length c1] rfl lm_ ?_;(with_reducible refine (impl_ValidGroup.calls k _ _ l0_0 _ _ l1 true _ ?side1 ?side2 ?side3 ?side4 A3.out).mono ?_);(case side1=>exact cc_ (Kd.C_below HR0_0.out HB.out));(case side2=>exact HC0_0.out);(case side3=>exact cc_ (Kd.C_below HR1.out HB.out));(case side4=>exact HC1.out);rintro e w9 ⟨rfl,hb⟩;refine ⟨_,rfl,?_⟩;replace BK1:=kb_ BK1 hb;replace HB:=a0_ (below_step hb_ hb);(try clear hb);(try clear hb2);(try clear hk);(try clear hi)) | ((with_reducible refine gate_dst (N:=14) rfl ?_);refine Kd.R_make0 k43 _ 43 rfl (N:=14) rfl 33 _ _ rfl (l1.length : Int) rfl rfl Try.underlying33 (.agg #[(.int .i64 0),(.int .i64 0)]) 16 info43 rfl (by decide) (by omega) z43 (ok:=fun _=>True) (okp:=fun _=>True) (k43_mkM _ _ _ z43 ) (fun _ hk=>hk) trivial (of_decide_eq_true (by first | (with_reducible assumption) | assumption)) (Nat.le_trans (Nat.mul_le_mul_right _ (of_decide_eq_true (by first | (with_reducible assumption) | assumption) : (l1.length : Int).toNat ≤ 17592186044416)) (by omega)) (Below.refl _ _) (Nat.le_refl _) ?_;intro v4 w10 ho11 hb hg_ hnew_;clear hg_ hnew_;(first | rw [← Ny3.out] at ho11 | (simp only [Int.reduceToNat] at ho11;rw [← Ny3.out] at ho11));have HO5:=a0_ (Kd.R_lower ho11 (below_size hb_));replace BK1:=kb_ BK1 hb;replace HB:=a0_ (below_step hb_ hb);clear hb ho11))
    go_loopg [5,17] k (fun kq v5 v17 w'=>∃ (x5_1 : List (S43)) (x17_1 : Int),v17 = .int .i64 x17_1 ∧ Aside0 (impl_LeavesOf.l0 kq x5_1 l1 (l1.length : Int) x17_1 = some r) ∧ Aside0 (kq ≤ k) ∧ Aside0 (Kd.R k43 43 w' w.heap.size (fun _=>True) v5 x5_1) ∧ Aside0 (w'.heap[gb1]? = some (.cells #[(.slice A0_0 l0_0.length c0_0)] 25 (0,0))) ∧ Aside0 (Below w.heap.size w w'))
    case atStart=>exact ⟨(y3),(0),(by first | rfl | (simp;done) | (simp [*];done)),H',⟨Nat.le_refl _⟩,⟨by (with_reducible repeat (first | apply Kd.R_alloc | apply Kd.R_drewN | apply Kd.R_drew));exact HO5.out⟩,⟨by (with_reducible repeat (first | refine blk_drewN ?_ _ | refine blk_drew ?_ | refine blk_alloc ?_ _));exact BK1.out⟩,⟨hb_⟩⟩
    case round =>
     clear H'
     try clear c1
     try clear p2
     try clear c4
     try clear c5
     try clear c5b0
     try clear c5b1
     try clear c6
     try clear c6b0
     try clear c6b1
     try clear hcz8_0
     try clear hfz8_0
     obtain ⟨x5_1,x17_1,rfl,HA,HK1,HO_5,BK1,HB⟩:=hrel
     cases gk with
     | zero=>exact absurd HA.out (by simp [impl_LeavesOf.l0])
     | succ k1 =>
      have H:=HA.out
      clear HA
      simp only [impl_LeavesOf.l0] at H
      by_cases c12 : x17_1 < (l1.length : Int)
      ·rw [if_pos c12] at H
       have c12b0 : decide (x17_1 < (l1.length : Int)) = true:=decide_eq_true c12
       clear c12
       by_cases c13 : 0 ≤ x17_1
       ·rw [if_pos c13] at H
        have c13b0 : decide (0 ≤ x17_1) = true:=decide_eq_true c13
        clear c13
        by_cases c14 : x17_1 < (l1.length : Int)
        ·rw [if_pos c14] at H
         have c14b0 : decide (x17_1 < (l1.length : Int)) = true:=decide_eq_true c14
         clear c14
         obtain ⟨bq15,hbq15⟩ : ∃ b_ : Bool,b_ = ((rd_T47 l1 x17_1).f1):=⟨_,rfl⟩
         replace H : (if (bq15 = true) then (impl_LeavesOf.l0 k1 x5_1 l1 (l1.length : Int) (wrap64 (x17_1 + 1))) else (if x5_1.length < 8796093022208 then (impl_LeavesOf.l0 k1 (x5_1 ++ [(⟨(rd_T47 l1 x17_1).f2,(rd_T47 l1 x17_1).f3⟩ : S43)]) l1 (l1.length : Int) (wrap64 (x17_1 + 1))) else (none))) = some r:=by rw [← hbq15] at H;exact H
         have Nbq15:=a0_ hbq15
         clear hbq15
         by_cases c16 : (bq15 = true)
         ·subst c16
          have H1 : (impl_LeavesOf.l0 k1 x5_1 l1 (l1.length : Int) (wrap64 (x17_1 + 1))) = some r:=by rw [if_pos rfl] at H;exact H
          clear H
          have H:=H1
          clear H1
          have H':=a0_ H
          clear H
          have p6 : 0 ≤ (x17_1 : Int):=of_decide_eq_true (by first | (with_reducible assumption) | assumption)
          have q6 : x17_1 < (l1.length : Int):=of_decide_eq_true (by first | (with_reducible assumption) | assumption)
          obtain ⟨ad6,e6,hx6_0,hx6_1,hx6_2,hx6_3⟩:=at_T47 HR1.out x17_1 p6 q6
          (try rw [← Nbq15.out] at hx6_1)
          cases e6
          replace hx6_0:=(HB.out.cell (World.block_lt_of_cell? w _ hx6_0)).trans hx6_0
          replace hx6_1:=(HB.out.cell (World.block_lt_of_cell? w _ hx6_1)).trans hx6_1
          replace hx6_2:=(HB.out.cell (World.block_lt_of_cell? w _ hx6_2)).trans hx6_2
          replace hx6_3:=(HB.out.cell (World.block_lt_of_cell? w _ hx6_3)).trans hx6_3
          replace p6:=eq_true p6
          replace q6:=eq_true q6
          go_wp2_with (first | ((with_reducible refine gate_dst (N:=7) rfl ?_);refine box_event ?hg (N:=7) ?hd (cs:=#[.int .i64 0,.bool false,.int .i64 0,.int .i64 0]) (t:=47) ?hr ?_;(case hd=>rfl);(case hg=>rfl);(case hr=>first | (go_simp;done) | (go_simp;rfl));intro gb7 hg w17 hbox hb;have n0_:=rb_ HO_5 hb;have n1_:=kb_ BK1 hb;have n2_:=a0_ (below_step hb_ hb);have n3_:=a0_ (hbox);have n4_:=a0_ ((by rw [hg];exact (below_size hb_) : w.heap.size ≤ gb7));have n5_:=a0_ ((by rw [hg];exact (below_size hb_) : w.heap.size ≤ gb7));have n6_:=a0_ ((by rw [hg];exact Nat.ne_of_lt (blk_lt (bb_ BK1.out)) : gb1 ≠ gb7));have n7_:=a0_ ((by rw [hg];exact Nat.ne_of_gt (blk_lt (bb_ BK1.out)) : gb7 ≠ gb1));clear HO_5 BK1 HB;have HO_5:=n0_;have BK1:=n1_;have HB:=n2_;have BK7:=n3_;have GW7:=n4_;have GE7:=n5_;have NB1_7:=n6_;have NB7_1:=n7_;clear n0_ n1_ n2_ n3_ n4_ n5_ n6_ n7_;clear hb hbox hg;have hnb18:=NB7_1.out;have hnc18:=NB1_7.out;have hcz19_0 : w17.cell? ⟨gb7,0,none⟩ = some (.int .i64 0):=(blk_cell BK7.out 0).trans rfl;have hcz19_1 : w17.cell? ⟨gb7,1,none⟩ = some (.bool false):=(blk_cell BK7.out 1).trans rfl;have hcz19_2 : w17.cell? ⟨gb7,2,none⟩ = some (.int .i64 0):=(blk_cell BK7.out 2).trans rfl;have hcz19_3 : w17.cell? ⟨gb7,3,none⟩ = some (.int .i64 0):=(blk_cell BK7.out 3).trans rfl;have hfz19_0:=blk_frozen BK7.out 0;have hfz19_1:=blk_frozen BK7.out 1;have hfz19_2:=blk_frozen BK7.out 2;have hfz19_3:=blk_frozen BK7.out 3))
          go_roundg k1
          case measure=>have:=HK1.out;omega
          case rel=>exact ⟨(x5_1),(wrap64 (x17_1 + 1)),(by first | rfl | (simp;done) | (simp [*];done)),H',⟨by have:=HK1.out;omega⟩,⟨by (with_reducible repeat (first | apply Kd.R_alloc | apply Kd.R_drewN | apply Kd.R_drew));exact Kd.R_mono (Kd.R_far (p:=⟨gb7,3,none⟩) (Kd.R_far (p:=⟨gb7,2,none⟩) (Kd.R_far (p:=⟨gb7,1,none⟩) (Kd.R_far (p:=⟨gb7,0,none⟩) (Kd.R_types HO_5.out BK7.out (by decide)) (fun _ hk=>hk.2) (.int .i64 ((rd_T47 l1 x17_1).f0))) (fun _ hk=>hk.2) (.bool true)) (fun _ hk=>hk.2) (.int .i64 ((rd_T47 l1 x17_1).f2))) (fun _ hk=>hk.2) (.int .i64 ((rd_T47 l1 x17_1).f3))) (fun _ hk=>trivial)⟩,⟨by (with_reducible repeat (first | refine blk_drewN ?_ _ | refine blk_drew ?_ | refine blk_alloc ?_ _));refine blk_far ?_ NB1_7.out _;(with_reducible repeat (first | refine blk_drewN ?_ _ | refine blk_drew ?_ | refine blk_alloc ?_ _));refine blk_far ?_ NB1_7.out _;(with_reducible repeat (first | refine blk_drewN ?_ _ | refine blk_drew ?_ | refine blk_alloc ?_ _));refine blk_far ?_ NB1_7.out _;(with_reducible repeat (first | refine blk_drewN ?_ _ | refine blk_drew ?_ | refine blk_alloc ?_ _));refine blk_far ?_ NB1_7.out _;(with_reducible repeat (first | refine blk_drewN ?_ _ | refine blk_drew ?_ | refine blk_alloc ?_ _));exact BK1.out⟩,⟨hb_⟩⟩
         ·replace c16:=Bool.eq_false_iff.mpr c16
          subst c16
          have H1 : (if x5_1.length < 8796093022208 then (impl_LeavesOf.l0 k1 (x5_1 ++ [(⟨(rd_T47 l1 x17_1).f2,(rd_T47 l1 x17_1).f3⟩ : S43)]) l1 (l1.length : Int) (wrap64 (x17_1 + 1))) else (none)) = some r:=by rw [if_neg (show ¬ (false = true) by decide)] at H;exact H
          clear H
          have H:=H1
          clear H1
          by_cases c20 : x5_1.length < 8796093022208
          ·rw [if_pos c20] at H
           have LMc20:=a0_ c20
           clear c20
           obtain ⟨y8,hy8⟩ : ∃ y_ : List (S43),y_ = (x5_1 ++ [(⟨(rd_T47 l1 x17_1).f2,(rd_T47 l1 x17_1).f3⟩ : S43)]):=⟨_,rfl⟩
           replace H : (impl_LeavesOf.l0 k1 y8 l1 (l1.length : Int) (wrap64 (x17_1 + 1))) = some r:=by first | (rw [hy8];with_reducible exact H) | (have H2_:=(Option.bind_some _ _).symm.trans H;rw [hy8];with_reducible exact H2_) | (have H2_:=(Option.bind_some _ _).symm.trans H;with_reducible exact H2_) | with_reducible exact H | (rw [hy8];exact H) | exact H
           have Ny8:=a0_ hy8
           clear hy8
           have H':=a0_ H
           clear H
           have p6 : 0 ≤ (x17_1 : Int):=of_decide_eq_true (by first | (with_reducible assumption) | assumption)
           have q6 : x17_1 < (l1.length : Int):=of_decide_eq_true (by first | (with_reducible assumption) | assumption)
           obtain ⟨ad6,e6,hx6_0,hx6_1,hx6_2,hx6_3⟩:=at_T47 HR1.out x17_1 p6 q6
           (try rw [← Nbq15.out] at hx6_1)
           cases e6
           replace hx6_0:=(HB.out.cell (World.block_lt_of_cell? w _ hx6_0)).trans hx6_0
           replace hx6_1:=(HB.out.cell (World.block_lt_of_cell? w _ hx6_1)).trans hx6_1
           replace hx6_2:=(HB.out.cell (World.block_lt_of_cell? w _ hx6_2)).trans hx6_2
           replace hx6_3:=(HB.out.cell (World.block_lt_of_cell? w _ hx6_3)).trans hx6_3
           replace p6:=eq_true p6
           replace q6:=eq_true q6
           go_wp2_with (first | ((with_reducible refine gate_dst (N:=7) rfl ?_);refine box_event ?hg (N:=7) ?hd (cs:=#[.int .i64 0,.bool false,.int .i64 0,.int .i64 0]) (t:=47) ?hr ?_;(case hd=>rfl);(case hg=>rfl);(case hr=>first | (go_simp;done) | (go_simp;rfl));intro gb7 hg w21 hbox hb;have n0_:=rb_ HO_5 hb;have n1_:=kb_ BK1 hb;have n2_:=a0_ (below_step hb_ hb);have n3_:=a0_ (hbox);have n4_:=a0_ ((by rw [hg];exact (below_size hb_) : w.heap.size ≤ gb7));have n5_:=a0_ ((by rw [hg];exact (below_size hb_) : w.heap.size ≤ gb7));have n6_:=a0_ ((by rw [hg];exact Nat.ne_of_lt (blk_lt (bb_ BK1.out)) : gb1 ≠ gb7));have n7_:=a0_ ((by rw [hg];exact Nat.ne_of_gt (blk_lt (bb_ BK1.out)) : gb7 ≠ gb1));clear HO_5 BK1 HB;have HO_5:=n0_;have BK1:=n1_;have HB:=n2_;have BK7:=n3_;have GW7:=n4_;have GE7:=n5_;have NB1_7:=n6_;have NB7_1:=n7_;clear n0_ n1_ n2_ n3_ n4_ n5_ n6_ n7_;clear hb hbox hg;have hnb22:=NB7_1.out;have hnc22:=NB1_7.out;have hcz23_0 : w21.cell? ⟨gb7,0,none⟩ = some (.int .i64 0):=(blk_cell BK7.out 0).trans rfl;have hcz23_1 : w21.cell? ⟨gb7,1,none⟩ = some (.bool false):=(blk_cell BK7.out 1).trans rfl;have hcz23_2 : w21.cell? ⟨gb7,2,none⟩ = some (.int .i64 0):=(blk_cell BK7.out 2).trans rfl;have hcz23_3 : w21.cell? ⟨gb7,3,none⟩ = some (.int .i64 0):=(blk_cell BK7.out 3).trans rfl;have hfz23_0:=blk_frozen BK7.out 0;have hfz23_1:=blk_frozen BK7.out 1;have hfz23_2:=blk_frozen BK7.out 2;have hfz23_3:=blk_frozen BK7.out 3) | ((with_reducible refine gate_builtin (b:=.append) (xs:=#[.tmp 24,.tmp 30]) rfl ?_);at_builtin;refine Kd.R_append k43 (w0:=w) w.heap.size rfl (.tmp 24) (.tmp 30) 33 43 (.agg #[(.int .i64 0),(.int .i64 0)]) 16 rfl Try.underlying33 info43 rfl (by decide) (by omega) u5 x5_1 (⟨(rd_T47 l1 x17_1).f2,(rd_T47 l1 x17_1).f3⟩ : S43) [.int .i64 ((rd_T47 l1 x17_1).f2),.int .i64 ((rd_T47 l1 x17_1).f3)] (fun _=>True) (fun _=>False) rfl (by first | (go_simp;done) | (go_simp;rfl)) ?aP (fun _ hk=>hk.elim) ?aF ?aO ?aB ?aS ?aL ?_;(case aP=>exact k43_mkM _ _ _ (⟨(rd_T47 l1 x17_1).f2,(rd_T47 l1 x17_1).f3⟩ : S43));(case aB=>exact hb_);(case aF=>exact (fun _ _=>trivial));(case aO=>exact (by (with_reducible repeat (first | apply Kd.R_alloc | apply Kd.R_drewN | apply Kd.R_drew));exact Kd.R_mono (Kd.R_far (p:=⟨gb7,3,none⟩) (Kd.R_far (p:=⟨gb7,2,none⟩) (Kd.R_far (p:=⟨gb7,1,none⟩) (Kd.R_far (p:=⟨gb7,0,none⟩) (Kd.R_types HO_5.out BK7.out (by decide)) (fun _ hk=>hk.2) (.int .i64 ((rd_T47 l1 x17_1).f0))) (fun _ hk=>hk.2) (.bool false)) (fun _ hk=>hk.2) (.int .i64 ((rd_T47 l1 x17_1).f2))) (fun _ hk=>hk.2) (.int .i64 ((rd_T47 l1 x17_1).f3))) (fun _ hk=>trivial)));(case aS=>exact (below_size hb_));(case aL=>have:=LMc20.out;omega);intro v9 w24 ho hb hg hat;rw [← Ny8.out] at ho;replace BK1:=a0_ (blk_grown (g:=gb1) (o:=.cells #[.slice A0_0 l0_0.length c0_0] 25 (0,0)) (bff_ BK1.out) hg (Kd.R_ne HO_5.out BK1.out (by decide)));replace BK7:=a0_ (blk_grown (g:=gb7) (o:=.cells #[.int .i64 ((rd_T47 l1 x17_1).f0),.bool false,.int .i64 ((rd_T47 l1 x17_1).f2),.int .i64 ((rd_T47 l1 x17_1).f3)] 47 (0,0)) (by (with_reducible repeat (first | refine blk_drewN ?_ _ | refine blk_drew ?_ | refine blk_alloc ?_ _));refine blk_put (cs:=#[.int .i64 ((rd_T47 l1 x17_1).f0),.bool false,.int .i64 ((rd_T47 l1 x17_1).f2),.int .i64 0]) ?_ 3 _ rfl;(with_reducible repeat (first | refine blk_drewN ?_ _ | refine blk_drew ?_ | refine blk_alloc ?_ _));refine blk_put (cs:=#[.int .i64 ((rd_T47 l1 x17_1).f0),.bool false,.int .i64 0,.int .i64 0]) ?_ 2 _ rfl;(with_reducible repeat (first | refine blk_drewN ?_ _ | refine blk_drew ?_ | refine blk_alloc ?_ _));refine blk_put (cs:=#[.int .i64 ((rd_T47 l1 x17_1).f0),.bool false,.int .i64 0,.int .i64 0]) ?_ 1 _ rfl;(with_reducible repeat (first | refine blk_drewN ?_ _ | refine blk_drew ?_ | refine blk_alloc ?_ _));refine blk_put (cs:=#[.int .i64 0,.bool false,.int .i64 0,.int .i64 0]) ?_ 0 _ rfl;(with_reducible repeat (first | refine blk_drewN ?_ _ | refine blk_drew ?_ | refine blk_alloc ?_ _));exact BK7.out) hg (Kd.R_ne HO_5.out BK7.out (by decide)));have HO10:=a0_ (ho);replace HB:=a0_ (hb);clear HO_5;clear ho hb hg hat))
           go_roundg k1
           case measure=>have:=HK1.out;omega
           case rel=>exact ⟨(y8),(wrap64 (x17_1 + 1)),(by first | rfl | (simp;done) | (simp [*];done)),H',⟨by have:=HK1.out;omega⟩,⟨by (with_reducible repeat (first | apply Kd.R_alloc | apply Kd.R_drewN | apply Kd.R_drew));exact HO10.out⟩,⟨by (with_reducible repeat (first | refine blk_drewN ?_ _ | refine blk_drew ?_ | refine blk_alloc ?_ _));exact BK1.out⟩,⟨hb_⟩⟩
          ·rw [if_neg c20] at H
           exact absurd H (by simp)
        ·rw [if_neg c14] at H
         exact absurd H (by simp)
       ·rw [if_neg c13] at H
        exact absurd H (by simp)
      ·rw [if_neg c12] at H
       have c12b0 : decide (x17_1 < (l1.length : Int)) = false:=decide_eq_false c12
       clear c12
       by_cases c25 : 0 ≤ (x5_1.length : Int)
       ·rw [if_pos c25] at H
        have c25b0:=eq_true c25
        have c25b1 : decide (0 ≤ (x5_1.length : Int)) = true:=decide_eq_true c25
        clear c25
        by_cases c26 : (x5_1.length : Int) ≤ (x5_1.length : Int)
        ·rw [if_pos c26] at H
         have c26b0:=eq_true c26
         have c26b1 : decide ((x5_1.length : Int) ≤ (x5_1.length : Int)) = true:=decide_eq_true c26
         clear c26
         obtain ⟨y11,hy11⟩ : ∃ y_ : List (S43),y_ = (x5_1.take ((x5_1.length : Int) : Int).toNat):=⟨_,rfl⟩
         replace H : (some y11) = some r:=by first | (rw [hy11];with_reducible exact H) | (have H2_:=(Option.bind_some _ _).symm.trans H;rw [hy11];with_reducible exact H2_) | (have H2_:=(Option.bind_some _ _).symm.trans H;with_reducible exact H2_) | with_reducible exact H | (rw [hy11];exact H) | exact H
         have Ny11:=a0_ hy11
         clear hy11
         obtain rfl:=Option.some.inj H
         obtain ⟨Ao27,co27,eo27⟩:=Kd.R_slice HO_5.out
         subst eo27
         have q28 : x5_1.length ≤ co27:=(Kd.R_reads' HO_5.out).2.1
         have hr28:=Kd.R_clip2 HO_5.out (((x5_1.length : Int) : Int).toNat) (by omega)
         rw [← Ny11.out] at hr28
         clear HO_5
         have HO13:=a0_ hr28
         clear hr28
         go_wp2
         go_ret
         exact ⟨_,by first | rfl | (simp [errW_none,errW_some] <;> rfl) | (simp [*,errW_none,errW_some] <;> rfl),by (with_reducible repeat (first | apply Kd.R_alloc | apply Kd.R_drewN | apply Kd.R_drew));exact HO13.out,hb_⟩
        ·rw [if_neg c26] at H
         exact absurd H (by simp)
       ·rw [if_neg c25] at H
        exact absurd H (by simp)
   ·rw [if_neg c6] at H
    exact absurd H (by simp)
  ·rw [if_neg c5] at H
   exact absurd H (by simp)
 ·replace c4:=Bool.eq_false_iff.mpr c4
  subst c4
  have H1 : (some ([] : List (S43))) = some r:=by rw [if_neg (show ¬ (false = true) by decide)] at H;exact H
  clear H
  have H:=H1
  clear H1
  obtain rfl:=Option.some.inj H
  go_enter Try.func17,Try.ntmps17
  go_wp2_with (first | ((with_reducible refine gate_dst (N:=2) rfl ?_);refine box_event ?hg (N:=2) ?hd (cs:=#[.slice A0_0 l0_0.length c0_0]) (t:=25) ?hr ?_;(case hd=>rfl);(case hg=>rfl);(case hr=>first | (go_simp;done) | (go_simp;rfl));intro gb1 hg w29 hbox hb;have BK1:=a0_ (hbox);have GW1:=a0_ ((by rw [hg];exact (below_size hb_) : w.heap.size ≤ gb1));have GE1:=a0_ ((by rw [hg];exact (below_size hb_) : w.heap.size ≤ gb1));replace HB:=a0_ (below_step hb_ hb);clear hb hbox hg;have hcz30_0 : w29.cell? ⟨gb1,0,none⟩ = some (.slice A0_0 l0_0.length c0_0):=(blk_cell BK1.out 0).trans rfl;have hfz30_0:=blk_frozen BK1.out 0) | ((with_reducible refine gate_callee (f:=15) rfl ?_);refine goesL_ (some 10) rfl rfl Try.func15 (by kernel_rfl) rfl #[.agg #[.slice A0_0 l0_0.length c0_0],.slice A1 l1.length c1] rfl lm_ ?_;(with_reducible refine (impl_ValidGroup.calls k _ _ l0_0 _ _ l1 false _ ?side1 ?side2 ?side3 ?side4 A3.out).mono ?_);(case side1=>exact cc_ (Kd.C_below HR0_0.out HB.out));(case side2=>exact HC0_0.out);(case side3=>exact cc_ (Kd.C_below HR1.out HB.out));(case side4=>exact HC1.out);rintro e w31 ⟨rfl,hb⟩;refine ⟨_,rfl,?_⟩;replace BK1:=kb_ BK1 hb;replace HB:=a0_ (below_step hb_ hb);(try clear hb);(try clear hb2);(try clear hk);(try clear hi)))
  go_ret
  exact ⟨_,by first | rfl | (simp [errW_none,errW_some] <;> rfl) | (simp [*,errW_none,errW_some] <;> rfl),by first | exact Kd.R_nil _ _ _ _ _ | exact Kd.N_nil _ _ _ _ _ | exact Kd.V_nil _ _ _ _ _ | exact Kd.Q_nil _ _ _ _ _ | exact Kd.S_nil _ _ _ _ _,hb_⟩
theorem impl_LeavesOf_ev (t : List Cls) (g : List Prt) (ht : t.length ≤ 9223372036854775807) (hl : g.length ≤ 1048576) (hs : smT t = true) : Ev (fun k=>impl_LeavesOf.f k t g) (leavesP t g):=by
 refine Ev.bind (impl_ValidGroup_ev t g ht (by omega) hs) ?_
 unfold leavesP
 cases hv : vG t g with
 | false=>exact Ev.neg (by simp) (Ev.const rfl)
 | true =>
  refine Ev.pos rfl (Ev.pos (by omega) (Ev.pos (by omega) ?_))
  have key : ∀ d i,i + d = g.length → Ev (fun k=>impl_LeavesOf.l0 k (lfs (g.take i)) g (g.length : Int) (i : Int)) (lfs g):=by
   intro d
   induction d with
   | zero =>
    intro i hi
    obtain rfl : i = g.length:=by omega
    refine Ev.succ ?_
    simp only [impl_LeavesOf.l0]
    exact Ev.neg (by omega) (Ev.pos (by omega) (Ev.pos (by omega) (Ev.const (by simp))))
   | succ d ih =>
    intro i hi
    have hlt : i < g.length:=by omega
    have hrd : rd_T47 g (i : Int) = g[i]:=by simp [rd_T47,hlt]
    have hn:=ih (i + 1) (by omega)
    rw [lfs_step g i hlt] at hn
    have l1:=lfs_len (g.take i)
    rw [List.length_take] at l1
    refine Ev.succ ?_
    simp only [impl_LeavesOf.l0,hrd]
    rw [wrap_succ (i:=(i : Int)) (n:=g.length) (by omega) (by omega) (by omega)]
    refine Ev.pos (by omega) (Ev.pos (by omega) (Ev.pos (by omega) ?_))
    cases h1 : g[i].f1 with
    | true =>
     rw [h1,if_pos rfl,List.append_nil] at hn
     exact Ev.pos rfl hn
    | false =>
     rw [h1,if_neg (by simp)] at hn
     exact Ev.neg (by simp) (Ev.pos (by omega) hn)
  exact key g.length 0 (by omega)
end Go.Proofs.Ytfphcdbnnienhaa.P
namespace Go.Proofs.Ytfphcdbnnienhaa.P
open Go.RowKit Go.Proofs.YtfphcdbnnienhaaW.PrintWords Go.Proofs.YtfphcdbnnienhaaW.PrintLast Go.Proofs.YtfphcdbnnienhaaW.PrintMore
attribute [local go_sem] max2_int min2_int max_two min_two max_three min_three max_four min_four
set_option linter.unusedVariables false
set_option linter.unusedSimpArgs false
set_option maxHeartbeats 2000000 in
theorem slices_IndexFunc_Part.callsF (A : Option Addr) (c : Nat) (l : List S47) (g : Nat) (lb : Array Value) (p : S47 → Bool) (w : World) (eg : ∀ args w,(callFunc g args).run Try.prog w = .ok (.enter g args) w)
  (hr : Kd.C k47 w A l.length l) (hc : l.length ≤ c) (hp : ∀ x,x ∈ l → ∀ W,Below w.heap.size w W → Calls Try.prog g (#[.agg #[.int .i64 x.f0,.bool x.f1,.int .i64 x.f2,.int .i64 x.f3]] ++ lb) W fun e w'=>e = .returned (.bool (p x)) ∧ Below W.heap.size W w') :
  Calls Try.prog 73 #[.slice A l.length c,.func (.func g) #[] lb] w fun e w'=>e = .returned (.int .i64 (idxP p l)) ∧ Below w.heap.size w w':=by
 have HR:=a0_ hr
 have HP:=a0_ hp
 have hmax : l.length ≤ 9223372036854775807:=hr.2.1
 clear hr hp hc
 go_enter Try.func73,Try.ntmps73
 go_wp2
 go_loopg [5,8] l.length (fun gg _ s8 wr=>∃ kk : Nat,kk ≤ l.length ∧ l.length - kk ≤ gg ∧ s8 = .int .i64 kk ∧ Aside0 (Below w.heap.size w wr) ∧ Aside0 (∀ j (hj : j < l.length),j < kk → p l[j] = false))
 case atStart=>exact ⟨0,Nat.zero_le _,by omega,rfl,⟨Below.refl _ w⟩,⟨fun j _ hj=>absurd hj (Nat.not_lt_zero _)⟩⟩
 case round =>
  obtain ⟨kk,hkk,hg,rfl,BW,HA⟩:=hrel
  by_cases hlt : kk < l.length
  ·have hltz : (kk : Int) < (l.length : Int):=by omega
   obtain ⟨ad,ea,hx0,hx1,hx2,hx3⟩:=at_T47 HR.out (kk : Int) (by omega) (by omega)
   cases ea
   have hrd : rd_T47 l (kk : Int) = l[kk]:=by simp [rd_T47,hlt]
   rw [hrd] at hx0 hx1 hx2 hx3
   rw [Int.toNat_natCast] at hx0 hx1 hx2 hx3
   replace hx0:=(BW.out.cell (World.block_lt_of_cell? w _ hx0)).trans hx0
   replace hx1:=(BW.out.cell (World.block_lt_of_cell? w _ hx1)).trans hx1
   replace hx2:=(BW.out.cell (World.block_lt_of_cell? w _ hx2)).trans hx2
   replace hx3:=(BW.out.cell (World.block_lt_of_cell? w _ hx3)).trans hx3
   have hcall:=HP.out l[kk] (List.getElem_mem hlt) wr BW.out
   clear hrd
   generalize hy : l[kk] = y at hx0 hx1 hx2 hx3 hcall
   have B:=a0_ hy
   clear hy
   cases hq : p y with
   | true =>
    rw [hq] at hcall
    go_wp2_with (go_at_fn g;refine hcall.mono ?_;rintro e w' ⟨rfl,hb'⟩)
    go_ret
    refine ⟨?_,below_step BW.out hb'⟩
    rw [idxP_hit p l kk hlt (by rw [B.out];exact hq) HA.out];rfl
   | false =>
    rw [hq] at hcall
    go_wp2_with (go_at_fn g;refine hcall.mono ?_;rintro e w' ⟨rfl,hb'⟩)
    go_roundg (l.length - (kk + 1))
    case measure=>omega
    case rel =>
     refine ⟨kk + 1,by omega,by omega,by go_num,⟨below_step BW.out hb'⟩,⟨fun j hj hjk=>?_⟩⟩
     by_cases e : j = kk
     ·subst e
      rw [B.out];exact hq
     ·exact HA.out j hj (by omega)
  ·have hltz : ¬ (kk : Int) < (l.length : Int):=by omega
   have : kk = l.length:=by omega
   subst this
   go_wp2
   go_ret
   refine ⟨?_,BW.out⟩
   rw [idxP_miss p l (fun j hj=>HA.out j hj hj)];rfl
end Go.Proofs.Ytfphcdbnnienhaa.P
namespace Go.Proofs.Ytfphcdbnnienhaa.P
open Go.RowKit Go.Proofs.YtfphcdbnnienhaaW.PrintWords Go.Proofs.YtfphcdbnnienhaaW.PrintLast Go.Proofs.YtfphcdbnnienhaaW.PrintMore
attribute [local go_sem] max2_int min2_int max_two min_two max_three min_three max_four min_four
set_option linter.unusedVariables false
set_option linter.unusedSimpArgs false
set_option maxHeartbeats 2000000 in
theorem slices_ContainsFunc_Part.callsF (A : Option Addr) (c : Nat) (l : List S47) (g : Nat) (lb : Array Value) (p : S47 → Bool) (w : World) (eg : ∀ args w,(callFunc g args).run Try.prog w = .ok (.enter g args) w)
  (hr : Kd.C k47 w A l.length l) (hc : l.length ≤ c) (hp : ∀ x,x ∈ l → ∀ W,Below w.heap.size w W → Calls Try.prog g (#[.agg #[.int .i64 x.f0,.bool x.f1,.int .i64 x.f2,.int .i64 x.f3]] ++ lb) W fun e w'=>e = .returned (.bool (p x)) ∧ Below W.heap.size W w') :
  Calls Try.prog 45 #[.slice A l.length c,.func (.func g) #[] lb] w fun e w'=>e = .returned (.bool (l.any p)) ∧ Below w.heap.size w w':=by
 have hcon:=slices_IndexFunc_Part.callsF A c l g lb p w eg hr hc hp
 rw [← idxP_nonneg]
 clear eg hr hc hp
 generalize idxP p l = r at hcon ⊢
 go_enter Try.func45,Try.ntmps45
 go_wp2_with (go_at_call 73;refine hcon.mono ?_;rintro e w' ⟨rfl,hb'⟩)
 go_ret
 exact ⟨rfl,hb'⟩
end Go.Proofs.Ytfphcdbnnienhaa.P
namespace Go.Proofs.Ytfphcdbnnienhaa.P
open Go.RowKit Go.Proofs.YtfphcdbnnienhaaW.PrintWords Go.Proofs.YtfphcdbnnienhaaW.PrintLast Go.Proofs.YtfphcdbnnienhaaW.PrintMore
attribute [local go_sem] max2_int min2_int max_two min_two max_three min_three max_four min_four
set_option linter.unusedVariables false
set_option linter.unusedSimpArgs false
def slices_Index_int.l0 : Nat → List Int → Int → Int → Int → Option (Int)
 | 0,_,_,_,_=>none
 | k + 1,x0,x1,x7,x8=>if x8 < x7 then (if 0 ≤ x8 then (if x8 < (x0.length : Int) then (if x1 = (rd x0 x8) then (some x8) else (slices_Index_int.l0 k x0 x1 x7 (wrap64 (x8 + 1)))) else (none)) else (none)) else (some (-1))
def slices_Index_int.f (k : Nat) (l0 : List Int) (a1 : Int) : Option (Int):=slices_Index_int.l0 k l0 a1 (l0.length : Int) 0
theorem slices_Index_int.mono_l : ∀ k,(∀ y0 y1 y2 y3,LeO (slices_Index_int.l0 k y0 y1 y2 y3) (slices_Index_int.l0 (k + 1) y0 y1 y2 y3))
 | 0=>fun _ _ _ _ r h=>by simp [slices_Index_int.l0] at h
 | k + 1=>by
  have ih0:=slices_Index_int.mono_l k
  ·intro y0 y1 y2 y3
   unfold slices_Index_int.l0
   repeat' first
   | (with_reducible exact ih0 _ _ _ _)
   | (with_reducible exact LeO.refl _)
   | (with_reducible exact LeO.none _)
   | (with_reducible refine LeO.ite ?_ ?_)
   | (with_reducible refine LeO.bind ?_ (fun _=>?_))
   | exact ih0 _ _ _ _
   | exact LeO.none _
   | refine LeO.ite ?_ ?_
   | refine LeO.bind ?_ (fun _=>?_)
theorem slices_Index_int.mono : ∀ a0 a1 k,LeO (slices_Index_int.f k a0 a1) (slices_Index_int.f (k + 1) a0 a1):=by
 intro a0 a1 k
 have ih0:=slices_Index_int.mono_l k
 unfold slices_Index_int.f
 repeat' first
   | (with_reducible exact ih0 _ _ _ _)
   | (with_reducible exact LeO.refl _)
   | (with_reducible exact LeO.none _)
   | (with_reducible refine LeO.ite ?_ ?_)
   | (with_reducible refine LeO.bind ?_ (fun _=>?_))
   | exact ih0 _ _ _ _
   | exact LeO.none _
   | refine LeO.ite ?_ ?_
   | refine LeO.bind ?_ (fun _=>?_)
set_option maxHeartbeats 8000000 in
set_option maxRecDepth 100000 in
theorem slices_Index_int.calls (k : Nat) (A0 : Option Addr) (c0 : Nat) (l0 : List Int) (a1 : Int) (r : Int) (w : World) (hr0 : Kd.C (Kd.int .i64) w A0 l0.length l0) (hc0 : l0.length ≤ c0) (h : slices_Index_int.f k l0 a1 = some r) :
  Calls Try.prog 82 #[.slice A0 l0.length c0,.int .i64 a1] w fun e w'=>e = .returned (.int .i64 r) ∧ Drawn0 w w':=by
 have HR0:=a0_ hr0
 have HC0:=a0_ hc0
 clear hr0 hc0
 have H : (slices_Index_int.l0 k l0 a1 (l0.length : Int) 0) = some r:=h
 clear h
 have H':=a0_ H
 clear H
 go_enter Try.func82,Try.ntmps82
 go_wp2
 go_loopg [8] k (fun kq v8 w'=>∃ (x8_1 : Int),v8 = .int .i64 x8_1 ∧ Aside0 (slices_Index_int.l0 kq l0 a1 (l0.length : Int) x8_1 = some r) ∧ Aside0 (kq ≤ k) ∧ Drawn0 w w')
 case atStart=>exact ⟨(0),(by first | rfl | (simp;done) | (simp [*];done)),H',⟨Nat.le_refl _⟩,by repeat (first | exact Drawn0.refl _ | apply Drawn0.step)⟩
 case round =>
  clear H'
  try clear p2
  obtain ⟨x8_1,rfl,HA,HK1,⟨m1,rfl⟩⟩:=hrel
  cases gk with
  | zero=>exact absurd HA.out (by simp [slices_Index_int.l0])
  | succ k1 =>
   have H:=HA.out
   clear HA
   simp only [slices_Index_int.l0] at H
   by_cases c3 : x8_1 < (l0.length : Int)
   ·rw [if_pos c3] at H
    have c3b0 : decide (x8_1 < (l0.length : Int)) = true:=decide_eq_true c3
    clear c3
    by_cases c4 : 0 ≤ x8_1
    ·rw [if_pos c4] at H
     have c4b0 : decide (0 ≤ x8_1) = true:=decide_eq_true c4
     clear c4
     by_cases c5 : x8_1 < (l0.length : Int)
     ·rw [if_pos c5] at H
      have c5b0 : decide (x8_1 < (l0.length : Int)) = true:=decide_eq_true c5
      clear c5
      by_cases c6 : a1 = (rd l0 x8_1)
      ·rw [if_pos c6] at H
       have c6b0 : (a1 == (rd l0 x8_1)) = true:=beq_iff_eq.mpr c6
       have c6b1 : (a1 != (rd l0 x8_1)) = false:=bne_eq_false_iff_eq.mpr c6
       clear c6
       obtain rfl:=Option.some.inj H
       have p1 : 0 ≤ (x8_1 : Int):=of_decide_eq_true (by first | (with_reducible assumption) | assumption)
       have q1 : x8_1 < (l0.length : Int):=of_decide_eq_true (by first | (with_reducible assumption) | assumption)
       obtain ⟨ad1,e1,hx1_0⟩:=Kd.at_int HR0.out x8_1 p1 q1
       cases e1
       replace p1:=eq_true p1
       replace q1:=eq_true q1
       go_wp2
       go_ret
       exact ⟨by first | rfl | (simp;done) | (simp [*];done),by repeat (first | exact Drawn0.refl _ | apply Drawn0.step)⟩
      ·rw [if_neg c6] at H
       have c6b0 : (a1 == (rd l0 x8_1)) = false:=beq_eq_false_iff_ne.mpr c6
       have c6b1 : (a1 != (rd l0 x8_1)) = true:=bne_iff_ne.mpr c6
       have H':=a0_ H
       clear H
       have p1 : 0 ≤ (x8_1 : Int):=of_decide_eq_true (by first | (with_reducible assumption) | assumption)
       have q1 : x8_1 < (l0.length : Int):=of_decide_eq_true (by first | (with_reducible assumption) | assumption)
       obtain ⟨ad1,e1,hx1_0⟩:=Kd.at_int HR0.out x8_1 p1 q1
       cases e1
       replace p1:=eq_true p1
       replace q1:=eq_true q1
       go_wp2
       go_roundg k1
       case measure=>have:=HK1.out;omega
       case rel=>exact ⟨(wrap64 (x8_1 + 1)),(by first | rfl | (simp;done) | (simp [*];done)),H',⟨by have:=HK1.out;omega⟩,by repeat (first | exact Drawn0.refl _ | apply Drawn0.step)⟩
     ·rw [if_neg c5] at H
      exact absurd H (by simp)
    ·rw [if_neg c4] at H
     exact absurd H (by simp)
   ·rw [if_neg c3] at H
    have c3b0 : decide (x8_1 < (l0.length : Int)) = false:=decide_eq_false c3
    clear c3
    obtain rfl:=Option.some.inj H
    go_wp2
    go_ret
    exact ⟨by first | rfl | (simp;done) | (simp [*];done),by repeat (first | exact Drawn0.refl _ | apply Drawn0.step)⟩
theorem slices_Index_int_l0 (l : List Int) (x : Int) (hs : l.length ≤ 9223372036854775807) (d : Nat) : ∀ (k : Nat) (i : Nat),i ≤ l.length → l.length - i = d → d < k → (∀ j (hj : j < l.length),j < i → decide (x = l[j]) = false) → slices_Index_int.l0 k l x (l.length : Int) (i : Int) = some (idxP (fun y=>decide (x = y)) l):=by
 induction d with
 | zero =>
  intro k i hi hd hk hA
  obtain ⟨k,rfl⟩ : ∃ m,k = m + 1:=⟨k - 1,by omega⟩
  simp only [slices_Index_int.l0]
  rw [if_neg (show ¬ (i : Int) < (l.length : Int) by omega),idxP_miss _ l (fun j hj=>hA j hj (by omega))]
 | succ d ih =>
  intro k i hi hd hk hA
  obtain ⟨k,rfl⟩ : ∃ m,k = m + 1:=⟨k - 1,by omega⟩
  have hlt : i < l.length:=by omega
  simp only [slices_Index_int.l0]
  have hrd : rd l (i : Int) = l[i]:=by simp [rd,hlt]
  rw [if_pos (show (i : Int) < (l.length : Int) by omega),if_pos (show (0 : Int) ≤ (i : Int) by omega),if_pos (show (i : Int) < (l.length : Int) by omega),hrd]
  by_cases h1 : x = l[i]
  ·rw [if_pos h1,idxP_hit (fun y=>decide (x = y)) l i hlt (decide_eq_true h1) hA]
  ·rw [if_neg h1,wrap_succ (n:=l.length) (by omega) (by omega) (by omega)]
   rw [show ((i : Int) + 1) = ((i + 1 : Nat) : Int) by omega]
   refine ih k (i + 1) (by omega) (by omega) (by omega) (fun j hj hji=>?_)
   by_cases e : j = i
   ·subst e;exact decide_eq_false h1
   ·exact hA j hj (by omega)
end Go.Proofs.Ytfphcdbnnienhaa.P
namespace Go.Proofs.Ytfphcdbnnienhaa.P
open Go.RowKit Go.Proofs.YtfphcdbnnienhaaW.PrintWords Go.Proofs.YtfphcdbnnienhaaW.PrintLast Go.Proofs.YtfphcdbnnienhaaW.PrintMore
attribute [local go_sem] max2_int min2_int max_two min_two max_three min_three max_four min_four
set_option linter.unusedVariables false
set_option linter.unusedSimpArgs false
def slices_Contains_int.f (k : Nat) (l0 : List Int) (a1 : Int) : Option (Bool):=(slices_Index_int.f k l0 a1).bind fun t1=>(some (decide (t1 ≥ 0)))
theorem slices_Contains_int.mono : ∀ a0 a1 k,LeO (slices_Contains_int.f k a0 a1) (slices_Contains_int.f (k + 1) a0 a1):=by
 intro a0 a1 k
 unfold slices_Contains_int.f
 repeat' first
   | (with_reducible exact slices_Index_int.mono _ _ _)
   | (with_reducible exact LeO.refl _)
   | (with_reducible exact LeO.none _)
   | (with_reducible refine LeO.ite ?_ ?_)
   | (with_reducible refine LeO.bind ?_ (fun _=>?_))
   | exact slices_Index_int.mono _ _ _
   | exact LeO.none _
   | refine LeO.ite ?_ ?_
   | refine LeO.bind ?_ (fun _=>?_)
set_option maxHeartbeats 8000000 in
set_option maxRecDepth 100000 in
theorem slices_Contains_int.calls (k : Nat) (A0 : Option Addr) (c0 : Nat) (l0 : List Int) (a1 : Int) (r : Bool) (w : World) (hr0 : Kd.C (Kd.int .i64) w A0 l0.length l0) (hc0 : l0.length ≤ c0) (h : slices_Contains_int.f k l0 a1 = some r) :
  Calls Try.prog 58 #[.slice A0 l0.length c0,.int .i64 a1] w fun e w'=>e = .returned (.bool r) ∧ Drawn0 w w':=by
 have HR0:=a0_ hr0
 have HC0:=a0_ hc0
 clear hr0 hc0
 have H : ((slices_Index_int.f k l0 a1).bind fun t1=>(some (decide (t1 ≥ 0)))) = some r:=h
 clear h
 replace H:=Option.bind_eq_some_iff.mp H
 obtain ⟨t1,A30,H⟩:=H
 replace H : (some (decide (t1 ≥ 0))) = some r:=H
 have A3:=a0_ A30
 clear A30
 obtain rfl:=Option.some.inj H
 go_enter Try.func58,Try.ntmps58
 go_wp2_with (first | ((with_reducible refine gate_callee (f:=82) rfl ?_);refine goesL_ (some 7) rfl rfl Try.func82 (by kernel_rfl) rfl #[.slice A0 l0.length c0,.int .i64 a1] rfl lm_ ?_;(with_reducible refine (slices_Index_int.calls k _ _ l0 a1 t1 _ ?side1 ?side2 A3.out).mono ?_);(case side1=>repeat (first | exact HR0.out | (with_reducible refine Kd.C_alloc ?_ _) | (with_reducible refine Kd.C_drewN ?_ _) | (with_reducible refine Kd.C_drew ?_)));(case side2=>exact HC0.out);rintro e w' ⟨rfl,⟨nd,rfl⟩⟩;refine ⟨_,rfl,?_⟩))
 go_ret
 exact ⟨by first | rfl | (simp;done) | (simp [*];done),by repeat (first | exact Drawn0.refl _ | apply Drawn0.step)⟩
theorem slices_Contains_int_ev (l : List Int) (x : Int) (hs : l.length ≤ 9223372036854775807) (k : Nat) (hk : l.length < k) : slices_Contains_int.f k l x = some (l.contains x):=by
 unfold slices_Contains_int.f slices_Index_int.f
 have h0:=slices_Index_int_l0 l x hs l.length k 0 (by omega) (by omega) hk (fun j _ hj=>absurd hj (Nat.not_lt_zero _))
 rw [show ((0 : Nat) : Int) = 0 from rfl] at h0
 rw [h0]
 simp only [Option.bind_some,Option.some.injEq]
 rw [idxP_nonneg]
 rw [Bool.eq_iff_iff,List.any_eq_true,List.contains_iff_mem]
 constructor
 ·rintro ⟨y,hy,e⟩
  have : x = y:=of_decide_eq_true e
  rw [this];exact hy
 ·intro hm;exact ⟨x,hm,decide_eq_true rfl⟩
end Go.Proofs.Ytfphcdbnnienhaa.P
namespace Go.Proofs.Ytfphcdbnnienhaa.P
open Go.RowKit Go.Proofs.YtfphcdbnnienhaaW.PrintWords Go.Proofs.YtfphcdbnnienhaaW.PrintLast Go.Proofs.YtfphcdbnnienhaaW.PrintMore
attribute [local go_sem] max2_int min2_int max_two min_two max_three min_three max_four min_four
set_option linter.unusedVariables false
set_option linter.unusedSimpArgs false
def impl_Tree_above.l0 : Nat → Int → List Int → List (S85) → Option (List Int)
 | 0,_,_,_=>none
 | k + 1,x1,x5,x2000=>if x1 ≥ 0 then (if x5.length < 17592186044416 then (if 0 ≤ x1 then (if x1 < (x2000.length : Int) then (impl_Tree_above.l0 k ((rd_T85 x2000 x1).f1) (x5 ++ [x1]) x2000) else (none)) else (none)) else (none)) else (if 0 ≤ (x5.length : Int) then (if (x5.length : Int) ≤ (x5.length : Int) then (some (x5.take ((x5.length : Int) : Int).toNat)) else (none)) else (none))
def impl_Tree_above.f (k : Nat) (l0_0 : List (S85)) (a1 : Int) : Option (List Int):=if 0 ≤ (l0_0.length : Int) then (if ((l0_0.length : Int) : Int).toNat ≤ 35184372088832 then (impl_Tree_above.l0 k a1 (([] : List Int)) l0_0) else (none)) else (none)
theorem impl_Tree_above.mono_l : ∀ k,(∀ y0 y1 y2,LeO (impl_Tree_above.l0 k y0 y1 y2) (impl_Tree_above.l0 (k + 1) y0 y1 y2))
 | 0=>fun _ _ _ r h=>by simp [impl_Tree_above.l0] at h
 | k + 1=>by
  have ih0:=impl_Tree_above.mono_l k
  ·intro y0 y1 y2
   unfold impl_Tree_above.l0
   repeat' first
   | (with_reducible exact ih0 _ _ _)
   | (with_reducible exact LeO.refl _)
   | (with_reducible exact LeO.none _)
   | (with_reducible refine LeO.ite ?_ ?_)
   | (with_reducible refine LeO.bind ?_ (fun _=>?_))
   | exact ih0 _ _ _
   | exact LeO.none _
   | refine LeO.ite ?_ ?_
   | refine LeO.bind ?_ (fun _=>?_)
theorem impl_Tree_above.mono : ∀ a0 a1 k,LeO (impl_Tree_above.f k a0 a1) (impl_Tree_above.f (k + 1) a0 a1):=by
 intro a0 a1 k
 have ih0:=impl_Tree_above.mono_l k
 unfold impl_Tree_above.f
 repeat' first
   | (with_reducible exact ih0 _ _ _)
   | (with_reducible exact LeO.refl _)
   | (with_reducible exact LeO.none _)
   | (with_reducible refine LeO.ite ?_ ?_)
   | (with_reducible refine LeO.bind ?_ (fun _=>?_))
   | exact ih0 _ _ _
   | exact LeO.none _
   | refine LeO.ite ?_ ?_
   | refine LeO.bind ?_ (fun _=>?_)
set_option maxHeartbeats 8000000 in
set_option maxRecDepth 100000 in
theorem impl_Tree_above.calls (k : Nat) (A0_0 : Option Addr) (c0_0 : Nat) (l0_0 : List (S85)) (a1 : Int) (r : List Int) (w : World) (hr0_0 : Kd.C k85 w A0_0 l0_0.length l0_0) (hc0_0 : l0_0.length ≤ c0_0) (h : impl_Tree_above.f k l0_0 a1 = some r) :
  Calls Try.prog 74 #[.agg #[.slice A0_0 l0_0.length c0_0],.int .i64 a1] w fun e w'=>∃ v0_ : Value,e = .returned (v0_) ∧ Kd.R (Kd.int .i64) 3 w' w.heap.size (fun _=>True) v0_ r ∧ Below w.heap.size w w':=by
 have hu25:=Try.underlying25
 have HR0_0:=a0_ hr0_0
 have HC0_0:=a0_ hc0_0
 clear hr0_0 hc0_0
 have HB:=a0_ (Below.refl w.heap.size w)
 have H : (if 0 ≤ (l0_0.length : Int) then (if ((l0_0.length : Int) : Int).toNat ≤ 35184372088832 then (impl_Tree_above.l0 k a1 (([] : List Int)) l0_0) else (none)) else (none)) = some r:=h
 clear h
 by_cases c3 : 0 ≤ (l0_0.length : Int)
 ·rw [if_pos c3] at H
  have c3b0:=eq_true c3
  have c3b1 : decide (0 ≤ (l0_0.length : Int)) = true:=decide_eq_true c3
  clear c3
  by_cases c4 : ((l0_0.length : Int) : Int).toNat ≤ 35184372088832
  ·rw [if_pos c4] at H
   have c4b0:=eq_true c4
   have c4b1 : decide (((l0_0.length : Int) : Int).toNat ≤ 35184372088832) = true:=decide_eq_true c4
   clear c4
   obtain ⟨y2,hy2⟩ : ∃ y_ : List Int,y_ = (([] : List Int)):=⟨_,rfl⟩
   replace H : (impl_Tree_above.l0 k a1 y2 l0_0) = some r:=by first | (rw [hy2];with_reducible exact H) | (have H2_:=(Option.bind_some _ _).symm.trans H;rw [hy2];with_reducible exact H2_) | (have H2_:=(Option.bind_some _ _).symm.trans H;with_reducible exact H2_) | with_reducible exact H | (rw [hy2];exact H) | exact H
   have Ny2:=a0_ hy2
   clear hy2
   have H':=a0_ H
   clear H
   go_enter Try.func74,Try.ntmps74
   go_wp2_with (first | ((with_reducible refine gate_dst (N:=2) rfl ?_);refine box_event ?hg (N:=2) ?hd (cs:=#[.slice A0_0 l0_0.length c0_0]) (t:=25) ?hr ?_;(case hd=>rfl);(case hg=>rfl);(case hr=>first | (go_simp;done) | (go_simp;rfl));intro gb1 hg w5 hbox hb;have BK1:=a0_ (hbox);have GW1:=a0_ ((by rw [hg];exact (below_size hb_) : w.heap.size ≤ gb1));have GE1:=a0_ ((by rw [hg];exact (below_size hb_) : w.heap.size ≤ gb1));replace HB:=a0_ (below_step hb_ hb);clear hb hbox hg;have hcz6_0 : w5.cell? ⟨gb1,0,none⟩ = some (.slice A0_0 l0_0.length c0_0):=(blk_cell BK1.out 0).trans rfl;have hfz6_0:=blk_frozen BK1.out 0) | ((with_reducible refine gate_dst (N:=9) rfl ?_);refine Kd.R_make0 (Kd.int .i64) _ 3 rfl (N:=9) rfl 49 _ _ rfl (l0_0.length : Int) rfl rfl Try.underlying49 (.int .i64 0) 8 info3 rfl (by decide) (by omega) 0 (ok:=fun _=>True) (okp:=fun _=>True) rfl (fun _ hk=>hk) trivial (of_decide_eq_true (by first | (with_reducible assumption) | assumption)) (Nat.le_trans (Nat.mul_le_mul_right _ (of_decide_eq_true (by first | (with_reducible assumption) | assumption) : (l0_0.length : Int).toNat ≤ 35184372088832)) (by omega)) (Below.refl _ _) (Nat.le_refl _) ?_;intro v3 w7 ho8 hb hg_ hnew_;clear hg_ hnew_;(first | rw [← Ny2.out] at ho8 | (simp only [Int.reduceToNat] at ho8;rw [← Ny2.out] at ho8));have HO4:=a0_ (Kd.R_lower ho8 (below_size hb_));replace BK1:=kb_ BK1 hb;replace HB:=a0_ (below_step hb_ hb);clear hb ho8))
   go_loopg [1,5] k (fun kq v1 v5 w'=>∃ (x1_1 : Int) (x5_1 : List Int),v1 = .int .i64 x1_1 ∧ Aside0 (impl_Tree_above.l0 kq x1_1 x5_1 l0_0 = some r) ∧ Aside0 (kq ≤ k) ∧ Aside0 (Kd.R (Kd.int .i64) 3 w' w.heap.size (fun _=>True) v5 x5_1) ∧ Aside0 (w'.heap[gb1]? = some (.cells #[(.slice A0_0 l0_0.length c0_0)] 25 (0,0))) ∧ Aside0 (Below w.heap.size w w'))
   case atStart=>exact ⟨(a1),(y2),(by first | rfl | (simp;done) | (simp [*];done)),H',⟨Nat.le_refl _⟩,⟨by (with_reducible repeat (first | apply Kd.R_alloc | apply Kd.R_drewN | apply Kd.R_drew));exact HO4.out⟩,⟨by (with_reducible repeat (first | refine blk_drewN ?_ _ | refine blk_drew ?_ | refine blk_alloc ?_ _));exact BK1.out⟩,⟨hb_⟩⟩
   case round =>
    clear H'
    try clear p2
    try clear c3
    try clear c3b0
    try clear c3b1
    try clear c4
    try clear c4b0
    try clear c4b1
    try clear c7
    try clear hcz6_0
    try clear hfz6_0
    obtain ⟨x1_1,x5_1,rfl,HA,HK1,HO_5,BK1,HB⟩:=hrel
    cases gk with
    | zero=>exact absurd HA.out (by simp [impl_Tree_above.l0])
    | succ k1 =>
     have H:=HA.out
     clear HA
     simp only [impl_Tree_above.l0] at H
     by_cases c9 : x1_1 ≥ 0
     ·rw [if_pos c9] at H
      have c9b0 : decide (0 ≤ x1_1) = true:=decide_eq_true c9
      clear c9
      by_cases c10 : x5_1.length < 17592186044416
      ·rw [if_pos c10] at H
       have LMc10:=a0_ c10
       clear c10
       obtain ⟨y5,hy5⟩ : ∃ y_ : List Int,y_ = (x5_1 ++ [x1_1]):=⟨_,rfl⟩
       replace H : (if 0 ≤ x1_1 then (if x1_1 < (l0_0.length : Int) then (impl_Tree_above.l0 k1 ((rd_T85 l0_0 x1_1).f1) y5 l0_0) else (none)) else (none)) = some r:=by first | (rw [hy5];with_reducible exact H) | (have H2_:=(Option.bind_some _ _).symm.trans H;rw [hy5];with_reducible exact H2_) | (have H2_:=(Option.bind_some _ _).symm.trans H;with_reducible exact H2_) | with_reducible exact H | (rw [hy5];exact H) | exact H
       have Ny5:=a0_ hy5
       clear hy5
       by_cases c11 : 0 ≤ x1_1
       ·rw [if_pos c11] at H
        have c11b0 : decide (0 ≤ x1_1) = true:=decide_eq_true c11
        clear c11
        by_cases c12 : x1_1 < (l0_0.length : Int)
        ·rw [if_pos c12] at H
         have c12b0 : decide (x1_1 < (l0_0.length : Int)) = true:=decide_eq_true c12
         clear c12
         have H':=a0_ H
         clear H
         go_wp2_with (first | ((with_reducible refine gate_builtin (b:=.append) (xs:=#[.tmp 18,.tmp 20]) rfl ?_);at_builtin;refine Kd.R_append (Kd.int .i64) (w0:=w) w.heap.size rfl (.tmp 18) (.tmp 20) 49 3 (.int .i64 0) 8 rfl Try.underlying49 info3 rfl (by decide) (by omega) u5 x5_1 x1_1 [.int .i64 x1_1] (fun _=>True) (fun _=>False) rfl rfl ?aP (fun _ hk=>hk.elim) ?aF ?aO ?aB ?aS ?aL ?_;(case aP=>exact rfl);(case aB=>exact hb_);(case aF=>exact (fun _ _=>trivial));(case aO=>exact (rr_ HO_5.out));(case aS=>exact (below_size hb_));(case aL=>have:=LMc10.out;omega);intro v6 w13 ho hb hg hat;rw [← Ny5.out] at ho;replace BK1:=a0_ (blk_grown (bb_ BK1.out) hg (Kd.R_ne HO_5.out BK1.out (by decide)));have HO7:=a0_ (ho);replace HB:=a0_ (hb);clear HO_5;clear ho hb hg hat;have hcz14_0 : w13.cell? ⟨gb1,0,none⟩ = some (.slice A0_0 l0_0.length c0_0):=(blk_cell BK1.out 0).trans rfl;have hfz14_0:=blk_frozen BK1.out 0;have p8 : 0 ≤ (x1_1 : Int):=of_decide_eq_true (by first | (with_reducible assumption) | assumption);have q8 : x1_1 < (l0_0.length : Int):=of_decide_eq_true (by first | (with_reducible assumption) | assumption);obtain ⟨ad8,e8,hx8_0,hx8_1⟩:=at_T85 HR0_0.out x1_1 p8 q8;cases e8;replace hx8_0:=(HB.out.cell (World.block_lt_of_cell? w _ hx8_0)).trans hx8_0;replace hx8_1:=(HB.out.cell (World.block_lt_of_cell? w _ hx8_1)).trans hx8_1;replace p8:=eq_true p8;replace q8:=eq_true q8))
         go_roundg k1
         case measure=>have:=HK1.out;omega
         case rel=>exact ⟨((rd_T85 l0_0 x1_1).f1),(y5),(by first | rfl | (simp;done) | (simp [*];done)),H',⟨by have:=HK1.out;omega⟩,⟨by (with_reducible repeat (first | apply Kd.R_alloc | apply Kd.R_drewN | apply Kd.R_drew));exact HO7.out⟩,⟨by (with_reducible repeat (first | refine blk_drewN ?_ _ | refine blk_drew ?_ | refine blk_alloc ?_ _));exact BK1.out⟩,⟨hb_⟩⟩
        ·rw [if_neg c12] at H
         exact absurd H (by simp)
       ·rw [if_neg c11] at H
        exact absurd H (by simp)
      ·rw [if_neg c10] at H
       exact absurd H (by simp)
     ·rw [if_neg c9] at H
      have c9b0 : decide (0 ≤ x1_1) = false:=decide_eq_false c9
      clear c9
      by_cases c15 : 0 ≤ (x5_1.length : Int)
      ·rw [if_pos c15] at H
       have c15b0:=eq_true c15
       have c15b1 : decide (0 ≤ (x5_1.length : Int)) = true:=decide_eq_true c15
       clear c15
       by_cases c16 : (x5_1.length : Int) ≤ (x5_1.length : Int)
       ·rw [if_pos c16] at H
        have c16b0:=eq_true c16
        have c16b1 : decide ((x5_1.length : Int) ≤ (x5_1.length : Int)) = true:=decide_eq_true c16
        clear c16
        obtain ⟨y9,hy9⟩ : ∃ y_ : List Int,y_ = (x5_1.take ((x5_1.length : Int) : Int).toNat):=⟨_,rfl⟩
        replace H : (some y9) = some r:=by first | (rw [hy9];with_reducible exact H) | (have H2_:=(Option.bind_some _ _).symm.trans H;rw [hy9];with_reducible exact H2_) | (have H2_:=(Option.bind_some _ _).symm.trans H;with_reducible exact H2_) | with_reducible exact H | (rw [hy9];exact H) | exact H
        have Ny9:=a0_ hy9
        clear hy9
        obtain rfl:=Option.some.inj H
        obtain ⟨Ao17,co17,eo17⟩:=Kd.R_slice HO_5.out
        subst eo17
        have q18 : x5_1.length ≤ co17:=(Kd.R_reads' HO_5.out).2.1
        have hr18:=Kd.R_clip2 HO_5.out (((x5_1.length : Int) : Int).toNat) (by omega)
        rw [← Ny9.out] at hr18
        clear HO_5
        have HO11:=a0_ hr18
        clear hr18
        go_wp2
        go_ret
        exact ⟨_,by first | rfl | (simp [errW_none,errW_some] <;> rfl) | (simp [*,errW_none,errW_some] <;> rfl),by (with_reducible repeat (first | apply Kd.R_alloc | apply Kd.R_drewN | apply Kd.R_drew));exact HO11.out,hb_⟩
       ·rw [if_neg c16] at H
        exact absurd H (by simp)
      ·rw [if_neg c15] at H
       exact absurd H (by simp)
  ·rw [if_neg c4] at H
   exact absurd H (by simp)
 ·rw [if_neg c3] at H
  exact absurd H (by simp)
theorem impl_Tree_above_l0 {t : List Cls} (h : vT t = true) : ∀ (k : Nat) (a : Int) (acc : List Int),a < (t.length : Int) → a + 1 < (k : Int) → 0 < k → acc.length + k ≤ 1000000 → impl_Tree_above.l0 k a acc t = some (acc ++ abv t a):=by
 intro k
 induction k with
 | zero=>intro a acc _ _ h0;exact absurd h0 (Nat.lt_irrefl 0)
 | succ k ih =>
  intro a acc ha hk _ hl
  simp only [impl_Tree_above.l0]
  by_cases h0 : a ≥ 0
  ·have hp:=vT_par' h a h0 ha
   rw [if_pos h0,if_pos (show acc.length < 17592186044416 by omega),if_pos (show 0 ≤ a from h0),if_pos ha,abv_step h a h0 ha,ih _ _ (by omega) (by omega) (by omega) (by simp;omega)]
   simp
  ·rw [if_neg h0,abv_neg t a (by omega),List.append_nil]
   rw [if_pos (show (0 : Int) ≤ (acc.length : Int) by omega),if_pos (Int.le_refl _)]
   rw [List.take_of_length_le (by simp)]
theorem impl_Tree_above_ev {t : List Cls} (h : vT t = true) (a : Int) (ha : a < (t.length : Int)) (k : Nat) (hk : 10 ≤ k) (hk2 : k ≤ 1000000) : impl_Tree_above.f k t a = some (abv t a):=by
 have h2:=vT_len h
 unfold impl_Tree_above.f
 rw [if_pos (show (0 : Int) ≤ (t.length : Int) by omega),if_pos (show ((t.length : Int) : Int).toNat ≤ 35184372088832 by omega),impl_Tree_above_l0 h k a [] ha (by omega) (by omega) (by simp;omega)]
 simp
end Go.Proofs.Ytfphcdbnnienhaa.P
namespace Go.Proofs.Ytfphcdbnnienhaa.P
open Go.RowKit Go.Proofs.YtfphcdbnnienhaaW.PrintWords Go.Proofs.YtfphcdbnnienhaaW.PrintLast Go.Proofs.YtfphcdbnnienhaaW.PrintMore
attribute [local go_sem] max2_int min2_int max_two min_two max_three min_three max_four min_four
set_option linter.unusedVariables false
set_option linter.unusedSimpArgs false
def impl_Tree_is.f (k : Nat) (l0_0 : List (S85)) (a1 : Int) (a2 : Int) : Option (Bool):=(impl_Tree_above.f k l0_0 a1).bind fun t2=>((slices_Contains_int.f k t2 a2).bind fun t5=>(some t5))
theorem impl_Tree_is.mono : ∀ a0 a1 a2 k,LeO (impl_Tree_is.f k a0 a1 a2) (impl_Tree_is.f (k + 1) a0 a1 a2):=by
 intro a0 a1 a2 k
 unfold impl_Tree_is.f
 repeat' first
   | (with_reducible exact impl_Tree_above.mono _ _ _)
   | (with_reducible exact slices_Contains_int.mono _ _ _)
   | (with_reducible exact LeO.refl _)
   | (with_reducible exact LeO.none _)
   | (with_reducible refine LeO.ite ?_ ?_)
   | (with_reducible refine LeO.bind ?_ (fun _=>?_))
   | exact impl_Tree_above.mono _ _ _
   | exact slices_Contains_int.mono _ _ _
   | exact LeO.none _
   | refine LeO.ite ?_ ?_
   | refine LeO.bind ?_ (fun _=>?_)
set_option maxHeartbeats 8000000 in
set_option maxRecDepth 100000 in
theorem impl_Tree_is.calls (k : Nat) (A0_0 : Option Addr) (c0_0 : Nat) (l0_0 : List (S85)) (a1 : Int) (a2 : Int) (r : Bool) (w : World) (hr0_0 : Kd.C k85 w A0_0 l0_0.length l0_0) (hc0_0 : l0_0.length ≤ c0_0) (h : impl_Tree_is.f k l0_0 a1 a2 = some r) :
  Calls Try.prog 47 #[.agg #[.slice A0_0 l0_0.length c0_0],.int .i64 a1,.int .i64 a2] w fun e w'=>e = .returned (.bool r) ∧ Below w.heap.size w w':=by
 have hu25:=Try.underlying25
 have HR0_0:=a0_ hr0_0
 have HC0_0:=a0_ hc0_0
 clear hr0_0 hc0_0
 have HB:=a0_ (Below.refl w.heap.size w)
 have H : ((impl_Tree_above.f k l0_0 a1).bind fun t2=>((slices_Contains_int.f k t2 a2).bind fun t5=>(some t5))) = some r:=h
 clear h
 replace H:=Option.bind_eq_some_iff.mp H
 obtain ⟨t2,A40,H⟩:=H
 try dsimp only at H
 have A4:=a0_ A40
 clear A40
 replace H:=Option.bind_eq_some_iff.mp H
 obtain ⟨t5,A50,H⟩:=H
 replace H : (some t5) = some r:=H
 have A5:=a0_ A50
 clear A50
 obtain rfl:=Option.some.inj H
 go_enter Try.func47,Try.ntmps47
 go_wp2_with (first | ((with_reducible refine gate_dst (N:=3) rfl ?_);refine box_event ?hg (N:=3) ?hd (cs:=#[.slice A0_0 l0_0.length c0_0]) (t:=25) ?hr ?_;(case hd=>rfl);(case hg=>rfl);(case hr=>first | (go_simp;done) | (go_simp;rfl));intro gb1 hg w6 hbox hb;have BK1:=a0_ (hbox);have GW1:=a0_ ((by rw [hg];exact (below_size hb_) : w.heap.size ≤ gb1));have GE1:=a0_ ((by rw [hg];exact (below_size hb_) : w.heap.size ≤ gb1));replace HB:=a0_ (below_step hb_ hb);clear hb hbox hg;have hcz7_0 : w6.cell? ⟨gb1,0,none⟩ = some (.slice A0_0 l0_0.length c0_0):=(blk_cell BK1.out 0).trans rfl;have hfz7_0:=blk_frozen BK1.out 0) | ((with_reducible refine gate_callee (f:=74) rfl ?_);refine goesL_ (some 9) rfl rfl Try.func74 (by kernel_rfl) rfl #[.agg #[.slice A0_0 l0_0.length c0_0],.int .i64 a1] rfl lm_ ?_;(with_reducible refine (impl_Tree_above.calls k _ _ l0_0 a1 t2 _ ?side1 ?side2 A4.out).mono ?_);(case side1=>exact cc_ (Kd.C_below HR0_0.out HB.out));(case side2=>exact HC0_0.out);rintro e w8 ⟨v3,rfl,ho0,hb⟩;refine ⟨_,rfl,?_⟩;have HO4:=a0_ (Kd.R_lower ho0 (below_size hb_));replace BK1:=kb_ BK1 hb;replace HB:=a0_ (below_step hb_ hb);(try clear hb);(try clear ho0);obtain ⟨Ao9,co9,eo9⟩:=Kd.R_slice HO4.out;subst eo9) | ((with_reducible refine gate_callee (f:=58) rfl ?_);refine goesL_ (some 11) rfl rfl Try.func58 (by kernel_rfl) rfl #[.slice Ao9 t2.length co9,.int .i64 a2] rfl lm_ ?_;(with_reducible refine (slices_Contains_int.calls k _ _ t2 a2 t5 _ ?side1 ?side2 A5.out).mono ?_);(case side1=>exact cc_ (Kd.R_reads' HO4.out).2.2);(case side2=>exact (Kd.R_reads' HO4.out).2.1);rintro e w' ⟨rfl,⟨nd,rfl⟩⟩;refine ⟨_,rfl,?_⟩))
 go_ret
 exact ⟨by first | rfl | (simp [errW_none,errW_some] <;> rfl) | (simp [*,errW_none,errW_some] <;> rfl),hb_⟩
theorem impl_Tree_is_ev {t : List Cls} (h : vT t = true) (a b : Int) (ha : a < (t.length : Int)) (k : Nat) (hk : 10 ≤ k) (hk2 : k ≤ 1000000) : impl_Tree_is.f k t a b = some (isA t a b):=by
 have hl:=abv_len h a ha
 unfold impl_Tree_is.f
 rw [impl_Tree_above_ev h a ha k hk hk2]
 simp only [Option.bind_some]
 rw [slices_Contains_int_ev _ _ (by omega) k (by omega)]
 rfl
end Go.Proofs.Ytfphcdbnnienhaa.P
namespace Go.Proofs.Ytfphcdbnnienhaa.P
open Go.RowKit Go.Proofs.YtfphcdbnnienhaaW.PrintWords Go.Proofs.YtfphcdbnnienhaaW.PrintLast Go.Proofs.YtfphcdbnnienhaaW.PrintMore
attribute [local go_sem] max2_int min2_int max_two min_two max_three min_three max_four min_four
set_option linter.unusedVariables false
set_option linter.unusedSimpArgs false
theorem impl_HasClass_1.callsF (B D : Nat) (A : Option Addr) (c : Nat) (t : List Cls) (a : Int) (p : Prt) (w : World) (hv : vT t = true) (hp : p.f1 = false → p.f2 < (t.length : Int)) (hB : w.heap[B]? = some (.cells #[.slice A t.length c] 25 (0,0))) (hD : w.heap[D]? = some (.cells #[.int .i64 a] 3 (0,0))) (hr : Kd.C k85 w A t.length t) (hc : t.length ≤ c) :
  Calls Try.prog 46 #[.agg #[.int .i64 p.f0,.bool p.f1,.int .i64 p.f2,.int .i64 p.f3],.pointer (some ⟨B,0,none⟩),.pointer (some ⟨D,0,none⟩)] w fun e w'=>e = .returned (.bool (!p.f1 && isA t p.f2 a)) ∧ Below w.heap.size w w':=by
 have hu31:=Try.underlying25
 have hu74:=Try.underlying47
 obtain ⟨p0,p1,p2,p3⟩:=p
 have HB:=a0_ (below1 w (.cells #[.int .i64 p0,.bool p1,.int .i64 p2,.int .i64 p3] 47))
 have hcell : (w.alloc (.cells #[.int .i64 p0,.bool p1,.int .i64 p2,.int .i64 p3] 47)).cell? ⟨B,0,none⟩ = some (.slice A t.length c):=(blk_cell (blk_keptB hB HB.out) 0).trans rfl
 have hcell2 : (w.alloc (.cells #[.int .i64 p0,.bool p1,.int .i64 p2,.int .i64 p3] 47)).cell? ⟨D,0,none⟩ = some (.int .i64 a):=(blk_cell (blk_keptB hD HB.out) 0).trans rfl
 have hx1:=(blk_cell (heap_new1 w (.cells #[.int .i64 p0,.bool p1,.int .i64 p2,.int .i64 p3] 47)) 1).trans rfl
 have hx2:=(blk_cell (heap_new1 w (.cells #[.int .i64 p0,.bool p1,.int .i64 p2,.int .i64 p3] 47)) 2).trans rfl
 cases p1 with
 | true =>
  clear hB hD hr hv hp
  go_enter Try.func46,Try.ntmps46
  go_wp2
  go_ret
  exact ⟨rfl,HB.out⟩
 | false =>
  have hcon:=a0_ (fun (W : World) (hb : Below w.heap.size w W)=>impl_Tree_is.calls 10 A c t p2 a (isA t p2 a) W (Kd.C_below hr hb) hc (impl_Tree_is_ev hv p2 a (hp rfl) 10 (by omega) (by omega)))
  clear hB hD hr hv hp
  generalize isA t p2 a = r at hcon ⊢
  go_enter Try.func46,Try.ntmps46
  go_wp2_with (go_at_call 47;refine (hcon.out _ HB.out).mono ?_;rintro e w' ⟨rfl,hb'⟩)
  go_ret
  exact ⟨by simp,below_step HB.out hb'⟩
end Go.Proofs.Ytfphcdbnnienhaa.P
namespace Go.Proofs.Ytfphcdbnnienhaa.P
open Go.RowKit Go.Proofs.YtfphcdbnnienhaaW.PrintWords Go.Proofs.YtfphcdbnnienhaaW.PrintLast Go.Proofs.YtfphcdbnnienhaaW.PrintMore
attribute [local go_sem] max2_int min2_int max_two min_two max_three min_three max_four min_four
set_option linter.unusedVariables false
set_option linter.unusedSimpArgs false
def impl_HasClass.f (l0_0 : List Cls) (l1 : List Prt) (a2 : Int) : Option Bool:=if smT l0_0 = true then some (hasP l0_0 l1 a2) else none
set_option maxHeartbeats 2000000 in
set_option maxRecDepth 100000 in
theorem impl_HasClass.calls (A0_0 : Option Addr) (c0_0 : Nat) (l0_0 : List (S85)) (A1 : Option Addr) (c1 : Nat) (l1 : List (S47)) (a2 : Int) (r : Bool) (w : World) (hr0_0 : Kd.C k85 w A0_0 l0_0.length l0_0) (hc0_0 : l0_0.length ≤ c0_0) (hr1 : Kd.C k47 w A1 l1.length l1) (hc1 : l1.length ≤ c1) (h : impl_HasClass.f l0_0 l1 a2 = some r) :
  Calls Try.prog 20 #[.agg #[.slice A0_0 l0_0.length c0_0],.slice A1 l1.length c1,.int .i64 a2] w fun e w'=>e = .returned (.bool r) ∧ Below w.heap.size w w':=by
 have hu31:=Try.underlying25
 have hsm : smT l0_0 = true:=by
  apply Classical.byContradiction
  intro hn
  rw [impl_HasClass.f,if_neg hn] at h
  cases h
 rw [impl_HasClass.f,if_pos hsm] at h
 obtain rfl:=Option.some.inj h
 clear h
 obtain ⟨kG,hkG⟩:=Ev.out (impl_ValidGroup_ev l0_0 l1 hr0_0.2.1 hr1.2.1 hsm)
 have HG:=a0_ (fun (W : World) (hb : Below w.heap.size w W)=>impl_ValidGroup.calls kG A0_0 c0_0 l0_0 A1 c1 l1 (vG l0_0 l1) W (Kd.C_below hr0_0 hb) hc0_0 (Kd.C_below hr1 hb) hc1 hkG)
 have HH:=a0_ (fun (W : World) (hb : Below w.heap.size w W)=>impl_Tree_has.calls A0_0 c0_0 l0_0 a2 (hasC l0_0 a2) W (Kd.C_below hr0_0 hb) hc0_0 (impl_Tree_has_ev l0_0 a2 hr0_0.2.1))
 have eg : ∀ args w,(callFunc 46 args).run Try.prog w = .ok (.enter 46 args) w:=enters_of Try.func46 (by kernel_rfl) rfl
 have BK1:=a0_ (heap_old2 w (.cells #[.slice A0_0 l0_0.length c0_0] 25) (.cells #[.int .i64 a2] 3))
 have BK2:=a0_ (heap_new2 w (.cells #[.slice A0_0 l0_0.length c0_0] 25) (.cells #[.int .i64 a2] 3))
 have HB:=a0_ (below2 w (.cells #[.slice A0_0 l0_0.length c0_0] 25) (.cells #[.int .i64 a2] 3))
 have hcell:=(blk_cell BK1.out 0).trans rfl
 have hcell2:=(blk_cell BK2.out 0).trans rfl
 have HC:=a0_ (fun (hv : vG l0_0 l1 = true) (W : World) (hb : Below w.heap.size w W) (hB : W.heap[w.heap.size]? = some (.cells #[.slice A0_0 l0_0.length c0_0] 25 (0,0))) (hD : W.heap[w.heap.size + 1]? = some (.cells #[.int .i64 a2] 3 (0,0)))=>slices_ContainsFunc_Part.callsF A1 c1 l1 46 #[.pointer (some ⟨w.heap.size,0,none⟩),.pointer (some ⟨w.heap.size + 1,0,none⟩)] (fun p=>!p.f1 && isA l0_0 p.f2 a2) W eg (Kd.C_below hr1 hb) hc1 (fun x hx W' hW=>impl_HasClass_1.callsF w.heap.size (w.heap.size + 1) A0_0 c0_0 l0_0 a2 x W' (vG_tree hv).1 (fun h1=>(vG_leaf hv x hx h1).2) (blk_keptB hB hW) (blk_keptB hD hW) (Kd.C_below (Kd.C_below hr0_0 hb) hW) hc0_0))
 unfold hasP
 clear hr0_0 hr1 hsm eg hkG
 generalize (l1.any fun p=>!p.f1 && isA l0_0 p.f2 a2) = b3 at HC ⊢
 cases hv : vG l0_0 l1 with
 | false =>
  rw [hv] at HG
  clear HC hv
  go_enter Try.func20,Try.ntmps20
  go_wp2_with (go_at_call 15;refine (HG.out _ HB.out).mono ?_;rintro e w' ⟨rfl,hb'⟩)
  go_ret
  exact ⟨rfl,below_step HB.out hb'⟩
 | true =>
  rw [hv] at HG
  replace HC:=a0_ (HC.out hv)
  clear hv
  cases hh : hasC l0_0 a2 with
  | false =>
   rw [hh] at HH
   clear HC hh
   go_enter Try.func20,Try.ntmps20
   go_wp2_with (first
    | (go_at_call 15;refine (HG.out _ HB.out).mono ?_;rintro e w' ⟨rfl,hb'⟩;replace HB:=a0_ (below_step HB.out hb');replace hcell:=pw_cell_below hb' hcell;replace hcell2:=pw_cell_below hb' hcell2;clear hb')
    | (go_at_call 44;refine (HH.out _ HB.out).mono ?_;rintro e w' ⟨rfl,hb'⟩))
   go_ret
   exact ⟨rfl,below_step HB.out hb'⟩
  | true =>
   rw [hh] at HH
   clear hh
   go_enter Try.func20,Try.ntmps20
   go_wp2_with (first
    | (go_at_call 15;refine (HG.out _ HB.out).mono ?_;rintro e w' ⟨rfl,hb'⟩;replace HB:=a0_ (below_step HB.out hb');replace BK1:=a0_ (blk_keptB BK1.out hb');replace BK2:=a0_ (blk_keptB BK2.out hb');replace hcell:=pw_cell_below hb' hcell;replace hcell2:=pw_cell_below hb' hcell2;clear hb')
    | (go_at_call 44;refine (HH.out _ HB.out).mono ?_;rintro e w' ⟨rfl,hb'⟩;replace HB:=a0_ (below_step HB.out hb');replace BK1:=a0_ (blk_keptB BK1.out hb');replace BK2:=a0_ (blk_keptB BK2.out hb');replace hcell:=pw_cell_below hb' hcell;replace hcell2:=pw_cell_below hb' hcell2;clear hb')
    | (go_at_call 45;refine (HC.out _ HB.out BK1.out BK2.out).mono ?_;rintro e w2 ⟨rfl,hb2⟩))
   go_ret
   exact ⟨by simp,below_step HB.out hb2⟩
theorem impl_HasClass_ev (t : List Cls) (g : List Prt) (a : Int) (hs : smT t = true) : Ev (fun _=>impl_HasClass.f t g a) (hasP t g a):=by
 refine Ev.const ?_
 unfold impl_HasClass.f
 rw [if_pos hs]
end Go.Proofs.Ytfphcdbnnienhaa.P
namespace Go.Proofs.Ytfphcdbnnienhaa.P
open Go.RowKit Go.Proofs.YtfphcdbnnienhaaW.PrintWords Go.Proofs.YtfphcdbnnienhaaW.PrintLast Go.Proofs.YtfphcdbnnienhaaW.PrintMore
attribute [local go_sem] max2_int min2_int max_two min_two max_three min_three max_four min_four
set_option linter.unusedVariables false
set_option linter.unusedSimpArgs false
def byL (b : List Int) : Prop:=b.length ≤ 2000 ∧ ∀ x ∈ b,0 ≤ x ∧ x ≤ 255
theorem byL_rd {b : List Int} (h : byL b) (i : Int) : 0 ≤ rd b i ∧ rd b i ≤ 255:=by
 unfold rd
 by_cases hi : i.toNat < b.length
 ·rw [List.getD_eq_getElem?_getD,List.getElem?_eq_getElem hi]
  exact h.2 _ (List.getElem_mem hi)
 ·rw [List.getD_eq_getElem?_getD,List.getElem?_eq_none (by omega)]
  show (0 : Int) ≤ 0 ∧ (0 : Int) ≤ 255
  omega
theorem xor_nonneg (x y : Int) (h0 : 0 ≤ x) (h1 : x < 4611686018427387904) (g0 : 0 ≤ y) (g1 : y < 4611686018427387904) : 0 ≤ Go.bits .xor .i64 x y:=by
 obtain ⟨a,rfl⟩:=Int.eq_ofNat_of_zero_le h0
 obtain ⟨b,rfl⟩:=Int.eq_ofNat_of_zero_le g0
 have ha : a < 2 ^ 62:=by omega
 have hb : b < 2 ^ 62:=by omega
 have ha' : a % 2 ^ 64 = a:=Nat.mod_eq_of_lt (by omega)
 have hb' : b % 2 ^ 64 = b:=Nat.mod_eq_of_lt (by omega)
 have hx:=Nat.xor_lt_two_pow ha hb
 have e : Go.bits .xor .i64 (a : Int) (b : Int) = ((a ^^^ b : Nat) : Int):=by
  have hk : IntKind.bits .i64 = 64:=rfl
  simp only [Go.bits,hk,BitVec.ofInt_natCast,BitVec.toNat_xor,BitVec.toNat_ofNat,ha',hb']
  rw [Go.IntKind.wrap_i64]
  generalize a ^^^ b = c at hx
  omega
 rw [e]
 omega
theorem tmod_in {x n : Int} (h0 : 0 ≤ x) (hn : 1 ≤ n) : 0 ≤ Int.tmod x n ∧ Int.tmod x n < n:=⟨Int.tmod_nonneg n h0,Int.tmod_lt_of_pos x (by omega)⟩
end Go.Proofs.Ytfphcdbnnienhaa.P
