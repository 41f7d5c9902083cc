/- Texts under the proof of FnTreeText: helper words, the functions' contracts and the plain laws. No condition. -/
import Derived.Test.YtacgehaipacehaaProg
import Derived.Below
import Derived.Deep.Draws
import Derived.Deep.AppendLies
import Derived.Maps.AppendAt
import Derived.OwnWalk
import Derived.Laws.BytesArg
import Derived.Laws.MakeOwn
import Derived.Laws.OwnMore
import Derived.Deep.OwnRows
import Derived.Tactics
import Derived.Lib.ConvBytes
import Derived.Laws.Slices
import Derived.WalkKit
import Derived.KernelRfl
import Derived.RowKit3
import Derived.Deep.LoopGhost
import Derived.Deep.QuietTactic
import Derived.BigQuiet
import Derived.WideLaws
import Derived.Deep.DeepCutAuto
import Derived.Deep.CutBlock
import Derived.Deep.RegionHeld3
import Derived.Laws.Rows
import Derived.Lib.AppendStr
import Derived.ArgAppend
import Derived.Laws.IdiomCopy
import Derived.OrdersHeld
import Derived.Laws.BitsLemmas
import Derived.RowKit
import Derived.Shelf.Abstract
import Derived.Test.YtacgehaipacehaaQFnTreeTextwWords
import Derived.Test.YtacgehaipacehaaQFnTreeTextwLast
import Derived.Test.YtacgehaipacehaaQFnTreeTextwTab
import Derived.Test.YtacgehaipacehaaQFnTreeTextwFour
import Derived.Test.YtacgehaipacehaaQFnTreeTextwQPut
import Derived.Test.YtacgehaipacehaaQFnTreeTextwApart
import Derived.Test.YtacgehaipacehaaQFnTreeTextwArr
import Derived.Test.YtacgehaipacehaaQFnTreeTextwZeros
import Derived.Test.YtacgehaipacehaaQFnTreeTextwFoot
import Derived.Test.YtacgehaipacehaaQFnTreeTextwKept
import Derived.Test.YtacgehaipacehaaQFnTreeTextwShare
import Derived.Test.YtacgehaipacehaaQFnTreeTextwN
import Derived.Test.YtacgehaipacehaaQFnTreeTextwFootNe
import Derived.Test.YtacgehaipacehaaQFnTreeTextwAt
import Derived.Test.YtacgehaipacehaaQFnTreeTextwEqStruct
import Derived.Test.YtacgehaipacehaaQFnTreeTextwRepsOne
import Derived.Test.YtacgehaipacehaaQFnTreeTextwInv
import Derived.Test.YtacgehaipacehaaQFnTreeTextwInvWords
import Derived.Test.YtacgehaipacehaaQFnTreeTextwGuard
import Derived.Test.YtacgehaipacehaaQFnTreeTextwNEv
import Derived.Test.YtacgehaipacehaaQFnTreeTextwMore
import Derived.Test.YtacgehaipacehaaQFnTreeTextwMine
import Derived.Lib.Builder
import Derived.Lib.UnsafeStr
import Derived.Test.YtacgehaipacehaaQFnTreeTextwShelf
import Derived.Lib.CutLaws
namespace Go.Proofs.Ytacgehaipacehaa.P
open Go.RowKit Go.Proofs.YtacgehaipacehaaW.PrintWords Go.Proofs.YtacgehaipacehaaW.PrintLast Go.Proofs.YtacgehaipacehaaW.PrintMore
theorem s1_ {α : Type} (l : List α) (i : Nat) (a : α) : l.toArray.setIfInBounds i a = (l.set i a).toArray := List.setIfInBounds_toArray l i a
theorem s2_ {α : Type} (a b : α) (l : List α) : (a :: l).set 0 b = b :: l := rfl
theorem s3_ {α : Type} (a b : α) (l : List α) (n : Nat) : (a :: l).set (n + 1) b = a :: l.set n b := rfl
theorem a0_ {P : Prop} (h : P) : Aside0 P := Aside0.mk h
theorem hbw_ {n : Nat} {w w' : World} (h : Below n w w' := by repeat (first | (with_reducible first | exact HB.out | apply below_alloc | apply pw_below_drewN | apply below_drew1 | refine below_set ?_ (Aside0.out (by assumption))) | exact HB.out)) : Below n w w' := h
theorem lm_ {P : Prop} (h : P := by (try simp only [List.map_toArray, List.map_cons, List.map_nil]); first | done | rfl | (simp only [List.length_drop, List.length_take]; rfl)) : P := h
theorem rr_ {P Q : Prop} (x : P) (h : P → Q := by intro x_; (with_reducible repeat (first | apply Kd.R_alloc | apply Kd.R_drewN | apply Kd.R_drew)); exact x_) : Q := h x
theorem rm_ {α : Type} {d : Kd α} {e : Nat} {w w' : World} {base : Nat} {ok ok' : Nat → Prop} {v : Value} {xs : List α} (x : d.R e w base ok v xs) (f : ∀ k, ok k → ok' k) (h : d.R e w base ok' v xs → d.R e w' base ok' v xs := by intro x_; (with_reducible repeat (first | apply Kd.R_alloc | apply Kd.R_drewN | apply Kd.R_drew)); exact x_) : d.R e w' base ok' v xs := h (Kd.R_mono x f)
theorem bb_ {P Q : Prop} (x : P) (h : P → Q := by intro x_; (with_reducible repeat (first | refine blk_drewN ?_ _ | refine blk_drew ?_ | refine blk_alloc ?_ _)); exact x_) : Q := h x
theorem cc_ {P Q : Prop} (x : P) (h : P → Q := by intro x_; repeat (first | exact x_ | (with_reducible refine Kd.C_alloc ?_ _) | (with_reducible refine Kd.C_drewN ?_ _) | (with_reducible refine Kd.C_drew ?_))) : Q := h x
theorem kb_ {w0 w w1 : World} {g : Nat} {o : Obj} (x : Aside0 (w0.heap[g]? = some o)) (hb : Below w.heap.size w w1) (h : w0.heap[g]? = some o → w.heap[g]? = some o := by intro x_; (with_reducible repeat (first | refine blk_drewN ?_ _ | refine blk_drew ?_ | refine blk_alloc ?_ _)); exact x_) : Aside0 (w1.heap[g]? = some o) := ⟨blk_below (h x.1) hb⟩
theorem kf_ {w0 w w1 : World} {g b : Nat} {t : TypeId} {cs : Array Value} (x : Aside0 (w0.heap[g]? = some (.cells cs t (0, 0)))) (ne : Aside0 (g ≠ b)) (hb : Below w.heap.size w w1) (h : w0.heap[g]? = some (.cells cs t (0, 0)) → g ≠ b → w.heap[g]? = some (.cells cs t (0, 0)) := by intro x_ n_; (with_reducible repeat (first | refine blk_drewN ?_ _ | refine blk_drew ?_ | refine blk_alloc ?_ _)); refine blk_far ?_ n_ _; (with_reducible repeat (first | refine blk_drewN ?_ _ | refine blk_drew ?_ | refine blk_alloc ?_ _)); exact x_) : Aside0 (w1.heap[g]? = some (.cells cs t (0, 0))) := ⟨blk_below (h x.1 ne.1) hb⟩
theorem rb_ {α : Type} {d : Kd α} {e : Nat} {w0 w w1 : World} {base : Nat} {ok : Nat → Prop} {v : Value} {xs : List α} (x : Aside0 (d.R e w0 base ok v xs)) (hb : Below w.heap.size w w1) (h : d.R e w0 base ok v xs → d.R e w base ok v xs := by intro x_; (with_reducible repeat (first | apply Kd.R_alloc | apply Kd.R_drewN | apply Kd.R_drew)); exact x_) : Aside0 (d.R e w1 base ok v xs) := ⟨Kd.R_below (h x.1) hb⟩
theorem hk_ {w W : World} {g : Nat} {row : Option Nat} (h : KeepBut w W g row := by repeat (first | (with_reducible first | exact HK.out | apply KeepBut.set_ | apply keep_drewN | apply keep_drew | apply keep_alloc | refine keep_far ?_ (Aside0.out (by assumption)) _) | exact HK.out)) : KeepBut w W g row := h
theorem bff_ {P Q : Prop} (x : P) (h : P → Q := by intro x_; repeat (first | (with_reducible first | exact x_ | refine blk_drewN ?_ _ | refine blk_drew ?_ | refine blk_alloc ?_ _ | refine blk_far ?_ (Aside0.out (by assumption)) _) | exact x_)) : Q := h x
theorem kk_ {w0 w w1 : World} {g g' : Nat} {row : Option Nat} {o : Obj} (hk : KeepBut w w1 g row) (x : Aside0 (w0.heap[g']? = some o)) (ne : Aside0 (g' ≠ g)) (hr : some g' ≠ row := by simp) (h : w0.heap[g']? = some o → w.heap[g']? = some o := by intro x_; repeat (first | (with_reducible first | exact x_ | refine blk_drewN ?_ _ | refine blk_drew ?_ | refine blk_alloc ?_ _ | refine blk_far ?_ (Aside0.out (by assumption)) _) | exact x_)) : Aside0 (w1.heap[g']? = some o) := ⟨KeepBut.blk hk (h x.1) ne.1 hr⟩
theorem rf_ {α : Type} {d : Kd α} {e : Nat} {w W : World} {base : Nat} {ok : Nat → Prop} {v : Value} {xs : List α} {g t : Nat} {cells : Array Value} (x : d.R e w base ok v xs) (b : w.heap[g]? = some (.cells cells t (0, 0))) (u : Value) (ht : ∀ q, q ∈ e :: d.E → q ≠ t := by decide) (h : d.R e (w.setCell ⟨g, 0, none⟩ u) base ok v xs → d.R e W base ok v xs := by intro x_; (with_reducible repeat (first | apply Kd.R_alloc | apply Kd.R_drewN | apply Kd.R_drew)); exact x_) : d.R e W base ok v xs := h (Kd.R_mono (Kd.R_far (p := ⟨g, 0, none⟩) (Kd.R_types x b ht) (fun _ hk => hk.2) u) (fun _ h_ => h_.1))
theorem nl_ {w : World} {n : Nat} {o : Obj} (g : Nat) (hg : n = w.heap.size) (x : w.heap[g]? = some o) : Aside0 (g ≠ n) := ⟨by rw [hg]; exact Nat.ne_of_lt (blk_lt x)⟩
theorem ng_ {w : World} {n : Nat} {o : Obj} (g : Nat) (hg : n = w.heap.size) (x : w.heap[g]? = some o) : Aside0 (n ≠ g) := ⟨by rw [hg]; exact Nat.ne_of_gt (blk_lt x)⟩
end Go.Proofs.Ytacgehaipacehaa.P
namespace Go.Proofs.Ytacgehaipacehaa.P
open Go.RowKit Go.Proofs.YtacgehaipacehaaW.PrintWords Go.Proofs.YtacgehaipacehaaW.PrintLast Go.Proofs.YtacgehaipacehaaW.PrintMore
attribute [local go_sem] max2_int min2_int max_two min_two max_three min_three max_four min_four
set_option linter.unusedVariables false
set_option linter.unusedSimpArgs false
def errW : Option Int → Value
 | none=>.nilIface
 | some c=>.iface 0 (.int .i64 c)
theorem errW_none : errW none = .nilIface:=rfl
theorem errW_some (c : Int) : errW (some c) = .iface 0 (.int .i64 c):=rfl
theorem info3 : (Try.prog.info? 3).map (fun i=>(i.zero,i.size,i.bytes)) = some (some (.int .i64 0),1,8):=by kernel_rfl
theorem info5 : (Try.prog.info? 5).map (fun i=>(i.zero,i.size,i.bytes)) = some (some (.int .u8 0),1,1):=by kernel_rfl
theorem info9 : (Try.prog.info? 9).map (fun i=>(i.zero,i.size,i.bytes)) = some (some (.string ⟨#[]⟩),1,16):=by kernel_rfl
theorem info75 : (Try.prog.info? 75).map (fun i=>(i.zero,i.size,i.bytes)) = some (some (.agg #[(.int .i64 0),(.int .i64 0),(.int .i64 0),(.int .i64 0)]),4,32):=by kernel_rfl
theorem info95 : (Try.prog.info? 95).map (fun i=>(i.zero,i.size,i.bytes)) = some (some (.agg #[(.int .i64 0),(.int .i64 0),(.int .i64 0),(.int .i64 0)]),4,32):=by kernel_rfl
theorem info113 : (Try.prog.info? 113).map (fun i=>(i.zero,i.size,i.bytes)) = some (some (.agg #[(.string ⟨#[]⟩),(.int .i64 0)]),2,24):=by kernel_rfl
theorem info115 : (Try.prog.info? 115).map (fun i=>(i.zero,i.size,i.bytes)) = some (some (.agg #[(.string ⟨#[]⟩),(.int .i64 0),(.int .i64 0)]),3,32):=by kernel_rfl
theorem info125 : (Try.prog.info? 125).map (fun i=>(i.zero,i.size,i.bytes)) = some (some (.agg #[(.string ⟨#[]⟩),(.int .i64 0)]),2,24):=by kernel_rfl
structure S125 where
 f0 : ByteArray
 f1 : Int
def z125 : S125:=⟨(⟨#[]⟩ : ByteArray),(0 : Int)⟩
def k125 : Kd S125:=Kd.iso (Kd.pair Kd.string (Kd.int .i64)) (fun x : S125=>(x.f0,x.f1))
theorem k125_open {w : World} {x : S125} {cs : List Value} (h : k125.K w x cs) : cs = [.string x.f0,.int .i64 x.f1]:=by
 obtain ⟨_,_,rfl,rfl,rfl⟩:=h
 exact rfl
theorem k125_openM {w : World} {base : Nat} {ok : Nat → Prop} {x : S125} {cs : List Value} (h : k125.M w base ok x cs) : cs = [.string x.f0,.int .i64 x.f1]:=by
 obtain ⟨_,_,rfl,rfl,rfl⟩:=h
 exact rfl
theorem k125_mk (w : World) (x : S125)  : k125.K w x [.string x.f0,.int .i64 x.f1]:=⟨[.string x.f0],[.int .i64 x.f1],rfl,rfl,rfl⟩
theorem k125_mkM (w : World) (base : Nat) (ok : Nat → Prop) (x : S125)  : k125.M w base ok x [.string x.f0,.int .i64 x.f1]:=⟨[.string x.f0],[.int .i64 x.f1],rfl,rfl,rfl⟩
def rd_T125 (xs : List S125) (i : Int) : S125:=xs.getD i.toNat z125
theorem at_T125 {w : World} {A : Option Addr} {n : Nat} {xs : List S125} (h : Kd.C k125 w A n xs) (i : Int) (h0 : 0 ≤ i) (h1 : i < n) : ∃ ad ,A = some ad ∧ w.cell? (ad.add (i.toNat * 2)) = some (.string (rd_T125 xs i).f0) ∧ w.cell? ⟨(ad.add (i.toNat * 2)).block,(ad.add (i.toNat * 2)).off + 1,none⟩ = some (.int .i64 (rd_T125 xs i).f1):=by
 obtain ⟨ad,c,e,_,hK,hc0⟩:=Kd.C_get h z125 i h0 h1
 have hc : ∀ j u,c[j]? = some u → w.cell? (ad.add (i.toNat * 2 + j)) = some u:=hc0
 obtain rfl:=k125_open hK
 exact ⟨ad,e,hc 0 _ rfl,by rw [← add_field _ _ 1 (by omega)];exact hc 1 _ rfl⟩
def rd_L4 (xs : List (List S125)) (i : Int) : (List S125):=xs.getD i.toNat ([] : List S125)
theorem at_L4 {w : World} {A : Option Addr} {n : Nat} {xs : List (List S125)} (h : Kd.C (Kd.slice 125 k125) w A n xs) (i : Int) (h0 : 0 ≤ i) (h1 : i < n) : ∃ ad A0 c0,A = some ad ∧ w.cell? (ad.add i.toNat) = some (.slice A0 (rd_L4 xs i).length c0) ∧ (rd_L4 xs i).length ≤ c0 ∧ k125.C w A0 (rd_L4 xs i).length (rd_L4 xs i):=by
 obtain ⟨ad,c,e,_,hK,hc0⟩:=Kd.C_get h ([] : List S125) i h0 h1
 have hc : ∀ j u,c[j]? = some u → w.cell? (ad.add (i.toNat * 1 + j)) = some u:=hc0
 obtain ⟨A0,c0,rfl,l0,g0⟩:=hK
 exact ⟨ad,A0,c0,e,by have hq:=hc 0 _ rfl;rwa [Nat.mul_one,Nat.add_zero] at hq,l0,g0⟩
structure S25 where
 f0 : (List S125)
def z25 : S25:=⟨([] : List S125)⟩
def k25 : Kd S25:=Kd.iso (Kd.slice 125 k125) (fun x : S25=>x.f0)
theorem k25_open {w : World} {x : S25} {cs : List Value} (h : k25.K w x cs) : ∃ A0 c0,cs = [.slice A0 x.f0.length c0] ∧ x.f0.length ≤ c0 ∧ k125.C w A0 x.f0.length x.f0:=by
 obtain ⟨A0,c0,rfl,l0,g0⟩:=h
 exact ⟨A0,c0,rfl,l0,g0⟩
theorem k25_openM {w : World} {base : Nat} {ok : Nat → Prop} {x : S25} {cs : List Value} (h : k25.M w base ok x cs) : ∃ v0,cs = [v0] ∧ k125.R 125 w base ok v0 x.f0:=by
 obtain ⟨v0,rfl,g0⟩:=h
 exact ⟨v0,rfl,g0⟩
theorem k25_mk (w : World) (x : S25) {A0 : Option Addr} {c0 : Nat} (l0 : x.f0.length ≤ c0) (g0 : k125.C w A0 x.f0.length x.f0) : k25.K w x [.slice A0 x.f0.length c0]:=⟨A0,c0,rfl,l0,g0⟩
theorem k25_mkM (w : World) (base : Nat) (ok : Nat → Prop) (x : S25) {v0 : Value} (g0 : k125.R 125 w base ok v0 x.f0) : k25.M w base ok x [v0]:=⟨v0,rfl,g0⟩
def rd_T25 (xs : List S25) (i : Int) : S25:=xs.getD i.toNat z25
theorem at_T25 {w : World} {A : Option Addr} {n : Nat} {xs : List S25} (h : Kd.C k25 w A n xs) (i : Int) (h0 : 0 ≤ i) (h1 : i < n) : ∃ ad A0 c0,A = some ad ∧ w.cell? (ad.add i.toNat) = some (.slice A0 (rd_T25 xs i).f0.length c0) ∧ (rd_T25 xs i).f0.length ≤ c0 ∧ k125.C w A0 (rd_T25 xs i).f0.length (rd_T25 xs i).f0:=by
 obtain ⟨ad,c,e,_,hK,hc0⟩:=Kd.C_get h z25 i h0 h1
 have hc : ∀ j u,c[j]? = some u → w.cell? (ad.add (i.toNat * 1 + j)) = some u:=hc0
 obtain ⟨A0,c0,rfl,l0,g0⟩:=k25_open hK
 exact ⟨ad,A0,c0,e,by have hq:=hc 0 _ rfl;rwa [Nat.mul_one,Nat.add_zero] at hq,l0,g0⟩
def rd_L7 (xs : List (List Int)) (i : Int) : (List Int):=xs.getD i.toNat ([] : List Int)
theorem at_L7 {w : World} {A : Option Addr} {n : Nat} {xs : List (List Int)} (h : Kd.C (Kd.slice 3 (Kd.int .i64)) w A n xs) (i : Int) (h0 : 0 ≤ i) (h1 : i < n) : ∃ ad A0 c0,A = some ad ∧ w.cell? (ad.add i.toNat) = some (.slice A0 (rd_L7 xs i).length c0) ∧ (rd_L7 xs i).length ≤ c0 ∧ (Kd.int .i64).C w A0 (rd_L7 xs i).length (rd_L7 xs i):=by
 obtain ⟨ad,c,e,_,hK,hc0⟩:=Kd.C_get h ([] : List Int) i h0 h1
 have hc : ∀ j u,c[j]? = some u → w.cell? (ad.add (i.toNat * 1 + j)) = some u:=hc0
 obtain ⟨A0,c0,rfl,l0,g0⟩:=hK
 exact ⟨ad,A0,c0,e,by have hq:=hc 0 _ rfl;rwa [Nat.mul_one,Nat.add_zero] at hq,l0,g0⟩
structure S153 where
 f0 : ByteArray
 f1 : Int
def z153 : S153:=⟨(⟨#[]⟩ : ByteArray),(0 : Int)⟩
def k153 : Kd S153:=Kd.iso (Kd.pair Kd.string (Kd.int .i64)) (fun x : S153=>(x.f0,x.f1))
theorem k153_open {w : World} {x : S153} {cs : List Value} (h : k153.K w x cs) : cs = [.string x.f0,.int .i64 x.f1]:=by
 obtain ⟨_,_,rfl,rfl,rfl⟩:=h
 exact rfl
theorem k153_openM {w : World} {base : Nat} {ok : Nat → Prop} {x : S153} {cs : List Value} (h : k153.M w base ok x cs) : cs = [.string x.f0,.int .i64 x.f1]:=by
 obtain ⟨_,_,rfl,rfl,rfl⟩:=h
 exact rfl
theorem k153_mk (w : World) (x : S153)  : k153.K w x [.string x.f0,.int .i64 x.f1]:=⟨[.string x.f0],[.int .i64 x.f1],rfl,rfl,rfl⟩
theorem k153_mkM (w : World) (base : Nat) (ok : Nat → Prop) (x : S153)  : k153.M w base ok x [.string x.f0,.int .i64 x.f1]:=⟨[.string x.f0],[.int .i64 x.f1],rfl,rfl,rfl⟩
def rd_T153 (xs : List S153) (i : Int) : S153:=xs.getD i.toNat z153
theorem at_T153 {w : World} {A : Option Addr} {n : Nat} {xs : List S153} (h : Kd.C k153 w A n xs) (i : Int) (h0 : 0 ≤ i) (h1 : i < n) : ∃ ad ,A = some ad ∧ w.cell? (ad.add (i.toNat * 2)) = some (.string (rd_T153 xs i).f0) ∧ w.cell? ⟨(ad.add (i.toNat * 2)).block,(ad.add (i.toNat * 2)).off + 1,none⟩ = some (.int .i64 (rd_T153 xs i).f1):=by
 obtain ⟨ad,c,e,_,hK,hc0⟩:=Kd.C_get h z153 i h0 h1
 have hc : ∀ j u,c[j]? = some u → w.cell? (ad.add (i.toNat * 2 + j)) = some u:=hc0
 obtain rfl:=k153_open hK
 exact ⟨ad,e,hc 0 _ rfl,by rw [← add_field _ _ 1 (by omega)];exact hc 1 _ rfl⟩
structure S99 where
 f0 : Int
 f1 : Int
 f2 : Int
 f3 : Int
def z99 : S99:=⟨(0 : Int),(0 : Int),(0 : Int),(0 : Int)⟩
def k99 : Kd S99:=Kd.iso (Kd.pair (Kd.int .i64) (Kd.pair (Kd.int .i64) (Kd.pair (Kd.int .i64) (Kd.int .i64)))) (fun x : S99=>(x.f0,x.f1,x.f2,x.f3))
theorem k99_open {w : World} {x : S99} {cs : List Value} (h : k99.K w x cs) : cs = [.int .i64 x.f0,.int .i64 x.f1,.int .i64 x.f2,.int .i64 x.f3]:=by
 obtain ⟨_,_,rfl,rfl,⟨_,_,rfl,rfl,⟨_,_,rfl,rfl,rfl⟩⟩⟩:=h
 exact rfl
theorem k99_openM {w : World} {base : Nat} {ok : Nat → Prop} {x : S99} {cs : List Value} (h : k99.M w base ok x cs) : cs = [.int .i64 x.f0,.int .i64 x.f1,.int .i64 x.f2,.int .i64 x.f3]:=by
 obtain ⟨_,_,rfl,rfl,⟨_,_,rfl,rfl,⟨_,_,rfl,rfl,rfl⟩⟩⟩:=h
 exact rfl
theorem k99_mk (w : World) (x : S99)  : k99.K w x [.int .i64 x.f0,.int .i64 x.f1,.int .i64 x.f2,.int .i64 x.f3]:=⟨[.int .i64 x.f0],[.int .i64 x.f1,.int .i64 x.f2,.int .i64 x.f3],rfl,rfl,⟨[.int .i64 x.f1],[.int .i64 x.f2,.int .i64 x.f3],rfl,rfl,⟨[.int .i64 x.f2],[.int .i64 x.f3],rfl,rfl,rfl⟩⟩⟩
theorem k99_mkM (w : World) (base : Nat) (ok : Nat → Prop) (x : S99)  : k99.M w base ok x [.int .i64 x.f0,.int .i64 x.f1,.int .i64 x.f2,.int .i64 x.f3]:=⟨[.int .i64 x.f0],[.int .i64 x.f1,.int .i64 x.f2,.int .i64 x.f3],rfl,rfl,⟨[.int .i64 x.f1],[.int .i64 x.f2,.int .i64 x.f3],rfl,rfl,⟨[.int .i64 x.f2],[.int .i64 x.f3],rfl,rfl,rfl⟩⟩⟩
def rd_T99 (xs : List S99) (i : Int) : S99:=xs.getD i.toNat z99
theorem at_T99 {w : World} {A : Option Addr} {n : Nat} {xs : List S99} (h : Kd.C k99 w A n xs) (i : Int) (h0 : 0 ≤ i) (h1 : i < n) : ∃ ad ,A = some ad ∧ w.cell? (ad.add (i.toNat * 4)) = some (.int .i64 (rd_T99 xs i).f0) ∧ w.cell? ⟨(ad.add (i.toNat * 4)).block,(ad.add (i.toNat * 4)).off + 1,none⟩ = some (.int .i64 (rd_T99 xs i).f1) ∧ w.cell? ⟨(ad.add (i.toNat * 4)).block,(ad.add (i.toNat * 4)).off + 2,none⟩ = some (.int .i64 (rd_T99 xs i).f2) ∧ w.cell? ⟨(ad.add (i.toNat * 4)).block,(ad.add (i.toNat * 4)).off + 3,none⟩ = some (.int .i64 (rd_T99 xs i).f3):=by
 obtain ⟨ad,c,e,_,hK,hc0⟩:=Kd.C_get h z99 i h0 h1
 have hc : ∀ j u,c[j]? = some u → w.cell? (ad.add (i.toNat * 4 + j)) = some u:=hc0
 obtain rfl:=k99_open hK
 exact ⟨ad,e,hc 0 _ rfl,by rw [← add_field _ _ 1 (by omega)];exact hc 1 _ rfl,by rw [← add_field _ _ 2 (by omega)];exact hc 2 _ rfl,by rw [← add_field _ _ 3 (by omega)];exact hc 3 _ rfl⟩
structure S95 where
 f0 : Int
 f1 : Int
 f2 : Int
 f3 : Int
def z95 : S95:=⟨(0 : Int),(0 : Int),(0 : Int),(0 : Int)⟩
def k95 : Kd S95:=Kd.iso (Kd.pair (Kd.int .i64) (Kd.pair (Kd.int .i64) (Kd.pair (Kd.int .i64) (Kd.int .i64)))) (fun x : S95=>(x.f0,x.f1,x.f2,x.f3))
theorem k95_open {w : World} {x : S95} {cs : List Value} (h : k95.K w x cs) : cs = [.int .i64 x.f0,.int .i64 x.f1,.int .i64 x.f2,.int .i64 x.f3]:=by
 obtain ⟨_,_,rfl,rfl,⟨_,_,rfl,rfl,⟨_,_,rfl,rfl,rfl⟩⟩⟩:=h
 exact rfl
theorem k95_openM {w : World} {base : Nat} {ok : Nat → Prop} {x : S95} {cs : List Value} (h : k95.M w base ok x cs) : cs = [.int .i64 x.f0,.int .i64 x.f1,.int .i64 x.f2,.int .i64 x.f3]:=by
 obtain ⟨_,_,rfl,rfl,⟨_,_,rfl,rfl,⟨_,_,rfl,rfl,rfl⟩⟩⟩:=h
 exact rfl
theorem k95_mk (w : World) (x : S95)  : k95.K w x [.int .i64 x.f0,.int .i64 x.f1,.int .i64 x.f2,.int .i64 x.f3]:=⟨[.int .i64 x.f0],[.int .i64 x.f1,.int .i64 x.f2,.int .i64 x.f3],rfl,rfl,⟨[.int .i64 x.f1],[.int .i64 x.f2,.int .i64 x.f3],rfl,rfl,⟨[.int .i64 x.f2],[.int .i64 x.f3],rfl,rfl,rfl⟩⟩⟩
theorem k95_mkM (w : World) (base : Nat) (ok : Nat → Prop) (x : S95)  : k95.M w base ok x [.int .i64 x.f0,.int .i64 x.f1,.int .i64 x.f2,.int .i64 x.f3]:=⟨[.int .i64 x.f0],[.int .i64 x.f1,.int .i64 x.f2,.int .i64 x.f3],rfl,rfl,⟨[.int .i64 x.f1],[.int .i64 x.f2,.int .i64 x.f3],rfl,rfl,⟨[.int .i64 x.f2],[.int .i64 x.f3],rfl,rfl,rfl⟩⟩⟩
def rd_T95 (xs : List S95) (i : Int) : S95:=xs.getD i.toNat z95
theorem at_T95 {w : World} {A : Option Addr} {n : Nat} {xs : List S95} (h : Kd.C k95 w A n xs) (i : Int) (h0 : 0 ≤ i) (h1 : i < n) : ∃ ad ,A = some ad ∧ w.cell? (ad.add (i.toNat * 4)) = some (.int .i64 (rd_T95 xs i).f0) ∧ w.cell? ⟨(ad.add (i.toNat * 4)).block,(ad.add (i.toNat * 4)).off + 1,none⟩ = some (.int .i64 (rd_T95 xs i).f1) ∧ w.cell? ⟨(ad.add (i.toNat * 4)).block,(ad.add (i.toNat * 4)).off + 2,none⟩ = some (.int .i64 (rd_T95 xs i).f2) ∧ w.cell? ⟨(ad.add (i.toNat * 4)).block,(ad.add (i.toNat * 4)).off + 3,none⟩ = some (.int .i64 (rd_T95 xs i).f3):=by
 obtain ⟨ad,c,e,_,hK,hc0⟩:=Kd.C_get h z95 i h0 h1
 have hc : ∀ j u,c[j]? = some u → w.cell? (ad.add (i.toNat * 4 + j)) = some u:=hc0
 obtain rfl:=k95_open hK
 exact ⟨ad,e,hc 0 _ rfl,by rw [← add_field _ _ 1 (by omega)];exact hc 1 _ rfl,by rw [← add_field _ _ 2 (by omega)];exact hc 2 _ rfl,by rw [← add_field _ _ 3 (by omega)];exact hc 3 _ rfl⟩
structure S107 where
 f0 : ByteArray
 f1 : Int
def z107 : S107:=⟨(⟨#[]⟩ : ByteArray),(0 : Int)⟩
def k107 : Kd S107:=Kd.iso (Kd.pair Kd.string (Kd.int .i64)) (fun x : S107=>(x.f0,x.f1))
theorem k107_open {w : World} {x : S107} {cs : List Value} (h : k107.K w x cs) : cs = [.string x.f0,.int .i64 x.f1]:=by
 obtain ⟨_,_,rfl,rfl,rfl⟩:=h
 exact rfl
theorem k107_openM {w : World} {base : Nat} {ok : Nat → Prop} {x : S107} {cs : List Value} (h : k107.M w base ok x cs) : cs = [.string x.f0,.int .i64 x.f1]:=by
 obtain ⟨_,_,rfl,rfl,rfl⟩:=h
 exact rfl
theorem k107_mk (w : World) (x : S107)  : k107.K w x [.string x.f0,.int .i64 x.f1]:=⟨[.string x.f0],[.int .i64 x.f1],rfl,rfl,rfl⟩
theorem k107_mkM (w : World) (base : Nat) (ok : Nat → Prop) (x : S107)  : k107.M w base ok x [.string x.f0,.int .i64 x.f1]:=⟨[.string x.f0],[.int .i64 x.f1],rfl,rfl,rfl⟩
def rd_T107 (xs : List S107) (i : Int) : S107:=xs.getD i.toNat z107
theorem at_T107 {w : World} {A : Option Addr} {n : Nat} {xs : List S107} (h : Kd.C k107 w A n xs) (i : Int) (h0 : 0 ≤ i) (h1 : i < n) : ∃ ad ,A = some ad ∧ w.cell? (ad.add (i.toNat * 2)) = some (.string (rd_T107 xs i).f0) ∧ w.cell? ⟨(ad.add (i.toNat * 2)).block,(ad.add (i.toNat * 2)).off + 1,none⟩ = some (.int .i64 (rd_T107 xs i).f1):=by
 obtain ⟨ad,c,e,_,hK,hc0⟩:=Kd.C_get h z107 i h0 h1
 have hc : ∀ j u,c[j]? = some u → w.cell? (ad.add (i.toNat * 2 + j)) = some u:=hc0
 obtain rfl:=k107_open hK
 exact ⟨ad,e,hc 0 _ rfl,by rw [← add_field _ _ 1 (by omega)];exact hc 1 _ rfl⟩
structure S109 where
 f0 : S107
 f1 : Int
def z109 : S109:=⟨z107,(0 : Int)⟩
def k109 : Kd S109:=Kd.iso (Kd.pair k107 (Kd.int .i64)) (fun x : S109=>(x.f0,x.f1))
theorem k109_open {w : World} {x : S109} {cs : List Value} (h : k109.K w x cs) : cs = [.string x.f0.f0,.int .i64 x.f0.f1,.int .i64 x.f1]:=by
 obtain ⟨_,_,rfl,s0,rfl⟩:=h
 obtain rfl:=k107_open s0
 exact rfl
theorem k109_openM {w : World} {base : Nat} {ok : Nat → Prop} {x : S109} {cs : List Value} (h : k109.M w base ok x cs) : cs = [.string x.f0.f0,.int .i64 x.f0.f1,.int .i64 x.f1]:=by
 obtain ⟨_,_,rfl,s0,rfl⟩:=h
 obtain rfl:=k107_openM s0
 exact rfl
theorem k109_mk (w : World) (x : S109)  : k109.K w x [.string x.f0.f0,.int .i64 x.f0.f1,.int .i64 x.f1]:=⟨[.string x.f0.f0,.int .i64 x.f0.f1],[.int .i64 x.f1],rfl,(k107_mk w x.f0 ),rfl⟩
theorem k109_mkM (w : World) (base : Nat) (ok : Nat → Prop) (x : S109)  : k109.M w base ok x [.string x.f0.f0,.int .i64 x.f0.f1,.int .i64 x.f1]:=⟨[.string x.f0.f0,.int .i64 x.f0.f1],[.int .i64 x.f1],rfl,(k107_mkM w base ok x.f0 ),rfl⟩
def rd_T109 (xs : List S109) (i : Int) : S109:=xs.getD i.toNat z109
theorem at_T109 {w : World} {A : Option Addr} {n : Nat} {xs : List S109} (h : Kd.C k109 w A n xs) (i : Int) (h0 : 0 ≤ i) (h1 : i < n) : ∃ ad ,A = some ad ∧ w.cell? (ad.add (i.toNat * 3)) = some (.string (rd_T109 xs i).f0.f0) ∧ w.cell? ⟨(ad.add (i.toNat * 3)).block,(ad.add (i.toNat * 3)).off + 1,none⟩ = some (.int .i64 (rd_T109 xs i).f0.f1) ∧ w.cell? ⟨(ad.add (i.toNat * 3)).block,(ad.add (i.toNat * 3)).off + 2,none⟩ = some (.int .i64 (rd_T109 xs i).f1):=by
 obtain ⟨ad,c,e,_,hK,hc0⟩:=Kd.C_get h z109 i h0 h1
 have hc : ∀ j u,c[j]? = some u → w.cell? (ad.add (i.toNat * 3 + j)) = some u:=hc0
 obtain rfl:=k109_open hK
 exact ⟨ad,e,hc 0 _ rfl,by rw [← add_field _ _ 1 (by omega)];exact hc 1 _ rfl,by rw [← add_field _ _ 2 (by omega)];exact hc 2 _ rfl⟩
structure S113 where
 f0 : ByteArray
 f1 : Int
def z113 : S113:=⟨(⟨#[]⟩ : ByteArray),(0 : Int)⟩
def k113 : Kd S113:=Kd.iso (Kd.pair Kd.string (Kd.int .i64)) (fun x : S113=>(x.f0,x.f1))
theorem k113_open {w : World} {x : S113} {cs : List Value} (h : k113.K w x cs) : cs = [.string x.f0,.int .i64 x.f1]:=by
 obtain ⟨_,_,rfl,rfl,rfl⟩:=h
 exact rfl
theorem k113_openM {w : World} {base : Nat} {ok : Nat → Prop} {x : S113} {cs : List Value} (h : k113.M w base ok x cs) : cs = [.string x.f0,.int .i64 x.f1]:=by
 obtain ⟨_,_,rfl,rfl,rfl⟩:=h
 exact rfl
theorem k113_mk (w : World) (x : S113)  : k113.K w x [.string x.f0,.int .i64 x.f1]:=⟨[.string x.f0],[.int .i64 x.f1],rfl,rfl,rfl⟩
theorem k113_mkM (w : World) (base : Nat) (ok : Nat → Prop) (x : S113)  : k113.M w base ok x [.string x.f0,.int .i64 x.f1]:=⟨[.string x.f0],[.int .i64 x.f1],rfl,rfl,rfl⟩
def rd_T113 (xs : List S113) (i : Int) : S113:=xs.getD i.toNat z113
theorem at_T113 {w : World} {A : Option Addr} {n : Nat} {xs : List S113} (h : Kd.C k113 w A n xs) (i : Int) (h0 : 0 ≤ i) (h1 : i < n) : ∃ ad ,A = some ad ∧ w.cell? (ad.add (i.toNat * 2)) = some (.string (rd_T113 xs i).f0) ∧ w.cell? ⟨(ad.add (i.toNat * 2)).block,(ad.add (i.toNat * 2)).off + 1,none⟩ = some (.int .i64 (rd_T113 xs i).f1):=by
 obtain ⟨ad,c,e,_,hK,hc0⟩:=Kd.C_get h z113 i h0 h1
 have hc : ∀ j u,c[j]? = some u → w.cell? (ad.add (i.toNat * 2 + j)) = some u:=hc0
 obtain rfl:=k113_open hK
 exact ⟨ad,e,hc 0 _ rfl,by rw [← add_field _ _ 1 (by omega)];exact hc 1 _ rfl⟩
structure S115 where
 f0 : S113
 f1 : Int
def z115 : S115:=⟨z113,(0 : Int)⟩
def k115 : Kd S115:=Kd.iso (Kd.pair k113 (Kd.int .i64)) (fun x : S115=>(x.f0,x.f1))
theorem k115_open {w : World} {x : S115} {cs : List Value} (h : k115.K w x cs) : cs = [.string x.f0.f0,.int .i64 x.f0.f1,.int .i64 x.f1]:=by
 obtain ⟨_,_,rfl,s0,rfl⟩:=h
 obtain rfl:=k113_open s0
 exact rfl
theorem k115_openM {w : World} {base : Nat} {ok : Nat → Prop} {x : S115} {cs : List Value} (h : k115.M w base ok x cs) : cs = [.string x.f0.f0,.int .i64 x.f0.f1,.int .i64 x.f1]:=by
 obtain ⟨_,_,rfl,s0,rfl⟩:=h
 obtain rfl:=k113_openM s0
 exact rfl
theorem k115_mk (w : World) (x : S115)  : k115.K w x [.string x.f0.f0,.int .i64 x.f0.f1,.int .i64 x.f1]:=⟨[.string x.f0.f0,.int .i64 x.f0.f1],[.int .i64 x.f1],rfl,(k113_mk w x.f0 ),rfl⟩
theorem k115_mkM (w : World) (base : Nat) (ok : Nat → Prop) (x : S115)  : k115.M w base ok x [.string x.f0.f0,.int .i64 x.f0.f1,.int .i64 x.f1]:=⟨[.string x.f0.f0,.int .i64 x.f0.f1],[.int .i64 x.f1],rfl,(k113_mkM w base ok x.f0 ),rfl⟩
def rd_T115 (xs : List S115) (i : Int) : S115:=xs.getD i.toNat z115
theorem at_T115 {w : World} {A : Option Addr} {n : Nat} {xs : List S115} (h : Kd.C k115 w A n xs) (i : Int) (h0 : 0 ≤ i) (h1 : i < n) : ∃ ad ,A = some ad ∧ w.cell? (ad.add (i.toNat * 3)) = some (.string (rd_T115 xs i).f0.f0) ∧ w.cell? ⟨(ad.add (i.toNat * 3)).block,(ad.add (i.toNat * 3)).off + 1,none⟩ = some (.int .i64 (rd_T115 xs i).f0.f1) ∧ w.cell? ⟨(ad.add (i.toNat * 3)).block,(ad.add (i.toNat * 3)).off + 2,none⟩ = some (.int .i64 (rd_T115 xs i).f1):=by
 obtain ⟨ad,c,e,_,hK,hc0⟩:=Kd.C_get h z115 i h0 h1
 have hc : ∀ j u,c[j]? = some u → w.cell? (ad.add (i.toNat * 3 + j)) = some u:=hc0
 obtain rfl:=k115_open hK
 exact ⟨ad,e,hc 0 _ rfl,by rw [← add_field _ _ 1 (by omega)];exact hc 1 _ rfl,by rw [← add_field _ _ 2 (by omega)];exact hc 2 _ rfl⟩
def rd_L15 (xs : List (List S113)) (i : Int) : (List S113):=xs.getD i.toNat ([] : List S113)
theorem at_L15 {w : World} {A : Option Addr} {n : Nat} {xs : List (List S113)} (h : Kd.C (Kd.slice 113 k113) w A n xs) (i : Int) (h0 : 0 ≤ i) (h1 : i < n) : ∃ ad A0 c0,A = some ad ∧ w.cell? (ad.add i.toNat) = some (.slice A0 (rd_L15 xs i).length c0) ∧ (rd_L15 xs i).length ≤ c0 ∧ k113.C w A0 (rd_L15 xs i).length (rd_L15 xs i):=by
 obtain ⟨ad,c,e,_,hK,hc0⟩:=Kd.C_get h ([] : List S113) i h0 h1
 have hc : ∀ j u,c[j]? = some u → w.cell? (ad.add (i.toNat * 1 + j)) = some u:=hc0
 obtain ⟨A0,c0,rfl,l0,g0⟩:=hK
 exact ⟨ad,A0,c0,e,by have hq:=hc 0 _ rfl;rwa [Nat.mul_one,Nat.add_zero] at hq,l0,g0⟩
structure S129 where
 f0 : Int
 f1 : Int
 f2 : Int
 f3 : Int
def z129 : S129:=⟨(0 : Int),(0 : Int),(0 : Int),(0 : Int)⟩
def k129 : Kd S129:=Kd.iso (Kd.pair (Kd.int .i64) (Kd.pair (Kd.int .i64) (Kd.pair (Kd.int .i64) (Kd.int .i64)))) (fun x : S129=>(x.f0,x.f1,x.f2,x.f3))
theorem k129_open {w : World} {x : S129} {cs : List Value} (h : k129.K w x cs) : cs = [.int .i64 x.f0,.int .i64 x.f1,.int .i64 x.f2,.int .i64 x.f3]:=by
 obtain ⟨_,_,rfl,rfl,⟨_,_,rfl,rfl,⟨_,_,rfl,rfl,rfl⟩⟩⟩:=h
 exact rfl
theorem k129_openM {w : World} {base : Nat} {ok : Nat → Prop} {x : S129} {cs : List Value} (h : k129.M w base ok x cs) : cs = [.int .i64 x.f0,.int .i64 x.f1,.int .i64 x.f2,.int .i64 x.f3]:=by
 obtain ⟨_,_,rfl,rfl,⟨_,_,rfl,rfl,⟨_,_,rfl,rfl,rfl⟩⟩⟩:=h
 exact rfl
theorem k129_mk (w : World) (x : S129)  : k129.K w x [.int .i64 x.f0,.int .i64 x.f1,.int .i64 x.f2,.int .i64 x.f3]:=⟨[.int .i64 x.f0],[.int .i64 x.f1,.int .i64 x.f2,.int .i64 x.f3],rfl,rfl,⟨[.int .i64 x.f1],[.int .i64 x.f2,.int .i64 x.f3],rfl,rfl,⟨[.int .i64 x.f2],[.int .i64 x.f3],rfl,rfl,rfl⟩⟩⟩
theorem k129_mkM (w : World) (base : Nat) (ok : Nat → Prop) (x : S129)  : k129.M w base ok x [.int .i64 x.f0,.int .i64 x.f1,.int .i64 x.f2,.int .i64 x.f3]:=⟨[.int .i64 x.f0],[.int .i64 x.f1,.int .i64 x.f2,.int .i64 x.f3],rfl,rfl,⟨[.int .i64 x.f1],[.int .i64 x.f2,.int .i64 x.f3],rfl,rfl,⟨[.int .i64 x.f2],[.int .i64 x.f3],rfl,rfl,rfl⟩⟩⟩
def rd_T129 (xs : List S129) (i : Int) : S129:=xs.getD i.toNat z129
theorem at_T129 {w : World} {A : Option Addr} {n : Nat} {xs : List S129} (h : Kd.C k129 w A n xs) (i : Int) (h0 : 0 ≤ i) (h1 : i < n) : ∃ ad ,A = some ad ∧ w.cell? (ad.add (i.toNat * 4)) = some (.int .i64 (rd_T129 xs i).f0) ∧ w.cell? ⟨(ad.add (i.toNat * 4)).block,(ad.add (i.toNat * 4)).off + 1,none⟩ = some (.int .i64 (rd_T129 xs i).f1) ∧ w.cell? ⟨(ad.add (i.toNat * 4)).block,(ad.add (i.toNat * 4)).off + 2,none⟩ = some (.int .i64 (rd_T129 xs i).f2) ∧ w.cell? ⟨(ad.add (i.toNat * 4)).block,(ad.add (i.toNat * 4)).off + 3,none⟩ = some (.int .i64 (rd_T129 xs i).f3):=by
 obtain ⟨ad,c,e,_,hK,hc0⟩:=Kd.C_get h z129 i h0 h1
 have hc : ∀ j u,c[j]? = some u → w.cell? (ad.add (i.toNat * 4 + j)) = some u:=hc0
 obtain rfl:=k129_open hK
 exact ⟨ad,e,hc 0 _ rfl,by rw [← add_field _ _ 1 (by omega)];exact hc 1 _ rfl,by rw [← add_field _ _ 2 (by omega)];exact hc 2 _ rfl,by rw [← add_field _ _ 3 (by omega)];exact hc 3 _ rfl⟩
structure S75 where
 f0 : Int
 f1 : Int
 f2 : Int
 f3 : Int
def z75 : S75:=⟨(0 : Int),(0 : Int),(0 : Int),(0 : Int)⟩
def k75 : Kd S75:=Kd.iso (Kd.pair (Kd.int .i64) (Kd.pair (Kd.int .i64) (Kd.pair (Kd.int .i64) (Kd.int .i64)))) (fun x : S75=>(x.f0,x.f1,x.f2,x.f3))
theorem k75_open {w : World} {x : S75} {cs : List Value} (h : k75.K w x cs) : cs = [.int .i64 x.f0,.int .i64 x.f1,.int .i64 x.f2,.int .i64 x.f3]:=by
 obtain ⟨_,_,rfl,rfl,⟨_,_,rfl,rfl,⟨_,_,rfl,rfl,rfl⟩⟩⟩:=h
 exact rfl
theorem k75_openM {w : World} {base : Nat} {ok : Nat → Prop} {x : S75} {cs : List Value} (h : k75.M w base ok x cs) : cs = [.int .i64 x.f0,.int .i64 x.f1,.int .i64 x.f2,.int .i64 x.f3]:=by
 obtain ⟨_,_,rfl,rfl,⟨_,_,rfl,rfl,⟨_,_,rfl,rfl,rfl⟩⟩⟩:=h
 exact rfl
theorem k75_mk (w : World) (x : S75)  : k75.K w x [.int .i64 x.f0,.int .i64 x.f1,.int .i64 x.f2,.int .i64 x.f3]:=⟨[.int .i64 x.f0],[.int .i64 x.f1,.int .i64 x.f2,.int .i64 x.f3],rfl,rfl,⟨[.int .i64 x.f1],[.int .i64 x.f2,.int .i64 x.f3],rfl,rfl,⟨[.int .i64 x.f2],[.int .i64 x.f3],rfl,rfl,rfl⟩⟩⟩
theorem k75_mkM (w : World) (base : Nat) (ok : Nat → Prop) (x : S75)  : k75.M w base ok x [.int .i64 x.f0,.int .i64 x.f1,.int .i64 x.f2,.int .i64 x.f3]:=⟨[.int .i64 x.f0],[.int .i64 x.f1,.int .i64 x.f2,.int .i64 x.f3],rfl,rfl,⟨[.int .i64 x.f1],[.int .i64 x.f2,.int .i64 x.f3],rfl,rfl,⟨[.int .i64 x.f2],[.int .i64 x.f3],rfl,rfl,rfl⟩⟩⟩
def rd_T75 (xs : List S75) (i : Int) : S75:=xs.getD i.toNat z75
theorem at_T75 {w : World} {A : Option Addr} {n : Nat} {xs : List S75} (h : Kd.C k75 w A n xs) (i : Int) (h0 : 0 ≤ i) (h1 : i < n) : ∃ ad ,A = some ad ∧ w.cell? (ad.add (i.toNat * 4)) = some (.int .i64 (rd_T75 xs i).f0) ∧ w.cell? ⟨(ad.add (i.toNat * 4)).block,(ad.add (i.toNat * 4)).off + 1,none⟩ = some (.int .i64 (rd_T75 xs i).f1) ∧ w.cell? ⟨(ad.add (i.toNat * 4)).block,(ad.add (i.toNat * 4)).off + 2,none⟩ = some (.int .i64 (rd_T75 xs i).f2) ∧ w.cell? ⟨(ad.add (i.toNat * 4)).block,(ad.add (i.toNat * 4)).off + 3,none⟩ = some (.int .i64 (rd_T75 xs i).f3):=by
 obtain ⟨ad,c,e,_,hK,hc0⟩:=Kd.C_get h z75 i h0 h1
 have hc : ∀ j u,c[j]? = some u → w.cell? (ad.add (i.toNat * 4 + j)) = some u:=hc0
 obtain rfl:=k75_open hK
 exact ⟨ad,e,hc 0 _ rfl,by rw [← add_field _ _ 1 (by omega)];exact hc 1 _ rfl,by rw [← add_field _ _ 2 (by omega)];exact hc 2 _ rfl,by rw [← add_field _ _ 3 (by omega)];exact hc 3 _ rfl⟩
end Go.Proofs.Ytacgehaipacehaa.P
section
namespace Go.Proofs.Ytacgehaipacehaa.P
open Go.RowKit Go.Proofs.YtacgehaipacehaaW.PrintWords Go.Proofs.YtacgehaipacehaaW.PrintLast Go.Proofs.YtacgehaipacehaaW.PrintMore
attribute [local go_sem] max2_int min2_int max_two min_two max_three min_three max_four min_four
set_option linter.unusedVariables false
set_option linter.unusedSimpArgs false
def Ev {α : Type} (F : Nat → Option α) (x : α) : Prop:=∃ K,∀ k,K ≤ k → F k = some x
namespace Ev
variable {α β : Type}
theorem of_mono {F : Nat → Option α} {x : α} (hm : ∀ k,LeO (F k) (F (k + 1))) {K : Nat} (h : F K = some x) : Ev F x:=⟨K,fun _ hk=>at_rounds hm hk h⟩
theorem const {a : Option α} {x : α} (h : a = some x) : Ev (fun _=>a) x:=⟨0,fun _ _=>h⟩
theorem bind {F : Nat → Option α} {G : Nat → α → Option β} {x : α} {y : β} (h : Ev F x) (h2 : Ev (fun k=>G k x) y) : Ev (fun k=>(F k).bind (G k)) y:=by
 obtain ⟨K,hK⟩:=h
 obtain ⟨K2,hK2⟩:=h2
 refine ⟨max K K2,fun k hk=>?_⟩
 show (F k).bind (G k) = some y
 rw [hK k (Nat.le_trans (Nat.le_max_left _ _) hk)]
 exact hK2 k (Nat.le_trans (Nat.le_max_right _ _) hk)
theorem pos {F G : Nat → Option α} {x : α} {c : Prop} [Decidable c] (hc : c) (h : Ev F x) : Ev (fun k=>if c then F k else G k) x:=by
 obtain ⟨K,hK⟩:=h
 exact ⟨K,fun k hk=>by show (if c then F k else G k) = some x;rw [if_pos hc];exact hK k hk⟩
theorem neg {F G : Nat → Option α} {x : α} {c : Prop} [Decidable c] (hc : ¬ c) (h : Ev G x) : Ev (fun k=>if c then F k else G k) x:=by
 obtain ⟨K,hK⟩:=h
 exact ⟨K,fun k hk=>by show (if c then F k else G k) = some x;rw [if_neg hc];exact hK k hk⟩
theorem succ {F : Nat → Option α} {x : α} (h : Ev (fun k=>F (k + 1)) x) : Ev F x:=by
 obtain ⟨K,hK⟩:=h
 refine ⟨K + 1,fun k hk=>?_⟩
 obtain ⟨j,rfl⟩ : ∃ j,k = j + 1:=⟨k - 1,by omega⟩
 exact hK j (by omega)
theorem out {F : Nat → Option α} {x : α} (h : Ev F x) : ∃ k,F k = some x:=by
 obtain ⟨K,hK⟩:=h
 exact ⟨K,hK K (Nat.le_refl _)⟩
theorem congr {F G : Nat → Option α} {x : α} (h : Ev F x) (e : ∀ k,G k = F k) : Ev G x:=by
 obtain ⟨K,hK⟩:=h
 exact ⟨K,fun k hk=>(e k).trans (hK k hk)⟩
end Ev
theorem st_loop {σ ρ : Type} (L : Nat → σ → Int → Option ρ) (n : Nat) (S : Nat → σ) (v : ρ) (hstep : ∀ k i,i < n → L (k + 1) (S i) (i : Int) = L k (S (i + 1)) ((i + 1 : Nat) : Int)) (hend : ∀ k,L (k + 1) (S n) (n : Int) = some v) : L (n + 1) (S 0) 0 = some v:=by
 have key : ∀ d i k,i + d = n → L (d + 1 + k) (S i) (i : Int) = some v:=by
  intro d
  induction d with
  | zero =>
   intro i k hi
   obtain rfl : i = n:=by omega
   rw [show 0 + 1 + k = k + 1 by omega]
   exact hend k
  | succ d ih =>
   intro i k hi
   rw [show d + 1 + 1 + k = (d + 1 + k) + 1 by omega,hstep _ i (by omega)]
   exact ih (i + 1) k (by omega)
 have:=key n 0 0 (by omega)
 simpa using this
theorem fill_at {α β : Type} (xs : List α) (c : α → β) (z : α) (y : β) (i : Nat) (hi : i < xs.length) : (((xs.take i).map c) ++ List.replicate (xs.length - i) y).set i (c (xs.getD i z)) = ((xs.take (i + 1)).map c) ++ List.replicate (xs.length - (i + 1)) y:=by
 have h1 : xs.take (i + 1) = xs.take i ++ [xs.getD i z]:=by
  rw [List.take_succ_eq_append_getElem hi,List.getD_eq_getElem?_getD,List.getElem?_eq_getElem hi]
  rfl
 rw [h1,List.set_append_right _ _ (by simp;omega)]
 have h2 : i - ((xs.take i).map c).length = 0:=by simp;omega
 rw [h2,show xs.length - i = (xs.length - (i + 1)) + 1 by omega,List.replicate_succ,s2_,List.map_append,List.append_assoc]
 rfl
theorem fill_len {α β : Type} (xs : List α) (c : α → β) (y : β) (i : Nat) (hi : i ≤ xs.length) : (((xs.take i).map c) ++ List.replicate (xs.length - i) y).length = xs.length:=by
 simp
 omega
theorem rd_nat (l : List Int) (i : Nat) (hi : i < l.length) : rd l (i : Int) = l.getD i 0:=by simp [rd]
def marks (a : Int) (n : Nat) : List Int:=(List.range n).map (fun i : Nat=>a + (i : Int))
theorem marks_len (a : Int) (n : Nat) : (marks a n).length = n:=by simp [marks]
end Go.Proofs.Ytacgehaipacehaa.P
end
namespace Go.Proofs.Ytacgehaipacehaa.P
open Go.RowKit Go.Proofs.YtacgehaipacehaaW.PrintWords Go.Proofs.YtacgehaipacehaaW.PrintLast Go.Proofs.YtacgehaipacehaaW.PrintMore
attribute [local go_sem] max2_int min2_int max_two min_two max_three min_three max_four min_four
set_option linter.unusedVariables false
set_option linter.unusedSimpArgs false
abbrev Cls:=S125
def okName (s : ByteArray) : Bool:=s.data.toList.all (fun c=>decide (97 ≤ c.toNat) && decide (c.toNat ≤ 122)) && (decide (1 ≤ s.size) && decide (s.size ≤ 6))
def named (t : List Cls) (n : ByteArray) : Int:=idxP (fun x : Cls=>x.f0.toList == n.toList) t
def okCls (t : List Cls) (i : Nat) (x : Cls) : Bool:=okName x.f0 && (decide (named t x.f0 = (i : Int)) && (if i = 0 then decide (x.f1 = -1) else decide (0 ≤ x.f1) && decide (x.f1 ≤ (i : Int) - 1)))
def vT (t : List Cls) : Bool:=(List.range t.length).all (fun i=>okCls t i (t.getD i z125)) && (decide (1 ≤ t.length) && decide (t.length ≤ 8))
def smT (t : List Cls) : Bool:=t.all fun x=>decide (x.f0.size < 9223372036854775807)
def hasC (t : List Cls) (a : Int) : Bool:=decide (0 ≤ a) && decide (a < (t.length : Int))
def upF (t : List Cls) : Nat → Int → List Int
 | 0,_=>[]
 | n + 1,a=>if 0 ≤ a then a :: upF t n (rd_T125 t a).f1 else []
def abv (t : List Cls) (a : Int) : List Int:=upF t (a.toNat + 1) a
def isA (t : List Cls) (a b : Int) : Bool:=(abv t a).contains b
theorem vT_len {t : List Cls} (h : vT t = true) : 1 ≤ t.length ∧ t.length ≤ 8:=by
 unfold vT at h
 simp only [Bool.and_eq_true,decide_eq_true_eq] at h
 exact h.2
theorem vT_at {t : List Cls} (h : vT t = true) (i : Nat) (hi : i < t.length) : okCls t i (t.getD i z125) = true:=by
 unfold vT at h
 simp only [Bool.and_eq_true,List.all_eq_true,List.mem_range] at h
 exact h.1 i hi
theorem vT_name {t : List Cls} (h : vT t = true) (i : Nat) (hi : i < t.length) : okName (t.getD i z125).f0 = true ∧ named t (t.getD i z125).f0 = i:=by
 have:=vT_at h i hi
 unfold okCls at this
 simp only [Bool.and_eq_true,decide_eq_true_eq] at this
 exact ⟨this.1,this.2.1⟩
theorem vT_root {t : List Cls} (h : vT t = true) : (t.getD 0 z125).f1 = -1:=by
 have:=vT_at h 0 (by have:=vT_len h;omega)
 unfold okCls at this
 simp only [Bool.and_eq_true,decide_eq_true_eq,if_pos] at this
 exact this.2.2
theorem vT_par {t : List Cls} (h : vT t = true) (i : Nat) (h0 : 0 < i) (hi : i < t.length) : 0 ≤ (t.getD i z125).f1 ∧ (t.getD i z125).f1 ≤ (i : Int) - 1:=by
 have:=vT_at h i hi
 unfold okCls at this
 rw [if_neg (by omega)] at this
 simp only [Bool.and_eq_true,decide_eq_true_eq] at this
 exact this.2.2
theorem vT_par' {t : List Cls} (h : vT t = true) (a : Int) (h0 : 0 ≤ a) (ha : a < (t.length : Int)) : -1 ≤ (rd_T125 t a).f1 ∧ (rd_T125 t a).f1 < a:=by
 unfold rd_T125
 by_cases e : a = 0
 ·subst e
  have:=vT_root h
  simp only [Int.toNat_zero]
  omega
 ·have:=vT_par h a.toNat (by omega) (by omega)
  omega
theorem upF_more {t : List Cls} (h : vT t = true) : ∀ (n m : Nat) (a : Int),a < (t.length : Int) → a < (n : Int) → a < (m : Int) → upF t n a = upF t m a:=by
 intro n
 induction n with
 | zero=>intro m a ha hn hm;cases m with
  | zero=>rfl
  | succ m=>simp only [upF];rw [if_neg (by omega)]
 | succ n ih =>
  intro m a ha hn hm
  cases m with
  | zero=>simp only [upF];rw [if_neg (by omega)]
  | succ m =>
   simp only [upF]
   by_cases h0 : 0 ≤ a
   ·rw [if_pos h0,if_pos h0]
    have:=vT_par' h a h0 ha
    rw [ih m _ (by omega) (by omega) (by omega)]
   ·rw [if_neg h0,if_neg h0]
theorem abv_step {t : List Cls} (h : vT t = true) (a : Int) (h0 : 0 ≤ a) (ha : a < (t.length : Int)) : abv t a = a :: abv t (rd_T125 t a).f1:=by
 have:=vT_par' h a h0 ha
 unfold abv
 rw [upF,if_pos h0,upF_more h a.toNat ((rd_T125 t a).f1.toNat + 1) _ (by omega) (by omega) (by omega)]
theorem abv_neg (t : List Cls) (a : Int) (h0 : a < 0) : abv t a = []:=by
 unfold abv
 rw [upF,if_neg (by omega)]
theorem upF_len (t : List Cls) : ∀ (n : Nat) (a : Int),(upF t n a).length ≤ n:=by
 intro n
 induction n with
 | zero=>intro a;simp [upF]
 | succ n ih =>
  intro a
  simp only [upF]
  split
  ·have:=ih (rd_T125 t a).f1
   simp only [List.length_cons];omega
  ·simp
theorem vT_small {t : List Cls} (h : vT t = true) : smT t = true:=by
 unfold smT
 rw [List.all_eq_true]
 intro x hx
 obtain ⟨i,hi,rfl⟩:=List.getElem_of_mem hx
 have:=(vT_name h i hi).1
 unfold okName at this
 simp only [Bool.and_eq_true,decide_eq_true_eq] at this
 have h2 : (t.getD i z125) = t[i]:=by simp [hi]
 rw [h2] at this
 simp only [decide_eq_true_eq]
 omega
theorem smT_at {t : List Cls} (h : smT t = true) (i : Nat) (hi : i < t.length) : t[i].f0.size ≤ 9223372036854775806:=by
 unfold smT at h
 rw [List.all_eq_true] at h
 have:=h t[i] (List.getElem_mem hi)
 simp only [decide_eq_true_eq] at this
 omega
theorem hasC_iff {t : List Cls} {a : Int} : hasC t a = true ↔ 0 ≤ a ∧ a < (t.length : Int):=by
 unfold hasC;simp
theorem abv_len {t : List Cls} (h : vT t = true) (a : Int) (ha : a < (t.length : Int)) : (abv t a).length ≤ 8:=by
 have h1:=upF_len t (a.toNat + 1) a
 have h2:=vT_len h
 unfold abv
 by_cases h0 : 0 ≤ a
 ·omega
 ·rw [upF,if_neg h0];simp
end Go.Proofs.Ytacgehaipacehaa.P
namespace Go.Proofs.Ytacgehaipacehaa.P
open Go.RowKit Go.Proofs.YtacgehaipacehaaW.PrintWords Go.Proofs.YtacgehaipacehaaW.PrintLast Go.Proofs.YtacgehaipacehaaW.PrintMore
attribute [local go_sem] max2_int min2_int max_two min_two max_three min_three max_four min_four
set_option linter.unusedVariables false
set_option linter.unusedSimpArgs false
def cuL (c : UInt8) : List UInt8 → List UInt8 × List UInt8 × Bool
 | []=>([],[],false)
 | x :: l=>if x = c then ([],l,true) else (x :: (cuL c l).1,(cuL c l).2.1,(cuL c l).2.2)
def cutB (c : UInt8) (s : ByteArray) : ByteArray × ByteArray × Bool:=(⟨(cuL c s.data.toList).1.toArray⟩,⟨(cuL c s.data.toList).2.1.toArray⟩,(cuL c s.data.toList).2.2)
def splA (c : UInt8) : List UInt8 → List UInt8 → List (List UInt8)
 | cur,[]=>[cur]
 | cur,x :: l=>if x = c then cur :: splA c [] l else splA c (cur ++ [x]) l
def toB (l : List UInt8) : ByteArray:=⟨l.toArray⟩
def ofB (s : ByteArray) : List UInt8:=s.data.toList
theorem toB_ofB (s : ByteArray) : toB (ofB s) = s:=by cases s;simp [toB,ofB]
theorem ofB_toB (l : List UInt8) : ofB (toB l) = l:=by simp [toB,ofB]
theorem toB_inj {a b : List UInt8} (h : toB a = toB b) : a = b:=by rw [← ofB_toB a,h,ofB_toB]
theorem ofB_inj {a b : ByteArray} (h : ofB a = ofB b) : a = b:=by rw [← toB_ofB a,h,toB_ofB]
theorem ofB_len (s : ByteArray) : (ofB s).length = s.size:=by simp [ofB]
theorem toB_size (l : List UInt8) : (toB l).size = l.length:=by simp [toB,ByteArray.size]
theorem cuL_hit (c : UInt8) : ∀ (a r : List UInt8),(∀ x ∈ a,x ≠ c) → cuL c (a ++ c :: r) = (a,r,true):=by
 intro a
 induction a with
 | nil=>intro r _;simp [cuL]
 | cons x a ih =>
  intro r h
  have h1:=h x (by simp)
  have h2:=ih r (fun y hy=>h y (by simp [hy]))
  rw [List.cons_append,cuL,if_neg h1,h2]
theorem cuL_miss (c : UInt8) : ∀ (a : List UInt8),(∀ x ∈ a,x ≠ c) → cuL c a = (a,[],false):=by
 intro a
 induction a with
 | nil=>intro _;rfl
 | cons x a ih =>
  intro h
  have h1:=h x (by simp)
  have h2:=ih (fun y hy=>h y (by simp [hy]))
  rw [cuL,if_neg h1,h2]
theorem cuL_len (c : UInt8) : ∀ (l : List UInt8),(cuL c l).1.length ≤ l.length ∧ (l ≠ [] → (cuL c l).2.1.length < l.length):=by
 intro l
 induction l with
 | nil=>exact ⟨Nat.le_refl _,fun h=>absurd rfl h⟩
 | cons x l ih =>
  rw [cuL]
  split
  ·simp
  ·refine ⟨by simp;exact ih.1,fun _=>?_⟩
   simp only [List.length_cons]
   by_cases e : l = []
   ·subst e;simp [cuL]
   ·have:=ih.2 e;omega
theorem splA_hit (c : UInt8) : ∀ (a cur r : List UInt8),(∀ x ∈ a,x ≠ c) → splA c cur (a ++ c :: r) = (cur ++ a) :: splA c [] r:=by
 intro a
 induction a with
 | nil=>intro cur r _;simp [splA]
 | cons x a ih =>
  intro cur r h
  have h1:=h x (by simp)
  have h2:=ih (cur ++ [x]) r (fun y hy=>h y (by simp [hy]))
  rw [List.cons_append,splA,if_neg h1,h2,List.append_assoc]
  rfl
theorem splA_miss (c : UInt8) : ∀ (a cur : List UInt8),(∀ x ∈ a,x ≠ c) → splA c cur a = [cur ++ a]:=by
 intro a
 induction a with
 | nil=>intro cur _;simp [splA]
 | cons x a ih =>
  intro cur h
  have h1:=h x (by simp)
  have h2:=ih (cur ++ [x]) (fun y hy=>h y (by simp [hy]))
  rw [splA,if_neg h1,h2,List.append_assoc]
  rfl
theorem splA_len (c : UInt8) : ∀ (l cur : List UInt8),1 ≤ (splA c cur l).length ∧ (splA c cur l).length ≤ l.length + 1:=by
 intro l
 induction l with
 | nil=>intro cur;simp [splA]
 | cons x l ih =>
  intro cur
  rw [splA]
  split
  ·have:=ih []
   simp only [List.length_cons];omega
  ·have:=ih (cur ++ [x])
   simp only [List.length_cons];omega
theorem splA_mem (c : UInt8) : ∀ (l cur : List UInt8),∀ x ∈ splA c cur l,x.length ≤ cur.length + l.length:=by
 intro l
 induction l with
 | nil=>intro cur x hx;simp [splA] at hx;subst hx;simp
 | cons y l ih =>
  intro cur x hx
  rw [splA] at hx
  split at hx
  ·rcases List.mem_cons.1 hx with rfl | hx
   ·omega
   ·have:=ih [] x hx
    simp only [List.length_nil,List.length_cons] at this ⊢;omega
  ·have:=ih (cur ++ [y]) x hx
   simp only [List.length_append,List.length_cons,List.length_nil] at this ⊢;omega
def lineL (t : List Cls) (x : Cls) : List UInt8:=ofB x.f0 ++ ((if 0 ≤ x.f1 then 32 :: ofB (t.getD x.f1.toNat z125).f0 else []) ++ [10])
def linesL (t l : List Cls) : List UInt8:=l.flatMap (lineL t)
def treeTx (t : List Cls) : ByteArray:=toB (linesL t t)
def textP (t : List Cls) : ByteArray:=if vT t = true then treeTx t else ByteArray.empty
def clsOf (acc : List Cls) (line : ByteArray) : Cls:=⟨(cutB 32 line).1,if (cutB 32 line).2.2 = true then named acc (cutB 32 line).2.1 else -1⟩
def parI : Nat → List Cls → ByteArray → List Cls
 | 0,acc,_=>acc
 | n + 1,acc,s=>if s.size = 0 then acc else parI n (acc ++ [clsOf acc (cutB 10 s).1]) (cutB 10 s).2.1
def clsS (acc : List Cls) (line : ByteArray) : Cls:=⟨toB ((splA 32 [] (ofB line)).getD 0 []),if (splA 32 [] (ofB line)).length = 2 then named acc (toB ((splA 32 [] (ofB line)).getD 1 [])) else -1⟩
def parS (acc : List Cls) : List (List UInt8) → List Cls
 | []=>acc
 | x :: l=>parS (acc ++ [clsS acc (toB x)]) l
def linS (s : ByteArray) : List (List UInt8):=(splA 10 [] (ofB s)).dropLast
def okTx (t : List Cls) (s : ByteArray) : Bool:=vT t && decide (treeTx t = s)
def parP (s : ByteArray) : List Cls × Bool:=if okTx (parI s.size [] s) s = true then (parI s.size [] s,true) else ([],false)
theorem okName_not {s : ByteArray} (h : okName s = true) (c : UInt8) (hc : c.toNat < 97) : ∀ x ∈ ofB s,x ≠ c:=by
 intro x hx e
 unfold okName at h
 rw [Bool.and_eq_true,List.all_eq_true] at h
 have:=h.1 x hx
 simp only [Bool.and_eq_true,decide_eq_true_eq] at this
 subst e
 omega
theorem okName_len {s : ByteArray} (h : okName s = true) : 1 ≤ s.size ∧ s.size ≤ 6:=by
 unfold okName at h
 simp only [Bool.and_eq_true,decide_eq_true_eq] at h
 exact h.2
theorem idxP_take {α : Type} (p : α → Bool) (l : List α) (m n : Nat) (h : idxP p l = (m : Int)) (hm : m < n) : idxP p (l.take n) = (m : Int):=by
 have hs : l.findIdx? p = some m:=by
  unfold idxP at h
  cases hf : l.findIdx? p with
  | none=>rw [hf] at h;simp at h
  | some i =>
   rw [hf] at h
   simp only at h
   rw [show i = m by omega]
 rw [List.findIdx?_eq_some_iff_getElem] at hs
 obtain ⟨hl,hp,hA⟩:=hs
 have hl2 : m < (l.take n).length:=by rw [List.length_take];omega
 refine idxP_hit p (l.take n) m hl2 ?_ (fun j hj hjm=>?_)
 ·rw [List.getElem_take];exact hp
 ·rw [List.getElem_take]
  have:=hA j hjm
  simpa using this
def bodL (t : List Cls) (x : Cls) : List UInt8:=ofB x.f0 ++ (if 0 ≤ x.f1 then 32 :: ofB (t.getD x.f1.toNat z125).f0 else [])
theorem lineL_bod (t : List Cls) (x : Cls) : lineL t x = bodL t x ++ [10]:=by unfold lineL bodL;rw [List.append_assoc]
theorem bod_not {t : List Cls} (h : vT t = true) (i : Nat) (hi : i < t.length) : ∀ x ∈ bodL t (t.getD i z125),x ≠ 10:=by
 intro x hx
 unfold bodL at hx
 rcases List.mem_append.1 hx with hx | hx
 ·exact okName_not (vT_name h i hi).1 10 (by decide) x hx
 ·split at hx
  case isTrue h0 =>
   rcases List.mem_cons.1 hx with rfl | hx
   ·decide
   ·have h1:=(vT_par' h (i : Int) (by omega) (by omega)).2
    have h2 : rd_T125 t (i : Int) = t.getD i z125:=by simp [rd_T125]
    rw [h2] at h1
    exact okName_not (vT_name h _ (by omega)).1 10 (by decide) x hx
  case isFalse=>cases hx
theorem vT_parent {t : List Cls} (h : vT t = true) (i : Nat) (hi : i < t.length) : (i = 0 → (t.getD i z125).f1 = -1) ∧ (0 < i → 0 ≤ (t.getD i z125).f1 ∧ (t.getD i z125).f1 < (i : Int)):=by
 refine ⟨fun e=>by subst e;exact vT_root h,fun h0=>?_⟩
 have:=vT_par h i h0 hi
 omega
theorem clsOf_line {t : List Cls} (h : vT t = true) (i : Nat) (hi : i < t.length) : clsOf (t.take i) (toB (bodL t (t.getD i z125))) = t.getD i z125:=by
 have hn:=okName_not (vT_name h i hi).1 32 (by decide)
 have hp:=vT_parent h i hi
 unfold clsOf cutB
 rw [show (toB (bodL t (t.getD i z125))).data.toList = bodL t (t.getD i z125) from ofB_toB _]
 unfold bodL
 by_cases h0 : i = 0
 ·have h1:=hp.1 h0
  rw [if_neg (by omega),List.append_nil,cuL_miss 32 _ hn]
  simp only
  rw [if_neg (by simp),← h1,show (⟨(ofB (t.getD i z125).f0).toArray⟩ : ByteArray) = (t.getD i z125).f0 from toB_ofB _]
 ·have h1:=hp.2 (by omega)
  rw [if_pos h1.1,cuL_hit 32 _ _ hn]
  simp only
  rw [if_pos trivial,show (⟨(ofB (t.getD i z125).f0).toArray⟩ : ByteArray) = (t.getD i z125).f0 from toB_ofB _]
  generalize hq : (t.getD i z125).f1 = q at h1 ⊢
  rw [show (⟨(ofB (t.getD q.toNat z125).f0).toArray⟩ : ByteArray) = (t.getD q.toNat z125).f0 from toB_ofB _]
  have h2:=(vT_name h q.toNat (by omega)).2
  have h3 : named (t.take i) (t.getD q.toNat z125).f0 = q:=by
   have:=idxP_take _ t q.toNat i h2 (by omega)
   unfold named
   rw [this]
   omega
  rw [h3,← hq]
theorem take_snoc {t : List Cls} (i : Nat) (hi : i < t.length) : t.take i ++ [t.getD i z125] = t.take (i + 1):=by
 rw [List.take_succ_eq_append_getElem hi]
 simp [List.getD,hi]
theorem drop_cons {t : List Cls} (i : Nat) (hi : i < t.length) : t.drop i = t.getD i z125 :: t.drop (i + 1):=by
 rw [List.drop_eq_getElem_cons hi]
 simp [List.getD,hi]
theorem parI_back {t : List Cls} (h : vT t = true) : ∀ (d n i : Nat),i + d = t.length → (linesL t (t.drop i)).length ≤ n → parI n (t.take i) (toB (linesL t (t.drop i))) = t:=by
 intro d
 induction d with
 | zero =>
  intro n i hi hn
  rw [List.drop_of_length_le (by omega),List.take_of_length_le (by omega)]
  cases n with
  | zero=>rfl
  | succ n=>rw [parI,if_pos (by rw [toB_size];rfl)]
 | succ d ih =>
  intro n i hi hn
  have hlt : i < t.length:=by omega
  have hl : linesL t (t.drop i) = bodL t (t.getD i z125) ++ 10 :: linesL t (t.drop (i + 1)):=by
   rw [drop_cons i hlt]
   unfold linesL
   rw [List.flatMap_cons,lineL_bod,List.append_assoc]
   rfl
  have hlen : (linesL t (t.drop i)).length = (bodL t (t.getD i z125)).length + 1 + (linesL t (t.drop (i + 1))).length:=by rw [hl];simp;omega
  obtain ⟨m,rfl⟩ : ∃ m,n = m + 1:=⟨n - 1,by omega⟩
  rw [parI,if_neg (by rw [toB_size];omega)]
  have hc : cutB 10 (toB (linesL t (t.drop i))) = (toB (bodL t (t.getD i z125)),toB (linesL t (t.drop (i + 1))),true):=by
   unfold cutB
   rw [show (toB (linesL t (t.drop i))).data.toList = linesL t (t.drop i) from ofB_toB _,hl,cuL_hit 10 _ _ (bod_not h i hlt)]
   rfl
  rw [hc]
  simp only
  rw [clsOf_line h i hlt,take_snoc i hlt]
  exact ih m (i + 1) (by omega) (by omega)
theorem clsS_line {t : List Cls} (h : vT t = true) (i : Nat) (hi : i < t.length) : clsS (t.take i) (toB (bodL t (t.getD i z125))) = t.getD i z125:=by
 have hn:=okName_not (vT_name h i hi).1 32 (by decide)
 have hp:=vT_parent h i hi
 unfold clsS
 rw [ofB_toB]
 unfold bodL
 by_cases h0 : i = 0
 ·have h1:=hp.1 h0
  rw [if_neg (by omega),List.append_nil,splA_miss 32 _ _ hn]
  rw [if_neg (by simp),← h1]
  have : toB (([[] ++ ofB (t.getD i z125).f0] : List (List UInt8)).getD 0 []) = (t.getD i z125).f0:=toB_ofB _
  rw [this]
 ·have h1:=hp.2 (by omega)
  generalize hq : (t.getD i z125).f1 = q at h1 ⊢
  have hn2:=okName_not (vT_name h q.toNat (by omega)).1 32 (by decide)
  rw [if_pos h1.1,splA_hit 32 _ _ _ hn,splA_miss 32 _ _ hn2,if_pos (by rfl)]
  have e0 : toB (([[] ++ ofB (t.getD i z125).f0,[] ++ ofB (t.getD q.toNat z125).f0] : List (List UInt8)).getD 0 []) = (t.getD i z125).f0:=toB_ofB _
  have e1 : toB (([[] ++ ofB (t.getD i z125).f0,[] ++ ofB (t.getD q.toNat z125).f0] : List (List UInt8)).getD 1 []) = (t.getD q.toNat z125).f0:=toB_ofB _
  rw [e0,e1]
  have h2:=(vT_name h q.toNat (by omega)).2
  have h3 : named (t.take i) (t.getD q.toNat z125).f0 = q:=by
   have:=idxP_take _ t q.toNat i h2 (by omega)
   unfold named
   rw [this]
   omega
  rw [h3,← hq]
theorem parS_back {t : List Cls} (h : vT t = true) : ∀ (d i : Nat),i + d = t.length → parS (t.take i) (splA 10 [] (linesL t (t.drop i))).dropLast = t:=by
 intro d
 induction d with
 | zero =>
  intro i hi
  rw [List.drop_of_length_le (by omega),List.take_of_length_le (by omega)]
  rfl
 | succ d ih =>
  intro i hi
  have hlt : i < t.length:=by omega
  have hl : linesL t (t.drop i) = bodL t (t.getD i z125) ++ 10 :: linesL t (t.drop (i + 1)):=by
   rw [drop_cons i hlt]
   unfold linesL
   rw [List.flatMap_cons,lineL_bod,List.append_assoc]
   rfl
  rw [hl,splA_hit 10 _ _ _ (bod_not h i hlt),List.nil_append]
  have hne:=(splA_len 10 (linesL t (t.drop (i + 1))) []).1
  obtain ⟨y,r,hy⟩ : ∃ y r,splA 10 [] (linesL t (t.drop (i + 1))) = y :: r:=by
   cases hs : splA 10 [] (linesL t (t.drop (i + 1))) with
   | nil=>rw [hs] at hne;simp at hne
   | cons y r=>exact ⟨y,r,rfl⟩
  have hi2:=ih (i + 1) (by omega)
  rw [hy] at hi2 ⊢
  rw [List.dropLast_cons_cons,parS,clsS_line h i hlt,take_snoc i hlt]
  exact hi2
theorem parI_text {t : List Cls} (h : vT t = true) : parI (treeTx t).size [] (treeTx t) = t:=by
 have:=parI_back h t.length (treeTx t).size 0 (by omega) (by rw [List.drop_zero];unfold treeTx;rw [toB_size];exact Nat.le_refl _)
 simpa [treeTx] using this
theorem parS_text {t : List Cls} (h : vT t = true) : parS [] (linS (treeTx t)) = t:=by
 have:=parS_back h t.length 0 (by omega)
 unfold linS treeTx
 rw [ofB_toB]
 simpa using this
theorem okTx_parts {t : List Cls} {s : ByteArray} (h : okTx t s = true) : vT t = true ∧ treeTx t = s:=by
 unfold okTx at h
 rw [Bool.and_eq_true] at h
 exact ⟨h.1,of_decide_eq_true h.2⟩
theorem parP_spec (s : ByteArray) : parP s = if okTx (parS [] (linS s)) s = true then (parS [] (linS s),true) else ([],false):=by
 unfold parP
 by_cases h1 : okTx (parI s.size [] s) s = true
 ·obtain ⟨hv,he⟩:=okTx_parts h1
  have h2 : parS [] (linS s) = parI s.size [] s:=by
   generalize parI s.size [] s = t at hv he
   subst he
   exact parS_text hv
  rw [h2,if_pos h1]
 ·by_cases h2 : okTx (parS [] (linS s)) s = true
  ·obtain ⟨hv,he⟩:=okTx_parts h2
   have h3 : parI s.size [] s = parS [] (linS s):=by
    generalize parS [] (linS s) = t at hv he
    subst he
    exact parI_text hv
   rw [h3] at h1
   exact absurd h2 h1
  ·rw [if_neg h1,if_neg h2]
theorem parP_yes {s : ByteArray} {t : List Cls} (h : parP s = (t,true)) : vT t = true ∧ treeTx t = s:=by
 unfold parP at h
 split at h
 case isTrue h1=>obtain ⟨rfl,_⟩:=Prod.mk.inj h;exact okTx_parts h1
 case isFalse=>cases (Prod.mk.inj h).2
theorem parP_no {s : ByteArray} {t : List Cls} (h : parP s = (t,false)) : t = []:=by
 unfold parP at h
 split at h
 ·cases (Prod.mk.inj h).2
 ·exact (Prod.mk.inj h).1.symm
theorem parP_text {t : List Cls} (h : vT t = true) : parP (treeTx t) = (t,true):=by
 have h1:=parI_text h
 unfold parP
 rw [h1,if_pos (by unfold okTx;rw [h];simp)]
theorem lineL_len {t : List Cls} (h : vT t = true) (i : Nat) (hi : i < t.length) : 1 ≤ (lineL t (t.getD i z125)).length ∧ (lineL t (t.getD i z125)).length ≤ 14:=by
 have h1:=okName_len (vT_name h i hi).1
 have hp:=vT_parent h i hi
 unfold lineL
 rw [List.length_append,List.length_append,ofB_len,List.length_singleton]
 split
 case isTrue h0 =>
  have h2:=(hp.2 (by have:=hp.1;omega))
  have h3:=okName_len (vT_name h (t.getD i z125).f1.toNat (by omega)).1
  rw [List.length_cons,ofB_len]
  omega
 case isFalse=>rw [List.length_nil];omega
theorem linesL_len {t : List Cls} (h : vT t = true) : ∀ (j : Nat),j ≤ t.length → (linesL t (t.take j)).length ≤ 14 * j ∧ j ≤ (linesL t (t.take j)).length:=by
 intro j
 induction j with
 | zero=>intro _;simp [linesL]
 | succ j ih =>
  intro hj
  have h1:=ih (by omega)
  have h2:=lineL_len h j (by omega)
  rw [← take_snoc j (by omega)]
  unfold linesL at h1 ⊢
  rw [List.flatMap_append,List.flatMap_singleton,List.length_append]
  omega
theorem treeTx_size {t : List Cls} (h : vT t = true) : 1 ≤ (treeTx t).size ∧ (treeTx t).size ≤ 112:=by
 have h1:=linesL_len h t.length (Nat.le_refl _)
 have h2:=vT_len h
 rw [List.take_of_length_le (Nat.le_refl _)] at h1
 unfold treeTx
 rw [toB_size]
 omega
end Go.Proofs.Ytacgehaipacehaa.P
namespace Go.Proofs.Ytacgehaipacehaa.P
open Go.RowKit Go.Proofs.YtacgehaipacehaaW.PrintWords Go.Proofs.YtacgehaipacehaaW.PrintLast Go.Proofs.YtacgehaipacehaaW.PrintMore
attribute [local go_sem] max2_int min2_int max_two min_two max_three min_three max_four min_four
set_option linter.unusedVariables false
set_option linter.unusedSimpArgs false
def impl_within.f (a0 : Int) (a1 : Int) (a2 : Int) : Option (Bool):=if a0 ≥ a1 then (some (decide (a0 ≤ a2))) else (some false)
set_option maxHeartbeats 8000000 in
set_option maxRecDepth 100000 in
theorem impl_within.calls (a0 : Int) (a1 : Int) (a2 : Int) (r : Bool) (w : World) (h : impl_within.f a0 a1 a2 = some r) :
  Calls Try.prog 75 #[.int .i64 a0,.int .i64 a1,.int .i64 a2] w fun e w'=>e = .returned (.bool r) ∧ Drawn0 w w':=by
 have H : (if a0 ≥ a1 then (some (decide (a0 ≤ a2))) else (some false)) = some r:=h
 clear h
 by_cases c4 : a0 ≥ a1
 ·rw [if_pos c4] at H
  have c4b0 : decide (a1 ≤ a0) = true:=decide_eq_true c4
  clear c4
  obtain rfl:=Option.some.inj H
  go_enter Try.func75,Try.ntmps75
  go_wp2
  go_ret
  exact ⟨by first | rfl | (simp;done) | (simp [*];done),by repeat (first | exact Drawn0.refl _ | apply Drawn0.step)⟩
 ·rw [if_neg c4] at H
  have c4b0 : decide (a1 ≤ a0) = false:=decide_eq_false c4
  clear c4
  obtain rfl:=Option.some.inj H
  go_enter Try.func75,Try.ntmps75
  go_wp2
  go_ret
  exact ⟨by first | rfl | (simp;done) | (simp [*];done),by repeat (first | exact Drawn0.refl _ | apply Drawn0.step)⟩
theorem impl_within_ev (a b c : Int) : impl_within.f a b c = some (decide (b ≤ a) && decide (a ≤ c)):=by
 unfold impl_within.f
 by_cases h : a ≥ b
 ·rw [if_pos h,decide_eq_true (show b ≤ a from h),Bool.true_and]
 ·rw [if_neg h,decide_eq_false (show ¬ b ≤ a from h),Bool.false_and]
end Go.Proofs.Ytacgehaipacehaa.P
namespace Go.Proofs.Ytacgehaipacehaa.P
open Go.RowKit Go.Proofs.YtacgehaipacehaaW.PrintWords Go.Proofs.YtacgehaipacehaaW.PrintLast Go.Proofs.YtacgehaipacehaaW.PrintMore
attribute [local go_sem] max2_int min2_int max_two min_two max_three min_three max_four min_four
set_option linter.unusedVariables false
set_option linter.unusedSimpArgs false
set_option maxHeartbeats 2000000 in
theorem slices_IndexFunc_Class.callsF (A : Option Addr) (c : Nat) (l : List S125) (g : Nat) (lb : Array Value) (p : S125 → Bool) (w : World) (eg : ∀ args w,(callFunc g args).run Try.prog w = .ok (.enter g args) w)
  (hr : Kd.C k125 w A l.length l) (hc : l.length ≤ c) (hp : ∀ x,x ∈ l → ∀ W,Below w.heap.size w W → Calls Try.prog g (#[.agg #[.string x.f0,.int .i64 x.f1]] ++ lb) W fun e w'=>e = .returned (.bool (p x)) ∧ Below W.heap.size W w') :
  Calls Try.prog 137 #[.slice A l.length c,.func (.func g) #[] lb] w fun e w'=>e = .returned (.int .i64 (idxP p l)) ∧ Below w.heap.size w w':=by
 have HR:=a0_ hr
 have HP:=a0_ hp
 have hmax : l.length ≤ 9223372036854775807:=hr.2.1
 clear hr hp hc
 go_enter Try.func137,Try.ntmps137
 go_wp2
 go_loopg [5,8] l.length (fun gg _ s8 wr=>∃ kk : Nat,kk ≤ l.length ∧ l.length - kk ≤ gg ∧ s8 = .int .i64 kk ∧ Aside0 (Below w.heap.size w wr) ∧ Aside0 (∀ j (hj : j < l.length),j < kk → p l[j] = false))
 case atStart=>exact ⟨0,Nat.zero_le _,by omega,rfl,⟨Below.refl _ w⟩,⟨fun j _ hj=>absurd hj (Nat.not_lt_zero _)⟩⟩
 case round =>
  obtain ⟨kk,hkk,hg,rfl,BW,HA⟩:=hrel
  by_cases hlt : kk < l.length
  ·have hltz : (kk : Int) < (l.length : Int):=by omega
   obtain ⟨ad,ea,hx0,hx1⟩:=at_T125 HR.out (kk : Int) (by omega) (by omega)
   cases ea
   have hrd : rd_T125 l (kk : Int) = l[kk]:=by simp [rd_T125,hlt]
   rw [hrd] at hx0 hx1
   rw [Int.toNat_natCast] at hx0 hx1
   replace hx0:=(BW.out.cell (World.block_lt_of_cell? w _ hx0)).trans hx0
   replace hx1:=(BW.out.cell (World.block_lt_of_cell? w _ hx1)).trans hx1
   have hcall:=HP.out l[kk] (List.getElem_mem hlt) wr BW.out
   clear hrd
   generalize hy : l[kk] = y at hx0 hx1 hcall
   have B:=a0_ hy
   clear hy
   cases hq : p y with
   | true =>
    rw [hq] at hcall
    go_wp2_with (go_at_fn g;refine hcall.mono ?_;rintro e w' ⟨rfl,hb'⟩)
    go_ret
    refine ⟨?_,below_step BW.out hb'⟩
    rw [idxP_hit p l kk hlt (by rw [B.out];exact hq) HA.out];rfl
   | false =>
    rw [hq] at hcall
    go_wp2_with (go_at_fn g;refine hcall.mono ?_;rintro e w' ⟨rfl,hb'⟩)
    go_roundg (l.length - (kk + 1))
    case measure=>omega
    case rel =>
     refine ⟨kk + 1,by omega,by omega,by go_num,⟨below_step BW.out hb'⟩,⟨fun j hj hjk=>?_⟩⟩
     by_cases e : j = kk
     ·subst e
      rw [B.out];exact hq
     ·exact HA.out j hj (by omega)
  ·have hltz : ¬ (kk : Int) < (l.length : Int):=by omega
   have : kk = l.length:=by omega
   subst this
   go_wp2
   go_ret
   refine ⟨?_,BW.out⟩
   rw [idxP_miss p l (fun j hj=>HA.out j hj hj)];rfl
end Go.Proofs.Ytacgehaipacehaa.P
namespace Go.Proofs.Ytacgehaipacehaa.P
open Go.RowKit Go.Proofs.YtacgehaipacehaaW.PrintWords Go.Proofs.YtacgehaipacehaaW.PrintLast Go.Proofs.YtacgehaipacehaaW.PrintMore
attribute [local go_sem] max2_int min2_int max_two min_two max_three min_three max_four min_four
set_option linter.unusedVariables false
set_option linter.unusedSimpArgs false
theorem impl_Tree_named_1.callsF (B : Nat) (nm : ByteArray) (x : S125) (w : World) (hB : w.heap[B]? = some (.cells #[.string nm] 9 (0,0))) :
  Calls Try.prog 138 #[.agg #[.string x.f0,.int .i64 x.f1],.pointer (some ⟨B,0,none⟩)] w fun e w'=>e = .returned (.bool (x.f0.toList == nm.toList)) ∧ Below w.heap.size w w':=by
 have hc : w.cell? ⟨B,0,none⟩ = some (.string nm):=(blk_cell hB 0).trans rfl
 have hlt : B < w.heap.size:=(Array.getElem?_eq_some_iff.1 hB).1
 have hne : B ≠ w.heap.size:=by omega
 clear hB
 go_enter Try.func138,Try.ntmps138
 go_wp2
 all_goals (go_ret;exact ⟨by simp_all,(Below.refl _ w).alloc (Nat.le_refl _) _⟩)
end Go.Proofs.Ytacgehaipacehaa.P
namespace Go.Proofs.Ytacgehaipacehaa.P
open Go.RowKit Go.Proofs.YtacgehaipacehaaW.PrintWords Go.Proofs.YtacgehaipacehaaW.PrintLast Go.Proofs.YtacgehaipacehaaW.PrintMore
attribute [local go_sem] max2_int min2_int max_two min_two max_three min_three max_four min_four
set_option linter.unusedVariables false
set_option linter.unusedSimpArgs false
def impl_Tree_named.f (l0_0 : List (S125)) (a1 : ByteArray) : Option Int:=some (idxP (fun x : S125=>x.f0.toList == a1.toList) l0_0)
set_option maxHeartbeats 2000000 in
theorem impl_Tree_named.calls (A0_0 : Option Addr) (c0_0 : Nat) (l0_0 : List (S125)) (a1 : ByteArray) (r : Int) (w : World) (hr0_0 : Kd.C k125 w A0_0 l0_0.length l0_0) (hc0_0 : l0_0.length ≤ c0_0) (h : impl_Tree_named.f l0_0 a1 = some r) :
  Calls Try.prog 92 #[.agg #[.slice A0_0 l0_0.length c0_0],.string a1] w fun e w'=>e = .returned (.int .i64 r) ∧ Below w.heap.size w w':=by
 obtain rfl:=Option.some.inj h
 clear h
 have hu31:=Try.underlying25
 have eg : ∀ args w,(callFunc 138 args).run Try.prog w = .ok (.enter 138 args) w:=enters_of Try.func138 (by kernel_rfl) rfl
 have hcon:=fun (W : World) (hb : Below w.heap.size w W) (hB : W.heap[w.heap.size + 1]? = some (.cells #[.string a1] 9 (0,0)))=>slices_IndexFunc_Class.callsF A0_0 c0_0 l0_0 138 #[.pointer (some ⟨w.heap.size + 1,0,none⟩)] (fun x=>x.f0.toList == a1.toList) W eg (Kd.C_below hr0_0 hb) hc0_0 (fun x _ W' hW=>by
  have:=impl_Tree_named_1.callsF (w.heap.size + 1) a1 x W' (blk_keptB hB hW)
  simpa using this)
 clear hr0_0 hc0_0
 generalize idxP (fun x : S125=>x.f0.toList == a1.toList) l0_0 = r at hcon ⊢
 have HC:=a0_ hcon
 clear hcon
 go_enter Try.func92,Try.ntmps92
 go_wp2_with (go_at_call 137;refine (HC.out _ ?hb ?hB).mono ?_;(case hb=>exact below2 w _ _);(case hB=>exact heap_new2 w _ _);rintro e w' ⟨rfl,hb'⟩)
 go_ret
 exact ⟨rfl,(below2 w _ _).trans (hb'.mono (by simp;omega))⟩
end Go.Proofs.Ytacgehaipacehaa.P
namespace Go.Proofs.Ytacgehaipacehaa.P
open Go.RowKit Go.Proofs.YtacgehaipacehaaW.PrintWords Go.Proofs.YtacgehaipacehaaW.PrintLast Go.Proofs.YtacgehaipacehaaW.PrintMore
attribute [local go_sem] max2_int min2_int max_two min_two max_three min_three max_four min_four
set_option linter.unusedVariables false
set_option linter.unusedSimpArgs false
def impl_nameOk.l0 : Nat → ByteArray → Int → Int → Option (Bool)
 | 0,_,_,_=>none
 | k + 1,x0,x5,x6=>if x6 < x5 then (if 0 ≤ x6 then (if x6 < (x0.size : Int) then (if (bt x0 x6) < 97 then (some false) else (if (bt x0 x6) > 122 then (some false) else (impl_nameOk.l0 k x0 x5 (wrap64 (x6 + 1))))) else (none)) else (none)) else ((impl_within.f (x0.size : Int) 1 6).bind fun t1=>(some t1))
def impl_nameOk.f (k : Nat) (a0 : ByteArray) : Option (Bool):=impl_nameOk.l0 k a0 (a0.size : Int) 0
theorem impl_nameOk.mono_l : ∀ k,(∀ y0 y1 y2,LeO (impl_nameOk.l0 k y0 y1 y2) (impl_nameOk.l0 (k + 1) y0 y1 y2))
 | 0=>fun _ _ _ r h=>by simp [impl_nameOk.l0] at h
 | k + 1=>by
  have ih0:=impl_nameOk.mono_l k
  ·intro y0 y1 y2
   unfold impl_nameOk.l0
   repeat' first
   | (with_reducible exact ih0 _ _ _)
   | (with_reducible exact LeO.refl _)
   | (with_reducible exact LeO.none _)
   | (with_reducible refine LeO.ite ?_ ?_)
   | (with_reducible refine LeO.bind ?_ (fun _=>?_))
   | exact ih0 _ _ _
   | exact LeO.none _
   | refine LeO.ite ?_ ?_
   | refine LeO.bind ?_ (fun _=>?_)
theorem impl_nameOk.mono : ∀ a0 k,LeO (impl_nameOk.f k a0) (impl_nameOk.f (k + 1) a0):=by
 intro a0 k
 have ih0:=impl_nameOk.mono_l k
 unfold impl_nameOk.f
 repeat' first
   | (with_reducible exact ih0 _ _ _)
   | (with_reducible exact LeO.refl _)
   | (with_reducible exact LeO.none _)
   | (with_reducible refine LeO.ite ?_ ?_)
   | (with_reducible refine LeO.bind ?_ (fun _=>?_))
   | exact ih0 _ _ _
   | exact LeO.none _
   | refine LeO.ite ?_ ?_
   | refine LeO.bind ?_ (fun _=>?_)
set_option maxHeartbeats 8000000 in
set_option maxRecDepth 100000 in
theorem impl_nameOk.calls (k : Nat) (a0 : ByteArray) (r : Bool) (w : World) (h : impl_nameOk.f k a0 = some r) :
  Calls Try.prog 112 #[.string a0] w fun e w'=>e = .returned (.bool r) ∧ Drawn0 w w':=by
 have H : (impl_nameOk.l0 k a0 (a0.size : Int) 0) = some r:=h
 clear h
 have H':=a0_ H
 clear H
 go_enter Try.func112,Try.ntmps112
 go_wp2
 go_loopg [6] k (fun kq v6 w'=>∃ (x6_1 : Int),v6 = .int .i64 x6_1 ∧ Aside0 (impl_nameOk.l0 kq a0 (a0.size : Int) x6_1 = some r) ∧ Aside0 (kq ≤ k) ∧ Drawn0 w w')
 case atStart=>exact ⟨(0),(by first | rfl | (simp;done) | (simp [*];done)),H',⟨Nat.le_refl _⟩,by repeat (first | exact Drawn0.refl _ | apply Drawn0.step)⟩
 case round =>
  clear H'
  try clear c1
  obtain ⟨x6_1,rfl,HA,HK1,⟨m1,rfl⟩⟩:=hrel
  cases gk with
  | zero=>exact absurd HA.out (by simp [impl_nameOk.l0])
  | succ k1 =>
   have H:=HA.out
   clear HA
   simp only [impl_nameOk.l0] at H
   by_cases c2 : x6_1 < (a0.size : Int)
   ·rw [if_pos c2] at H
    have c2b0 : decide (x6_1 < (a0.size : Int)) = true:=decide_eq_true c2
    clear c2
    by_cases c3 : 0 ≤ x6_1
    ·rw [if_pos c3] at H
     have c3b0 : decide (0 ≤ x6_1) = true:=decide_eq_true c3
     clear c3
     by_cases c4 : x6_1 < (a0.size : Int)
     ·rw [if_pos c4] at H
      have c4b0 : decide (x6_1 < (a0.size : Int)) = true:=decide_eq_true c4
      clear c4
      by_cases c6 : (bt a0 x6_1) < 97
      ·rw [if_pos c6] at H
       have c6b0 : decide ((bt a0 x6_1) < 97) = true:=decide_eq_true c6
       clear c6
       obtain rfl:=Option.some.inj H
       have p5 : 0 ≤ (x6_1 : Int):=of_decide_eq_true (by first | (with_reducible assumption) | assumption)
       have q5 : x6_1 < (a0.size : Int):=of_decide_eq_true (by first | (with_reducible assumption) | assumption)
       have hx5:=bt_at a0 x6_1
       replace p5:=eq_true p5
       replace q5:=eq_true q5
       go_wp2
       go_ret
       exact ⟨by first | rfl | (simp;done) | (simp [*];done),by repeat (first | exact Drawn0.refl _ | apply Drawn0.step)⟩
      ·rw [if_neg c6] at H
       have c6b0 : decide ((bt a0 x6_1) < 97) = false:=decide_eq_false c6
       clear c6
       by_cases c8 : (bt a0 x6_1) > 122
       ·rw [if_pos c8] at H
        have c8b0 : decide (122 < (bt a0 x6_1)) = true:=decide_eq_true c8
        clear c8
        obtain rfl:=Option.some.inj H
        have p5 : 0 ≤ (x6_1 : Int):=of_decide_eq_true (by first | (with_reducible assumption) | assumption)
        have q5 : x6_1 < (a0.size : Int):=of_decide_eq_true (by first | (with_reducible assumption) | assumption)
        have hx5:=bt_at a0 x6_1
        replace p5:=eq_true p5
        replace q5:=eq_true q5
        have p7 : 0 ≤ (x6_1 : Int):=of_decide_eq_true (by first | (with_reducible assumption) | assumption)
        have q7 : x6_1 < (a0.size : Int):=of_decide_eq_true (by first | (with_reducible assumption) | assumption)
        have hx7:=bt_at a0 x6_1
        replace p7:=eq_true p7
        replace q7:=eq_true q7
        go_wp2
        go_ret
        exact ⟨by first | rfl | (simp;done) | (simp [*];done),by repeat (first | exact Drawn0.refl _ | apply Drawn0.step)⟩
       ·rw [if_neg c8] at H
        have c8b0 : decide (122 < (bt a0 x6_1)) = false:=decide_eq_false c8
        clear c8
        have H':=a0_ H
        clear H
        have p5 : 0 ≤ (x6_1 : Int):=of_decide_eq_true (by first | (with_reducible assumption) | assumption)
        have q5 : x6_1 < (a0.size : Int):=of_decide_eq_true (by first | (with_reducible assumption) | assumption)
        have hx5:=bt_at a0 x6_1
        replace p5:=eq_true p5
        replace q5:=eq_true q5
        have p7 : 0 ≤ (x6_1 : Int):=of_decide_eq_true (by first | (with_reducible assumption) | assumption)
        have q7 : x6_1 < (a0.size : Int):=of_decide_eq_true (by first | (with_reducible assumption) | assumption)
        have hx7:=bt_at a0 x6_1
        replace p7:=eq_true p7
        replace q7:=eq_true q7
        go_wp2
        go_roundg k1
        case measure=>have:=HK1.out;omega
        case rel=>exact ⟨(wrap64 (x6_1 + 1)),(by first | rfl | (simp;done) | (simp [*];done)),H',⟨by have:=HK1.out;omega⟩,by repeat (first | exact Drawn0.refl _ | apply Drawn0.step)⟩
     ·rw [if_neg c4] at H
      exact absurd H (by simp)
    ·rw [if_neg c3] at H
     exact absurd H (by simp)
   ·rw [if_neg c2] at H
    have c2b0 : decide (x6_1 < (a0.size : Int)) = false:=decide_eq_false c2
    clear c2
    replace H:=Option.bind_eq_some_iff.mp H
    obtain ⟨t1,A90,H⟩:=H
    replace H : (some t1) = some r:=H
    have A9:=a0_ A90
    clear A90
    obtain rfl:=Option.some.inj H
    go_wp2_with (first | ((with_reducible refine gate_callee (f:=75) rfl ?_);refine goesL_ (some 22) rfl rfl Try.func75 (by kernel_rfl) rfl #[.int .i64 (a0.size : Int),.int .i64 1,.int .i64 6] rfl lm_ ?_;(with_reducible refine (impl_within.calls (a0.size : Int) 1 6 t1 _ A9.out).mono ?_);rintro e w' ⟨rfl,⟨nd,rfl⟩⟩;refine ⟨_,rfl,?_⟩))
    go_ret
    exact ⟨by first | rfl | (simp;done) | (simp [*];done),by repeat (first | exact Drawn0.refl _ | apply Drawn0.step)⟩
theorem impl_nameOk_l0 (s : ByteArray) (hs : s.size ≤ 9223372036854775807) (d : Nat) : ∀ (k : Nat) (i : Nat),i ≤ s.size → s.size - i = d → d < k → impl_nameOk.l0 k s (s.size : Int) (i : Int) = some ((s.data.toList.drop i).all (fun c=>decide (97 ≤ c.toNat) && decide (c.toNat ≤ 122)) && (decide (1 ≤ s.size) && decide (s.size ≤ 6))):=by
 induction d with
 | zero =>
  intro k i hi hd hk
  obtain ⟨k,rfl⟩ : ∃ m,k = m + 1:=⟨k - 1,by omega⟩
  simp only [impl_nameOk.l0]
  rw [if_neg (by omega)]
  have : s.data.toList.drop i = []:=by
   apply List.drop_eq_nil_of_le
   have : s.data.toList.length = s.size:=toL_len s
   omega
  rw [this]
  simp only [impl_within.f,List.all_nil,Bool.true_and]
  by_cases h1 : 1 ≤ s.size
  ·rw [if_pos (show (s.size : Int) ≥ 1 by omega)]
   by_cases h2 : s.size ≤ 6
   ·simp [h1,h2];omega
   ·simp [h2];omega
  ·rw [if_neg (show ¬ (s.size : Int) ≥ 1 by omega)];simp [h1]
 | succ d ih =>
  intro k i hi hd hk
  obtain ⟨k,rfl⟩ : ∃ m,k = m + 1:=⟨k - 1,by omega⟩
  have hlt : i < s.size:=by omega
  have hl : s.data.toList.length = s.size:=toL_len s
  simp only [impl_nameOk.l0]
  rw [if_pos (show (i : Int) < (s.size : Int) by omega),if_pos (show (0 : Int) ≤ (i : Int) by omega),if_pos (show (i : Int) < (s.size : Int) by omega),bt_getElem s i hlt]
  have hd2 : s.data.toList.drop i = s[i] :: s.data.toList.drop (i + 1):=by
   rw [List.drop_eq_getElem_cons (by omega)]
   congr 1
  rw [hd2,List.all_cons]
  by_cases h1 : (s[i].toNat : Int) < 97
  ·rw [if_pos h1];have : ¬ 97 ≤ s[i].toNat:=by omega
   simp [this]
  ·rw [if_neg h1]
   by_cases h2 : (s[i].toNat : Int) > 122
   ·rw [if_pos h2];have : ¬ s[i].toNat ≤ 122:=by omega
    simp [this]
   ·rw [if_neg h2,wrap_succ (n:=s.size) (by omega) (by omega) (by omega)]
    have:=ih k (i + 1) (by omega) (by omega) (by omega)
    rw [show ((i : Int) + 1) = ((i + 1 : Nat) : Int) by omega,this]
    have a : 97 ≤ s[i].toNat:=by omega
    have b : s[i].toNat ≤ 122:=by omega
    simp [a,b]
theorem impl_nameOk_ev (s : ByteArray) (hs : s.size ≤ 9223372036854775807) : impl_nameOk.f (s.size + 1) s = some (okName s):=by
 unfold impl_nameOk.f okName
 have:=impl_nameOk_l0 s hs s.size (s.size + 1) 0 (by omega) (by omega) (by omega)
 simpa using this
end Go.Proofs.Ytacgehaipacehaa.P
namespace Go.Proofs.Ytacgehaipacehaa.P
open Go.RowKit Go.Proofs.YtacgehaipacehaaW.PrintWords Go.Proofs.YtacgehaipacehaaW.PrintLast Go.Proofs.YtacgehaipacehaaW.PrintMore
attribute [local go_sem] max2_int min2_int max_two min_two max_three min_three max_four min_four
set_option linter.unusedVariables false
set_option linter.unusedSimpArgs false
def impl_ValidTree.f (l0_0 : List (S125)) : Option Bool:=if smT l0_0 = true then some (vT l0_0) else none
set_option maxHeartbeats 4000000 in
set_option maxRecDepth 100000 in
theorem impl_ValidTree.calls (A0_0 : Option Addr) (c0_0 : Nat) (l0_0 : List (S125)) (r : Bool) (w : World) (hr0_0 : Kd.C k125 w A0_0 l0_0.length l0_0) (hc0_0 : l0_0.length ≤ c0_0) (h : impl_ValidTree.f l0_0 = some r) :
  Calls Try.prog 54 #[.agg #[.slice A0_0 l0_0.length c0_0]] w fun e w'=>e = .returned (.bool r) ∧ Below w.heap.size w w':=by
 have hu31:=Try.underlying25
 have hsm : smT l0_0 = true:=by
  apply Classical.byContradiction
  intro hn
  rw [impl_ValidTree.f,if_neg hn] at h
  cases h
 rw [impl_ValidTree.f,if_pos hsm] at h
 have HRr:=a0_ (Option.some.inj h)
 have HSM:=a0_ hsm
 have HR:=a0_ hr0_0
 have hmax : l0_0.length ≤ 9223372036854775807:=hr0_0.2.1
 clear h hsm hr0_0
 go_enter Try.func54,Try.ntmps54
 go_wp2
 go_loopg [8] l0_0.length (fun gg s8 wr=>∃ kk : Nat,kk ≤ l0_0.length ∧ l0_0.length - kk ≤ gg ∧ s8 = .int .i64 kk ∧ Aside0 (Below w.heap.size w wr) ∧ Aside0 (wr.heap[w.heap.size]? = some (.cells #[.slice A0_0 l0_0.length c0_0] 25 (0,0))) ∧ Aside0 (∀ j,j < kk → okCls l0_0 j (l0_0.getD j z125) = true))
 case atStart=>exact ⟨0,Nat.zero_le _,by omega,rfl,⟨below1 w _⟩,⟨heap_new1 w _⟩,⟨fun j hj=>absurd hj (Nat.not_lt_zero _)⟩⟩
 case round =>
  obtain ⟨kk,hkk,hg,rfl,BW,BK,HA⟩:=hrel
  have hcz : wr.cell? ⟨w.heap.size,0,none⟩ = some (.slice A0_0 l0_0.length c0_0):=(blk_cell BK.out 0).trans rfl
  by_cases hlt : kk < l0_0.length
  ·have hltz : (kk : Int) < (l0_0.length : Int):=by omega
   obtain ⟨ad,ea,hx0,hx1⟩:=at_T125 HR.out (kk : Int) (by omega) (by omega)
   cases ea
   have hrd : rd_T125 l0_0 (kk : Int) = l0_0[kk]:=by simp [rd_T125,hlt]
   rw [hrd] at hx0 hx1
   rw [Int.toNat_natCast] at hx0 hx1
   replace hx0:=(BW.out.cell (World.block_lt_of_cell? w _ hx0)).trans hx0
   replace hx1:=(BW.out.cell (World.block_lt_of_cell? w _ hx1)).trans hx1
   clear hrd
   generalize hy : l0_0[kk] = y at hx0 hx1
   have B:=a0_ hy
   clear hy
   go_upto_region 4 with (fail)
   have hW1:=a0_ (below_alloc BW.out (.cells #[.string y.f0,.int .i64 y.f1] 125))
   have hW2:=a0_ (blk_alloc BK.out (.cells #[.string y.f0,.int .i64 y.f1] 125))
   have hW3:=(blk_cell hW2.out 0).trans rfl
   have hW4:=(blk_cell (heap_new1 wr (.cells #[.string y.f0,.int .i64 y.f1] 125)) 0).trans rfl
   have hW5:=(blk_cell (heap_new1 wr (.cells #[.string y.f0,.int .i64 y.f1] 125)) 1).trans rfl
   clear hcz hx0 hx1 BW BK
   generalize wr.alloc (.cells #[.string y.f0,.int .i64 y.f1] 125) = W1 at hW1 hW2 hW3 hW4 hW5 ⊢
   generalize wr.heap.size = gb at hW4 hW5 ⊢
   have hy1 : y.f0.size ≤ 9223372036854775806:=by rw [← B.out];exact smT_at HSM.out kk hlt
   have A1:=a0_ (impl_nameOk_ev y.f0 (by omega))
   have hcn0:=fun (W : World) (hW : Below w.heap.size w W)=>impl_Tree_named.calls (some ad) c0_0 l0_0 y.f0 (named l0_0 y.f0) W (Kd.C_below HR.out hW) hc0_0 rfl
   have hok : okCls l0_0 kk (l0_0.getD kk z125) = okCls l0_0 kk y:=by
    rw [← B.out];simp [List.getD,hlt]
   have hdef : okCls l0_0 kk y = (okName y.f0 && (decide (named l0_0 y.f0 = (kk : Int)) && (if kk = 0 then decide (y.f1 = -1) else decide (0 ≤ y.f1) && decide (y.f1 ≤ (kk : Int) - 1)))):=rfl
   generalize named l0_0 y.f0 = nn at hcn0 hdef
   have HCN:=a0_ hcn0
   have HOK:=a0_ hok
   have HDF:=a0_ hdef
   clear hcn0 hok hdef hy1
   go_cut [45] (fun v45 wc=>v45 = .bool (!okCls l0_0 kk y) ∧ Aside0 (Below w.heap.size w wc) ∧ Aside0 (wc.heap[w.heap.size]? = some (.cells #[.slice (some ad) l0_0.length c0_0] 25 (0,0))))
   case first =>
    have hw1 : IntKind.i64.wrap ((kk : Int) - 1) = (kk : Int) - 1:=by rw [IntKind.wrap_i64];omega
    have A2:=a0_ (show impl_within.f y.f1 0 ((kk : Int) - 1) = some (decide (0 ≤ y.f1) && decide (y.f1 ≤ (kk : Int) - 1)) by
     unfold impl_within.f
     by_cases h0 : 0 ≤ y.f1
     ·rw [if_pos h0];simp [h0]
     ·rw [if_neg h0];simp [h0])
    cases hb1 : okName y.f0 with
    | false =>
     rw [hb1] at A1
     have BV : okCls l0_0 kk y = false:=by rw [HDF.out,hb1];rfl
     clear HDF HOK
     go_wp2_with (first
     | (go_at_call 112;(with_reducible refine (impl_nameOk.calls _ y.f0 _ _ A1.out).mono ?_);rintro e w' ⟨rfl,hd⟩;have hb:=drawn_below hd;replace hW3:=pw_cell_below hb hW3;replace hW4:=pw_cell_below hb hW4;replace hW5:=pw_cell_below hb hW5;replace hW1:=a0_ (below_step hW1.out hb);replace hW2:=a0_ (blk_keptB hW2.out hb);clear hb hd)
     | (go_at_call 92;(with_reducible refine (HCN.out _ hW1.out).mono ?_);rintro e w' ⟨rfl,hb⟩;replace hW3:=pw_cell_below hb hW3;replace hW4:=pw_cell_below hb hW4;replace hW5:=pw_cell_below hb hW5;replace hW1:=a0_ (below_step hW1.out hb);replace hW2:=a0_ (blk_keptB hW2.out hb);clear hb)
     | (go_at_call 75;(with_reducible refine (impl_within.calls y.f1 0 ((kk : Int) - 1) _ _ A2.out).mono ?_);rintro e w' ⟨rfl,hd⟩;have hb:=drawn_below hd;replace hW3:=pw_cell_below hb hW3;replace hW4:=pw_cell_below hb hW4;replace hW5:=pw_cell_below hb hW5;replace hW1:=a0_ (below_step hW1.out hb);replace hW2:=a0_ (blk_keptB hW2.out hb);clear hb hd))
     go_meet
     case rel=>exact ⟨by (rw [BV]);first | rfl | (simp [*];done),⟨hW1.out⟩,⟨hW2.out⟩⟩
    | true =>
     rw [hb1] at A1
     by_cases hb2 : nn ≠ (kk : Int)
     ·have BV : okCls l0_0 kk y = false:=by rw [HDF.out,hb1,decide_eq_false hb2];rfl
      have d2 : (nn != (kk : Int)) = true:=bne_iff_ne.2 hb2
      have d2' : (nn == (kk : Int)) = false:=beq_eq_false_iff_ne.2 hb2
      clear HDF HOK hb2
      go_wp2_with (first
     | (go_at_call 112;(with_reducible refine (impl_nameOk.calls _ y.f0 _ _ A1.out).mono ?_);rintro e w' ⟨rfl,hd⟩;have hb:=drawn_below hd;replace hW3:=pw_cell_below hb hW3;replace hW4:=pw_cell_below hb hW4;replace hW5:=pw_cell_below hb hW5;replace hW1:=a0_ (below_step hW1.out hb);replace hW2:=a0_ (blk_keptB hW2.out hb);clear hb hd)
     | (go_at_call 92;(with_reducible refine (HCN.out _ hW1.out).mono ?_);rintro e w' ⟨rfl,hb⟩;replace hW3:=pw_cell_below hb hW3;replace hW4:=pw_cell_below hb hW4;replace hW5:=pw_cell_below hb hW5;replace hW1:=a0_ (below_step hW1.out hb);replace hW2:=a0_ (blk_keptB hW2.out hb);clear hb)
     | (go_at_call 75;(with_reducible refine (impl_within.calls y.f1 0 ((kk : Int) - 1) _ _ A2.out).mono ?_);rintro e w' ⟨rfl,hd⟩;have hb:=drawn_below hd;replace hW3:=pw_cell_below hb hW3;replace hW4:=pw_cell_below hb hW4;replace hW5:=pw_cell_below hb hW5;replace hW1:=a0_ (below_step hW1.out hb);replace hW2:=a0_ (blk_keptB hW2.out hb);clear hb hd))
      go_meet
      case rel=>exact ⟨by (rw [BV]);first | rfl | (simp [*];done),⟨hW1.out⟩,⟨hW2.out⟩⟩
     ·have hnm : nn = (kk : Int):=Classical.byContradiction fun hn=>hb2 hn
      have d2 : (nn != (kk : Int)) = false:=bne_eq_false_iff_eq.2 hnm
      have d2' : (nn == (kk : Int)) = true:=beq_iff_eq.2 hnm
      have BV0 : okCls l0_0 kk y = (if kk = 0 then decide (y.f1 = -1) else decide (0 ≤ y.f1) && decide (y.f1 ≤ (kk : Int) - 1)):=by rw [HDF.out,hb1,decide_eq_true hnm];rfl
      clear HDF HOK hb2 hnm
      by_cases hk0 : kk = 0
      ·have BV : okCls l0_0 kk y = decide (y.f1 = -1):=by rw [BV0,if_pos hk0]
       have e0 : ((kk : Int) == 0) = true:=beq_iff_eq.2 (by omega)
       have e1 : decide (0 < (kk : Int)) = false:=decide_eq_false (by omega)
       have e1n : decide (0 < kk) = false:=decide_eq_false (by omega)
       clear BV0
       by_cases hp : y.f1 = -1
       ·have e2 : (y.f1 != -1) = false:=by rw [hp];rfl
        have e3 : (y.f1 == -1) = true:=by rw [hp];rfl
        rw [decide_eq_true hp] at BV
        clear hp hk0
        go_wp2_with (first
     | (go_at_call 112;(with_reducible refine (impl_nameOk.calls _ y.f0 _ _ A1.out).mono ?_);rintro e w' ⟨rfl,hd⟩;have hb:=drawn_below hd;replace hW3:=pw_cell_below hb hW3;replace hW4:=pw_cell_below hb hW4;replace hW5:=pw_cell_below hb hW5;replace hW1:=a0_ (below_step hW1.out hb);replace hW2:=a0_ (blk_keptB hW2.out hb);clear hb hd)
     | (go_at_call 92;(with_reducible refine (HCN.out _ hW1.out).mono ?_);rintro e w' ⟨rfl,hb⟩;replace hW3:=pw_cell_below hb hW3;replace hW4:=pw_cell_below hb hW4;replace hW5:=pw_cell_below hb hW5;replace hW1:=a0_ (below_step hW1.out hb);replace hW2:=a0_ (blk_keptB hW2.out hb);clear hb)
     | (go_at_call 75;(with_reducible refine (impl_within.calls y.f1 0 ((kk : Int) - 1) _ _ A2.out).mono ?_);rintro e w' ⟨rfl,hd⟩;have hb:=drawn_below hd;replace hW3:=pw_cell_below hb hW3;replace hW4:=pw_cell_below hb hW4;replace hW5:=pw_cell_below hb hW5;replace hW1:=a0_ (below_step hW1.out hb);replace hW2:=a0_ (blk_keptB hW2.out hb);clear hb hd))
        go_meet
        case rel=>exact ⟨by (rw [BV]);first | rfl | (simp [*];done),⟨hW1.out⟩,⟨hW2.out⟩⟩
       ·have e2 : (y.f1 != -1) = true:=bne_iff_ne.2 hp
        have e3 : (y.f1 == -1) = false:=beq_eq_false_iff_ne.2 hp
        rw [decide_eq_false hp] at BV
        clear hp hk0
        go_wp2_with (first
     | (go_at_call 112;(with_reducible refine (impl_nameOk.calls _ y.f0 _ _ A1.out).mono ?_);rintro e w' ⟨rfl,hd⟩;have hb:=drawn_below hd;replace hW3:=pw_cell_below hb hW3;replace hW4:=pw_cell_below hb hW4;replace hW5:=pw_cell_below hb hW5;replace hW1:=a0_ (below_step hW1.out hb);replace hW2:=a0_ (blk_keptB hW2.out hb);clear hb hd)
     | (go_at_call 92;(with_reducible refine (HCN.out _ hW1.out).mono ?_);rintro e w' ⟨rfl,hb⟩;replace hW3:=pw_cell_below hb hW3;replace hW4:=pw_cell_below hb hW4;replace hW5:=pw_cell_below hb hW5;replace hW1:=a0_ (below_step hW1.out hb);replace hW2:=a0_ (blk_keptB hW2.out hb);clear hb)
     | (go_at_call 75;(with_reducible refine (impl_within.calls y.f1 0 ((kk : Int) - 1) _ _ A2.out).mono ?_);rintro e w' ⟨rfl,hd⟩;have hb:=drawn_below hd;replace hW3:=pw_cell_below hb hW3;replace hW4:=pw_cell_below hb hW4;replace hW5:=pw_cell_below hb hW5;replace hW1:=a0_ (below_step hW1.out hb);replace hW2:=a0_ (blk_keptB hW2.out hb);clear hb hd))
        go_meet
        case rel=>exact ⟨by (rw [BV]);first | rfl | (simp [*];done),⟨hW1.out⟩,⟨hW2.out⟩⟩
      ·have BV : okCls l0_0 kk y = (decide (0 ≤ y.f1) && decide (y.f1 ≤ (kk : Int) - 1)):=by rw [BV0,if_neg hk0]
       have e0 : ((kk : Int) == 0) = false:=beq_eq_false_iff_ne.2 (by omega)
       have e1 : decide (0 < (kk : Int)) = true:=decide_eq_true (by omega)
       have e1n : decide (0 < kk) = true:=decide_eq_true (by omega)
       rw [← BV] at A2
       clear BV BV0 hk0
       cases BV : okCls l0_0 kk y with
       | false =>
        rw [BV] at A2
        go_wp2_with (first
     | (go_at_call 112;(with_reducible refine (impl_nameOk.calls _ y.f0 _ _ A1.out).mono ?_);rintro e w' ⟨rfl,hd⟩;have hb:=drawn_below hd;replace hW3:=pw_cell_below hb hW3;replace hW4:=pw_cell_below hb hW4;replace hW5:=pw_cell_below hb hW5;replace hW1:=a0_ (below_step hW1.out hb);replace hW2:=a0_ (blk_keptB hW2.out hb);clear hb hd)
     | (go_at_call 92;(with_reducible refine (HCN.out _ hW1.out).mono ?_);rintro e w' ⟨rfl,hb⟩;replace hW3:=pw_cell_below hb hW3;replace hW4:=pw_cell_below hb hW4;replace hW5:=pw_cell_below hb hW5;replace hW1:=a0_ (below_step hW1.out hb);replace hW2:=a0_ (blk_keptB hW2.out hb);clear hb)
     | (go_at_call 75;(with_reducible refine (impl_within.calls y.f1 0 ((kk : Int) - 1) _ _ A2.out).mono ?_);rintro e w' ⟨rfl,hd⟩;have hb:=drawn_below hd;replace hW3:=pw_cell_below hb hW3;replace hW4:=pw_cell_below hb hW4;replace hW5:=pw_cell_below hb hW5;replace hW1:=a0_ (below_step hW1.out hb);replace hW2:=a0_ (blk_keptB hW2.out hb);clear hb hd))
        go_meet
        case rel=>exact ⟨by (rw [BV]);first | rfl | (simp [*];done),⟨hW1.out⟩,⟨hW2.out⟩⟩
       | true =>
        rw [BV] at A2
        go_wp2_with (first
     | (go_at_call 112;(with_reducible refine (impl_nameOk.calls _ y.f0 _ _ A1.out).mono ?_);rintro e w' ⟨rfl,hd⟩;have hb:=drawn_below hd;replace hW3:=pw_cell_below hb hW3;replace hW4:=pw_cell_below hb hW4;replace hW5:=pw_cell_below hb hW5;replace hW1:=a0_ (below_step hW1.out hb);replace hW2:=a0_ (blk_keptB hW2.out hb);clear hb hd)
     | (go_at_call 92;(with_reducible refine (HCN.out _ hW1.out).mono ?_);rintro e w' ⟨rfl,hb⟩;replace hW3:=pw_cell_below hb hW3;replace hW4:=pw_cell_below hb hW4;replace hW5:=pw_cell_below hb hW5;replace hW1:=a0_ (below_step hW1.out hb);replace hW2:=a0_ (blk_keptB hW2.out hb);clear hb)
     | (go_at_call 75;(with_reducible refine (impl_within.calls y.f1 0 ((kk : Int) - 1) _ _ A2.out).mono ?_);rintro e w' ⟨rfl,hd⟩;have hb:=drawn_below hd;replace hW3:=pw_cell_below hb hW3;replace hW4:=pw_cell_below hb hW4;replace hW5:=pw_cell_below hb hW5;replace hW1:=a0_ (below_step hW1.out hb);replace hW2:=a0_ (blk_keptB hW2.out hb);clear hb hd))
        go_meet
        case rel=>exact ⟨by (rw [BV]);first | rfl | (simp [*];done),⟨hW1.out⟩,⟨hW2.out⟩⟩
   case rest =>
    obtain ⟨rfl,hW,hK⟩:=hcut
    have hb:=HOK.out
    cases BV : okCls l0_0 kk y with
    | false =>
     go_wp2
     go_ret
     refine ⟨?_,hW.out⟩
     rw [← HRr.out]
     have : vT l0_0 = false:=by
      cases hv : vT l0_0 with
      | false=>rfl
      | true=>have:=vT_at hv kk hlt;rw [HOK.out,BV] at this;cases this
     rw [this];rfl
    | true =>
     go_wp2
     go_roundg (l0_0.length - (kk + 1))
     case measure=>omega
     case rel =>
      refine ⟨kk + 1,by omega,by omega,by go_num,⟨hW.out⟩,⟨hK.out⟩,⟨fun j hj=>?_⟩⟩
      by_cases e : j = kk
      ·subst e;rw [HOK.out,BV]
      ·exact HA.out j (by omega)
  ·have hltz : ¬ (kk : Int) < (l0_0.length : Int):=by omega
   have : kk = l0_0.length:=by omega
   subst this
   have A3:=a0_ (show impl_within.f (l0_0.length : Int) 1 8 = some (vT l0_0) by
    have hall : (List.range l0_0.length).all (fun i=>okCls l0_0 i (l0_0.getD i z125)) = true:=by
     rw [List.all_eq_true];intro i hi;exact HA.out i (by simpa using hi)
    unfold impl_within.f vT
    rw [hall]
    by_cases h1 : (1 : Int) ≤ l0_0.length
    ·rw [if_pos h1]
     have h1' : 1 ≤ l0_0.length:=by omega
     by_cases h8 : l0_0.length ≤ 8
     ·simp [h1',h8];omega
     ·simp [h8];omega
    ·rw [if_neg h1]
     have h1' : ¬ 1 ≤ l0_0.length:=by omega
     simp [h1'])
   rw [HRr.out] at A3
   go_wp2_with (go_at_call 75;(with_reducible refine (impl_within.calls (l0_0.length : Int) 1 8 _ _ A3.out).mono ?_);rintro e w' ⟨rfl,⟨nd,rfl⟩⟩)
   go_ret
   exact ⟨rfl,pw_below_drewN BW.out _⟩
end Go.Proofs.Ytacgehaipacehaa.P
namespace Go.Proofs.Ytacgehaipacehaa.P
open Go.RowKit Go.Proofs.YtacgehaipacehaaW.PrintWords Go.Proofs.YtacgehaipacehaaW.PrintLast Go.Proofs.YtacgehaipacehaaW.PrintMore
attribute [local go_sem] max2_int min2_int max_two min_two max_three min_three max_four min_four
set_option linter.unusedVariables false
set_option linter.unusedSimpArgs false
theorem sb_size : (Try.prog.info? 137).map (·.size) = some 2:=by kernel_rfl
theorem sb_lies : liesAt Try.prog Try.prog.depth 137 (2 / Try.prog.cellsOf 137) 0 137 1 = true:=by kernel_rfl
theorem sb_byte : (Try.prog.info? 5).map (fun i=>(i.zero,i.size,i.bytes)) = some (some (.int .u8 0),1,1):=by kernel_rfl
set_option maxHeartbeats 1000000 in
set_option maxRecDepth 100000 in
theorem sb_check_used (b : Nat) (w : World) (h0 : w.cell? ⟨b,0,none⟩ = some (.pointer (some ⟨b,0,none⟩))) :
  Calls Try.prog 148 #[.pointer (some ⟨b,0,none⟩)] w fun e w'=>e = .returned (.tuple #[]) ∧ w' = w:=by
 obtain ⟨j,hj,_⟩:=Option.map_eq_some_iff.1 sb_size
 go_enter Try.func148,Try.ntmps148
 go_wp2
 rw [Lib.run_neq_ptr_same w _ Try.underlying135 hj]
 go_wp2
 go_end0
 exact ⟨rfl,rfl⟩
set_option maxHeartbeats 1000000 in
set_option maxRecDepth 100000 in
theorem sb_check_fresh (b : Nat) (w : World) (h0 : w.cell? ⟨b,0,none⟩ = some (.pointer none)) (hsh : w.shape? b = some (137,2)) (hfz : w.frozen? ⟨b,0,none⟩ = false) :
  Calls Try.prog 148 #[.pointer (some ⟨b,0,none⟩)] w fun e w'=>e = .returned (.tuple #[]) ∧ w' = w.setCell ⟨b,0,none⟩ (.pointer (some ⟨b,0,none⟩)):=by
 obtain ⟨j,hj,hjs⟩:=Option.map_eq_some_iff.1 sb_size
 go_enter Try.func148,Try.ntmps148
 go_wp2
 rw [Lib.run_to_unsafe w ⟨b,0,none⟩ Try.underlying135 Try.underlying191 hj (by rw [hjs];decide) hsh (Nat.zero_lt_succ 1)]
 simp only [Result.andThen]
 rw [Oper.upon_value]
 go_wp2
 rw [run_callFunc_extern Try.func165 (by kernel_rfl) (by kernel_rfl) (by kernel_rfl) (e:=Extern.AbiNoEscape.same) (by kernel_rfl)]
 rw [Lib.run_noEscape]
 simp only [Result.andThen]
 rw [Oper.upon_value]
 go_wp2
 rw [Lib.run_from_unsafe w ⟨b,0,none⟩ Try.underlying191 Try.underlying135 hj hsh sb_lies]
 simp only [Result.andThen]
 rw [Oper.upon_value]
 go_wp2
 go_end0
 exact ⟨rfl,rfl⟩
theorem sb_check (B b : Nat) (bs : List Value) (w : World) (h : Lib.IsBuilderF 137 5 B b bs w) :
  Calls Try.prog 148 #[.pointer (some ⟨b,0,none⟩)] w fun e w'=>e = .returned (.tuple #[]) ∧ (Lib.BuilderAtF 137 5 B b (.pointer (some ⟨b,0,none⟩)) bs w' ∧ Below B w w' ∧ Lib.OthersKept 5 (some b) w w'):=by
 rcases h with h | h
 ·refine (sb_check_fresh b w h.cell0 h.shape h.frozen0).mono ?_
  rintro e w' ⟨rfl,rfl⟩
  exact ⟨rfl,h.used _,(Below.refl B w).setCell (p:=⟨b,0,none⟩) h.1 _,(Lib.OthersKept.refl _ _ w).setCell ⟨b,0,none⟩ rfl _⟩
 ·refine (sb_check_used b w h.cell0).mono ?_
  rintro e w' ⟨rfl,rfl⟩
  exact ⟨rfl,h,Below.refl B _,Lib.OthersKept.refl _ _ _⟩
end Go.Proofs.Ytacgehaipacehaa.P
namespace Go.Proofs.Ytacgehaipacehaa.P
open Go.RowKit Go.Proofs.YtacgehaipacehaaW.PrintWords Go.Proofs.YtacgehaipacehaaW.PrintLast Go.Proofs.YtacgehaipacehaaW.PrintMore
attribute [local go_sem] max2_int min2_int max_two min_two max_three min_three max_four min_four
set_option linter.unusedVariables false
set_option linter.unusedSimpArgs false
set_option maxHeartbeats 2000000 in
set_option maxRecDepth 100000 in
theorem sb_WriteString (B b : Nat) (bs : List Value) (s : ByteArray) (w : World) (h : Lib.IsBuilderF 137 5 B b bs w) (hlen : bs.length + s.size ≤ 140737488355328) (hBw : B ≤ w.heap.size) :
  Calls Try.prog 104 #[.pointer (some ⟨b,0,none⟩),.string s] w fun e w'=>e = .returned (.tuple #[.int .i64 s.size,.nilIface]) ∧ (Lib.BuilderAtF 137 5 B b (.pointer (some ⟨b,0,none⟩)) (bs ++ Lib.strCells s) w' ∧ Below B w w' ∧ Lib.OthersKept 5 (some b) w w'):=by
 obtain ⟨i0,hi,hz0,hz1,hz2⟩:=info_parts sb_byte
 go_enter Try.func104,Try.ntmps104
 go_wp2_with (go_at_call 148;refine (sb_check B b bs _ h).mono ?_)
 rintro e w1 ⟨rfl,h1,hb1,hk1⟩
 obtain ⟨hB,v,hbk,hown,hne⟩:=h1
 have c0 : w1.cell? ⟨b,0,none⟩ = some (.pointer (some ⟨b,0,none⟩)):=by rw [Lib.cell_of_heap hbk];rfl
 have c1 : w1.cell? ⟨b,1,none⟩ = some v:=by rw [Lib.cell_of_heap hbk];rfl
 go_wp2_with (at_builtin;refine Lib.wpList_append_own_stringF _ rfl _ _ 22 9 rfl B 5 i0 Try.underlying22 Try.underlying9 hi hz0 hz1 hz2 _ _ _ rfl hown s rfl ?c3 ?c4 ?c5 ?_)
 case c3=>unfold maxLen;omega
 case c4=>omega
 case c5=>have:=hb1.size;omega
 intro v' w2 hown' hgrow _
 have hlt : b < w1.heap.size:=by
  rcases Nat.lt_or_ge b w1.heap.size with h' | h'
  ·exact h'
  ·simp [Array.getElem?_eq_none h'] at hbk
 have hb2 : w2.heap[b]? = some (.cells #[.pointer (some ⟨b,0,none⟩),v] 137 (0,0)):=by
  rw [hgrow.block b hlt (fun e=>hne e.symm)]
  exact hbk
 have d0 : w2.cell? ⟨b,0,none⟩ = some (.pointer (some ⟨b,0,none⟩)):=by rw [Lib.cell_of_heap hb2];rfl
 have d1 : w2.cell? ⟨b,1,none⟩ = some v:=by rw [Lib.cell_of_heap hb2];rfl
 have f1 : w2.frozen? ⟨b,1,none⟩ = false:=Lib.frozen_of_heap hb2 1
 obtain ⟨ao,n',cap,rfl⟩ : ∃ ao n' cap,v' = .slice ao n' cap:=by
  rcases hown'.2 with ⟨hv,_⟩ | ⟨g,cap,cur,fz,hv,_⟩
  ·exact ⟨_,_,_,hv⟩
  ·exact ⟨_,_,_,hv⟩
 go_wp2
 go_ret2
 refine ⟨rfl,?_,?_,(hk1.grown hgrow (Lib.ownsRowF_kind hown)).setCell ⟨b,1,none⟩ rfl _⟩
 ·exact Lib.BuilderAtF.put (T:=137) (e:=5) hB hb2 (bs':=bs ++ Lib.strCells s) (by simpa [Lib.strCells_length] using hown') (by decide)
 ·exact (hb1.grown hgrow (by have:=hb1.size;omega) (fun k hk=>(hown.lt k hk).1)).setCell (p:=⟨b,1,none⟩) hB _
end Go.Proofs.Ytacgehaipacehaa.P
namespace Go.Proofs.Ytacgehaipacehaa.P
open Go.RowKit Go.Proofs.YtacgehaipacehaaW.PrintWords Go.Proofs.YtacgehaipacehaaW.PrintLast Go.Proofs.YtacgehaipacehaaW.PrintMore
attribute [local go_sem] max2_int min2_int max_two min_two max_three min_three max_four min_four
set_option linter.unusedVariables false
set_option linter.unusedSimpArgs false
set_option maxHeartbeats 2000000 in
set_option maxRecDepth 100000 in
theorem sb_WriteByte (B b : Nat) (bs : List Value) (c : Int) (w : World) (h : Lib.IsBuilderF 137 5 B b bs w) (hlen : bs.length + 1 ≤ 140737488355328) (hBw : B ≤ w.heap.size) :
  Calls Try.prog 105 #[.pointer (some ⟨b,0,none⟩),.int .u8 c] w fun e w'=>e = .returned .nilIface ∧ (Lib.BuilderAtF 137 5 B b (.pointer (some ⟨b,0,none⟩)) (bs ++ [.int .u8 c]) w' ∧ Below B w w' ∧ Lib.OthersKept 5 (some b) w w'):=by
 obtain ⟨i0,hi,hz0,hz1,hz2⟩:=info_parts sb_byte
 go_enter Try.func105,Try.ntmps105
 go_wp2_with (go_at_call 148;refine (sb_check B b bs _ h).mono ?_)
 rintro e w1 ⟨rfl,h1,hb1,hk1⟩
 obtain ⟨hB,v,hbk,hown,hne⟩:=h1
 have c0 : w1.cell? ⟨b,0,none⟩ = some (.pointer (some ⟨b,0,none⟩)):=by rw [Lib.cell_of_heap hbk];rfl
 have c1 : w1.cell? ⟨b,1,none⟩ = some v:=by rw [Lib.cell_of_heap hbk];rfl
 go_wp2_with (at_builtin;refine wpList_append_ownF _ rfl _ _ 22 rfl B 5 i0 (.int .u8 0) 1 1 Try.underlying22 hi hz0 hz1 hz2 rfl (by decide) _ _ _ rfl (hown.alloc _) ⟨w1.heap.size,0,none⟩ 1 1 [.int .u8 c] rfl rfl ?c1 ?c2 ?c3 ?c4 ?c5 ?_)
 case c1 =>
  intro j u hj
  match j,hj with
  | 0,hj=>simp at hj;subst hj;simp [Addr.add]
 case c2=>intro u hu;simp at hu;subst hu;rfl
 case c3=>unfold maxLen;omega
 case c4=>omega
 case c5=>have:=hb1.size;simp;omega
 intro v' w2 hown' hgrow _
 have hlt : b < w1.heap.size:=by
  rcases Nat.lt_or_ge b w1.heap.size with h' | h'
  ·exact h'
  ·simp [Array.getElem?_eq_none h'] at hbk
 have hb2 : w2.heap[b]? = some (.cells #[.pointer (some ⟨b,0,none⟩),v] 137 (0,0)):=by
  rw [hgrow.block b (by simp;omega) (fun e=>hne e.symm),Lib.alloc_old w1 _ b hlt]
  exact hbk
 have d0 : w2.cell? ⟨b,0,none⟩ = some (.pointer (some ⟨b,0,none⟩)):=by rw [Lib.cell_of_heap hb2];rfl
 have d1 : w2.cell? ⟨b,1,none⟩ = some v:=by rw [Lib.cell_of_heap hb2];rfl
 have f1 : w2.frozen? ⟨b,1,none⟩ = false:=Lib.frozen_of_heap hb2 1
 obtain ⟨g,cap,rfl⟩ : ∃ g cap,v' = .slice (some ⟨g,0,none⟩) (bs.length + 1) cap:=by
  rcases hown'.2 with ⟨_,h0⟩ | ⟨g,cap,cur,fz,hv,_⟩
  ·omega
  ·exact ⟨g,cap,hv⟩
 go_wp2
 go_ret
 refine ⟨rfl,?_,?_,((hk1.alloc _).grown hgrow (Lib.ownsRowF_kind (hown.alloc _))).setCell ⟨b,1,none⟩ rfl _⟩
 ·exact Lib.BuilderAtF.put (T:=137) (e:=5) hB hb2 (bs':=bs ++ [.int .u8 c]) (by simpa using hown') (by decide)
 ·exact ((hb1.alloc (by have:=hb1.size;omega) _).grown hgrow (by have:=hb1.size;simp;omega) (fun k hk=>(hown.lt k hk).1)).setCell (p:=⟨b,1,none⟩) hB _
end Go.Proofs.Ytacgehaipacehaa.P
namespace Go.Proofs.Ytacgehaipacehaa.P
open Go.RowKit Go.Proofs.YtacgehaipacehaaW.PrintWords Go.Proofs.YtacgehaipacehaaW.PrintLast Go.Proofs.YtacgehaipacehaaW.PrintMore
attribute [local go_sem] max2_int min2_int max_two min_two max_three min_three max_four min_four
set_option linter.unusedVariables false
set_option linter.unusedSimpArgs false
theorem sb_ws (B b : Nat) (l : List UInt8) (s : ByteArray) (w : World) (h : Lib.IsBuilderF 137 5 B b (Lib.byteCells l) w) (hlen : l.length + s.size ≤ 140737488355328) (hBw : B ≤ w.heap.size) :
  Calls Try.prog 104 #[.pointer (some ⟨b,0,none⟩),.string s] w fun e w'=>e = .returned (.tuple #[.int .i64 s.size,.nilIface]) ∧ (Lib.IsBuilderF 137 5 B b (Lib.byteCells (l ++ ofB s)) w' ∧ Below B w w' ∧ Lib.OthersKept 5 (some b) w w'):=by
 refine (sb_WriteString B b _ s w h (by rw [Lib.byteCells_length];exact hlen) hBw).mono ?_
 rintro e w' ⟨rfl,h1,h2,h3⟩
 exact ⟨rfl,by rw [Lib.byteCells_append];exact Or.inr h1,h2,h3⟩
theorem sb_wb (B b : Nat) (l : List UInt8) (w : World) (h : Lib.IsBuilderF 137 5 B b (Lib.byteCells l) w) (hlen : l.length + 1 ≤ 140737488355328) (hBw : B ≤ w.heap.size) :
  Calls Try.prog 105 #[.pointer (some ⟨b,0,none⟩),.int .u8 10] w fun e w'=>e = .returned .nilIface ∧ (Lib.IsBuilderF 137 5 B b (Lib.byteCells (l ++ [10])) w' ∧ Below B w w' ∧ Lib.OthersKept 5 (some b) w w'):=by
 refine (sb_WriteByte B b _ 10 w h (by rw [Lib.byteCells_length];exact hlen) hBw).mono ?_
 rintro e w' ⟨rfl,h1,h2,h3⟩
 exact ⟨rfl,by rw [Lib.byteCells_append];exact Or.inr h1,h2,h3⟩
theorem ofB_line (s : ByteArray) : ofB ((⟨#[32]⟩ : ByteArray) ++ s) = 32 :: ofB s:=by
 unfold ofB
 simp
theorem cells_ne {cs : Array Value} {t : TypeId} {fr : Nat × Nat} (h : t ≠ 5) : ∀ c fz,Obj.cells cs t fr ≠ .cells c 5 fz:=fun c fz e=>by injection e with _ h2 _;exact h h2
def impl_TreeText.f (l0_0 : List (S125)) : Option ByteArray:=if smT l0_0 = true then some (textP l0_0) else none
set_option maxHeartbeats 4000000 in
set_option maxRecDepth 100000 in
theorem impl_TreeText.calls (A0_0 : Option Addr) (c0_0 : Nat) (l0_0 : List (S125)) (r : ByteArray) (w : World) (hr0_0 : Kd.C k125 w A0_0 l0_0.length l0_0) (hc0_0 : l0_0.length ≤ c0_0) (h : impl_TreeText.f l0_0 = some r) :
  Calls Try.prog 49 #[.agg #[.slice A0_0 l0_0.length c0_0]] w fun e w'=>e = .returned (.string r) ∧ Below w.heap.size w w':=by
 have hu31:=Try.underlying25
 have hu37:=Try.underlying125
 have hu38:=Try.underlying137
 have hsm : smT l0_0 = true:=by
  apply Classical.byContradiction
  intro hn
  rw [impl_TreeText.f,if_neg hn] at h
  cases h
 rw [impl_TreeText.f,if_pos hsm] at h
 have hR:=Option.some.inj h
 clear h
 have HV:=a0_ (fun (W : World) (hb : Below w.heap.size w W)=>impl_ValidTree.calls A0_0 c0_0 l0_0 (vT l0_0) W (Kd.C_below hr0_0 hb) hc0_0 (by rw [impl_ValidTree.f,if_pos hsm]))
 have HR:=a0_ hr0_0
 have BK:=a0_ (heap_new1 w (.cells #[.slice A0_0 l0_0.length c0_0] 25))
 have HB:=a0_ (below1 w (.cells #[.slice A0_0 l0_0.length c0_0] 25))
 have hcell:=(blk_cell BK.out 0).trans rfl
 unfold textP at hR
 clear hr0_0
 cases hv : vT l0_0 with
 | false =>
  rw [hv] at HV hR
  rw [if_neg (by simp)] at hR
  subst hR
  clear hv
  go_enter Try.func49,Try.ntmps49
  go_wp2_with (go_at_call 54;refine (HV.out _ HB.out).mono ?_;rintro e w' ⟨rfl,hb'⟩;replace HB:=a0_ (below_step HB.out hb');clear hb')
  go_ret
  exact ⟨rfl,HB.out⟩
 | true =>
  have hlen8:=(vT_len hv).2
  rw [hv] at HV hR
  rw [if_pos rfl] at hR
  have HVT:=a0_ hv
  clear hv hsm
  go_enter Try.func49,Try.ntmps49
  go_upto_region 4 with (go_at_call 54;refine (HV.out _ HB.out).mono ?_;rintro e w2 ⟨rfl,hb'⟩;replace BK:=a0_ (blk_keptB BK.out hb');replace HB:=a0_ (below_step HB.out hb');clear hb' hcell)
  have HS:=a0_ (blk_lt BK.out)
  have HI:=a0_ (Lib.IsBuilderF.of (Lib.fresh_isBuilder 137 5 w2))
  replace BK:=a0_ (blk_alloc BK.out (.cells #[.pointer none,.slice none 0 0] 137))
  replace HB:=a0_ (below_alloc HB.out (.cells #[.pointer none,.slice none 0 0] 137))
  have HZ:=a0_ (show w2.heap.size ≤ (w2.alloc (.cells #[.pointer none,.slice none 0 0] 137)).heap.size by simp)
  generalize w2.alloc (.cells #[.pointer none,.slice none 0 0] 137) = w3 at HI BK HB HZ ⊢
  generalize w2.heap.size = gb at HI HZ HS ⊢
  have hcell : w3.cell? ⟨w.heap.size,0,none⟩ = some (.slice A0_0 l0_0.length c0_0):=(blk_cell BK.out 0).trans rfl
  go_wp2
  go_loopg [12] l0_0.length (fun gg s12 wr=>∃ kk : Nat,kk ≤ l0_0.length ∧ l0_0.length - kk ≤ gg ∧ s12 = .int .i64 kk ∧ Aside0 (Lib.IsBuilderF 137 5 gb gb (Lib.byteCells (linesL l0_0 (l0_0.take kk))) wr) ∧ Aside0 (Below w.heap.size w wr) ∧ Aside0 (gb ≤ wr.heap.size) ∧ Aside0 (wr.heap[w.heap.size]? = some (.cells #[.slice A0_0 l0_0.length c0_0] 25 (0,0))))
  case atStart=>exact ⟨0,Nat.zero_le _,by omega,rfl,HI,HB,HZ,BK⟩
  case round =>
   clear HB BK HI HZ hcell
   obtain ⟨kk,hkk,hg,rfl,HI,HB,HZ,BK⟩:=hrel
   have hcell : wr.cell? ⟨w.heap.size,0,none⟩ = some (.slice A0_0 l0_0.length c0_0):=(blk_cell BK.out 0).trans rfl
   have hll:=(linesL_len HVT.out kk hkk).1
   by_cases hlt : kk < l0_0.length
   ·have hltz : (kk : Int) < (l0_0.length : Int):=by omega
    have hln:=okName_len (vT_name HVT.out kk hlt).1
    have hp:=vT_parent HVT.out kk hlt
    have hst : linesL l0_0 (l0_0.take (kk + 1)) = linesL l0_0 (l0_0.take kk) ++ lineL l0_0 (l0_0.getD kk z125):=by
     rw [← take_snoc kk hlt]
     unfold linesL
     rw [List.flatMap_append,List.flatMap_singleton]
    obtain ⟨ad,ea,hx0,hx1⟩:=at_T125 HR.out (kk : Int) (by omega) (by omega)
    cases ea
    have hrd : rd_T125 l0_0 (kk : Int) = l0_0.getD kk z125:=by simp [rd_T125]
    rw [hrd] at hx0 hx1
    rw [Int.toNat_natCast] at hx0 hx1
    replace hx0:=(HB.out.cell (World.block_lt_of_cell? w _ hx0)).trans hx0
    replace hx1:=(HB.out.cell (World.block_lt_of_cell? w _ hx1)).trans hx1
    generalize hy : l0_0.getD kk z125 = y at hx0 hx1 hst hln hp
    obtain ⟨y0,y1⟩:=y
    simp only at hx0 hx1 hst hln hp
    clear hrd hy
    go_upto_region 7 with (fail)
    have HB1:=a0_ (below_alloc HB.out (.cells #[.string y0,.int .i64 y1] 125))
    have BK1:=a0_ (blk_alloc BK.out (.cells #[.string y0,.int .i64 y1] 125))
    have BY:=a0_ (heap_new1 wr (.cells #[.string y0,.int .i64 y1] 125))
    have HI1:=a0_ (Lib.IsBuilderF.alloc HI.out (.cells #[.string y0,.int .i64 y1] 125))
    have HZ1:=a0_ (show gb ≤ (wr.alloc (.cells #[.string y0,.int .i64 y1] 125)).heap.size by have:=HZ.out;simp;omega)
    have NY:=a0_ (show some wr.heap.size ≠ some gb by
     have:=(show gb < wr.heap.size by rcases HI.out with h_ | h_ <;> exact h_.lt)
     intro e;injection e with e;omega)
    have NK:=a0_ (show some w.heap.size ≠ some gb by
     have:=blk_lt BK.out
     intro e;injection e with e;have:=HS.out;omega)
    clear HB BK HI HZ hx0 hx1 hcell
    generalize wr.alloc (.cells #[.string y0,.int .i64 y1] 125) = W1 at HB1 BK1 BY HI1 HZ1 ⊢
    generalize wr.heap.size = gy at BY NY ⊢
    have hcell : W1.cell? ⟨w.heap.size,0,none⟩ = some (.slice (some ad) l0_0.length c0_0):=(blk_cell BK1.out 0).trans rfl
    have hz0 : W1.cell? ⟨gy,0,none⟩ = some (.string y0):=(blk_cell BY.out 0).trans rfl
    have hz1 : W1.cell? ⟨gy,1,none⟩ = some (.int .i64 y1):=(blk_cell BY.out 1).trans rfl
    by_cases h0 : 0 ≤ y1
    ·have h0b:=eq_true h0
     have h1:=hp.2 (by have:=hp.1;omega)
     have h1b : (y1 < (l0_0.length : Int)) = True:=eq_true (by omega)
     obtain ⟨ad2,ea2,hq0,_⟩:=at_T125 HR.out y1 h0 (by omega)
     obtain rfl : ad = ad2:=by injection ea2
     obtain ⟨p0,hp0⟩ : ∃ p0,p0 = (l0_0.getD y1.toNat z125).f0:=⟨_,rfl⟩
     have hps:=okName_len (vT_name HVT.out y1.toNat (by omega)).1
     rw [← hp0] at hps
     have hrd2 : (rd_T125 l0_0 y1).f0 = p0:=by rw [hp0];rfl
     rw [hrd2] at hq0
     have HQ:=a0_ hq0
     replace hq0:=(HB1.out.cell (World.block_lt_of_cell? w _ hq0)).trans hq0
     have HST:=a0_ (show linesL l0_0 (l0_0.take (kk + 1)) = ((linesL l0_0 (l0_0.take kk) ++ ofB y0) ++ ofB ((⟨#[32]⟩ : ByteArray) ++ p0)) ++ [10] by
      rw [hst,ofB_line]
      unfold lineL
      rw [if_pos h0,← hp0]
      simp)
     clear hp0 hrd2 hst hp
     go_wp2_with (first
      | (go_at_call 104;refine (sb_ws gb gb _ _ _ HI1.out ?hl HZ1.out).mono ?_;(case hl=>(try simp only [List.length_append,ofB_len,List.length_cons,List.length_nil,ByteArray.size_append]);first | omega | (have : (⟨#[32]⟩ : ByteArray).size = 1:=rfl;omega));rintro e w5 ⟨rfl,hi5,hb5,hk5⟩;replace HI1:=a0_ hi5;replace BK1:=a0_ (hk5 _ _ BK1.out NK.out (cells_ne (by decide)));replace BY:=a0_ (hk5 _ _ BY.out NY.out (cells_ne (by decide)));replace HZ1:=a0_ (Nat.le_trans HZ1.out hb5.size);replace HB1:=a0_ (HB1.out.trans (hb5.mono (Nat.le_of_lt HS.out)));clear hi5 hb5 hk5 hz0 hz1 hcell hq0;have hcell : w5.cell? ⟨w.heap.size,0,none⟩ = some (.slice (some ad) l0_0.length c0_0):=(blk_cell BK1.out 0).trans rfl;have hz0 : w5.cell? ⟨gy,0,none⟩ = some (.string y0):=(blk_cell BY.out 0).trans rfl;have hz1 : w5.cell? ⟨gy,1,none⟩ = some (.int .i64 y1):=(blk_cell BY.out 1).trans rfl;have hq0:=(HB1.out.cell (World.block_lt_of_cell? w _ HQ.out)).trans HQ.out)
      | (go_at_call 105;refine (sb_wb gb gb _ _ HI1.out ?hl HZ1.out).mono ?_;(case hl=>(try simp only [List.length_append,ofB_len,List.length_cons,List.length_nil,ByteArray.size_append]);first | omega | (have : (⟨#[32]⟩ : ByteArray).size = 1:=rfl;omega));rintro e w5 ⟨rfl,hi5,hb5,hk5⟩;replace HI1:=a0_ hi5;replace BK1:=a0_ (hk5 _ _ BK1.out NK.out (cells_ne (by decide)));replace BY:=a0_ (hk5 _ _ BY.out NY.out (cells_ne (by decide)));replace HZ1:=a0_ (Nat.le_trans HZ1.out hb5.size);replace HB1:=a0_ (HB1.out.trans (hb5.mono (Nat.le_of_lt HS.out)));clear hi5 hb5 hk5 hz0 hz1 hcell hq0;have hcell : w5.cell? ⟨w.heap.size,0,none⟩ = some (.slice (some ad) l0_0.length c0_0):=(blk_cell BK1.out 0).trans rfl;have hz0 : w5.cell? ⟨gy,0,none⟩ = some (.string y0):=(blk_cell BY.out 0).trans rfl;have hz1 : w5.cell? ⟨gy,1,none⟩ = some (.int .i64 y1):=(blk_cell BY.out 1).trans rfl;have hq0:=(HB1.out.cell (World.block_lt_of_cell? w _ HQ.out)).trans HQ.out))
     go_roundg (l0_0.length - (kk + 1))
     case measure=>omega
     case rel=>exact ⟨kk + 1,by omega,by omega,by go_num,⟨by rw [HST.out];exact HI1.out⟩,HB1,HZ1,BK1⟩
    ·have h0b : (0 ≤ y1) = False:=eq_false h0
     have HST:=a0_ (show linesL l0_0 (l0_0.take (kk + 1)) = (linesL l0_0 (l0_0.take kk) ++ ofB y0) ++ [10] by
      rw [hst]
      unfold lineL
      rw [if_neg h0]
      simp)
     clear hst hp
     go_wp2_with (first
      | (go_at_call 104;refine (sb_ws gb gb _ _ _ HI1.out ?hl HZ1.out).mono ?_;(case hl=>(try simp only [List.length_append,ofB_len,List.length_cons,List.length_nil,ByteArray.size_append]);first | omega | (have : (⟨#[32]⟩ : ByteArray).size = 1:=rfl;omega));rintro e w5 ⟨rfl,hi5,hb5,hk5⟩;replace HI1:=a0_ hi5;replace BK1:=a0_ (hk5 _ _ BK1.out NK.out (cells_ne (by decide)));replace BY:=a0_ (hk5 _ _ BY.out NY.out (cells_ne (by decide)));replace HZ1:=a0_ (Nat.le_trans HZ1.out hb5.size);replace HB1:=a0_ (HB1.out.trans (hb5.mono (Nat.le_of_lt HS.out)));clear hi5 hb5 hk5 hz0 hz1 hcell;have hcell : w5.cell? ⟨w.heap.size,0,none⟩ = some (.slice (some ad) l0_0.length c0_0):=(blk_cell BK1.out 0).trans rfl;have hz0 : w5.cell? ⟨gy,0,none⟩ = some (.string y0):=(blk_cell BY.out 0).trans rfl;have hz1 : w5.cell? ⟨gy,1,none⟩ = some (.int .i64 y1):=(blk_cell BY.out 1).trans rfl)
      | (go_at_call 105;refine (sb_wb gb gb _ _ HI1.out ?hl HZ1.out).mono ?_;(case hl=>(try simp only [List.length_append,ofB_len,List.length_cons,List.length_nil,ByteArray.size_append]);first | omega | (have : (⟨#[32]⟩ : ByteArray).size = 1:=rfl;omega));rintro e w5 ⟨rfl,hi5,hb5,hk5⟩;replace HI1:=a0_ hi5;replace BK1:=a0_ (hk5 _ _ BK1.out NK.out (cells_ne (by decide)));replace BY:=a0_ (hk5 _ _ BY.out NY.out (cells_ne (by decide)));replace HZ1:=a0_ (Nat.le_trans HZ1.out hb5.size);replace HB1:=a0_ (HB1.out.trans (hb5.mono (Nat.le_of_lt HS.out)));clear hi5 hb5 hk5 hz0 hz1 hcell;have hcell : w5.cell? ⟨w.heap.size,0,none⟩ = some (.slice (some ad) l0_0.length c0_0):=(blk_cell BK1.out 0).trans rfl;have hz0 : w5.cell? ⟨gy,0,none⟩ = some (.string y0):=(blk_cell BY.out 0).trans rfl;have hz1 : w5.cell? ⟨gy,1,none⟩ = some (.int .i64 y1):=(blk_cell BY.out 1).trans rfl))
     go_roundg (l0_0.length - (kk + 1))
     case measure=>omega
     case rel=>exact ⟨kk + 1,by omega,by omega,by go_num,⟨by rw [HST.out];exact HI1.out⟩,HB1,HZ1,BK1⟩
   ·have hltz : ¬ (kk : Int) < (l0_0.length : Int):=by omega
    have : kk = l0_0.length:=by omega
    subst this
    rw [List.take_of_length_le (Nat.le_refl _)] at HI
    go_wp2_with (go_at_call 106;refine (Try.Builder_String_any_k gb gb _ _ HI.out HZ.out).mono ?_;rintro e w5 ⟨rfl,_,hb5,_⟩)
    go_ret
    exact ⟨by rw [← hR];rfl,HB.out.trans (hb5.mono (Nat.le_of_lt HS.out))⟩
theorem impl_TreeText_ev (t : List Cls) (hs : smT t = true) : impl_TreeText.f t = some (textP t):=by rw [impl_TreeText.f,if_pos hs]
end Go.Proofs.Ytacgehaipacehaa.P
namespace Go.Proofs.Ytacgehaipacehaa.P
open Go.RowKit Go.Proofs.YtacgehaipacehaaW.PrintWords Go.Proofs.YtacgehaipacehaaW.PrintLast Go.Proofs.YtacgehaipacehaaW.PrintMore
attribute [local go_sem] max2_int min2_int max_two min_two max_three min_three max_four min_four
set_option linter.unusedVariables false
set_option linter.unusedSimpArgs false
theorem cuL_none (c : UInt8) : ∀ l : List UInt8,Lib.indexByte l c = -1 → cuL c l = (l,[],false):=by
 intro l
 induction l with
 | nil=>intro _;rfl
 | cons x l ih =>
  intro h
  unfold Lib.indexByte at h
  split at h
  ·omega
  ·rename_i hx
   rw [cuL,if_neg (fun e=>hx (beq_iff_eq.2 e))]
   split at h
   ·rename_i h2
    rw [ih (beq_iff_eq.1 h2)]
   ·have:=Lib.indexByte_ge l c
    omega
theorem cuL_some (c : UInt8) : ∀ (l : List UInt8) (o : Nat),Lib.indexByte l c = (o : Int) → cuL c l = (l.take o,l.drop (o + 1),true) ∧ o + 1 ≤ l.length:=by
 intro l
 induction l with
 | nil=>intro o h;simp [Lib.indexByte] at h
 | cons x l ih =>
  intro o h
  unfold Lib.indexByte at h
  split at h
  ·rename_i hx
   obtain rfl : o = 0:=by omega
   rw [cuL,if_pos (beq_iff_eq.1 hx)]
   exact ⟨by simp,by simp⟩
  ·rename_i hx
   split at h
   ·omega
   ·rename_i h2
    have hge:=Lib.indexByte_ge l c
    have hne : Lib.indexByte l c ≠ -1:=fun e=>h2 (beq_iff_eq.2 e)
    obtain ⟨o',rfl⟩ : ∃ o',o = o' + 1:=⟨o - 1,by omega⟩
    have h3:=ih o' (by omega)
    rw [cuL,if_neg (fun e=>hx (beq_iff_eq.2 e)),h3.1]
    exact ⟨by simp,by simp;omega⟩
theorem cutB_some (c : UInt8) (s : ByteArray) (o : Nat) (h : Lib.indexByte s.data.toList c = (o : Int)) : (cutB c s).1 = s.extract 0 o ∧ (cutB c s).2.1 = s.extract (o + 1) s.size ∧ (cutB c s).2.2 = true ∧ o + 1 ≤ s.size:=by
 obtain ⟨h1,h2⟩:=cuL_some c _ o h
 rw [show s.data.toList.length = s.size from toL_len s] at h2
 unfold cutB
 rw [h1]
 refine ⟨?_,?_,rfl,h2⟩
 ·rw [Lib.extract_eq];simp
 ·have ht : List.take (s.size - (o + 1)) (List.drop (o + 1) s.data.toList) = List.drop (o + 1) s.data.toList :=
   List.take_of_length_le (by rw [List.length_drop,toL_len];exact Nat.le_refl _)
  rw [Lib.extract_eq,ht]
theorem cutB_none (c : UInt8) (s : ByteArray) (h : Lib.indexByte s.data.toList c = -1) : cutB c s = (s,ByteArray.empty,false):=by
 unfold cutB
 rw [cuL_none c _ h]
 rfl
set_option maxHeartbeats 2000000 in
set_option maxRecDepth 100000 in
theorem sl_Cut (s : ByteArray) (c : UInt8) (w : World) (hs : s.size ≤ 9223372036854775807) :
  Calls Try.prog 136 #[.string s,.string ⟨#[c]⟩] w fun e w'=>e = .returned (.tuple #[.string (cutB c s).1,.string (cutB c s).2.1,.bool (cutB c s).2.2]) ∧ Drawn0 w w':=by
 have hge:=Lib.indexByte_ge s.data.toList c
 have HI:=a0_ (Try.stringslite_Index_one s c)
 by_cases hix : Lib.indexByte s.data.toList c = -1
 ·rw [cutB_none c s hix]
  rw [hix] at HI
  clear hix hge
  go_enter Try.func136,Try.ntmps136
  go_wp2_with (go_at_call 156;refine (HI.out _).mono ?_;rintro e w' ⟨rfl,rfl⟩)
  go_ret3
  exact ⟨rfl,Drawn0.refl _⟩
 ·obtain ⟨o,ho⟩ : ∃ o : Nat,Lib.indexByte s.data.toList c = o:=⟨(Lib.indexByte s.data.toList c).toNat,by omega⟩
  obtain ⟨e1,e2,e3,hr⟩:=cutB_some c s o ho
  rw [e1,e2,e3]
  rw [ho] at HI
  have c1 : (0 : Int) ≤ ↑o:=by omega
  have c2 : (↑o : Int) ≤ ↑s.size:=by omega
  have c3 : (0 : Int) ≤ ↑o + 1:=by omega
  have c4 : (↑o + 1 : Int) ≤ ↑s.size:=by omega
  have c5 : wrap64 ((o : Int) + 1) = (o : Int) + 1:=wrap_in (by omega) (by omega)
  have c6 : IntKind.i64.wrap ((o : Int) + 1) = (o : Int) + 1:=by rw [IntKind.wrap_i64];omega
  have c7 : ((o : Int) + 1).toNat = o + 1:=by omega
  clear e1 e2 e3 ho hix hge
  go_enter Try.func136,Try.ntmps136
  go_wp2_with (go_at_call 156;refine (HI.out _).mono ?_;rintro e w' ⟨rfl,rfl⟩)
  go_region
  go_wp2
  go_ret3
  exact ⟨by simp,(Drawn0.refl _).step 1⟩
end Go.Proofs.Ytacgehaipacehaa.P
namespace Go.Proofs.Ytacgehaipacehaa.P
open Go.RowKit Go.Proofs.YtacgehaipacehaaW.PrintWords Go.Proofs.YtacgehaipacehaaW.PrintLast Go.Proofs.YtacgehaipacehaaW.PrintMore
attribute [local go_sem] max2_int min2_int max_two min_two max_three min_three max_four min_four
set_option linter.unusedVariables false
set_option linter.unusedSimpArgs false
def strings_Cut.f (a0 : ByteArray) (a1 : ByteArray) : Option (ByteArray × ByteArray × Bool):=if a1.size = 1 ∧ a0.size ≤ 9223372036854775807 then some (cutB (a1.data.toList.getD 0 0) a0) else none
set_option maxHeartbeats 2000000 in
set_option maxRecDepth 100000 in
theorem strings_Cut.calls (a0 : ByteArray) (a1 : ByteArray) (r1 : ByteArray) (r2 : ByteArray) (r3 : Bool) (w : World) (h : strings_Cut.f a0 a1 = some (r1,r2,r3)) :
  Calls Try.prog 91 #[.string a0,.string a1] w fun e w'=>e = .returned (.tuple #[.string r1,.string r2,.bool r3]) ∧ Drawn0 w w':=by
 have h1 : a1.size = 1 ∧ a0.size ≤ 9223372036854775807:=by
  apply Classical.byContradiction
  intro hn
  rw [strings_Cut.f,if_neg hn] at h
  cases h
 rw [strings_Cut.f,if_pos h1] at h
 obtain ⟨c,rfl⟩ : ∃ c,a1 = ⟨#[c]⟩:=by
  obtain ⟨⟨l⟩⟩:=a1
  match l,h1.1 with
  | [c],_=>exact ⟨c,rfl⟩
 have h2 : cutB c a0 = (r1,r2,r3):=Option.some.inj h
 have HC:=a0_ (fun W=>sl_Cut a0 c W h1.2)
 rw [h2] at HC
 clear h h1 h2
 go_enter Try.func91,Try.ntmps91
 go_wp2_with (go_at_call 136;refine (HC.out _).mono ?_;rintro e w' ⟨rfl,hd⟩)
 go_ret3
 exact ⟨rfl,hd⟩
end Go.Proofs.Ytacgehaipacehaa.P
namespace Go.Proofs.Ytacgehaipacehaa.P
open Go.RowKit Go.Proofs.YtacgehaipacehaaW.PrintWords Go.Proofs.YtacgehaipacehaaW.PrintLast Go.Proofs.YtacgehaipacehaaW.PrintMore
attribute [local go_sem] max2_int min2_int max_two min_two max_three min_three max_four min_four
set_option linter.unusedVariables false
set_option linter.unusedSimpArgs false
def slices_Clip_Class.f (l0 : List (S125)) : Option ((List (S125))):=if 0 ≤ (l0.length : Int) then (if (l0.length : Int) ≤ (l0.length : Int) then (some (l0.take ((l0.length : Int) : Int).toNat)) else (none)) else (none)
set_option maxHeartbeats 8000000 in
set_option maxRecDepth 100000 in
theorem slices_Clip_Class.calls (P0_ : Nat → Prop) (u9000_ : Value) (l0 : List (S125)) (r : List (S125)) (w0 w : World) (hB : Below w0.heap.size w0 w) (ho0 : Kd.R k125 125 w w0.heap.size P0_ u9000_ l0) (h : slices_Clip_Class.f l0 = some r) :
  Calls Try.prog 93 #[u9000_] w fun e w'=>∃ v0_ : Value,e = .returned (v0_) ∧ Kd.R k125 125 w' w0.heap.size (fun k_=>(P0_ k_ ∨ w.heap.size ≤ k_)) v0_ r ∧ Below w0.heap.size w0 w' ∧ Kept w w' (fun k_=>P0_ k_):=by
 have HO0:=a0_ (show Kd.R k125 125 w w0.heap.size (fun k_=>(P0_ k_ ∨ w.heap.size ≤ k_)) u9000_ l0 from Kd.R_mono ho0 (fun k_ hk=>(.inl hk)))
 have HK:=a0_ (Kept.refl w (fun k_=>P0_ k_))
 have HW0:=a0_ hB.size
 have HB:=a0_ hB
 clear hB
 have H : (if 0 ≤ (l0.length : Int) then (if (l0.length : Int) ≤ (l0.length : Int) then (some (l0.take ((l0.length : Int) : Int).toNat)) else (none)) else (none)) = some r:=h
 clear h
 by_cases c2 : 0 ≤ (l0.length : Int)
 ·rw [if_pos c2] at H
  have c2b0:=eq_true c2
  have c2b1 : decide (0 ≤ (l0.length : Int)) = true:=decide_eq_true c2
  clear c2
  by_cases c3 : (l0.length : Int) ≤ (l0.length : Int)
  ·rw [if_pos c3] at H
   have c3b0:=eq_true c3
   have c3b1 : decide ((l0.length : Int) ≤ (l0.length : Int)) = true:=decide_eq_true c3
   clear c3
   obtain ⟨y1,hy1⟩ : ∃ y_ : List (S125),y_ = (l0.take ((l0.length : Int) : Int).toNat):=⟨_,rfl⟩
   replace H : (some y1) = some r:=by first | (rw [hy1];with_reducible exact H) | (have H2_:=(Option.bind_some _ _).symm.trans H;rw [hy1];with_reducible exact H2_) | (have H2_:=(Option.bind_some _ _).symm.trans H;with_reducible exact H2_) | with_reducible exact H | (rw [hy1];exact H) | exact H
   have Ny1:=a0_ hy1
   clear hy1
   obtain rfl:=Option.some.inj H
   obtain ⟨Ao4,co4,eo4⟩:=Kd.R_slice HO0.out
   subst eo4
   have q5 : l0.length ≤ co4:=(Kd.R_reads' HO0.out).2.1
   have hr5:=Kd.R_clip2 HO0.out (((l0.length : Int) : Int).toNat) (by omega)
   rw [← Ny1.out] at hr5
   clear HO0
   have HO3:=a0_ hr5
   clear hr5
   go_enter Try.func93,Try.ntmps93
   go_wp2
   go_ret
   exact ⟨_,by first | rfl | (simp [errW_none,errW_some] <;> rfl) | (simp [*,errW_none,errW_some] <;> rfl),by (with_reducible repeat (first | apply Kd.R_alloc | apply Kd.R_drewN | apply Kd.R_drew));exact HO3.out,hbw_,by repeat (first | (with_reducible first | exact HK.out | apply Kept.alloc | apply Kept.drewN | apply Kept.drew) | exact HK.out)⟩
  ·rw [if_neg c3] at H
   exact absurd H (by simp)
 ·rw [if_neg c2] at H
  exact absurd H (by simp)
theorem slices_Clip_Class_ev (l : List Cls) : slices_Clip_Class.f l = some l:=by
 unfold slices_Clip_Class.f
 rw [if_pos (by omega),if_pos (by omega)]
 simp
end Go.Proofs.Ytacgehaipacehaa.P
namespace Go.Proofs.Ytacgehaipacehaa.P
open Go.RowKit Go.Proofs.YtacgehaipacehaaW.PrintWords Go.Proofs.YtacgehaipacehaaW.PrintLast Go.Proofs.YtacgehaipacehaaW.PrintMore
attribute [local go_sem] max2_int min2_int max_two min_two max_three min_three max_four min_four
set_option linter.unusedVariables false
set_option linter.unusedSimpArgs false
def impl_ParseTree.l0 : Nat → ByteArray → ByteArray → List (S125) → Option ((List (S125)) × Bool)
 | 0,_,_,_=>none
 | k + 1,x0,x5,x3000=>if x5.toList = ([] : List UInt8) then ((impl_TreeText.f x3000).bind fun t17=>(if t17.toList = x0.toList then (if x0.toList = ([] : List UInt8) then (some (([] : List (S125)),false)) else ((slices_Clip_Class.f x3000).bind fun t18=>(some (t18,true)))) else (some (([] : List (S125)),false)))) else ((strings_Cut.f x5 (⟨#[10]⟩ : ByteArray)).bind fun bt3=>((strings_Cut.f bt3.1 (⟨#[32]⟩ : ByteArray)).bind fun bt6=>(if bt6.2.2 = true then ((impl_Tree_named.f x3000 bt6.2.1).bind fun t10=>(if x3000.length < 5864062014805 then (impl_ParseTree.l0 k x0 bt3.2.1 (x3000 ++ [(⟨bt6.1,t10⟩ : S125)])) else (none))) else (if x3000.length < 5864062014805 then (impl_ParseTree.l0 k x0 bt3.2.1 (x3000 ++ [(⟨bt6.1,(-1)⟩ : S125)])) else (none)))))
def impl_ParseTree.f (k : Nat) (a0 : ByteArray) : Option ((List (S125)) × Bool):=impl_ParseTree.l0 k a0 a0 ([] : List (S125))
theorem impl_ParseTree.mono_l : ∀ k,(∀ y0 y1 y2,LeO (impl_ParseTree.l0 k y0 y1 y2) (impl_ParseTree.l0 (k + 1) y0 y1 y2))
 | 0=>fun _ _ _ r h=>by simp [impl_ParseTree.l0] at h
 | k + 1=>by
  have ih0:=impl_ParseTree.mono_l k
  ·intro y0 y1 y2
   unfold impl_ParseTree.l0
   repeat' first
   | (with_reducible exact ih0 _ _ _)
   | (with_reducible exact LeO.refl _)
   | (with_reducible exact LeO.none _)
   | (with_reducible refine LeO.ite ?_ ?_)
   | (with_reducible refine LeO.bind ?_ (fun _=>?_))
   | exact ih0 _ _ _
   | exact LeO.none _
   | refine LeO.ite ?_ ?_
   | refine LeO.bind ?_ (fun _=>?_)
theorem impl_ParseTree.mono : ∀ a0 k,LeO (impl_ParseTree.f k a0) (impl_ParseTree.f (k + 1) a0):=by
 intro a0 k
 have ih0:=impl_ParseTree.mono_l k
 unfold impl_ParseTree.f
 repeat' first
   | (with_reducible exact ih0 _ _ _)
   | (with_reducible exact LeO.refl _)
   | (with_reducible exact LeO.none _)
   | (with_reducible refine LeO.ite ?_ ?_)
   | (with_reducible refine LeO.bind ?_ (fun _=>?_))
   | exact ih0 _ _ _
   | exact LeO.none _
   | refine LeO.ite ?_ ?_
   | refine LeO.bind ?_ (fun _=>?_)
set_option maxHeartbeats 8000000 in
set_option maxRecDepth 100000 in
theorem impl_ParseTree.calls (k : Nat) (a0 : ByteArray) (r1 : List (S125)) (r2 : Bool) (w : World) (h : impl_ParseTree.f k a0 = some (r1,r2)) :
  Calls Try.prog 39 #[.string a0] w fun e w'=>∃ v0_ : Value,e = .returned (.tuple #[.agg #[v0_],.bool r2]) ∧ Kd.R k125 125 w' w.heap.size (fun _=>True) v0_ r1 ∧ Below w.heap.size w w':=by
 have hu25:=Try.underlying25
 have hu125:=Try.underlying125
 have HB:=a0_ (Below.refl w.heap.size w)
 have H : (impl_ParseTree.l0 k a0 a0 ([] : List (S125))) = some (r1,r2):=h
 clear h
 have H':=a0_ H
 clear H
 go_enter Try.func39,Try.ntmps39
 go_wp2_with (first | ((with_reducible refine gate_dst (N:=2) rfl ?_);refine box_event ?hg (N:=2) ?hd (cs:=#[.slice none 0 0]) (t:=25) ?hr ?_;(case hd=>rfl);(case hg=>rfl);(case hr=>first | (go_simp;done) | (go_simp;rfl));intro gb1 hg w2 hbox hb;have BK1:=a0_ (hbox);have GW1:=a0_ ((by rw [hg];exact (below_size hbw_) : w.heap.size ≤ gb1));have GE1:=a0_ ((by rw [hg];exact (below_size hbw_) : w.heap.size ≤ gb1));replace HB:=a0_ (below_step hbw_ hb);clear hb hbox hg) | ((with_reducible refine gate_dst (N:=4) rfl ?_);refine box_event ?hg (N:=4) ?hd (cs:=#[.slice none 0 0]) (t:=25) ?hr ?_;(case hd=>rfl);(case hg=>rfl);(case hr=>first | (go_simp;done) | (go_simp;rfl));intro gb2 hg w3 hbox hb;have n0_:=kb_ BK1 hb;have n1_:=a0_ (below_step hbw_ hb);have n2_:=a0_ (hbox);have n3_:=a0_ ((by rw [hg];exact (below_size hbw_) : w.heap.size ≤ gb2));have n4_:=a0_ ((by rw [hg];exact (below_size hbw_) : w.heap.size ≤ gb2));have n5_:=a0_ ((by rw [hg];exact Nat.ne_of_lt (blk_lt (bb_ BK1.out)) : gb1 ≠ gb2));have n6_:=a0_ ((by rw [hg];exact Nat.ne_of_gt (blk_lt (bb_ BK1.out)) : gb2 ≠ gb1));clear BK1 HB;have BK1:=n0_;have HB:=n1_;have BK2:=n2_;have GW2:=n3_;have GE2:=n4_;have NB1_2:=n5_;have NB2_1:=n6_;clear n0_ n1_ n2_ n3_ n4_ n5_ n6_;clear hb hbox hg;have hnb4:=NB2_1.out;have hnc4:=NB1_2.out;have hcz5_0 : w3.cell? ⟨gb2,0,none⟩ = some (.slice none 0 0):=(blk_cell BK2.out 0).trans rfl;have hfz5_0:=blk_frozen BK2.out 0))
 go_loopg [5] k (fun kq v5 w'=>∃ (x5_1 : ByteArray) (x3000_1 : List (S125)) (u3000 : Value),v5 = .string x5_1 ∧ Aside0 (impl_ParseTree.l0 kq a0 x5_1 x3000_1 = some (r1,r2)) ∧ Aside0 (kq ≤ k) ∧ Aside0 (Kd.R k125 125 w' w.heap.size (fun _=>True) u3000 x3000_1) ∧ Aside0 (w'.heap[gb1]? = some (.cells #[(.slice none 0 0)] 25 (0,0))) ∧ Aside0 (w'.heap[gb2]? = some (.cells #[u3000] 25 (0,0))) ∧ Aside0 (Below w.heap.size w w'))
 case atStart=>exact ⟨(a0),(([] : List (S125))),(.slice none 0 0),(by first | rfl | (simp;done) | (simp [*];done)),H',⟨Nat.le_refl _⟩,⟨by first | exact Kd.R_nil _ _ _ _ _ | exact Kd.N_nil _ _ _ _ _ | exact Kd.V_nil _ _ _ _ _ | exact Kd.Q_nil _ _ _ _ _ | exact Kd.S_nil _ _ _ _ _⟩,⟨by (with_reducible repeat (first | refine blk_drewN ?_ _ | refine blk_drew ?_ | refine blk_alloc ?_ _));refine blk_far ?_ NB1_2.out _;(with_reducible repeat (first | refine blk_drewN ?_ _ | refine blk_drew ?_ | refine blk_alloc ?_ _));exact BK1.out⟩,⟨by (with_reducible repeat (first | refine blk_drewN ?_ _ | refine blk_drew ?_ | refine blk_alloc ?_ _));refine blk_put (cs:=#[.slice none 0 0]) ?_ 0 _ rfl;(with_reducible repeat (first | refine blk_drewN ?_ _ | refine blk_drew ?_ | refine blk_alloc ?_ _));exact BK2.out⟩,⟨hbw_⟩⟩
 case round =>
  clear H'
  try clear p2
  try clear c3
  try clear c4
  try clear hcz5_0
  try clear hfz5_0
  obtain ⟨x5_1,x3000_1,u3000,rfl,HA,HK1,Z3,BK1,BK2,HB⟩:=hrel
  cases gk with
  | zero=>exact absurd HA.out (by simp [impl_ParseTree.l0])
  | succ k1 =>
   have H:=HA.out
   clear HA
   simp only [impl_ParseTree.l0] at H
   by_cases c6 : x5_1.toList = ([] : List UInt8)
   ·rw [if_pos c6] at H
    have c6b0 : (x5_1.toList == ([] : List UInt8)) = true:=beq_iff_eq.mpr c6
    have c6b1 : (x5_1.toList != ([] : List UInt8)) = false:=bne_eq_false_iff_eq.mpr c6
    clear c6
    replace H:=Option.bind_eq_some_iff.mp H
    obtain ⟨t17,A70,H⟩:=H
    try dsimp only at H
    have A7:=a0_ A70
    clear A70
    by_cases c8 : t17.toList = a0.toList
    ·rw [if_pos c8] at H
     have c8b0 : (t17.toList == a0.toList) = true:=beq_iff_eq.mpr c8
     have c8b1 : (t17.toList != a0.toList) = false:=bne_eq_false_iff_eq.mpr c8
     clear c8
     by_cases c9 : a0.toList = ([] : List UInt8)
     ·rw [if_pos c9] at H
      have c9b0 : (a0.toList == ([] : List UInt8)) = true:=beq_iff_eq.mpr c9
      have c9b1 : (a0.toList != ([] : List UInt8)) = false:=bne_eq_false_iff_eq.mpr c9
      clear c9
      simp only [Option.some.injEq,Prod.mk.injEq] at H
      obtain ⟨rfl,rfl⟩:=H
      have hnb10:=NB2_1.out
      have hnc10:=NB1_2.out
      have hcz11_0 : wr.cell? ⟨gb2,0,none⟩ = some (u3000):=(blk_cell BK2.out 0).trans rfl
      have hfz11_0:=blk_frozen BK2.out 0
      obtain ⟨Ao12,co12,eo12⟩:=Kd.R_slice Z3.out
      subst eo12
      go_wp2_with (first | ((with_reducible refine gate_callee (f:=49) rfl ?_);refine goesL_ (some 44) rfl rfl Try.func49 (by kernel_rfl) rfl #[.agg #[.slice Ao12 x3000_1.length co12]] rfl lm_ ?_;(with_reducible refine (impl_TreeText.calls _ _ x3000_1 t17 _ ?side1 ?side2 A7.out).mono ?_);(case side1=>exact cc_ (Kd.R_reads' Z3.out).2.2);(case side2=>exact (Kd.R_reads' Z3.out).2.1);rintro e w13 ⟨rfl,hb⟩;refine ⟨_,rfl,?_⟩;replace Z3:=rb_ Z3 hb;replace BK1:=kb_ BK1 hb;replace BK2:=kb_ BK2 hb;replace HB:=a0_ (below_step hbw_ hb);(try clear hb);have hcz14_0 : w13.cell? ⟨gb1,0,none⟩ = some (.slice none 0 0):=(blk_cell BK1.out 0).trans rfl;have hfz14_0:=blk_frozen BK1.out 0))
      refine bodyPost_ret (results_ct rfl _ _ gb1 25 #[.slice none 0 0] (0,0) _ rfl (by (with_reducible repeat (first | refine blk_drewN ?_ _ | refine blk_drew ?_ | refine blk_alloc ?_ _));refine blk_put (cs:=#[.slice none 0 0]) ?_ 0 _ rfl;(with_reducible repeat (first | refine blk_drewN ?_ _ | refine blk_drew ?_ | refine blk_alloc ?_ _));exact BK1.out) Try.underlying25 rfl (by kernel_rfl)) rfl ?_
      exact ⟨_,by first | rfl | (simp [errW_none,errW_some] <;> rfl) | (simp [*,errW_none,errW_some] <;> rfl),by first | exact Kd.R_nil _ _ _ _ _ | exact Kd.N_nil _ _ _ _ _ | exact Kd.V_nil _ _ _ _ _ | exact Kd.Q_nil _ _ _ _ _ | exact Kd.S_nil _ _ _ _ _,hbw_⟩
     ·rw [if_neg c9] at H
      have c9b0 : (a0.toList == ([] : List UInt8)) = false:=beq_eq_false_iff_ne.mpr c9
      have c9b1 : (a0.toList != ([] : List UInt8)) = true:=bne_iff_ne.mpr c9
      replace H:=Option.bind_eq_some_iff.mp H
      obtain ⟨t18,A150,H⟩:=H
      replace H : (some (t18,true)) = some (r1,r2):=H
      have A15:=a0_ A150
      clear A150
      simp only [Option.some.injEq,Prod.mk.injEq] at H
      obtain ⟨rfl,rfl⟩:=H
      have hnb16:=NB2_1.out
      have hnc16:=NB1_2.out
      have hcz17_0 : wr.cell? ⟨gb2,0,none⟩ = some (u3000):=(blk_cell BK2.out 0).trans rfl
      have hfz17_0:=blk_frozen BK2.out 0
      obtain ⟨Ao18,co18,eo18⟩:=Kd.R_slice Z3.out
      subst eo18
      go_wp2_with (first | ((with_reducible refine gate_callee (f:=49) rfl ?_);refine goesL_ (some 44) rfl rfl Try.func49 (by kernel_rfl) rfl #[.agg #[.slice Ao18 x3000_1.length co18]] rfl lm_ ?_;(with_reducible refine (impl_TreeText.calls _ _ x3000_1 t17 _ ?side1 ?side2 A7.out).mono ?_);(case side1=>exact cc_ (Kd.R_reads' Z3.out).2.2);(case side2=>exact (Kd.R_reads' Z3.out).2.1);rintro e w19 ⟨rfl,hb⟩;refine ⟨_,rfl,?_⟩;replace Z3:=rb_ Z3 hb;replace BK1:=kb_ BK1 hb;replace BK2:=kb_ BK2 hb;replace HB:=a0_ (below_step hbw_ hb);(try clear hb);have hcz20_0 : w19.cell? ⟨gb2,0,none⟩ = some (.slice Ao18 x3000_1.length co18):=(blk_cell BK2.out 0).trans rfl;have hfz20_0:=blk_frozen BK2.out 0) | ((with_reducible refine gate_callee (f:=93) rfl ?_);refine goesL_ (some 54) rfl rfl Try.func93 (by kernel_rfl) rfl #[.slice Ao18 x3000_1.length co18] rfl lm_ ?_;(with_reducible refine (slices_Clip_Class.calls (fun k_=>some k_ = (.slice Ao18 x3000_1.length co18 : Value).ownBlock) (.slice Ao18 x3000_1.length co18) x3000_1 t18 w _ ?side1 ?side2 A15.out).mono ?_);(case side1=>exact hbw_);(case side2=>exact Kd.R_tight rfl Z3.out);rintro e w21 ⟨v19,rfl,ho0,hb,hkp⟩;refine ⟨_,rfl,?_⟩;replace BK1:=a0_ (blk_kept (bb_ BK1.out) hkp (fun hs_=>(fun e_=>(Kd.R_ne Z3.out BK1.out (by decide)) e_) hs_));replace BK2:=a0_ (blk_kept (bb_ BK2.out) hkp (fun hs_=>(fun e_=>(Kd.R_ne Z3.out BK2.out (by decide)) e_) hs_));have HO20:=a0_ (Kd.R_mono (ok':=fun k_=>True) ho0 (fun k_ hk_=>trivial));replace HB:=a0_ (hb);clear Z3;(try clear hb);(try clear hkp);(try clear ho0);obtain ⟨Ao22,co22,eo22⟩:=Kd.R_slice HO20.out;subst eo22;have hcz23_0 : w21.cell? ⟨gb1,0,none⟩ = some (.slice none 0 0):=(blk_cell BK1.out 0).trans rfl;have hfz23_0:=blk_frozen BK1.out 0))
      refine bodyPost_ret (results_ct rfl _ _ gb1 25 #[.slice Ao22 t18.length co22] (0,0) _ rfl (by (with_reducible repeat (first | refine blk_drewN ?_ _ | refine blk_drew ?_ | refine blk_alloc ?_ _));refine blk_put (cs:=#[.slice none 0 0]) ?_ 0 _ rfl;(with_reducible repeat (first | refine blk_drewN ?_ _ | refine blk_drew ?_ | refine blk_alloc ?_ _));exact BK1.out) Try.underlying25 rfl (by kernel_rfl)) rfl ?_
      exact ⟨_,by first | rfl | (simp [errW_none,errW_some] <;> rfl) | (simp [*,errW_none,errW_some] <;> rfl),by (with_reducible repeat (first | apply Kd.R_alloc | apply Kd.R_drewN | apply Kd.R_drew));exact Kd.R_mono (Kd.R_far (p:=⟨gb1,0,none⟩) (Kd.R_types HO20.out BK1.out (by decide)) (fun _ hk=>hk.2) (.slice Ao22 t18.length co22)) (fun _ hk=>trivial),hbw_⟩
    ·rw [if_neg c8] at H
     have c8b0 : (t17.toList == a0.toList) = false:=beq_eq_false_iff_ne.mpr c8
     have c8b1 : (t17.toList != a0.toList) = true:=bne_iff_ne.mpr c8
     simp only [Option.some.injEq,Prod.mk.injEq] at H
     obtain ⟨rfl,rfl⟩:=H
     have hnb24:=NB2_1.out
     have hnc24:=NB1_2.out
     have hcz25_0 : wr.cell? ⟨gb2,0,none⟩ = some (u3000):=(blk_cell BK2.out 0).trans rfl
     have hfz25_0:=blk_frozen BK2.out 0
     obtain ⟨Ao26,co26,eo26⟩:=Kd.R_slice Z3.out
     subst eo26
     go_wp2_with (first | ((with_reducible refine gate_callee (f:=49) rfl ?_);refine goesL_ (some 44) rfl rfl Try.func49 (by kernel_rfl) rfl #[.agg #[.slice Ao26 x3000_1.length co26]] rfl lm_ ?_;(with_reducible refine (impl_TreeText.calls _ _ x3000_1 t17 _ ?side1 ?side2 A7.out).mono ?_);(case side1=>exact cc_ (Kd.R_reads' Z3.out).2.2);(case side2=>exact (Kd.R_reads' Z3.out).2.1);rintro e w27 ⟨rfl,hb⟩;refine ⟨_,rfl,?_⟩;replace Z3:=rb_ Z3 hb;replace BK1:=kb_ BK1 hb;replace BK2:=kb_ BK2 hb;replace HB:=a0_ (below_step hbw_ hb);(try clear hb);have hcz28_0 : w27.cell? ⟨gb1,0,none⟩ = some (.slice none 0 0):=(blk_cell BK1.out 0).trans rfl;have hfz28_0:=blk_frozen BK1.out 0))
     refine bodyPost_ret (results_ct rfl _ _ gb1 25 #[.slice none 0 0] (0,0) _ rfl (by (with_reducible repeat (first | refine blk_drewN ?_ _ | refine blk_drew ?_ | refine blk_alloc ?_ _));refine blk_put (cs:=#[.slice none 0 0]) ?_ 0 _ rfl;(with_reducible repeat (first | refine blk_drewN ?_ _ | refine blk_drew ?_ | refine blk_alloc ?_ _));exact BK1.out) Try.underlying25 rfl (by kernel_rfl)) rfl ?_
     exact ⟨_,by first | rfl | (simp [errW_none,errW_some] <;> rfl) | (simp [*,errW_none,errW_some] <;> rfl),by first | exact Kd.R_nil _ _ _ _ _ | exact Kd.N_nil _ _ _ _ _ | exact Kd.V_nil _ _ _ _ _ | exact Kd.Q_nil _ _ _ _ _ | exact Kd.S_nil _ _ _ _ _,hbw_⟩
   ·rw [if_neg c6] at H
    have c6b0 : (x5_1.toList == ([] : List UInt8)) = false:=beq_eq_false_iff_ne.mpr c6
    have c6b1 : (x5_1.toList != ([] : List UInt8)) = true:=bne_iff_ne.mpr c6
    replace H:=Option.bind_eq_some_iff.mp H
    obtain ⟨⟨t3,t4,t5⟩,A290,H⟩:=H
    try dsimp only at H
    have A29:=a0_ A290
    clear A290
    replace H:=Option.bind_eq_some_iff.mp H
    obtain ⟨⟨t6,t7,t8⟩,A300,H⟩:=H
    try dsimp only at H
    have A30:=a0_ A300
    clear A300
    by_cases c31 : t8 = true
    ·subst c31
     have H1 : ((impl_Tree_named.f x3000_1 t7).bind fun t10=>(if x3000_1.length < 5864062014805 then (impl_ParseTree.l0 k1 a0 t4 (x3000_1 ++ [(⟨t6,t10⟩ : S125)])) else (none))) = some (r1,r2):=by rw [if_pos rfl] at H;exact H
     clear H
     have H:=H1
     clear H1
     replace H:=Option.bind_eq_some_iff.mp H
     obtain ⟨t10,A320,H⟩:=H
     try dsimp only at H
     have A32:=a0_ A320
     clear A320
     by_cases c33 : x3000_1.length < 5864062014805
     ·rw [if_pos c33] at H
      have LMc33:=a0_ c33
      clear c33
      obtain ⟨y11,hy11⟩ : ∃ y_ : List (S125),y_ = (x3000_1 ++ [(⟨t6,t10⟩ : S125)]):=⟨_,rfl⟩
      replace H : (impl_ParseTree.l0 k1 a0 t4 y11) = some (r1,r2):=by first | (rw [hy11];with_reducible exact H) | (have H2_:=(Option.bind_some _ _).symm.trans H;rw [hy11];with_reducible exact H2_) | (have H2_:=(Option.bind_some _ _).symm.trans H;with_reducible exact H2_) | with_reducible exact H | (rw [hy11];exact H) | exact H
      have Ny11:=a0_ hy11
      clear hy11
      have H':=a0_ H
      clear H
      go_wp2_with (first | ((with_reducible refine gate_callee (f:=91) rfl ?_);refine goesL_ (some 19) rfl rfl Try.func91 (by kernel_rfl) rfl #[.string x5_1,.string (⟨#[10]⟩ : ByteArray)] rfl lm_ ?_;(with_reducible refine (strings_Cut.calls x5_1 (⟨#[10]⟩ : ByteArray) t3 t4 t5 _ A29.out).mono ?_);rintro e w' ⟨rfl,⟨nd,rfl⟩⟩;refine ⟨_,rfl,?_⟩;(try (rw [drewN_self wr];generalize hq_ : World.drewN wr _ = wr;have n0_ : Aside0 (Kd.R k125 125 wr w.heap.size (fun k_=>True) u3000 x3000_1):=⟨by rw [← hq_];exact (rr_ Z3.out)⟩;have n1_ : Aside0 (wr.heap[gb1]? = some (.cells #[.slice none 0 0] 25 (0,0))):=⟨by rw [← hq_];exact (bb_ BK1.out)⟩;have n2_ : Aside0 (wr.heap[gb2]? = some (.cells #[u3000] 25 (0,0))):=⟨by rw [← hq_];exact (bb_ BK2.out)⟩;have n3_ : Aside0 (Below w.heap.size w wr):=⟨by rw [← hq_];exact hbw_⟩;clear Z3 BK1 BK2 HB hq_;have Z3:=n0_;have BK1:=n1_;have BK2:=n2_;have HB:=n3_;clear n0_ n1_ n2_ n3_))) | ((with_reducible refine gate_callee (f:=91) rfl ?_);refine goesL_ (some 25) rfl rfl Try.func91 (by kernel_rfl) rfl #[.string t3,.string (⟨#[32]⟩ : ByteArray)] rfl lm_ ?_;(with_reducible refine (strings_Cut.calls t3 (⟨#[32]⟩ : ByteArray) t6 t7 true _ A30.out).mono ?_);rintro e w' ⟨rfl,⟨nd,rfl⟩⟩;refine ⟨_,rfl,?_⟩;(try (rw [drewN_self wr];generalize hq_ : World.drewN wr _ = wr;have n0_ : Aside0 (Kd.R k125 125 wr w.heap.size (fun k_=>True) u3000 x3000_1):=⟨by rw [← hq_];exact (rr_ Z3.out)⟩;have n1_ : Aside0 (wr.heap[gb1]? = some (.cells #[.slice none 0 0] 25 (0,0))):=⟨by rw [← hq_];exact (bb_ BK1.out)⟩;have n2_ : Aside0 (wr.heap[gb2]? = some (.cells #[u3000] 25 (0,0))):=⟨by rw [← hq_];exact (bb_ BK2.out)⟩;have n3_ : Aside0 (Below w.heap.size w wr):=⟨by rw [← hq_];exact hbw_⟩;clear Z3 BK1 BK2 HB hq_;have Z3:=n0_;have BK1:=n1_;have BK2:=n2_;have HB:=n3_;clear n0_ n1_ n2_ n3_))) | ((with_reducible refine gate_dst (N:=12) rfl ?_);refine box_event ?hg (N:=12) ?hd (cs:=#[.string (⟨#[]⟩ : ByteArray),.int .i64 0]) (t:=125) ?hr ?_;(case hd=>rfl);(case hg=>rfl);(case hr=>first | (go_simp;done) | (go_simp;rfl));intro gb9 hg w34 hbox hb;have n0_:=a0_ (Kd.R_below (Kd.R_elderB (rr_ Z3.out) gb9 (Nat.le_of_eq hg.symm)) hb);have n1_:=kb_ BK1 hb;have n2_:=kb_ BK2 hb;have n3_:=a0_ (below_step hbw_ hb);have n4_:=a0_ (hbox);have n5_:=a0_ ((by rw [hg];exact (below_size hbw_) : w.heap.size ≤ gb9));have n6_:=a0_ ((by rw [hg];exact (below_size hbw_) : w.heap.size ≤ gb9));have n7_:=a0_ ((by rw [hg];exact Nat.ne_of_lt (blk_lt (bb_ BK1.out)) : gb1 ≠ gb9));have n8_:=a0_ ((by rw [hg];exact Nat.ne_of_gt (blk_lt (bb_ BK1.out)) : gb9 ≠ gb1));have n9_:=a0_ ((by rw [hg];exact Nat.ne_of_lt (blk_lt (bb_ BK2.out)) : gb2 ≠ gb9));have n10_:=a0_ ((by rw [hg];exact Nat.ne_of_gt (blk_lt (bb_ BK2.out)) : gb9 ≠ gb2));clear Z3 BK1;clear BK2 HB;have Z3:=n0_;have BK1:=n1_;have BK2:=n2_;have HB:=n3_;have BK9:=n4_;have GW9:=n5_;have GE9:=n6_;have NB1_9:=n7_;have NB9_1:=n8_;have NB2_9:=n9_;have NB9_2:=n10_;clear n0_ n1_ n2_ n3_ n4_ n5_ n6_ n7_ n8_ n9_ n10_;clear hb hbox hg;have hnb35:=NB9_1.out;have hnc35:=NB1_9.out;have hnb36:=NB9_2.out;have hnc36:=NB2_9.out;have hcz37_0 : w34.cell? ⟨gb9,0,none⟩ = some (.string (⟨#[]⟩ : ByteArray)):=(blk_cell BK9.out 0).trans rfl;have hcz37_1 : w34.cell? ⟨gb9,1,none⟩ = some (.int .i64 0):=(blk_cell BK9.out 1).trans rfl;have hfz37_0:=blk_frozen BK9.out 0;have hfz37_1:=blk_frozen BK9.out 1;have hnb38:=NB2_1.out;have hnc38:=NB1_2.out;have hcz39_0 : w34.cell? ⟨gb2,0,none⟩ = some (u3000):=(blk_cell BK2.out 0).trans rfl;have hfz39_0:=blk_frozen BK2.out 0;obtain ⟨Ao40,co40,eo40⟩:=Kd.R_slice Z3.out;subst eo40) | ((with_reducible refine gate_callee (f:=92) rfl ?_);refine goesL_ (some 34) rfl rfl Try.func92 (by kernel_rfl) rfl #[.agg #[.slice Ao40 x3000_1.length co40],.string t7] rfl lm_ ?_;(with_reducible refine (impl_Tree_named.calls _ _ x3000_1 t7 t10 _ ?side1 ?side2 A32.out).mono ?_);(case side1=>refine (Kd.R_reads' (e:=125) (base:=w.heap.size) (ok:=fun k_=>(True ∧ k_ ≠ gb9)) (n:=x3000_1.length) (c:=co40) ?_).2.2;exact (by (with_reducible repeat (first | apply Kd.R_alloc | apply Kd.R_drewN | apply Kd.R_drew));exact (Kd.R_mono (Kd.R_far (p:=⟨gb9,1,none⟩) (Kd.R_far (p:=⟨gb9,0,none⟩) (Kd.R_mono Z3.out (fun k_ hk=>(⟨hk,hk.2⟩ : _ ∧ k_ ≠ gb9))) (fun _ hk=>hk.2) (.string t6)) (fun _ hk=>hk.2) (.int .i64 (-1))) (fun _ h_=>h_.1))));(case side2=>exact (Kd.R_reads' Z3.out).2.1);rintro e w41 ⟨rfl,hb⟩;refine ⟨_,rfl,?_⟩;replace Z3:=a0_ (Kd.R_below (by (with_reducible repeat (first | apply Kd.R_alloc | apply Kd.R_drewN | apply Kd.R_drew));exact (Kd.R_mono (Kd.R_far (p:=⟨gb9,1,none⟩) (Kd.R_far (p:=⟨gb9,0,none⟩) (Kd.R_mono Z3.out (fun k_ hk=>(⟨hk,hk.2⟩ : _ ∧ k_ ≠ gb9))) (fun _ hk=>hk.2) (.string t6)) (fun _ hk=>hk.2) (.int .i64 (-1))) (fun _ h_=>h_.1))) hb);replace BK1:=a0_ (blk_below (g:=gb1) (o:=.cells #[.slice none 0 0] 25 (0,0)) (bff_ BK1.out) hb);replace BK2:=a0_ (blk_below (g:=gb2) (o:=.cells #[.slice Ao40 x3000_1.length co40] 25 (0,0)) (bff_ BK2.out) hb);replace BK9:=a0_ (blk_below (g:=gb9) (o:=.cells #[.string t6,.int .i64 (-1)] 125 (0,0)) (by (with_reducible repeat (first | refine blk_drewN ?_ _ | refine blk_drew ?_ | refine blk_alloc ?_ _));refine blk_put (cs:=#[.string t6,.int .i64 0]) ?_ 1 _ rfl;(with_reducible repeat (first | refine blk_drewN ?_ _ | refine blk_drew ?_ | refine blk_alloc ?_ _));refine blk_put (cs:=#[.string (⟨#[]⟩ : ByteArray),.int .i64 0]) ?_ 0 _ rfl;(with_reducible repeat (first | refine blk_drewN ?_ _ | refine blk_drew ?_ | refine blk_alloc ?_ _));exact BK9.out) hb);replace HB:=a0_ (below_step hbw_ hb);(try clear hb);have hcz42_0 : w41.cell? ⟨gb9,0,none⟩ = some (.string t6):=(blk_cell BK9.out 0).trans rfl;have hcz42_1 : w41.cell? ⟨gb9,1,none⟩ = some (.int .i64 (-1)):=(blk_cell BK9.out 1).trans rfl;have hfz42_0:=blk_frozen BK9.out 0;have hfz42_1:=blk_frozen BK9.out 1;have hcz43_0 : w41.cell? ⟨gb2,0,none⟩ = some (.slice Ao40 x3000_1.length co40):=(blk_cell BK2.out 0).trans rfl;have hfz43_0:=blk_frozen BK2.out 0) | ((with_reducible refine gate_builtin (b:=.append) (xs:=#[.tmp 37,.tmp 39]) rfl ?_);at_builtin;refine Kd.R_append k125 (w0:=w) w.heap.size rfl (.tmp 37) (.tmp 39) 23 125 (.agg #[(.string ⟨#[]⟩),(.int .i64 0)]) 24 rfl Try.underlying23 info125 rfl (by decide) (by omega) (.slice Ao40 x3000_1.length co40) x3000_1 (⟨t6,t10⟩ : S125) [.string t6,.int .i64 t10] (fun k_=>k_ ≠ gb9) (fun _=>False) rfl (by first | (go_simp;done) | (go_simp;rfl)) ?aP (fun _ hk=>hk.elim) ?aF ?aO ?aB ?aS ?aL ?_;(case aP=>exact k125_mkM _ _ _ (⟨t6,t10⟩ : S125));(case aB=>exact hbw_);(case aF=>exact (fun k_ hk=>Kd.freshB (g:=gb9) (o:=.cells #[.string t6,.int .i64 t10] 125 (0,0)) (by (with_reducible repeat (first | refine blk_drewN ?_ _ | refine blk_drew ?_ | refine blk_alloc ?_ _));refine blk_put (cs:=#[.string t6,.int .i64 (-1)]) ?_ 1 _ rfl;(with_reducible repeat (first | refine blk_drewN ?_ _ | refine blk_drew ?_ | refine blk_alloc ?_ _));exact BK9.out) k_ hk));(case aO=>exact (by (with_reducible repeat (first | apply Kd.R_alloc | apply Kd.R_drewN | apply Kd.R_drew));exact Kd.R_mono (Kd.R_far (p:=⟨gb9,1,none⟩) (Kd.R_mono Z3.out (fun k_ hk=>(⟨hk,hk.2⟩ : _ ∧ k_ ≠ gb9))) (fun _ hk=>hk.2) (.int .i64 t10)) (fun _ hk=>hk.1.2)));(case aS=>exact (below_size hbw_));(case aL=>have:=LMc33.out;omega);intro v12 w44 ho hb hg hat;rw [← Ny11.out] at ho;replace BK1:=a0_ (blk_grown (g:=gb1) (o:=.cells #[.slice none 0 0] 25 (0,0)) (bff_ BK1.out) hg (Kd.R_ne Z3.out BK1.out (by decide)));replace BK2:=a0_ (blk_grown (g:=gb2) (o:=.cells #[.slice Ao40 x3000_1.length co40] 25 (0,0)) (bff_ BK2.out) hg (Kd.R_ne Z3.out BK2.out (by decide)));replace BK9:=a0_ (blk_grown (g:=gb9) (o:=.cells #[.string t6,.int .i64 t10] 125 (0,0)) (by (with_reducible repeat (first | refine blk_drewN ?_ _ | refine blk_drew ?_ | refine blk_alloc ?_ _));refine blk_put (cs:=#[.string t6,.int .i64 (-1)]) ?_ 1 _ rfl;(with_reducible repeat (first | refine blk_drewN ?_ _ | refine blk_drew ?_ | refine blk_alloc ?_ _));exact BK9.out) hg (Kd.R_away Z3.out (fun _ hk=>hk.2)));have HO13:=a0_ (ho);replace HB:=a0_ (hb);clear Z3;clear ho hb hg hat;obtain ⟨Ao45,co45,eo45⟩:=Kd.R_slice HO13.out;subst eo45;have hcz46_0 : w44.cell? ⟨gb2,0,none⟩ = some (.slice Ao40 x3000_1.length co40):=(blk_cell BK2.out 0).trans rfl;have hfz46_0:=blk_frozen BK2.out 0))
      go_roundg k1
      case measure=>have:=HK1.out;omega
      case rel=>exact ⟨(t4),(y11),(.slice Ao45 y11.length co45),(by first | rfl | (simp;done) | (simp [*];done)),H',⟨by have:=HK1.out;omega⟩,⟨by (with_reducible repeat (first | apply Kd.R_alloc | apply Kd.R_drewN | apply Kd.R_drew));exact Kd.R_mono (Kd.R_far (p:=⟨gb2,0,none⟩) (Kd.R_types HO13.out BK2.out (by decide)) (fun _ hk=>hk.2) (.slice Ao45 y11.length co45)) (fun _ hk=>trivial)⟩,⟨by (with_reducible repeat (first | refine blk_drewN ?_ _ | refine blk_drew ?_ | refine blk_alloc ?_ _));refine blk_far ?_ NB1_2.out _;(with_reducible repeat (first | refine blk_drewN ?_ _ | refine blk_drew ?_ | refine blk_alloc ?_ _));exact BK1.out⟩,⟨by (with_reducible repeat (first | refine blk_drewN ?_ _ | refine blk_drew ?_ | refine blk_alloc ?_ _));refine blk_put (cs:=#[.slice Ao40 x3000_1.length co40]) ?_ 0 _ rfl;(with_reducible repeat (first | refine blk_drewN ?_ _ | refine blk_drew ?_ | refine blk_alloc ?_ _));exact BK2.out⟩,⟨hbw_⟩⟩
     ·rw [if_neg c33] at H
      exact absurd H (by simp)
    ·replace c31:=Bool.eq_false_iff.mpr c31
     subst c31
     have H1 : (if x3000_1.length < 5864062014805 then (impl_ParseTree.l0 k1 a0 t4 (x3000_1 ++ [(⟨t6,(-1)⟩ : S125)])) else (none)) = some (r1,r2):=by rw [if_neg (show ¬ (false = true) by decide)] at H;exact H
     clear H
     have H:=H1
     clear H1
     by_cases c47 : x3000_1.length < 5864062014805
     ·rw [if_pos c47] at H
      have LMc47:=a0_ c47
      clear c47
      obtain ⟨y14,hy14⟩ : ∃ y_ : List (S125),y_ = (x3000_1 ++ [(⟨t6,(-1)⟩ : S125)]):=⟨_,rfl⟩
      replace H : (impl_ParseTree.l0 k1 a0 t4 y14) = some (r1,r2):=by first | (rw [hy14];with_reducible exact H) | (have H2_:=(Option.bind_some _ _).symm.trans H;rw [hy14];with_reducible exact H2_) | (have H2_:=(Option.bind_some _ _).symm.trans H;with_reducible exact H2_) | with_reducible exact H | (rw [hy14];exact H) | exact H
      have Ny14:=a0_ hy14
      clear hy14
      have H':=a0_ H
      clear H
      go_wp2_with (first | ((with_reducible refine gate_callee (f:=91) rfl ?_);refine goesL_ (some 19) rfl rfl Try.func91 (by kernel_rfl) rfl #[.string x5_1,.string (⟨#[10]⟩ : ByteArray)] rfl lm_ ?_;(with_reducible refine (strings_Cut.calls x5_1 (⟨#[10]⟩ : ByteArray) t3 t4 t5 _ A29.out).mono ?_);rintro e w' ⟨rfl,⟨nd,rfl⟩⟩;refine ⟨_,rfl,?_⟩;(try (rw [drewN_self wr];generalize hq_ : World.drewN wr _ = wr;have n0_ : Aside0 (Kd.R k125 125 wr w.heap.size (fun k_=>True) u3000 x3000_1):=⟨by rw [← hq_];exact (rr_ Z3.out)⟩;have n1_ : Aside0 (wr.heap[gb1]? = some (.cells #[.slice none 0 0] 25 (0,0))):=⟨by rw [← hq_];exact (bb_ BK1.out)⟩;have n2_ : Aside0 (wr.heap[gb2]? = some (.cells #[u3000] 25 (0,0))):=⟨by rw [← hq_];exact (bb_ BK2.out)⟩;have n3_ : Aside0 (Below w.heap.size w wr):=⟨by rw [← hq_];exact hbw_⟩;clear Z3 BK1 BK2 HB hq_;have Z3:=n0_;have BK1:=n1_;have BK2:=n2_;have HB:=n3_;clear n0_ n1_ n2_ n3_))) | ((with_reducible refine gate_callee (f:=91) rfl ?_);refine goesL_ (some 25) rfl rfl Try.func91 (by kernel_rfl) rfl #[.string t3,.string (⟨#[32]⟩ : ByteArray)] rfl lm_ ?_;(with_reducible refine (strings_Cut.calls t3 (⟨#[32]⟩ : ByteArray) t6 t7 false _ A30.out).mono ?_);rintro e w' ⟨rfl,⟨nd,rfl⟩⟩;refine ⟨_,rfl,?_⟩;(try (rw [drewN_self wr];generalize hq_ : World.drewN wr _ = wr;have n0_ : Aside0 (Kd.R k125 125 wr w.heap.size (fun k_=>True) u3000 x3000_1):=⟨by rw [← hq_];exact (rr_ Z3.out)⟩;have n1_ : Aside0 (wr.heap[gb1]? = some (.cells #[.slice none 0 0] 25 (0,0))):=⟨by rw [← hq_];exact (bb_ BK1.out)⟩;have n2_ : Aside0 (wr.heap[gb2]? = some (.cells #[u3000] 25 (0,0))):=⟨by rw [← hq_];exact (bb_ BK2.out)⟩;have n3_ : Aside0 (Below w.heap.size w wr):=⟨by rw [← hq_];exact hbw_⟩;clear Z3 BK1 BK2 HB hq_;have Z3:=n0_;have BK1:=n1_;have BK2:=n2_;have HB:=n3_;clear n0_ n1_ n2_ n3_))) | ((with_reducible refine gate_dst (N:=12) rfl ?_);refine box_event ?hg (N:=12) ?hd (cs:=#[.string (⟨#[]⟩ : ByteArray),.int .i64 0]) (t:=125) ?hr ?_;(case hd=>rfl);(case hg=>rfl);(case hr=>first | (go_simp;done) | (go_simp;rfl));intro gb9 hg w48 hbox hb;have n0_:=a0_ (Kd.R_below (Kd.R_elderB (rr_ Z3.out) gb9 (Nat.le_of_eq hg.symm)) hb);have n1_:=kb_ BK1 hb;have n2_:=kb_ BK2 hb;have n3_:=a0_ (below_step hbw_ hb);have n4_:=a0_ (hbox);have n5_:=a0_ ((by rw [hg];exact (below_size hbw_) : w.heap.size ≤ gb9));have n6_:=a0_ ((by rw [hg];exact (below_size hbw_) : w.heap.size ≤ gb9));have n7_:=a0_ ((by rw [hg];exact Nat.ne_of_lt (blk_lt (bb_ BK1.out)) : gb1 ≠ gb9));have n8_:=a0_ ((by rw [hg];exact Nat.ne_of_gt (blk_lt (bb_ BK1.out)) : gb9 ≠ gb1));have n9_:=a0_ ((by rw [hg];exact Nat.ne_of_lt (blk_lt (bb_ BK2.out)) : gb2 ≠ gb9));have n10_:=a0_ ((by rw [hg];exact Nat.ne_of_gt (blk_lt (bb_ BK2.out)) : gb9 ≠ gb2));clear Z3 BK1;clear BK2 HB;have Z3:=n0_;have BK1:=n1_;have BK2:=n2_;have HB:=n3_;have BK9:=n4_;have GW9:=n5_;have GE9:=n6_;have NB1_9:=n7_;have NB9_1:=n8_;have NB2_9:=n9_;have NB9_2:=n10_;clear n0_ n1_ n2_ n3_ n4_ n5_ n6_ n7_ n8_ n9_ n10_;clear hb hbox hg;have hnb49:=NB9_1.out;have hnc49:=NB1_9.out;have hnb50:=NB9_2.out;have hnc50:=NB2_9.out;have hcz51_0 : w48.cell? ⟨gb9,0,none⟩ = some (.string (⟨#[]⟩ : ByteArray)):=(blk_cell BK9.out 0).trans rfl;have hcz51_1 : w48.cell? ⟨gb9,1,none⟩ = some (.int .i64 0):=(blk_cell BK9.out 1).trans rfl;have hfz51_0:=blk_frozen BK9.out 0;have hfz51_1:=blk_frozen BK9.out 1;have hnb52:=NB2_1.out;have hnc52:=NB1_2.out;have hcz53_0 : w48.cell? ⟨gb2,0,none⟩ = some (u3000):=(blk_cell BK2.out 0).trans rfl;have hfz53_0:=blk_frozen BK2.out 0) | ((with_reducible refine gate_builtin (b:=.append) (xs:=#[.tmp 37,.tmp 39]) rfl ?_);at_builtin;refine Kd.R_append k125 (w0:=w) w.heap.size rfl (.tmp 37) (.tmp 39) 23 125 (.agg #[(.string ⟨#[]⟩),(.int .i64 0)]) 24 rfl Try.underlying23 info125 rfl (by decide) (by omega) u3000 x3000_1 (⟨t6,(-1)⟩ : S125) [.string t6,.int .i64 (-1)] (fun k_=>k_ ≠ gb9) (fun _=>False) rfl (by first | (go_simp;done) | (go_simp;rfl)) ?aP (fun _ hk=>hk.elim) ?aF ?aO ?aB ?aS ?aL ?_;(case aP=>exact k125_mkM _ _ _ (⟨t6,(-1)⟩ : S125));(case aB=>exact hbw_);(case aF=>exact (fun k_ hk=>Kd.freshB (g:=gb9) (o:=.cells #[.string t6,.int .i64 (-1)] 125 (0,0)) (by (with_reducible repeat (first | refine blk_drewN ?_ _ | refine blk_drew ?_ | refine blk_alloc ?_ _));refine blk_put (cs:=#[.string t6,.int .i64 0]) ?_ 1 _ rfl;(with_reducible repeat (first | refine blk_drewN ?_ _ | refine blk_drew ?_ | refine blk_alloc ?_ _));refine blk_put (cs:=#[.string (⟨#[]⟩ : ByteArray),.int .i64 0]) ?_ 0 _ rfl;(with_reducible repeat (first | refine blk_drewN ?_ _ | refine blk_drew ?_ | refine blk_alloc ?_ _));exact BK9.out) k_ hk));(case aO=>exact (by (with_reducible repeat (first | apply Kd.R_alloc | apply Kd.R_drewN | apply Kd.R_drew));exact Kd.R_mono (Kd.R_far (p:=⟨gb9,1,none⟩) (Kd.R_far (p:=⟨gb9,0,none⟩) (Kd.R_mono Z3.out (fun k_ hk=>(⟨hk,hk.2⟩ : _ ∧ k_ ≠ gb9))) (fun _ hk=>hk.2) (.string t6)) (fun _ hk=>hk.2) (.int .i64 (-1))) (fun _ hk=>hk.1.2)));(case aS=>exact (below_size hbw_));(case aL=>have:=LMc47.out;omega);intro v15 w54 ho hb hg hat;rw [← Ny14.out] at ho;replace BK1:=a0_ (blk_grown (g:=gb1) (o:=.cells #[.slice none 0 0] 25 (0,0)) (bff_ BK1.out) hg (Kd.R_ne Z3.out BK1.out (by decide)));replace BK2:=a0_ (blk_grown (g:=gb2) (o:=.cells #[u3000] 25 (0,0)) (bff_ BK2.out) hg (Kd.R_ne Z3.out BK2.out (by decide)));replace BK9:=a0_ (blk_grown (g:=gb9) (o:=.cells #[.string t6,.int .i64 (-1)] 125 (0,0)) (by (with_reducible repeat (first | refine blk_drewN ?_ _ | refine blk_drew ?_ | refine blk_alloc ?_ _));refine blk_put (cs:=#[.string t6,.int .i64 0]) ?_ 1 _ rfl;(with_reducible repeat (first | refine blk_drewN ?_ _ | refine blk_drew ?_ | refine blk_alloc ?_ _));refine blk_put (cs:=#[.string (⟨#[]⟩ : ByteArray),.int .i64 0]) ?_ 0 _ rfl;(with_reducible repeat (first | refine blk_drewN ?_ _ | refine blk_drew ?_ | refine blk_alloc ?_ _));exact BK9.out) hg (Kd.R_away Z3.out (fun _ hk=>hk.2)));have HO16:=a0_ (ho);replace HB:=a0_ (hb);clear Z3;clear ho hb hg hat;obtain ⟨Ao55,co55,eo55⟩:=Kd.R_slice HO16.out;subst eo55;have hcz56_0 : w54.cell? ⟨gb2,0,none⟩ = some (u3000):=(blk_cell BK2.out 0).trans rfl;have hfz56_0:=blk_frozen BK2.out 0))
      go_roundg k1
      case measure=>have:=HK1.out;omega
      case rel=>exact ⟨(t4),(y14),(.slice Ao55 y14.length co55),(by first | rfl | (simp;done) | (simp [*];done)),H',⟨by have:=HK1.out;omega⟩,⟨by (with_reducible repeat (first | apply Kd.R_alloc | apply Kd.R_drewN | apply Kd.R_drew));exact Kd.R_mono (Kd.R_far (p:=⟨gb2,0,none⟩) (Kd.R_types HO16.out BK2.out (by decide)) (fun _ hk=>hk.2) (.slice Ao55 y14.length co55)) (fun _ hk=>trivial)⟩,⟨by (with_reducible repeat (first | refine blk_drewN ?_ _ | refine blk_drew ?_ | refine blk_alloc ?_ _));refine blk_far ?_ NB1_2.out _;(with_reducible repeat (first | refine blk_drewN ?_ _ | refine blk_drew ?_ | refine blk_alloc ?_ _));exact BK1.out⟩,⟨by (with_reducible repeat (first | refine blk_drewN ?_ _ | refine blk_drew ?_ | refine blk_alloc ?_ _));refine blk_put (cs:=#[u3000]) ?_ 0 _ rfl;(with_reducible repeat (first | refine blk_drewN ?_ _ | refine blk_drew ?_ | refine blk_alloc ?_ _));exact BK2.out⟩,⟨hbw_⟩⟩
     ·rw [if_neg c47] at H
      exact absurd H (by simp)
theorem cutB_size (c : UInt8) (s : ByteArray) : (cutB c s).1.size ≤ s.size ∧ (s.size ≠ 0 → (cutB c s).2.1.size < s.size):=by
 have h:=cuL_len c s.data.toList
 have e : s.data.toList.length = s.size:=toL_len s
 rw [e] at h
 have e1 : (cutB c s).1.size = (cuL c s.data.toList).1.length:=toB_size _
 have e2 : (cutB c s).2.1.size = (cuL c s.data.toList).2.1.length:=toB_size _
 rw [e1,e2]
 refine ⟨h.1,fun hn=>h.2 (fun hh=>hn ?_)⟩
 rw [← e,hh]
 rfl
theorem toL_nil {s : ByteArray} : s.toList = ([] : List UInt8) ↔ s.size = 0:=by
 rw [toL,← toL_len]
 exact List.length_eq_zero_iff.symm
theorem impl_ParseTree_l0 (s : ByteArray) (hs : s.size ≤ 5864062000000) : ∀ (n : Nat) (acc : List Cls) (r : ByteArray),r.size ≤ n → acc.length + r.size ≤ s.size → (∀ x ∈ acc,x.f0.size ≤ s.size) → Ev (fun k=>impl_ParseTree.l0 k s r acc) (if okTx (parI n acc r) s = true then (parI n acc r,true) else ([],false)):=by
 have stop : ∀ (n : Nat) (acc : List Cls) (r : ByteArray),r.size = 0 → (∀ x ∈ acc,x.f0.size ≤ s.size) → Ev (fun k=>impl_ParseTree.l0 k s r acc) (if okTx (parI n acc r) s = true then (parI n acc r,true) else ([],false)):=by
  intro n acc r hr hz
  have hp : parI n acc r = acc:=by
   cases n with
   | zero=>rfl
   | succ n=>rw [parI,if_pos hr]
  have hsm : smT acc = true:=by
   unfold smT
   rw [List.all_eq_true]
   intro x hx
   have:=hz x hx
   exact decide_eq_true (by omega)
  rw [hp]
  have hT:=impl_TreeText_ev acc hsm
  unfold textP at hT
  cases hv : vT acc with
  | true =>
   rw [hv,if_pos rfl] at hT
   have hne:=(treeTx_size hv).1
   by_cases e : treeTx acc = s
   ·rw [show okTx acc s = true by unfold okTx;rw [hv,decide_eq_true e];rfl,if_pos rfl]
    refine Ev.succ ?_
    simp only [impl_ParseTree.l0]
    refine Ev.pos (toL_nil.2 hr) ?_
    refine Ev.bind (Ev.const hT) ?_
    refine Ev.pos (by rw [e]) ?_
    refine Ev.neg (fun h=>?_) ?_
    ·rw [toL_nil,← e] at h
     omega
    ·exact Ev.bind (Ev.const (slices_Clip_Class_ev acc)) (Ev.const rfl)
   ·rw [show okTx acc s = false by unfold okTx;rw [decide_eq_false e,Bool.and_false],if_neg (by simp)]
    refine Ev.succ ?_
    simp only [impl_ParseTree.l0]
    refine Ev.pos (toL_nil.2 hr) ?_
    refine Ev.bind (Ev.const hT) ?_
    exact Ev.neg (fun h=>e (toL_inj.1 h)) (Ev.const rfl)
  | false =>
   rw [hv,if_neg (by simp)] at hT
   rw [show okTx acc s = false by unfold okTx;rw [hv,Bool.false_and],if_neg (by simp)]
   refine Ev.succ ?_
   simp only [impl_ParseTree.l0]
   refine Ev.pos (toL_nil.2 hr) ?_
   refine Ev.bind (Ev.const hT) ?_
   by_cases e : ByteArray.empty = s
   ·refine Ev.pos (congrArg ByteArray.toList e) ?_
    exact Ev.pos (toL_nil.2 (by rw [← e];rfl)) (Ev.const rfl)
   ·exact Ev.neg (fun h=>e (toL_inj.1 h)) (Ev.const rfl)
 intro n
 induction n with
 | zero=>intro acc r hr _ hz;exact stop 0 acc r (by omega) hz
 | succ n ih =>
  intro acc r hr ha hz
  by_cases h0 : r.size = 0
  ·exact stop (n + 1) acc r h0 hz
  ·have hsz:=cutB_size 10 r
   have hsz2:=cutB_size 32 (cutB 10 r).1
   have hlt:=hsz.2 h0
   rw [parI,if_neg h0]
   have c1 : strings_Cut.f r (⟨#[10]⟩ : ByteArray) = some (cutB 10 r):=by rw [strings_Cut.f,if_pos ⟨rfl,by omega⟩];rfl
   have c2 : strings_Cut.f (cutB 10 r).1 (⟨#[32]⟩ : ByteArray) = some (cutB 32 (cutB 10 r).1):=by rw [strings_Cut.f,if_pos ⟨rfl,by omega⟩];rfl
   have hnew:=ih (acc ++ [clsOf acc (cutB 10 r).1]) (cutB 10 r).2.1 (by omega) (by rw [List.length_append,List.length_singleton];omega) (fun x hx=>by
    rcases List.mem_append.1 hx with hx | hx
    ·exact hz x hx
    ·obtain rfl : x = clsOf acc (cutB 10 r).1:=by simpa using hx
     show (cutB 32 (cutB 10 r).1).1.size ≤ s.size
     omega)
   generalize hA : (if okTx (parI n (acc ++ [clsOf acc (cutB 10 r).1]) (cutB 10 r).2.1) s = true then (parI n (acc ++ [clsOf acc (cutB 10 r).1]) (cutB 10 r).2.1,true) else ([],false)) = A at hnew ⊢
   clear hA
   refine Ev.succ ?_
   simp only [impl_ParseTree.l0]
   refine Ev.neg (fun h=>h0 (toL_nil.1 h)) ?_
   refine Ev.bind (Ev.const c1) ?_
   refine Ev.bind (Ev.const c2) ?_
   unfold clsOf at hnew
   cases hb : (cutB 32 (cutB 10 r).1).2.2 with
   | true =>
    rw [hb,if_pos rfl] at hnew
    refine Ev.pos rfl ?_
    refine Ev.bind (Ev.const rfl) ?_
    exact Ev.pos (by omega) hnew
   | false =>
    rw [hb,if_neg (by simp)] at hnew
    refine Ev.neg (by simp) ?_
    exact Ev.pos (by omega) hnew
theorem impl_ParseTree_ev (s : ByteArray) (hs : s.size ≤ 5864062000000) : Ev (fun k=>impl_ParseTree.f k s) (parP s):=by
 have:=impl_ParseTree_l0 s hs s.size [] s (Nat.le_refl _) (by simp) (fun x hx=>absurd hx (by simp))
 unfold impl_ParseTree.f parP
 exact this
end Go.Proofs.Ytacgehaipacehaa.P
namespace Go.Proofs.Ytacgehaipacehaa.P
open Go.RowKit Go.Proofs.YtacgehaipacehaaW.PrintWords Go.Proofs.YtacgehaipacehaaW.PrintLast Go.Proofs.YtacgehaipacehaaW.PrintMore
attribute [local go_sem] max2_int min2_int max_two min_two max_three min_three max_four min_four
set_option linter.unusedVariables false
set_option linter.unusedSimpArgs false
def byL (b : List Int) : Prop:=b.length ≤ 2000 ∧ ∀ x ∈ b,0 ≤ x ∧ x ≤ 255
theorem byL_rd {b : List Int} (h : byL b) (i : Int) : 0 ≤ rd b i ∧ rd b i ≤ 255:=by
 unfold rd
 by_cases hi : i.toNat < b.length
 ·rw [List.getD_eq_getElem?_getD,List.getElem?_eq_getElem hi]
  exact h.2 _ (List.getElem_mem hi)
 ·rw [List.getD_eq_getElem?_getD,List.getElem?_eq_none (by omega)]
  show (0 : Int) ≤ 0 ∧ (0 : Int) ≤ 255
  omega
theorem xor_nonneg (x y : Int) (h0 : 0 ≤ x) (h1 : x < 4611686018427387904) (g0 : 0 ≤ y) (g1 : y < 4611686018427387904) : 0 ≤ Go.bits .xor .i64 x y:=by
 obtain ⟨a,rfl⟩:=Int.eq_ofNat_of_zero_le h0
 obtain ⟨b,rfl⟩:=Int.eq_ofNat_of_zero_le g0
 have ha : a < 2 ^ 62:=by omega
 have hb : b < 2 ^ 62:=by omega
 have ha' : a % 2 ^ 64 = a:=Nat.mod_eq_of_lt (by omega)
 have hb' : b % 2 ^ 64 = b:=Nat.mod_eq_of_lt (by omega)
 have hx:=Nat.xor_lt_two_pow ha hb
 have e : Go.bits .xor .i64 (a : Int) (b : Int) = ((a ^^^ b : Nat) : Int):=by
  have hk : IntKind.bits .i64 = 64:=rfl
  simp only [Go.bits,hk,BitVec.ofInt_natCast,BitVec.toNat_xor,BitVec.toNat_ofNat,ha',hb']
  rw [Go.IntKind.wrap_i64]
  generalize a ^^^ b = c at hx
  omega
 rw [e]
 omega
theorem tmod_in {x n : Int} (h0 : 0 ≤ x) (hn : 1 ≤ n) : 0 ≤ Int.tmod x n ∧ Int.tmod x n < n:=⟨Int.tmod_nonneg n h0,Int.tmod_lt_of_pos x (by omega)⟩
end Go.Proofs.Ytacgehaipacehaa.P
namespace Go.Proofs.Ytacgehaipacehaa.P
open Go.RowKit Go.Proofs.YtacgehaipacehaaW.PrintWords Go.Proofs.YtacgehaipacehaaW.PrintLast Go.Proofs.YtacgehaipacehaaW.PrintMore
attribute [local go_sem] max2_int min2_int max_two min_two max_three min_three max_four min_four
set_option linter.unusedVariables false
set_option linter.unusedSimpArgs false
def IsS148 (w0 W : World) (g : Nat) (f0 : List Int) (f1 : Int) : Prop:=∃ A0 c0,W.heap[g]? = some (.cells #[.slice A0 f0.length c0,.int .i64 f1] 148 (0,0)) ∧ w0.heap.size ≤ g ∧ Kd.C (Kd.int .u8) w0 A0 f0.length f0
theorem IsS148.grown {w0 W : World} {g : Nat} {f0 : List Int} {f1 : Int} {W1 : World} {row : Option Nat} (h : IsS148 w0 W g f0 f1) (hw : W.grownBy W1 row) (hne : some g ≠ row) : IsS148 w0 W1 g f0 f1:=by
 obtain ⟨A0,c0,hb,hg,hr0⟩:=h
 exact ⟨A0,c0,blk_grown hb hw hne,hg,hr0⟩
theorem IsS148.own_neN {w0 W : World} {g : Nat} {f0 : List Int} {f1 : Int} {α : Type} {d : Kd α} {e : Nat} {base : Nat} {ok : Nat → Prop} {v : Value} {xs : List α} (h : IsS148 w0 W g f0 f1) (ho : Kd.N d e W base ok v xs) (ht : e ≠ 148) : some g ≠ v.ownBlock:=by
 obtain ⟨A0,c0,hb,hg,hr0⟩:=h
 exact Kd.N_ne ho hb ht
theorem IsS148.fresh {w0 W : World} {g : Nat} {f0 : List Int} {f1 : Int} (h : IsS148 w0 W g f0 f1) : ∀ k,W.heap.size ≤ k → k ≠ g:=by
 obtain ⟨A0,c0,hb,hg,hr0⟩:=h
 exact Kd.freshB hb
theorem IsS148.kept {w0 W : World} {g : Nat} {f0 : List Int} {f1 : Int} {W1 : World} {S : Nat → Prop} (h : IsS148 w0 W g f0 f1) (hk : Kept W W1 S) (hne : ¬ S g) : IsS148 w0 W1 g f0 f1:=by
 obtain ⟨A0,c0,hb,hg,hr0⟩:=h
 exact ⟨A0,c0,blk_kept hb hk hne,hg,hr0⟩
theorem IsS148.below {w0 W : World} {g : Nat} {f0 : List Int} {f1 : Int} {W1 : World} (h : IsS148 w0 W g f0 f1) (hw : Below W.heap.size W W1) : IsS148 w0 W1 g f0 f1:=h.grown (grown_of_below hw none) (by simp)
theorem IsS148.alloc {w0 W : World} {g : Nat} {f0 : List Int} {f1 : Int} (h : IsS148 w0 W g f0 f1) (o : Obj) : IsS148 w0 (W.alloc o) g f0 f1:=h.below (below_alloc (Below.refl _ _) o)
theorem IsS148.drewN {w0 W : World} {g : Nat} {f0 : List Int} {f1 : Int} (h : IsS148 w0 W g f0 f1) (m : Nat) : IsS148 w0 (W.drewN m) g f0 f1:=h
theorem IsS148.drew {w0 W : World} {g : Nat} {f0 : List Int} {f1 : Int} (h : IsS148 w0 W g f0 f1) : IsS148 w0 W.drew g f0 f1:=h
theorem IsS148.at_ {w0 W : World} {g : Nat} {f0 : List Int} {f1 : Int} {w' : World} {m : Nat} (hq : W.drewN m = w') (h : IsS148 w0 W g f0 f1) : IsS148 w0 w' g f0 f1:=by subst hq;exact IsS148.drewN h m
theorem IsS148.apart {w0 W : World} {g : Nat} {f0 : List Int} {f1 : Int} {α : Type} {d : Kd α} {e : Nat} {base : Nat} {ok : Nat → Prop} {v : Value} {xs : List α} (h : IsS148 w0 W g f0 f1) (ho : d.R e W base ok v xs) (ht : ∀ q,q ∈ e :: d.E → q ≠ 148) : d.R e W base (fun k=>ok k ∧ k ≠ g) v xs:=by
 obtain ⟨A0,c0,hb,hg,hr0⟩:=h
 exact Kd.R_types ho hb ht
theorem IsS148.own_ne {w0 W : World} {g : Nat} {f0 : List Int} {f1 : Int} {α : Type} {d : Kd α} {e : Nat} {base : Nat} {ok : Nat → Prop} {v : Value} {xs : List α} (h : IsS148 w0 W g f0 f1) (ho : d.R e W base ok v xs) (ht : e ≠ 148) : some g ≠ v.ownBlock:=by
 obtain ⟨A0,c0,hb,hg,hr0⟩:=h
 exact Kd.R_ne ho hb ht
theorem IsS148.apartQ {w0 W : World} {g : Nat} {f0 : List Int} {f1 : Int} {α : Type} {d : Kd α} {e : Nat} {base : Nat} {ok : Nat → Prop} {v : Value} {xs : List α} (h : IsS148 w0 W g f0 f1) (ho : d.Q e W base ok v xs) (ht : ∀ q,q ∈ e :: d.E → q ≠ 148) : d.Q e W base (fun k=>ok k ∧ k ≠ g) v xs:=by
 obtain ⟨A0,c0,hb,hg,hr0⟩:=h
 exact Kd.Q_types ho hb ht
theorem IsS148.own_neQ {w0 W : World} {g : Nat} {f0 : List Int} {f1 : Int} {α : Type} {d : Kd α} {e : Nat} {base : Nat} {ok : Nat → Prop} {v : Value} {xs : List α} (h : IsS148 w0 W g f0 f1) (ho : d.Q e W base ok v xs) (ht : e ≠ 148) : some g ≠ v.ownBlock:=by
 obtain ⟨A0,c0,hb,hg,hr0⟩:=h
 exact Kd.Q_ne ho hb ht
theorem IsS148.apartS {w0 W : World} {g : Nat} {f0 : List Int} {f1 : Int} {α : Type} {d : Kd α} {e : Nat} {base : Nat} {ok : Nat → Prop} {v : Value} {xs : List α} (h : IsS148 w0 W g f0 f1) (ho : d.S e W base ok v xs) (ht : ∀ q,q ∈ e :: d.E → q ≠ 148) : d.S e W base (fun k=>ok k ∧ k ≠ g) v xs:=by
 obtain ⟨A0,c0,hb,hg,hr0⟩:=h
 exact Kd.S_types ho hb ht
theorem IsS148.own_neS {w0 W : World} {g : Nat} {f0 : List Int} {f1 : Int} {α : Type} {d : Kd α} {e : Nat} {base : Nat} {ok : Nat → Prop} {v : Value} {xs : List α} (h : IsS148 w0 W g f0 f1) (ho : d.S e W base ok v xs) (ht : e ≠ 148) : some g ≠ v.ownBlock:=by
 obtain ⟨A0,c0,hb,hg,hr0⟩:=h
 exact Kd.S_ne ho hb ht
theorem IsS148.lt {w0 W : World} {g : Nat} {f0 : List Int} {f1 : Int} (h : IsS148 w0 W g f0 f1) : g < W.heap.size:=by
 obtain ⟨A0,c0,hb,hg,hr0⟩:=h
 exact blk_lt hb
theorem IsS148.ge {w0 W : World} {g : Nat} {f0 : List Int} {f1 : Int} (h : IsS148 w0 W g f0 f1) : w0.heap.size ≤ g:=by
 obtain ⟨A0,c0,hb,hg,hr0⟩:=h
 exact hg
theorem IsS148.ne_blk {w0 W : World} {g : Nat} {f0 : List Int} {f1 : Int} {a : Nat} {cs : Array Value} {t : TypeId} {fr : Nat × Nat} (h : IsS148 w0 W g f0 f1) (hb2 : W.heap[a]? = some (.cells cs t fr)) (ht : t ≠ 148) : g ≠ a:=by
 obtain ⟨A0,c0,hb,hg,hr0⟩:=h
 rintro rfl
 rw [hb] at hb2
 injection hb2 with hb2
 injection hb2 with _ ht2
 exact ht ht2.symm
theorem IsS148.far {w0 W : World} {g : Nat} {f0 : List Int} {f1 : Int} {p : Addr} (h : IsS148 w0 W g f0 f1) (hne : g ≠ p.block) (u : Value) : IsS148 w0 (W.setCell p u) g f0 f1:=by
 obtain ⟨A0,c0,hb,hg,hr0⟩:=h
 exact ⟨A0,c0,blk_far hb hne u,hg,hr0⟩
theorem cellS148_0 {W : World} {g : Nat} {A0 : Option Addr} {c0 : Nat} {f0 : List Int} {f1 : Int} (h : W.heap[g]? = some (.cells #[.slice A0 f0.length c0,.int .i64 f1] 148 (0,0))) : W.cell? ⟨g,0,none⟩ = some (.slice A0 f0.length c0):=(blk_cell h 0).trans rfl
theorem cellS148_1 {W : World} {g : Nat} {A0 : Option Addr} {c0 : Nat} {f0 : List Int} {f1 : Int} (h : W.heap[g]? = some (.cells #[.slice A0 f0.length c0,.int .i64 f1] 148 (0,0))) : W.cell? ⟨g,1,none⟩ = some (.int .i64 f1):=(blk_cell h 1).trans rfl
theorem IsS148.set_1 {w0 W : World} {g : Nat} {f0 : List Int} {f1 : Int} (h : IsS148 w0 W g f0 f1) (x : Int) : IsS148 w0 (W.setCell ⟨g,1,none⟩ (.int .i64 x)) g f0 x:=by
 obtain ⟨A0,c0,hb,hg,hr0⟩:=h
 exact ⟨A0,c0,by simpa using blk_set hb 1 (.int .i64 x),hg,hr0⟩
theorem IsS148.new (w0 W : World) (A0 : Option Addr) (c0 : Nat) (f0 : List Int) (f1 : Int) (hB : Below w0.heap.size w0 W) (hr0 : Kd.C (Kd.int .u8) w0 A0 f0.length f0) : IsS148 w0 (W.alloc (.cells #[.slice A0 f0.length c0,.int .i64 f1] 148)) W.heap.size f0 f1:=⟨A0,c0,by simpa using heap_alloc_new W _,hB.size,hr0⟩
def spec_reader_pick.j0 : Nat → Int → Bool → List Int → Int → Option (Int × Int)
 | 0,_,_,_,_=>none
 | k + 1,x1,x24,x1000,x1001=>if x24 = true then (some (0,x1001)) else (if (wrap64 (x1001 - 1)) < (x1000.length : Int) then (if 0 ≤ (wrap64 (x1001 - 1)) then (if x1 = 0 then (none) else (some (Int.tmod (wrap64 (rd x1000 (wrap64 (x1001 - 1)))) x1,x1001))) else (none)) else (if (x1000.length : Int) = 0 then (none) else (if 0 ≤ (Int.tmod (wrap64 (x1001 - 1)) (x1000.length : Int)) then (if (Int.tmod (wrap64 (x1001 - 1)) (x1000.length : Int)) < (x1000.length : Int) then (if 0 ≤ (Int.tmod (wrap64 ((wrap64 ((wrap64 (x1001 - 1)) * 7)) + 3)) (x1000.length : Int)) then (if (Int.tmod (wrap64 ((wrap64 ((wrap64 (x1001 - 1)) * 7)) + 3)) (x1000.length : Int)) < (x1000.length : Int) then (if x1 = 0 then (none) else (some (Int.tmod (Go.bits .xor .i64 (wrap64 ((wrap64 ((wrap64 ((wrap64 ((wrap64 (rd x1000 (Int.tmod (wrap64 (x1001 - 1)) (x1000.length : Int)))) * 131)) + (wrap64 ((wrap64 (rd x1000 (Int.tmod (wrap64 ((wrap64 ((wrap64 (x1001 - 1)) * 7)) + 3)) (x1000.length : Int)))) * 1117)))) + (wrap64 ((wrap64 (x1001 - 1)) * 29)))) + (wrap64 ((wrap64 (Int.tdiv (wrap64 (x1001 - 1)) (x1000.length : Int))) * 53)))) (wrap64 (Int.tdiv (wrap64 ((wrap64 ((wrap64 ((wrap64 ((wrap64 (rd x1000 (Int.tmod (wrap64 (x1001 - 1)) (x1000.length : Int)))) * 131)) + (wrap64 ((wrap64 (rd x1000 (Int.tmod (wrap64 ((wrap64 ((wrap64 (x1001 - 1)) * 7)) + 3)) (x1000.length : Int)))) * 1117)))) + (wrap64 ((wrap64 (x1001 - 1)) * 29)))) + (wrap64 ((wrap64 (Int.tdiv (wrap64 (x1001 - 1)) (x1000.length : Int))) * 53)))) 64))) x1,x1001))) else (none)) else (none)) else (none)) else (none))))
def spec_reader_pick.f (k : Nat) (s0_0 : List Int) (s0_1 : Int) (a1 : Int) : Option (Int × Int):=if a1 < 1 then (spec_reader_pick.j0 k a1 true s0_0 (wrap64 (s0_1 + 1))) else (spec_reader_pick.j0 k a1 ((s0_0.length : Int) == 0) s0_0 (wrap64 (s0_1 + 1)))
theorem spec_reader_pick.mono_l : ∀ k,(∀ y0 y1 y2 y3,LeO (spec_reader_pick.j0 k y0 y1 y2 y3) (spec_reader_pick.j0 (k + 1) y0 y1 y2 y3))
 | 0=>fun _ _ _ _ r h=>by simp [spec_reader_pick.j0] at h
 | k + 1=>by
  have ih0:=spec_reader_pick.mono_l k
  ·intro y0 y1 y2 y3
   unfold spec_reader_pick.j0
   repeat' first
   | (with_reducible exact ih0 _ _ _ _)
   | (with_reducible exact LeO.refl _)
   | (with_reducible exact LeO.none _)
   | (with_reducible refine LeO.ite ?_ ?_)
   | (with_reducible refine LeO.bind ?_ (fun _=>?_))
   | exact ih0 _ _ _ _
   | exact LeO.none _
   | refine LeO.ite ?_ ?_
   | refine LeO.bind ?_ (fun _=>?_)
theorem spec_reader_pick.mono : ∀ a0 a1 a2 k,LeO (spec_reader_pick.f k a0 a1 a2) (spec_reader_pick.f (k + 1) a0 a1 a2):=by
 intro a0 a1 a2 k
 have ih0:=spec_reader_pick.mono_l k
 unfold spec_reader_pick.f
 repeat' first
   | (with_reducible exact ih0 _ _ _ _)
   | (with_reducible exact LeO.refl _)
   | (with_reducible exact LeO.none _)
   | (with_reducible refine LeO.ite ?_ ?_)
   | (with_reducible refine LeO.bind ?_ (fun _=>?_))
   | exact ih0 _ _ _ _
   | exact LeO.none _
   | refine LeO.ite ?_ ?_
   | refine LeO.bind ?_ (fun _=>?_)
set_option maxHeartbeats 8000000 in
set_option maxRecDepth 100000 in
theorem spec_reader_pick.calls (k : Nat) (g : Nat) (s0_0 : List Int) (s0_1 : Int) (a1 : Int) (r1 : Int) (r2 : Int) (w0 w : World) (hI : IsS148 w0 w g s0_0 s0_1) (hB : Below w0.heap.size w0 w) (h : spec_reader_pick.f k s0_0 s0_1 a1 = some (r1,r2)) :
  Calls Try.prog 110 #[.pointer (some ⟨g,0,none⟩),.int .i64 a1] w fun e w'=>e = .returned (.int .i64 r1) ∧ IsS148 w0 w' g s0_0 r2 ∧ Below w0.heap.size w0 w' ∧ KeepBut w w' g none:=by
 have HI0:=a0_ hI
 have HK:=a0_ (KeepBut.refl w g none)
 have HL:=a0_ hB.size
 clear hI
 have HW0:=a0_ hB.size
 have HB:=a0_ hB
 clear hB
 have H : (if a1 < 1 then (spec_reader_pick.j0 k a1 true s0_0 (wrap64 (s0_1 + 1))) else (spec_reader_pick.j0 k a1 ((s0_0.length : Int) == 0) s0_0 (wrap64 (s0_1 + 1)))) = some (r1,r2):=h
 clear h
 have HC3:=a0_ H
 clear H
 obtain ⟨ASz4_0,cSz4_0,HGz4,hgz4,HSz4_0⟩:=HI0.out
 have hcz4_0:=cellS148_0 HGz4
 have hcz4_1:=cellS148_1 HGz4
 have hfz4_1:=blk_frozen HGz4 1
 clear HGz4 hgz4
 go_enter Try.func110,Try.ntmps110
 go_upto_region 2 with (fail)
 repeat (go_quiet (fail);go_upto_region 2 with (fail))
 go_cut [24] (fun v24 wc=>∃ (kq : Nat) (x24_2 : Bool),v24 = .bool x24_2 ∧ Aside0 (spec_reader_pick.j0 kq a1 x24_2 s0_0 (wrap64 (s0_1 + 1)) = some (r1,r2)) ∧ Aside0 (kq ≤ k) ∧ Aside0 (IsS148 w0 wc g s0_0 (wrap64 (s0_1 + 1))) ∧ Aside0 (KeepBut w wc g none) ∧ Aside0 (Below w0.heap.size w0 wc))
 case first =>
  have H:=HC3.out
  clear HC3
  by_cases c5 : a1 < 1
  ·rw [if_pos c5] at H
   have c5b0 : decide (a1 < 1) = true:=decide_eq_true c5
   clear c5
   (first | rw [c5b0] | (simp only [i64_w,i32_w];rw [c5b0]) | skip)
   have H':=a0_ H
   clear H
   go_wp2
   repeat (go_quiet (fail);try go_wp2)
   go_meet
   case rel=>exact ⟨_,(true),(by first | rfl | (simp;done) | (simp [*];done)),H',⟨by first | omega | exact Nat.le_refl _⟩,⟨by repeat (first | (with_reducible first | exact HI0.out | apply IsS148.alloc | apply IsS148.drewN | apply IsS148.drew | apply IsS148.set_1) | exact HI0.out)⟩,⟨hk_⟩,⟨by repeat (first | (with_reducible first | exact HB.out | apply below_alloc | apply pw_below_drewN | apply below_drew1 | refine below_set ?_ (IsS148.ge HI0.out)) | exact HB.out)⟩⟩
  ·rw [if_neg c5] at H
   have c5b0 : decide (a1 < 1) = false:=decide_eq_false c5
   clear c5
   (first | rw [c5b0] | (simp only [i64_w,i32_w];rw [c5b0]) | skip)
   have H':=a0_ H
   clear H
   obtain ⟨ASz6_0,cSz6_0,HGz6,hgz6,HSz6_0⟩:=HI0.out
   have hcz6_0:=cellS148_0 HGz6
   have hcz6_1:=cellS148_1 HGz6
   have hfz6_1:=blk_frozen HGz6 1
   clear HGz6 hgz6
   go_wp2
   repeat (go_quiet (fail);try go_wp2)
   go_meet
   case rel=>exact ⟨_,(((s0_0.length : Int) == 0)),(by first | rfl | (simp;done) | (simp [*];done)),H',⟨by first | omega | exact Nat.le_refl _⟩,⟨by repeat (first | (with_reducible first | exact HI0.out | apply IsS148.alloc | apply IsS148.drewN | apply IsS148.drew | apply IsS148.set_1) | exact HI0.out)⟩,⟨hk_⟩,⟨by repeat (first | (with_reducible first | exact HB.out | apply below_alloc | apply pw_below_drewN | apply below_drew1 | refine below_set ?_ (IsS148.ge HI0.out)) | exact HB.out)⟩⟩
 case rest =>
  clear HC3
  try clear c1
  try clear p2
  try clear c5
  try clear c5b0
  try clear p6
  try clear hcz4_0
  try clear hcz4_1
  try clear hcz6_0
  try clear hcz6_1
  try clear hfz4_1
  try clear hfz6_1
  obtain ⟨kq,x24_2,rfl,HA,HJ2,HI0,HK,HB⟩:=hcut
  cases kq with
  | zero=>exact absurd HA.out (by simp [spec_reader_pick.j0])
  | succ kj2 =>
   have H:=HA.out
   clear HA
   simp only [spec_reader_pick.j0] at H
   by_cases c7 : x24_2 = true
   ·subst c7
    have H1 : (some (0,(wrap64 (s0_1 + 1)))) = some (r1,r2):=by rw [if_pos rfl] at H;exact H
    clear H
    have H:=H1
    clear H1
    simp only [Option.some.injEq,Prod.mk.injEq] at H
    obtain ⟨rfl,rfl⟩:=H
    go_wp2
    repeat (go_quiet (fail);try go_wp2)
    go_ret
    exact ⟨by first | rfl | (simp [errW_none,errW_some] <;> rfl) | (simp [*,errW_none,errW_some] <;> rfl),by repeat (first | (with_reducible first | exact HI0.out | apply IsS148.alloc | apply IsS148.drewN | apply IsS148.drew | apply IsS148.set_1) | exact HI0.out),by repeat (first | (with_reducible first | exact HB.out | apply below_alloc | apply pw_below_drewN | apply below_drew1 | refine below_set ?_ (IsS148.ge HI0.out)) | exact HB.out),hk_⟩
   ·replace c7:=Bool.eq_false_iff.mpr c7
    subst c7
    have H1 : (if (wrap64 ((wrap64 (s0_1 + 1)) - 1)) < (s0_0.length : Int) then (if 0 ≤ (wrap64 ((wrap64 (s0_1 + 1)) - 1)) then (if a1 = 0 then (none) else (some (Int.tmod (wrap64 (rd s0_0 (wrap64 ((wrap64 (s0_1 + 1)) - 1)))) a1,(wrap64 (s0_1 + 1))))) else (none)) else (if (s0_0.length : Int) = 0 then (none) else (if 0 ≤ (Int.tmod (wrap64 ((wrap64 (s0_1 + 1)) - 1)) (s0_0.length : Int)) then (if (Int.tmod (wrap64 ((wrap64 (s0_1 + 1)) - 1)) (s0_0.length : Int)) < (s0_0.length : Int) then (if 0 ≤ (Int.tmod (wrap64 ((wrap64 ((wrap64 ((wrap64 (s0_1 + 1)) - 1)) * 7)) + 3)) (s0_0.length : Int)) then (if (Int.tmod (wrap64 ((wrap64 ((wrap64 ((wrap64 (s0_1 + 1)) - 1)) * 7)) + 3)) (s0_0.length : Int)) < (s0_0.length : Int) then (if a1 = 0 then (none) else (some (Int.tmod (Go.bits .xor .i64 (wrap64 ((wrap64 ((wrap64 ((wrap64 ((wrap64 (rd s0_0 (Int.tmod (wrap64 ((wrap64 (s0_1 + 1)) - 1)) (s0_0.length : Int)))) * 131)) + (wrap64 ((wrap64 (rd s0_0 (Int.tmod (wrap64 ((wrap64 ((wrap64 ((wrap64 (s0_1 + 1)) - 1)) * 7)) + 3)) (s0_0.length : Int)))) * 1117)))) + (wrap64 ((wrap64 ((wrap64 (s0_1 + 1)) - 1)) * 29)))) + (wrap64 ((wrap64 (Int.tdiv (wrap64 ((wrap64 (s0_1 + 1)) - 1)) (s0_0.length : Int))) * 53)))) (wrap64 (Int.tdiv (wrap64 ((wrap64 ((wrap64 ((wrap64 ((wrap64 (rd s0_0 (Int.tmod (wrap64 ((wrap64 (s0_1 + 1)) - 1)) (s0_0.length : Int)))) * 131)) + (wrap64 ((wrap64 (rd s0_0 (Int.tmod (wrap64 ((wrap64 ((wrap64 ((wrap64 (s0_1 + 1)) - 1)) * 7)) + 3)) (s0_0.length : Int)))) * 1117)))) + (wrap64 ((wrap64 ((wrap64 (s0_1 + 1)) - 1)) * 29)))) + (wrap64 ((wrap64 (Int.tdiv (wrap64 ((wrap64 (s0_1 + 1)) - 1)) (s0_0.length : Int))) * 53)))) 64))) a1,(wrap64 (s0_1 + 1))))) else (none)) else (none)) else (none)) else (none)))) = some (r1,r2):=by rw [if_neg (show ¬ (false = true) by decide)] at H;exact H
    clear H
    have H:=H1
    clear H1
    by_cases c8 : (wrap64 ((wrap64 (s0_1 + 1)) - 1)) < (s0_0.length : Int)
    ·rw [if_pos c8] at H
     have c8b0 : decide ((wrap64 ((wrap64 (s0_1 + 1)) - 1)) < (s0_0.length : Int)) = true:=decide_eq_true c8
     clear c8
     obtain ⟨ji9,hji9⟩ : ∃ j_ : Int,(wrap64 ((wrap64 (s0_1 + 1)) - 1)) = j_:=⟨_,rfl⟩
     replace H : (if 0 ≤ (ji9) then (if a1 = 0 then (none) else (some (Int.tmod (wrap64 (rd s0_0 (ji9))) a1,(wrap64 (s0_1 + 1))))) else (none)) = some (r1,r2):=by first | (rw [hji9] at H;exact H) | (simp only [hji9] at H ⊢;exact H)
     (try rw [hji9] at c8b0)
     have hji9w : (IntKind.i64.wrap ((wrap64 (s0_1 + 1)) - 1)) = ji9:=(i64_w _).trans hji9
     by_cases c10 : 0 ≤ (ji9)
     ·rw [if_pos c10] at H
      have c10b0 : decide (0 ≤ (ji9)) = true:=decide_eq_true c10
      clear c10
      by_cases c11 : a1 = 0
      ·rw [if_pos c11] at H
       exact absurd H (by simp)
      ·rw [if_neg c11] at H
       have c11b0 : (a1 == 0) = false:=beq_eq_false_iff_ne.mpr c11
       have c11b1 : (a1 != 0) = true:=bne_iff_ne.mpr c11
       simp only [Option.some.injEq,Prod.mk.injEq] at H
       obtain ⟨rfl,rfl⟩:=H
       obtain ⟨ASz12_0,cSz12_0,HGz12,hgz12,HSz12_0⟩:=HI0.out
       have hcz12_0:=cellS148_0 HGz12
       have hcz12_1:=cellS148_1 HGz12
       have hfz12_1:=blk_frozen HGz12 1
       clear HGz12 hgz12
       have p1 : 0 ≤ ((ji9) : Int):=of_decide_eq_true (by first | (with_reducible assumption) | assumption)
       have q1 : (ji9) < (s0_0.length : Int):=of_decide_eq_true (by first | (with_reducible assumption) | assumption)
       obtain ⟨ad1,e1,hx1_0⟩:=Kd.at_int HSz12_0 (ji9) p1 q1
       cases e1
       replace hx1_0:=pw_cell_below HB.out hx1_0
       replace p1:=eq_true p1
       replace q1:=eq_true q1
       go_wp2
       repeat (go_quiet (fail);try go_wp2)
       go_ret
       exact ⟨by first | rfl | (simp [errW_none,errW_some] <;> rfl) | (simp only [← hji9];first | rfl | (simp [errW_none,errW_some] <;> rfl)) | (simp [*,errW_none,errW_some] <;> rfl),by repeat (first | (with_reducible first | exact HI0.out | apply IsS148.alloc | apply IsS148.drewN | apply IsS148.drew | apply IsS148.set_1) | exact HI0.out),by repeat (first | (with_reducible first | exact HB.out | apply below_alloc | apply pw_below_drewN | apply below_drew1 | refine below_set ?_ (IsS148.ge HI0.out)) | exact HB.out),hk_⟩
     ·rw [if_neg c10] at H
      exact absurd H (by simp)
    ·rw [if_neg c8] at H
     have c8b0 : decide ((wrap64 ((wrap64 (s0_1 + 1)) - 1)) < (s0_0.length : Int)) = false:=decide_eq_false c8
     clear c8
     by_cases c13 : (s0_0.length : Int) = 0
     ·rw [if_pos c13] at H
      exact absurd H (by simp)
     ·rw [if_neg c13] at H
      have c13b0 : ((s0_0.length : Int) == 0) = false:=beq_eq_false_iff_ne.mpr c13
      have c13b1 : ((s0_0.length : Int) != 0) = true:=bne_iff_ne.mpr c13
      have c13b2 : ¬ (s0_0 = []):=fun h_=>c13 (by rw [h_];rfl)
      obtain ⟨ji14,hji14⟩ : ∃ j_ : Int,(Int.tmod (wrap64 ((wrap64 (s0_1 + 1)) - 1)) (s0_0.length : Int)) = j_:=⟨_,rfl⟩
      replace H : (if 0 ≤ (ji14) then (if (ji14) < (s0_0.length : Int) then (if 0 ≤ (Int.tmod (wrap64 ((wrap64 ((wrap64 ((wrap64 (s0_1 + 1)) - 1)) * 7)) + 3)) (s0_0.length : Int)) then (if (Int.tmod (wrap64 ((wrap64 ((wrap64 ((wrap64 (s0_1 + 1)) - 1)) * 7)) + 3)) (s0_0.length : Int)) < (s0_0.length : Int) then (if a1 = 0 then (none) else (some (Int.tmod (Go.bits .xor .i64 (wrap64 ((wrap64 ((wrap64 ((wrap64 ((wrap64 (rd s0_0 (ji14))) * 131)) + (wrap64 ((wrap64 (rd s0_0 (Int.tmod (wrap64 ((wrap64 ((wrap64 ((wrap64 (s0_1 + 1)) - 1)) * 7)) + 3)) (s0_0.length : Int)))) * 1117)))) + (wrap64 ((wrap64 ((wrap64 (s0_1 + 1)) - 1)) * 29)))) + (wrap64 ((wrap64 (Int.tdiv (wrap64 ((wrap64 (s0_1 + 1)) - 1)) (s0_0.length : Int))) * 53)))) (wrap64 (Int.tdiv (wrap64 ((wrap64 ((wrap64 ((wrap64 ((wrap64 (rd s0_0 (ji14))) * 131)) + (wrap64 ((wrap64 (rd s0_0 (Int.tmod (wrap64 ((wrap64 ((wrap64 ((wrap64 (s0_1 + 1)) - 1)) * 7)) + 3)) (s0_0.length : Int)))) * 1117)))) + (wrap64 ((wrap64 ((wrap64 (s0_1 + 1)) - 1)) * 29)))) + (wrap64 ((wrap64 (Int.tdiv (wrap64 ((wrap64 (s0_1 + 1)) - 1)) (s0_0.length : Int))) * 53)))) 64))) a1,(wrap64 (s0_1 + 1))))) else (none)) else (none)) else (none)) else (none)) = some (r1,r2):=by first | (rw [hji14] at H;exact H) | (simp only [hji14] at H ⊢;exact H)
      by_cases c15 : 0 ≤ (ji14)
      ·rw [if_pos c15] at H
       have c15b0 : decide (0 ≤ (ji14)) = true:=decide_eq_true c15
       clear c15
       by_cases c16 : (ji14) < (s0_0.length : Int)
       ·rw [if_pos c16] at H
        have c16b0 : decide ((ji14) < (s0_0.length : Int)) = true:=decide_eq_true c16
        clear c16
        obtain ⟨ji17,hji17⟩ : ∃ j_ : Int,(Int.tmod (wrap64 ((wrap64 ((wrap64 ((wrap64 (s0_1 + 1)) - 1)) * 7)) + 3)) (s0_0.length : Int)) = j_:=⟨_,rfl⟩
        replace H : (if 0 ≤ (ji17) then (if (ji17) < (s0_0.length : Int) then (if a1 = 0 then (none) else (some (Int.tmod (Go.bits .xor .i64 (wrap64 ((wrap64 ((wrap64 ((wrap64 ((wrap64 (rd s0_0 (ji14))) * 131)) + (wrap64 ((wrap64 (rd s0_0 (ji17))) * 1117)))) + (wrap64 ((wrap64 ((wrap64 (s0_1 + 1)) - 1)) * 29)))) + (wrap64 ((wrap64 (Int.tdiv (wrap64 ((wrap64 (s0_1 + 1)) - 1)) (s0_0.length : Int))) * 53)))) (wrap64 (Int.tdiv (wrap64 ((wrap64 ((wrap64 ((wrap64 ((wrap64 (rd s0_0 (ji14))) * 131)) + (wrap64 ((wrap64 (rd s0_0 (ji17))) * 1117)))) + (wrap64 ((wrap64 ((wrap64 (s0_1 + 1)) - 1)) * 29)))) + (wrap64 ((wrap64 (Int.tdiv (wrap64 ((wrap64 (s0_1 + 1)) - 1)) (s0_0.length : Int))) * 53)))) 64))) a1,(wrap64 (s0_1 + 1))))) else (none)) else (none)) = some (r1,r2):=by first | (rw [hji17] at H;exact H) | (simp only [hji17] at H ⊢;exact H)
        by_cases c18 : 0 ≤ (ji17)
        ·rw [if_pos c18] at H
         have c18b0 : decide (0 ≤ (ji17)) = true:=decide_eq_true c18
         clear c18
         by_cases c19 : (ji17) < (s0_0.length : Int)
         ·rw [if_pos c19] at H
          have c19b0 : decide ((ji17) < (s0_0.length : Int)) = true:=decide_eq_true c19
          clear c19
          by_cases c20 : a1 = 0
          ·rw [if_pos c20] at H
           exact absurd H (by simp)
          ·rw [if_neg c20] at H
           have c20b0 : (a1 == 0) = false:=beq_eq_false_iff_ne.mpr c20
           have c20b1 : (a1 != 0) = true:=bne_iff_ne.mpr c20
           simp only [Option.some.injEq,Prod.mk.injEq] at H
           obtain ⟨rfl,rfl⟩:=H
           obtain ⟨ASz21_0,cSz21_0,HGz21,hgz21,HSz21_0⟩:=HI0.out
           have hcz21_0:=cellS148_0 HGz21
           have hcz21_1:=cellS148_1 HGz21
           have hfz21_1:=blk_frozen HGz21 1
           clear HGz21 hgz21
           have p2 : 0 ≤ ((ji14) : Int):=of_decide_eq_true (by first | (with_reducible assumption) | assumption)
           have q2 : (ji14) < (s0_0.length : Int):=of_decide_eq_true (by first | (with_reducible assumption) | assumption)
           obtain ⟨ad2,e2,hx2_0⟩:=Kd.at_int HSz21_0 (ji14) p2 q2
           cases e2
           replace hx2_0:=pw_cell_below HB.out hx2_0
           replace p2:=eq_true p2
           replace q2:=eq_true q2
           have p3 : 0 ≤ ((ji17) : Int):=of_decide_eq_true (by first | (with_reducible assumption) | assumption)
           have q3 : (ji17) < (s0_0.length : Int):=of_decide_eq_true (by first | (with_reducible assumption) | assumption)
           obtain ⟨ad3,e3,hx3_0⟩:=Kd.at_int HSz21_0 (ji17) p3 q3
           obtain rfl : ad2 = ad3:=(by injection e3)
           replace hx3_0:=pw_cell_below HB.out hx3_0
           replace p3:=eq_true p3
           replace q3:=eq_true q3
           go_wp2
           repeat (go_quiet (fail);try go_wp2)
           go_ret
           exact ⟨by first | rfl | (simp [errW_none,errW_some] <;> rfl) | (simp only [← hji14,← hji17];first | rfl | (simp [errW_none,errW_some] <;> rfl)) | (simp [*,errW_none,errW_some] <;> rfl),by repeat (first | (with_reducible first | exact HI0.out | apply IsS148.alloc | apply IsS148.drewN | apply IsS148.drew | apply IsS148.set_1) | exact HI0.out),by repeat (first | (with_reducible first | exact HB.out | apply below_alloc | apply pw_below_drewN | apply below_drew1 | refine below_set ?_ (IsS148.ge HI0.out)) | exact HB.out),hk_⟩
         ·rw [if_neg c19] at H
          exact absurd H (by simp)
        ·rw [if_neg c18] at H
         exact absurd H (by simp)
       ·rw [if_neg c16] at H
        exact absurd H (by simp)
      ·rw [if_neg c15] at H
       exact absurd H (by simp)
theorem spec_pick_ev (b : List Int) (p n : Int) (hb : byL b) (h0 : 0 ≤ p) (hp : p ≤ 1099511627776) : ∃ x,Ev (fun k=>spec_reader_pick.f k b p n) (x,p + 1) ∧ 0 ≤ x ∧ (1 ≤ n → x < n) ∧ (n < 1 → x = 0):=by
 have e1 : wrap64 (p + 1) = p + 1:=wrap_in (by omega) (by omega)
 have e2 : wrap64 (p + 1 - 1) = p:=by rw [show p + 1 - 1 = p by omega];exact wrap_in (by omega) (by omega)
 unfold spec_reader_pick.f
 rw [e1]
 by_cases hn : n < 1
 ·refine ⟨0,Ev.pos hn (Ev.succ ?_),Int.le_refl _,fun h=>by omega,fun _=>rfl⟩
  simp only [spec_reader_pick.j0]
  exact Ev.pos trivial (Ev.const rfl)
 by_cases hz : ((b.length : Int) == 0) = true
 ·refine ⟨0,Ev.neg hn (Ev.succ ?_),Int.le_refl _,fun h=>by omega,fun _=>rfl⟩
  rw [hz]
  simp only [spec_reader_pick.j0]
  exact Ev.pos trivial (Ev.const rfl)
 have hz2 : ((b.length : Int) == 0) = false:=by simpa using hz
 have hz3 : 1 ≤ (b.length : Int):=by
  have:=beq_eq_false_iff_ne.1 hz2
  omega
 have hl:=hb.1
 have hn1 : 1 ≤ n:=by omega
 by_cases hlt : p < (b.length : Int)
 ·have hr:=byL_rd hb p
  have hm:=tmod_in hr.1 hn1
  refine ⟨Int.tmod (rd b p) n,Ev.neg hn (Ev.succ ?_),hm.1,fun _=>hm.2,fun h=>by omega⟩
  rw [hz2]
  simp only [spec_reader_pick.j0,e2]
  refine Ev.neg (by simp) (Ev.pos hlt (Ev.pos h0 (Ev.neg (by omega) (Ev.const ?_))))
  rw [wrap_in (i:=rd b p) (by omega) (by omega)]
 ·have m1:=tmod_in h0 hz3
  have e7 : wrap64 (wrap64 (p * 7) + 3) = p * 7 + 3:=by rw [wrap_in (i:=p * 7) (by omega) (by omega),wrap_in (by omega) (by omega)]
  have m2:=tmod_in (x:=p * 7 + 3) (by omega) hz3
  have r1:=byL_rd hb (Int.tmod p (b.length : Int))
  have r2:=byL_rd hb (Int.tmod (p * 7 + 3) (b.length : Int))
  have dq : 0 ≤ Int.tdiv p (b.length : Int) ∧ Int.tdiv p (b.length : Int) ≤ p:=by
   rw [Int.tdiv_eq_ediv_of_nonneg h0]
   exact ⟨Int.ediv_nonneg h0 (by omega),Int.ediv_le_self _ h0⟩
  generalize hx1 : rd b (Int.tmod p (b.length : Int)) = x1 at r1
  generalize hx2 : rd b (Int.tmod (p * 7 + 3) (b.length : Int)) = x2 at r2
  generalize hx3 : Int.tdiv p (b.length : Int) = x3 at dq
  have es : wrap64 (wrap64 (wrap64 (wrap64 (wrap64 x1 * 131) + wrap64 (wrap64 x2 * 1117)) + wrap64 (p * 29)) + wrap64 (wrap64 x3 * 53)) = x1 * 131 + x2 * 1117 + p * 29 + x3 * 53:=by
   rw [wrap_in (i:=x1) (by omega) (by omega),wrap_in (i:=x2) (by omega) (by omega),wrap_in (i:=x3) (by omega) (by omega),wrap_in (i:=x1 * 131) (by omega) (by omega),wrap_in (i:=x2 * 1117) (by omega) (by omega),wrap_in (i:=x3 * 53) (by omega) (by omega),wrap_in (i:=p * 29) (by omega) (by omega),wrap_in (i:=x1 * 131 + x2 * 1117) (by omega) (by omega),wrap_in (i:=x1 * 131 + x2 * 1117 + p * 29) (by omega) (by omega),wrap_in (by omega) (by omega)]
  obtain ⟨s,hs⟩ : ∃ s,s = x1 * 131 + x2 * 1117 + p * 29 + x3 * 53:=⟨_,rfl⟩
  have s0 : 0 ≤ s ∧ s ≤ 999999999999999:=by omega
  have d0 : 0 ≤ Int.tdiv s 64 ∧ Int.tdiv s 64 ≤ s:=by
   rw [Int.tdiv_eq_ediv_of_nonneg s0.1]
   exact ⟨Int.ediv_nonneg s0.1 (by omega),Int.ediv_le_self _ s0.1⟩
  have hxr:=xor_nonneg s (Int.tdiv s 64) s0.1 (by omega) d0.1 (by omega)
  have hm:=tmod_in hxr hn1
  refine ⟨Int.tmod (Go.bits .xor .i64 s (Int.tdiv s 64)) n,Ev.neg hn (Ev.succ ?_),hm.1,fun _=>hm.2,fun h=>by omega⟩
  rw [hz2]
  simp only [spec_reader_pick.j0,e2,e7,hx1,hx2,hx3,es,← hs]
  refine Ev.neg (by simp) (Ev.neg hlt (Ev.neg (by omega) (Ev.pos m1.1 (Ev.pos m1.2 (Ev.pos m2.1 (Ev.pos m2.2 (Ev.neg (by omega) (Ev.const ?_))))))))
  rw [wrap_in (i:=Int.tdiv s 64) (by omega) (by omega)]
end Go.Proofs.Ytacgehaipacehaa.P
namespace Go.Proofs.Ytacgehaipacehaa.P
open Go.RowKit Go.Proofs.YtacgehaipacehaaW.PrintWords Go.Proofs.YtacgehaipacehaaW.PrintLast Go.Proofs.YtacgehaipacehaaW.PrintMore
theorem is0_ {w0 W : World} {g : Nat} {f0 : List Int} {f1 : Int} (h : IsS148 w0 W g f0 f1 := by repeat (first | (with_reducible first | exact HI0.out | apply IsS148.alloc | apply IsS148.drewN | apply IsS148.drew | apply IsS148.set_1 | refine IsS148.far ?_ (Aside0.out (by assumption)) _) | exact HI0.out)) : IsS148 w0 W g f0 f1 := h
theorem hbi0_ {n : Nat} {w w' : World} (h : Below n w w' := by repeat (first | (with_reducible first | exact HB.out | apply below_alloc | apply pw_below_drewN | apply below_drew1 | refine below_set ?_ (IsS148.ge HI0.out) | refine below_set ?_ (Aside0.out (by assumption))) | exact HB.out)) : Below n w w' := h
theorem is5_ {w0 W : World} {g : Nat} {f0 : List Int} {f1 : Int} (h : IsS148 w0 W g f0 f1 := by repeat (first | (with_reducible first | exact HI5.out | apply IsS148.alloc | apply IsS148.drewN | apply IsS148.drew | apply IsS148.set_1 | refine IsS148.far ?_ (Aside0.out (by assumption)) _) | exact HI5.out)) : IsS148 w0 W g f0 f1 := h
theorem hbi5_ {n : Nat} {w w' : World} (h : Below n w w' := by repeat (first | (with_reducible first | exact HB.out | apply below_alloc | apply pw_below_drewN | apply below_drew1 | refine below_set ?_ (IsS148.ge HI5.out) | refine below_set ?_ (Aside0.out (by assumption))) | exact HB.out)) : Below n w w' := h
end Go.Proofs.Ytacgehaipacehaa.P
namespace Go.Proofs.Ytacgehaipacehaa.P
open Go.RowKit Go.Proofs.YtacgehaipacehaaW.PrintWords Go.Proofs.YtacgehaipacehaaW.PrintLast Go.Proofs.YtacgehaipacehaaW.PrintMore
attribute [local go_sem] max2_int min2_int max_two min_two max_three min_three max_four min_four
set_option linter.unusedVariables false
set_option linter.unusedSimpArgs false
def gT (t : List Cls) : Prop:=(∀ x ∈ t,x.f0.size ≤ 7) ∧ ∀ j,j < t.length → (j = 0 → (t.getD j z125).f1 = -1) ∧ (0 < j → 0 ≤ (t.getD j z125).f1 ∧ (t.getD j z125).f1 ≤ (j : Int) - 1)
theorem smT_mk {t : List Cls} (h : ∀ x ∈ t,x.f0.size ≤ 7) : smT t = true:=by
 unfold smT
 rw [List.all_eq_true]
 intro x hx
 have:=h x hx
 exact decide_eq_true (by omega)
theorem gT_snoc {t : List Cls} (h : gT t) (hl : 1 ≤ t.length) (x : Cls) (hx : x.f0.size ≤ 7) (h0 : 0 ≤ x.f1) (h1 : x.f1 ≤ (t.length : Int) - 1) : gT (t ++ [x]):=by
 refine ⟨fun y hy=>?_,fun j hj=>?_⟩
 ·rcases List.mem_append.1 hy with hy | hy
  ·exact h.1 y hy
  ·obtain rfl : y = x:=by simpa using hy
   exact hx
 ·rw [List.length_append,List.length_singleton] at hj
  by_cases e : j < t.length
  ·have : (t ++ [x]).getD j z125 = t.getD j z125:=by simp [List.getD,List.getElem?_append_left e]
   rw [this]
   exact h.2 j e
  ·obtain rfl : j = t.length:=by omega
   have : (t ++ [x]).getD t.length z125 = x:=by simp [List.getD]
   rw [this]
   exact ⟨fun h=>by omega,fun _=>⟨h0,h1⟩⟩
theorem set_mem {α : Type} {l : List α} {i : Nat} {v x : α} (h : x ∈ l.set i v) : x = v ∨ x ∈ l:=by
 rcases List.mem_or_eq_of_mem_set h with h | h
 ·exact Or.inr h
 ·exact Or.inl h
end Go.Proofs.Ytacgehaipacehaa.P
namespace Go.Proofs.Ytacgehaipacehaa.P
open Go.RowKit Go.Proofs.YtacgehaipacehaaW.PrintWords Go.Proofs.YtacgehaipacehaaW.PrintLast Go.Proofs.YtacgehaipacehaaW.PrintMore
attribute [local go_sem] max2_int min2_int max_two min_two max_three min_three max_four min_four
set_option linter.unusedVariables false
set_option linter.unusedSimpArgs false
def spec_reader_one.f (k : Nat) (s0_0 : List Int) (s0_1 : Int) (l1 : List Int) : Option (Int × Int):=(spec_reader_pick.f k s0_0 s0_1 (l1.length : Int)).bind fun bt1=>(if 0 ≤ bt1.1 then (if bt1.1 < (l1.length : Int) then (some (rd l1 bt1.1,bt1.2)) else (none)) else (none))
theorem spec_reader_one.mono : ∀ a0 a1 a2 k,LeO (spec_reader_one.f k a0 a1 a2) (spec_reader_one.f (k + 1) a0 a1 a2):=by
 intro a0 a1 a2 k
 unfold spec_reader_one.f
 repeat' first
   | (with_reducible exact spec_reader_pick.mono _ _ _ _)
   | (with_reducible exact LeO.refl _)
   | (with_reducible exact LeO.none _)
   | (with_reducible refine LeO.ite ?_ ?_)
   | (with_reducible refine LeO.bind ?_ (fun _=>?_))
   | exact spec_reader_pick.mono _ _ _ _
   | exact LeO.none _
   | refine LeO.ite ?_ ?_
   | refine LeO.bind ?_ (fun _=>?_)
set_option maxHeartbeats 8000000 in
set_option maxRecDepth 100000 in
theorem spec_reader_one.calls (k : Nat) (g : Nat) (s0_0 : List Int) (s0_1 : Int) (A1 : Option Addr) (c1 : Nat) (l1 : List Int) (r1 : Int) (r2 : Int) (w0 w : World) (hI : IsS148 w0 w g s0_0 s0_1) (hB : Below w0.heap.size w0 w) (hr1 : Kd.C (Kd.int .i64) w A1 l1.length l1) (hc1 : l1.length ≤ c1) (hf1 : ∀ ad,A1 = some ad → 0 < l1.length → ad.block ≠ g) (h : spec_reader_one.f k s0_0 s0_1 l1 = some (r1,r2)) :
  Calls Try.prog 146 #[.pointer (some ⟨g,0,none⟩),.slice A1 l1.length c1] w fun e w'=>e = .returned (.int .i64 r1) ∧ IsS148 w0 w' g s0_0 r2 ∧ Below w0.heap.size w0 w' ∧ KeepBut w w' g none:=by
 have HR1:=a0_ hr1
 have HC1:=a0_ hc1
 clear hr1 hc1
 have HI0:=a0_ hI
 have HK:=a0_ (KeepBut.refl w g none)
 have HL:=a0_ hB.size
 clear hI
 have HW0:=a0_ hB.size
 have HB:=a0_ hB
 clear hB
 have H : ((spec_reader_pick.f k s0_0 s0_1 (l1.length : Int)).bind fun bt1=>(if 0 ≤ bt1.1 then (if bt1.1 < (l1.length : Int) then (some (rd l1 bt1.1,bt1.2)) else (none)) else (none))) = some (r1,r2):=h
 clear h
 replace H:=Option.bind_eq_some_iff.mp H
 obtain ⟨⟨t1,t2⟩,A30,H⟩:=H
 try dsimp only at H
 have A3:=a0_ A30
 clear A30
 by_cases c4 : 0 ≤ t1
 ·rw [if_pos c4] at H
  have c4b0 : decide (0 ≤ t1) = true:=decide_eq_true c4
  clear c4
  by_cases c5 : t1 < (l1.length : Int)
  ·rw [if_pos c5] at H
   have c5b0 : decide (t1 < (l1.length : Int)) = true:=decide_eq_true c5
   clear c5
   simp only [Option.some.injEq,Prod.mk.injEq] at H
   obtain ⟨rfl,rfl⟩:=H
   go_enter Try.func146,Try.ntmps146
   go_wp2_with (first | ((with_reducible refine gate_callee (f:=110) rfl ?_);refine goesL_ (some 9) rfl rfl Try.func110 (by kernel_rfl) rfl #[.pointer (some ⟨g,0,none⟩),.int .i64 (l1.length : Int)] rfl lm_ ?_;(with_reducible refine (spec_reader_pick.calls k g s0_0 s0_1 (l1.length : Int) t1 t2 w0 _ ?side1 ?side2 A3.out).mono ?_);(case side1=>exact is0_);(case side2=>exact hbi0_);rintro e w6 ⟨rfl,hi,hb,hk⟩;refine ⟨_,rfl,?_⟩;replace HK:=a0_ (KeepBut.trans (w:=w) hk_ hk (.inl rfl));replace HI0:=a0_ (hi);replace HB:=a0_ (hb);(try clear hb);have p3 : 0 ≤ (t1 : Int):=of_decide_eq_true (by first | (with_reducible assumption) | assumption);have q3 : t1 < (l1.length : Int):=of_decide_eq_true (by first | (with_reducible assumption) | assumption);obtain ⟨ad3,e3,hx3_0⟩:=Kd.at_int HR1.out t1 p3 q3;cases e3;replace hx3_0:=keep_cell HK.out hx3_0 (by first | (rw [add_block];exact hf1 _ rfl (by omega)) | exact hf1 _ rfl (by omega) | exact hf1 ad3 rfl (by omega));replace p3:=eq_true p3;replace q3:=eq_true q3))
   go_ret
   exact ⟨by first | rfl | (simp [errW_none,errW_some] <;> rfl) | (simp [*,errW_none,errW_some] <;> rfl),is0_,hbi0_,hk_⟩
  ·rw [if_neg c5] at H
   exact absurd H (by simp)
 ·rw [if_neg c4] at H
  exact absurd H (by simp)
theorem spec_one_ev (b : List Int) (p : Int) (l : List Int) (hb : byL b) (h0 : 0 ≤ p) (hp : p ≤ 1099511627776) (hl : 1 ≤ l.length) : ∃ x,Ev (fun k=>spec_reader_one.f k b p l) (x,p + 1) ∧ x ∈ l:=by
 obtain ⟨x,hx,x0,x1,_⟩:=spec_pick_ev b p (l.length : Int) hb h0 hp
 have hlt:=x1 (by omega)
 have hn : x.toNat < l.length:=by omega
 refine ⟨rd l x,Ev.bind hx (Ev.pos x0 (Ev.pos hlt (Ev.const rfl))),?_⟩
 unfold rd
 rw [List.getD_eq_getElem?_getD,List.getElem?_eq_getElem hn]
 exact List.getElem_mem hn
end Go.Proofs.Ytacgehaipacehaa.P
namespace Go.Proofs.Ytacgehaipacehaa.P
open Go.RowKit Go.Proofs.YtacgehaipacehaaW.PrintWords Go.Proofs.YtacgehaipacehaaW.PrintLast Go.Proofs.YtacgehaipacehaaW.PrintMore
attribute [local go_sem] max2_int min2_int max_two min_two max_three min_three max_four min_four
set_option linter.unusedVariables false
set_option linter.unusedSimpArgs false
def spec_goodTree.l0 : Nat → List ByteArray → Int → Int → List Int → Int → List (S125) → Option ((List (S125)) × Int)
 | 0,_,_,_,_,_,_=>none
 | k + 1,x3,x5,x6,x1000,x1001,x9000=>if x6 < x5 then (if 0 ≤ x6 then (if x6 < (x3.length : Int) then ((spec_reader_pick.f k x1000 x1001 x6).bind fun bt15=>((spec_reader_one.f k x1000 bt15.2 (([0,bt15.1,wrap64 (x6 - 1)] : List Int))).bind fun bt20=>(if x9000.length < 5864062014805 then (spec_goodTree.l0 k x3 x5 (wrap64 (x6 + 1)) x1000 bt20.2 (x9000 ++ [(⟨rdOf ByteArray.empty x3 x6,bt20.1⟩ : S125)])) else (none)))) else (none)) else (none)) else (some (x9000,x1001))
def spec_goodTree.f (k : Nat) (s0_0 : List Int) (s0_1 : Int) : Option ((List (S125)) × Int):=(spec_reader_one.f k s0_0 s0_1 (([4,5,3,6,2,1,8] : List Int))).bind fun bt12=>(spec_goodTree.l0 k (([(⟨#[97,110,121]⟩ : ByteArray),(⟨#[105,111]⟩ : ByteArray),(⟨#[107,101,121]⟩ : ByteArray),(⟨#[116,105,109,101]⟩ : ByteArray),(⟨#[110,101,116]⟩ : ByteArray),(⟨#[100,105,115,107]⟩ : ByteArray),(⟨#[116,121,112,101]⟩ : ByteArray),(⟨#[111,100,100]⟩ : ByteArray)] : List ByteArray)) bt12.1 1 s0_0 bt12.2 (([(⟨(⟨#[97,110,121]⟩ : ByteArray),(-1)⟩ : S125)] : List (S125))))
theorem spec_goodTree.mono_l : ∀ k,(∀ y0 y1 y2 y3 y4 y5,LeO (spec_goodTree.l0 k y0 y1 y2 y3 y4 y5) (spec_goodTree.l0 (k + 1) y0 y1 y2 y3 y4 y5))
 | 0=>fun _ _ _ _ _ _ r h=>by simp [spec_goodTree.l0] at h
 | k + 1=>by
  have ih0:=spec_goodTree.mono_l k
  ·intro y0 y1 y2 y3 y4 y5
   unfold spec_goodTree.l0
   repeat' first
   | (with_reducible exact ih0 _ _ _ _ _ _)
   | (with_reducible exact spec_reader_one.mono _ _ _ _)
   | (with_reducible exact spec_reader_pick.mono _ _ _ _)
   | (with_reducible exact LeO.refl _)
   | (with_reducible exact LeO.none _)
   | (with_reducible refine LeO.ite ?_ ?_)
   | (with_reducible refine LeO.bind ?_ (fun _=>?_))
   | exact ih0 _ _ _ _ _ _
   | exact spec_reader_one.mono _ _ _ _
   | exact spec_reader_pick.mono _ _ _ _
   | exact LeO.none _
   | refine LeO.ite ?_ ?_
   | refine LeO.bind ?_ (fun _=>?_)
theorem spec_goodTree.mono : ∀ a0 a1 k,LeO (spec_goodTree.f k a0 a1) (spec_goodTree.f (k + 1) a0 a1):=by
 intro a0 a1 k
 have ih0:=spec_goodTree.mono_l k
 unfold spec_goodTree.f
 repeat' first
   | (with_reducible exact ih0 _ _ _ _ _ _)
   | (with_reducible exact spec_reader_one.mono _ _ _ _)
   | (with_reducible exact spec_reader_pick.mono _ _ _ _)
   | (with_reducible exact LeO.refl _)
   | (with_reducible exact LeO.none _)
   | (with_reducible refine LeO.ite ?_ ?_)
   | (with_reducible refine LeO.bind ?_ (fun _=>?_))
   | exact ih0 _ _ _ _ _ _
   | exact spec_reader_one.mono _ _ _ _
   | exact spec_reader_pick.mono _ _ _ _
   | exact LeO.none _
   | refine LeO.ite ?_ ?_
   | refine LeO.bind ?_ (fun _=>?_)
def spec_goodTree.T7 : Bool × List (List Nat × List Nat):=(true,[([],[]),([0],[0]),([],[]),([],[]),([2,3],[2,3]),([4],[4]),([],[]),([],[]),([],[]),([7,8],[7,8]),([],[]),([10],[10]),([9,11],[9,11]),([6,12,9],[6,12]),([5,13],[5,13]),([14],[14]),([1,15,13],[1,15]),([0,1,2,3,4,5,6,7,8,9,10,11,12,13,14,15,16],[]),([17,16,16,0,1,2,3,4,5,6,7,8,9,10,11,12,13,14,15,16],[16,17])])
def spec_goodTree.B7 : List Nat:=[0,1,0,0,12,28,0,0,0,384,0,1024,3968,8128,16380,32764,65535,131071,262143]
theorem spec_goodTree.tab7 : rtab .any (opsOf Try.f109 7) = spec_goodTree.T7:=by kernel_rfl
theorem spec_goodTree.bits7 : waitsOk spec_goodTree.T7.2 spec_goodTree.B7 = true:=by kernel_rfl
set_option maxHeartbeats 8000000 in
set_option maxRecDepth 100000 in
theorem spec_goodTree.calls (k : Nat) (g : Nat) (s0_0 : List Int) (s0_1 : Int) (r1 : List (S125)) (r2 : Int) (w0 w : World) (hI : IsS148 w0 w g s0_0 s0_1) (hB : Below w0.heap.size w0 w) (h : spec_goodTree.f k s0_0 s0_1 = some (r1,r2)) :
  Calls Try.prog 109 #[.pointer (some ⟨g,0,none⟩)] w fun e w'=>∃ v0_ : Value,e = .returned (.agg #[v0_]) ∧ Kd.R k125 125 w' w.heap.size (fun _=>True) v0_ r1 ∧ IsS148 w0 w' g s0_0 r2 ∧ Below w0.heap.size w0 w' ∧ KeepBut w w' g none:=by
 have hu25:=Try.underlying25
 have hu125:=Try.underlying125
 have HI0:=a0_ hI
 have HK:=a0_ (KeepBut.refl w g none)
 have HL:=a0_ hB.size
 clear hI
 have HW0:=a0_ hB.size
 have HB:=a0_ hB
 clear hB
 have H : ((spec_reader_one.f k s0_0 s0_1 (([4,5,3,6,2,1,8] : List Int))).bind fun bt12=>(spec_goodTree.l0 k (([(⟨#[97,110,121]⟩ : ByteArray),(⟨#[105,111]⟩ : ByteArray),(⟨#[107,101,121]⟩ : ByteArray),(⟨#[116,105,109,101]⟩ : ByteArray),(⟨#[110,101,116]⟩ : ByteArray),(⟨#[100,105,115,107]⟩ : ByteArray),(⟨#[116,121,112,101]⟩ : ByteArray),(⟨#[111,100,100]⟩ : ByteArray)] : List ByteArray)) bt12.1 1 s0_0 bt12.2 (([(⟨(⟨#[97,110,121]⟩ : ByteArray),(-1)⟩ : S125)] : List (S125))))) = some (r1,r2):=h
 clear h
 obtain ⟨y2,hy2⟩ : ∃ y_ : List ByteArray,y_ = (([(⟨#[97,110,121]⟩ : ByteArray),(⟨#[105,111]⟩ : ByteArray),(⟨#[107,101,121]⟩ : ByteArray),(⟨#[116,105,109,101]⟩ : ByteArray),(⟨#[110,101,116]⟩ : ByteArray),(⟨#[100,105,115,107]⟩ : ByteArray),(⟨#[116,121,112,101]⟩ : ByteArray),(⟨#[111,100,100]⟩ : ByteArray)] : List ByteArray)):=⟨_,rfl⟩
 replace H : ((spec_reader_one.f k s0_0 s0_1 (([4,5,3,6,2,1,8] : List Int))).bind fun bt12=>(spec_goodTree.l0 k y2 bt12.1 1 s0_0 bt12.2 (([(⟨(⟨#[97,110,121]⟩ : ByteArray),(-1)⟩ : S125)] : List (S125))))) = some (r1,r2):=by first | (rw [hy2];with_reducible exact H) | (have H2_:=(Option.bind_some _ _).symm.trans H;rw [hy2];with_reducible exact H2_) | (have H2_:=(Option.bind_some _ _).symm.trans H;with_reducible exact H2_) | with_reducible exact H | (rw [hy2];exact H) | exact H
 have Ny2:=a0_ hy2
 clear hy2
 obtain ⟨y5,hy5⟩ : ∃ y_ : List (S125),y_ = (([(⟨(⟨#[97,110,121]⟩ : ByteArray),(-1)⟩ : S125)] : List (S125))):=⟨_,rfl⟩
 replace H : ((spec_reader_one.f k s0_0 s0_1 (([4,5,3,6,2,1,8] : List Int))).bind fun bt12=>(spec_goodTree.l0 k y2 bt12.1 1 s0_0 bt12.2 y5)) = some (r1,r2):=by first | (rw [hy5];with_reducible exact H) | (have H2_:=(Option.bind_some _ _).symm.trans H;rw [hy5];with_reducible exact H2_) | (have H2_:=(Option.bind_some _ _).symm.trans H;with_reducible exact H2_) | with_reducible exact H | (rw [hy5];exact H) | exact H
 have Ny5:=a0_ hy5
 clear hy5
 obtain ⟨y9,hy9⟩ : ∃ y_ : List Int,y_ = (([4,5,3,6,2,1,8] : List Int)):=⟨_,rfl⟩
 replace H : ((spec_reader_one.f k s0_0 s0_1 y9).bind fun bt12=>(spec_goodTree.l0 k y2 bt12.1 1 s0_0 bt12.2 y5)) = some (r1,r2):=by first | (rw [hy9];with_reducible exact H) | (have H2_:=(Option.bind_some _ _).symm.trans H;rw [hy9];with_reducible exact H2_) | (have H2_:=(Option.bind_some _ _).symm.trans H;with_reducible exact H2_) | with_reducible exact H | (rw [hy9];exact H) | exact H
 have Ny9:=a0_ hy9
 clear hy9
 replace H:=Option.bind_eq_some_iff.mp H
 obtain ⟨⟨t12,t13⟩,A20,H⟩:=H
 replace H : (spec_goodTree.l0 k y2 t12 1 s0_0 t13 y5) = some (r1,r2):=H
 have A2:=a0_ A20
 clear A20
 have H':=a0_ H
 clear H
 go_enter Try.func109,Try.ntmps109
 go_wp2_with (first | ((with_reducible refine gate_dst (N:=2) rfl ?_);refine box_event ?hg (N:=2) ?hd (cs:=#[.slice none 0 0]) (t:=25) ?hr ?_;(case hd=>rfl);(case hg=>rfl);(case hr=>first | (go_simp;done) | (go_simp;rfl));intro gb1 hg w3 hbox hb;have n0_:=a0_ (IsS148.below is0_ hb);have n1_:=a0_ (KeepBut.trans (w:=w) hk_ (KeepBut.of_below hb g none) (.inl rfl));have n2_:=a0_ (below_step hbi0_ hb);have n3_:=a0_ (hbox);have n4_:=a0_ ((by rw [hg];exact (keep_size (w:=w) (g:=g) (row:=none) hk_) : w.heap.size ≤ gb1));have n5_:=a0_ ((Nat.le_trans HW0.out (by rw [hg];exact (keep_size (w:=w) (g:=g) (row:=none) hk_) : w.heap.size ≤ gb1) : w0.heap.size ≤ gb1));have n6_:=a0_ ((by rw [hg];exact Nat.ne_of_lt (IsS148.lt (is0_ : IsS148 w0 _ g s0_0 s0_1)) : g ≠ gb1));have n7_:=a0_ ((by rw [hg];exact Nat.ne_of_gt (IsS148.lt (is0_ : IsS148 w0 _ g s0_0 s0_1)) : gb1 ≠ g));clear HI0 HK HB;have HI0:=n0_;have HK:=n1_;have HB:=n2_;have BK1:=n3_;have GW1:=n4_;have GE1:=n5_;have NB0_1:=n6_;have NB1_0:=n7_;clear n0_ n1_ n2_ n3_ n4_ n5_ n6_ n7_;clear hb hbox hg) | ((with_reducible refine gate_dst (N:=7) rfl ?_);refine Kd.R_lit Kd.string _ 9 ?hg (N:=7) ?hd (xs:=([(⟨#[97,110,121]⟩ : ByteArray),(⟨#[105,111]⟩ : ByteArray),(⟨#[107,101,121]⟩ : ByteArray),(⟨#[116,105,109,101]⟩ : ByteArray),(⟨#[110,101,116]⟩ : ByteArray),(⟨#[100,105,115,107]⟩ : ByteArray),(⟨#[116,121,112,101]⟩ : ByteArray),(⟨#[111,100,100]⟩ : ByteArray)] : List ByteArray)) (inner:=[.string (⟨#[97,110,121]⟩ : ByteArray),.string (⟨#[105,111]⟩ : ByteArray),.string (⟨#[107,101,121]⟩ : ByteArray),.string (⟨#[116,105,109,101]⟩ : ByteArray),.string (⟨#[110,101,116]⟩ : ByteArray),.string (⟨#[100,105,115,107]⟩ : ByteArray),.string (⟨#[116,121,112,101]⟩ : ByteArray),.string (⟨#[111,100,100]⟩ : ByteArray)]) (ok:=fun _=>True) (okp:=fun _=>True) ?hr ?hp (fun _ hk=>hk) trivial (Below.refl _ _) (Nat.le_refl _) (by simp) ?_;(case hd=>rfl);(case hg=>rfl);(case hr=>first | (go_simp;done) | (go_simp;rfl));(case hp=>exact (Reps.one (show Kd.M Kd.string _ _ _ (⟨#[97,110,121]⟩ : ByteArray) [.string (⟨#[97,110,121]⟩ : ByteArray)] from rfl) (Reps.one (show Kd.M Kd.string _ _ _ (⟨#[105,111]⟩ : ByteArray) [.string (⟨#[105,111]⟩ : ByteArray)] from rfl) (Reps.one (show Kd.M Kd.string _ _ _ (⟨#[107,101,121]⟩ : ByteArray) [.string (⟨#[107,101,121]⟩ : ByteArray)] from rfl) (Reps.one (show Kd.M Kd.string _ _ _ (⟨#[116,105,109,101]⟩ : ByteArray) [.string (⟨#[116,105,109,101]⟩ : ByteArray)] from rfl) (Reps.one (show Kd.M Kd.string _ _ _ (⟨#[110,101,116]⟩ : ByteArray) [.string (⟨#[110,101,116]⟩ : ByteArray)] from rfl) (Reps.one (show Kd.M Kd.string _ _ _ (⟨#[100,105,115,107]⟩ : ByteArray) [.string (⟨#[100,105,115,107]⟩ : ByteArray)] from rfl) (Reps.one (show Kd.M Kd.string _ _ _ (⟨#[116,121,112,101]⟩ : ByteArray) [.string (⟨#[116,121,112,101]⟩ : ByteArray)] from rfl) (Reps.one (show Kd.M Kd.string _ _ _ (⟨#[111,100,100]⟩ : ByteArray) [.string (⟨#[111,100,100]⟩ : ByteArray)] from rfl) (Reps.none _ _))))))))));intro v3 w4 ho5 hb hg_ hnew_;clear hg_ hnew_;(first | rw [← Ny2.out] at ho5 | (simp only [Int.reduceToNat] at ho5;rw [← Ny2.out] at ho5));have n0_:=a0_ (Kd.R_lower ho5 (keep_size (w:=w) (g:=g) (row:=none) hk_));have n1_:=a0_ (IsS148.below is0_ hb);have n2_:=kb_ BK1 hb;have n3_:=a0_ (KeepBut.trans (w:=w) hk_ (KeepBut.of_below hb g none) (.inl rfl));have n4_:=a0_ (below_step hbi0_ hb);clear HI0 BK1;clear HK HB;have HO4:=n0_;have HI0:=n1_;have BK1:=n2_;have HK:=n3_;have HB:=n4_;clear n0_ n1_ n2_ n3_ n4_;clear hb ho5) | ((with_reducible refine gate_dst (N:=9) rfl ?_);refine Kd.R_lit k125 _ 125 ?hg (N:=9) ?hd (xs:=([(⟨(⟨#[97,110,121]⟩ : ByteArray),(-1)⟩ : S125)] : List (S125))) (inner:=[.string (⟨#[97,110,121]⟩ : ByteArray),.int .i64 (-1)]) (ok:=fun _=>True) (okp:=fun _=>True) ?hr ?hp (fun _ hk=>hk) trivial (Below.refl _ _) (Nat.le_refl _) (by simp) ?_;(case hd=>rfl);(case hg=>rfl);(case hr=>first | (go_simp;done) | (go_simp;rfl));(case hp=>exact (Reps.c2 (show Kd.M k125 _ _ _ (⟨(⟨#[97,110,121]⟩ : ByteArray),(-1)⟩ : S125) [.string (⟨#[97,110,121]⟩ : ByteArray),.int .i64 (-1)] from (k125_mkM _ _ _ (⟨(⟨#[97,110,121]⟩ : ByteArray),(-1)⟩ : S125) )) (Reps.none _ _)));intro v6 w6 ho7 hb hg_ hnew_;clear hg_ hnew_;(first | rw [← Ny5.out] at ho7 | (simp only [Int.reduceToNat] at ho7;rw [← Ny5.out] at ho7));have n0_:=rb_ HO4 hb;have n1_:=a0_ (Kd.R_lower ho7 (keep_size (w:=w) (g:=g) (row:=none) hk_));have n2_:=a0_ (IsS148.below is0_ hb);have n3_:=kb_ BK1 hb;have n4_:=a0_ (KeepBut.trans (w:=w) hk_ (KeepBut.of_below hb g none) (.inl rfl));have n5_:=a0_ (below_step hbi0_ hb);clear HO4 HI0;clear BK1 HK HB;have HO4:=n0_;have HO7:=n1_;have HI0:=n2_;have BK1:=n3_;have HK:=n4_;have HB:=n5_;clear n0_ n1_ n2_ n3_ n4_ n5_;clear hb ho7;obtain ⟨Ao8,co8,eo8⟩:=Kd.R_slice HO7.out;subst eo8) | ((with_reducible refine gate_dst (N:=4) rfl ?_);refine box_event ?hg (N:=4) ?hd (cs:=#[.slice none 0 0]) (t:=25) ?hr ?_;(case hd=>rfl);(case hg=>rfl);(case hr=>first | (go_simp;done) | (go_simp;rfl));intro gb8 hg w9 hbox hb;have n0_:=rb_ HO4 hb;have n1_:=rb_ HO7 hb;have n2_:=a0_ (IsS148.below is0_ hb);have n3_:=kb_ BK1 hb;have n4_:=a0_ (KeepBut.trans (w:=w) hk_ (KeepBut.of_below hb g none) (.inl rfl));have n5_:=a0_ (below_step hbi0_ hb);have n6_:=a0_ (hbox);have n7_:=a0_ ((by rw [hg];exact (keep_size (w:=w) (g:=g) (row:=none) hk_) : w.heap.size ≤ gb8));have n8_:=a0_ ((Nat.le_trans HW0.out (by rw [hg];exact (keep_size (w:=w) (g:=g) (row:=none) hk_) : w.heap.size ≤ gb8) : w0.heap.size ≤ gb8));have n9_:=a0_ ((by rw [hg];exact Nat.ne_of_lt (blk_lt (bb_ BK1.out)) : gb1 ≠ gb8));have n10_:=a0_ ((by rw [hg];exact Nat.ne_of_gt (blk_lt (bb_ BK1.out)) : gb8 ≠ gb1));have n11_:=a0_ ((by rw [hg];exact Nat.ne_of_lt (IsS148.lt (is0_ : IsS148 w0 _ g s0_0 s0_1)) : g ≠ gb8));have n12_:=a0_ ((by rw [hg];exact Nat.ne_of_gt (IsS148.lt (is0_ : IsS148 w0 _ g s0_0 s0_1)) : gb8 ≠ g));clear HO4 HO7;clear HI0 BK1;clear HK HB;have HO4:=n0_;have HO7:=n1_;have HI0:=n2_;have BK1:=n3_;have HK:=n4_;have HB:=n5_;have BK8:=n6_;have GW8:=n7_;have GE8:=n8_;have NB1_8:=n9_;have NB8_1:=n10_;have NB0_8:=n11_;have NB8_0:=n12_;clear n0_ n1_ n2_ n3_ n4_ n5_ n6_ n7_ n8_ n9_ n10_ n11_ n12_;clear hb hbox hg;have hnb10:=NB8_1.out;have hnc10:=NB1_8.out;have hnb11:=NB8_0.out;have hnc11:=NB0_8.out;have hcz12_0 : w9.cell? ⟨gb8,0,none⟩ = some (.slice none 0 0):=(blk_cell BK8.out 0).trans rfl;have hfz12_0:=blk_frozen BK8.out 0) | ((with_reducible refine gate_dst (N:=12) rfl ?_);refine Kd.R_lit (Kd.int .i64) _ 3 ?hg (N:=12) ?hd (xs:=([4,5,3,6,2,1,8] : List Int)) (inner:=[.int .i64 4,.int .i64 5,.int .i64 3,.int .i64 6,.int .i64 2,.int .i64 1,.int .i64 8]) (ok:=fun _=>True) (okp:=fun _=>True) ?hr ?hp (fun _ hk=>hk) trivial (Below.refl _ _) (Nat.le_refl _) (by simp) ?_;(case hd=>rfl);(case hg=>rfl);(case hr=>first | (go_simp;done) | (go_simp;rfl));(case hp=>exact (Reps.one (show Kd.M (Kd.int .i64) _ _ _ 4 [.int .i64 4] from rfl) (Reps.one (show Kd.M (Kd.int .i64) _ _ _ 5 [.int .i64 5] from rfl) (Reps.one (show Kd.M (Kd.int .i64) _ _ _ 3 [.int .i64 3] from rfl) (Reps.one (show Kd.M (Kd.int .i64) _ _ _ 6 [.int .i64 6] from rfl) (Reps.one (show Kd.M (Kd.int .i64) _ _ _ 2 [.int .i64 2] from rfl) (Reps.one (show Kd.M (Kd.int .i64) _ _ _ 1 [.int .i64 1] from rfl) (Reps.one (show Kd.M (Kd.int .i64) _ _ _ 8 [.int .i64 8] from rfl) (Reps.none _ _)))))))));intro v10 w13 ho14 hb hg_ hnew_;clear hg_ hnew_;(first | rw [← Ny9.out] at ho14 | (simp only [Int.reduceToNat] at ho14;rw [← Ny9.out] at ho14));have n0_:=a0_ (Kd.R_below (by (with_reducible repeat (first | apply Kd.R_alloc | apply Kd.R_drewN | apply Kd.R_drew));exact (Kd.R_mono (Kd.R_far (p:=⟨gb8,0,none⟩) (Kd.R_types HO4.out BK8.out (by decide)) (fun _ hk=>hk.2) (.slice Ao8 y5.length co8)) (fun _ h_=>h_.1))) hb);have n1_:=a0_ (Kd.R_below (by (with_reducible repeat (first | apply Kd.R_alloc | apply Kd.R_drewN | apply Kd.R_drew));exact (Kd.R_mono (Kd.R_far (p:=⟨gb8,0,none⟩) (Kd.R_types HO7.out BK8.out (by decide)) (fun _ hk=>hk.2) (.slice Ao8 y5.length co8)) (fun _ h_=>h_.1))) hb);have n2_:=a0_ (Kd.R_lower ho14 (keep_size (w:=w) (g:=g) (row:=none) hk_));have n3_:=a0_ (IsS148.below (is0_ : IsS148 w0 (w9.setCell ⟨gb8,0,none⟩ (.slice Ao8 y5.length co8)) g s0_0 s0_1) hb);have n4_:=kf_ BK1 NB1_8 hb;have n5_:=a0_ (blk_below (g:=gb8) (o:=.cells #[.slice Ao8 y5.length co8] 25 (0,0)) (by (with_reducible repeat (first | refine blk_drewN ?_ _ | refine blk_drew ?_ | refine blk_alloc ?_ _));refine blk_put (cs:=#[.slice none 0 0]) ?_ 0 _ rfl;(with_reducible repeat (first | refine blk_drewN ?_ _ | refine blk_drew ?_ | refine blk_alloc ?_ _));exact BK8.out) hb);have n6_:=a0_ (KeepBut.trans (w:=w) hk_ (KeepBut.of_below hb g none) (.inl rfl));have n7_:=a0_ (below_step hbi0_ hb);clear HO4 HO7;clear HI0 BK1;clear BK8 HK HB;have HO4:=n0_;have HO7:=n1_;have HO11:=n2_;have HI0:=n3_;have BK1:=n4_;have BK8:=n5_;have HK:=n6_;have HB:=n7_;clear n0_ n1_ n2_ n3_ n4_ n5_ n6_ n7_;clear hb ho14;obtain ⟨Ao15,co15,eo15⟩:=Kd.R_slice HO11.out;subst eo15) | ((with_reducible refine gate_callee (f:=146) rfl ?_);refine goesL_ (some 13) rfl rfl Try.func146 (by kernel_rfl) rfl #[.pointer (some ⟨g,0,none⟩),.slice Ao15 y9.length co15] rfl lm_ ?_;(with_reducible refine (spec_reader_one.calls k g s0_0 s0_1 _ _ y9 t12 t13 w0 _ ?side1 ?side2 ?side3 ?side4 ?side5 A2.out).mono ?_);(case side1=>exact is0_);(case side2=>exact hbi0_);(case side3=>exact cc_ (Kd.R_reads' HO11.out).2.2);(case side4=>exact (Kd.R_reads' HO11.out).2.1);(case side5=>exact far_slice (IsS148.own_ne HI0.out HO11.out (by decide)));rintro e w16 ⟨rfl,hi,hb,hk⟩;refine ⟨_,rfl,?_⟩;replace BK1:=kk_ hk BK1 NB1_0;replace HO4:=a0_ (Kd.R_mono (Kd.R_keep (IsS148.apart (is0_ : IsS148 w0 _ g s0_0 s0_1) (rr_ HO4.out) (by decide)) hk (fun _ h=>h.2)) (fun _ h=>h.1));replace HO7:=a0_ (Kd.R_mono (Kd.R_keep (IsS148.apart (is0_ : IsS148 w0 _ g s0_0 s0_1) (rr_ HO7.out) (by decide)) hk (fun _ h=>h.2)) (fun _ h=>h.1));replace BK8:=kk_ hk BK8 NB8_0;replace HO11:=a0_ (Kd.R_mono (Kd.R_keep (IsS148.apart (is0_ : IsS148 w0 _ g s0_0 s0_1) (rr_ HO11.out) (by decide)) hk (fun _ h=>h.2)) (fun _ h=>h.1));replace HK:=a0_ (KeepBut.trans (w:=w) hk_ hk (.inl rfl));replace HI0:=a0_ (hi);replace HB:=a0_ (hb);(try clear hb);(try clear hb2);(try clear hk);(try clear hi)))
 go_loopg [6] k (fun kq v6 w'=>∃ (x6_1 : Int) (x1001_1 : Int) (x9000_1 : List (S125)) (u9000 : Value),v6 = .int .i64 x6_1 ∧ Aside0 (spec_goodTree.l0 kq y2 t12 x6_1 s0_0 x1001_1 x9000_1 = some (r1,r2)) ∧ Aside0 (kq ≤ k) ∧ Aside0 (Kd.R Kd.string 9 w' w.heap.size (fun _=>True) v3 y2) ∧ Aside0 (Kd.R k125 125 w' w.heap.size (fun _=>True) u9000 x9000_1) ∧ Aside0 (w'.heap[gb1]? = some (.cells #[(.slice none 0 0)] 25 (0,0))) ∧ Aside0 (w'.heap[gb8]? = some (.cells #[u9000] 25 (0,0))) ∧ Aside0 (IsS148 w0 w' g s0_0 x1001_1) ∧ Aside0 (KeepBut w w' g none) ∧ Aside0 (Below w0.heap.size w0 w'))
 case atStart=>exact ⟨(1),(t13),(y5),(.slice Ao8 y5.length co8),(by first | rfl | (simp;done) | (simp [*];done)),H',⟨Nat.le_refl _⟩,⟨by (with_reducible repeat (first | apply Kd.R_alloc | apply Kd.R_drewN | apply Kd.R_drew));exact HO4.out⟩,⟨by (with_reducible repeat (first | apply Kd.R_alloc | apply Kd.R_drewN | apply Kd.R_drew));exact HO7.out⟩,⟨by (with_reducible repeat (first | refine blk_drewN ?_ _ | refine blk_drew ?_ | refine blk_alloc ?_ _));exact BK1.out⟩,⟨by (with_reducible repeat (first | refine blk_drewN ?_ _ | refine blk_drew ?_ | refine blk_alloc ?_ _));exact BK8.out⟩,⟨is0_⟩,⟨hk_⟩,⟨hbi0_⟩⟩
 case round =>
  clear H'
  try clear c1
  try clear c2
  try clear p2
  try clear c10
  try clear c11
  try clear c14
  try clear hcz12_0
  try clear hfz12_0
  obtain ⟨x6_1,x1001_1,x9000_1,u9000,rfl,HA,HK1,HO_3,Z9,BK1,BK8,HI0,HK,HB⟩:=hrel
  cases gk with
  | zero=>exact absurd HA.out (by simp [spec_goodTree.l0])
  | succ k1 =>
   have H:=HA.out
   clear HA
   simp only [spec_goodTree.l0] at H
   by_cases c17 : x6_1 < t12
   ·rw [if_pos c17] at H
    have c17b0 : decide (x6_1 < t12) = true:=decide_eq_true c17
    clear c17
    by_cases c18 : 0 ≤ x6_1
    ·rw [if_pos c18] at H
     have c18b0 : decide (0 ≤ x6_1) = true:=decide_eq_true c18
     clear c18
     by_cases c19 : x6_1 < (y2.length : Int)
     ·rw [if_pos c19] at H
      have c19b0 : decide (x6_1 < (y2.length : Int)) = true:=decide_eq_true c19
      clear c19
      replace H:=Option.bind_eq_some_iff.mp H
      obtain ⟨⟨t15,t16⟩,A200,H⟩:=H
      try dsimp only at H
      have A20:=a0_ A200
      clear A200
      obtain ⟨y17,hy17⟩ : ∃ y_ : List Int,y_ = (([0,t15,wrap64 (x6_1 - 1)] : List Int)):=⟨_,rfl⟩
      replace H : ((spec_reader_one.f k1 s0_0 t16 y17).bind fun bt20=>(if x9000_1.length < 5864062014805 then (spec_goodTree.l0 k1 y2 t12 (wrap64 (x6_1 + 1)) s0_0 bt20.2 (x9000_1 ++ [(⟨rdOf ByteArray.empty y2 x6_1,bt20.1⟩ : S125)])) else (none))) = some (r1,r2):=by first | (rw [hy17];with_reducible exact H) | (have H2_:=(Option.bind_some _ _).symm.trans H;rw [hy17];with_reducible exact H2_) | (have H2_:=(Option.bind_some _ _).symm.trans H;with_reducible exact H2_) | with_reducible exact H | (rw [hy17];exact H) | exact H
      have Ny17:=a0_ hy17
      clear hy17
      replace H:=Option.bind_eq_some_iff.mp H
      obtain ⟨⟨t20,t21⟩,A210,H⟩:=H
      try dsimp only at H
      have A21:=a0_ A210
      clear A210
      by_cases c22 : x9000_1.length < 5864062014805
      ·rw [if_pos c22] at H
       have LMc22:=a0_ c22
       clear c22
       obtain ⟨y22,hy22⟩ : ∃ y_ : List (S125),y_ = (x9000_1 ++ [(⟨rdOf ByteArray.empty y2 x6_1,t20⟩ : S125)]):=⟨_,rfl⟩
       replace H : (spec_goodTree.l0 k1 y2 t12 (wrap64 (x6_1 + 1)) s0_0 t21 y22) = some (r1,r2):=by first | (rw [hy22];with_reducible exact H) | (have H2_:=(Option.bind_some _ _).symm.trans H;rw [hy22];with_reducible exact H2_) | (have H2_:=(Option.bind_some _ _).symm.trans H;with_reducible exact H2_) | with_reducible exact H | (rw [hy22];exact H) | exact H
       have Ny22:=a0_ hy22
       clear hy22
       have H':=a0_ H
       clear H
       try go_wp2
       have n0_:=a0_ (Kd.R_drew HO_3.out)
       have n1_:=a0_ (Kd.R_drew Z9.out)
       have n2_:=a0_ (blk_drew BK1.out)
       have n3_:=a0_ (blk_drew BK8.out)
       have n4_:=a0_ (IsS148.drew HI0.out)
       have n5_:=a0_ (keep_drew HK.out)
       have n6_:=a0_ (below_drew1 HB.out)
       clear HO_3
       clear Z9
       clear BK1
       clear BK8
       clear HI0
       clear HK
       clear HB
       have HO_3:=n0_
       have Z9:=n1_
       have BK1:=n2_
       have BK8:=n3_
       have HI0:=n4_
       have HK:=n5_
       have HB:=n6_
       clear n0_ n1_ n2_ n3_ n4_ n5_ n6_
       obtain ⟨Ao24,co24,eo24⟩:=Kd.R_slice HO_3.out
       (first | subst eo24 | (injection eo24 with f1_ f2_ f3_;have f4_:=f1_.symm;have f5_:=f3_.symm;clear f1_ f2_ f3_;subst f4_;subst f5_))
       have p14 : 0 ≤ (x6_1 : Int):=of_decide_eq_true (by first | (with_reducible assumption) | assumption)
       have q14 : x6_1 < (y2.length : Int):=of_decide_eq_true (by first | (with_reducible assumption) | assumption)
       obtain ⟨ad14,e14,hx14_0⟩:=Kd.at_string (Kd.R_reads' HO_3.out).2.2 x6_1 p14 q14
       cases e14
       replace p14:=eq_true p14
       replace q14:=eq_true q14
       refine start_ (n:=19) (S:=fun w'=>w'.cell? ⟨gb8,0,none⟩ = some (u9000) ∧ w'.cell? (ad14.add (x6_1).toNat) = some (.string (rdOf ByteArray.empty y2 x6_1))) (ds:=[16,18]) #[false,false,false,false,false,false,false,false,false,false,false,false,false,false,false,false,false,false,false] (by kernel_rfl) rfl rfl ⟨(blk_cell BK8.out 0).trans rfl,hx14_0⟩ (fun hHeld=>?_);refine with_tabW spec_goodTree.tab7 spec_goodTree.bits7 (fun HT_ HW_=>?_)
       generalize wr.drew = w23 at HO_3 Z9 BK1 BK8 HI0 HK HB hx14_0 hHeld ⊢
       refine pure_ (i:=0) (N:=some 19) (v:=?_) (a':=?_) #[true,false,false,false,false,false,false,false,false,false,false,false,false,false,false,false,false,false,false] rfl rfl (any_of HT_.out (by kernel_rfl)) (fun _ _ _ h=>h) (Or.inl ⟨by rfl,?_⟩) ?_ ?_
       rotate_left
       ·intro w'
        go_simp
        with_reducible rfl
       rotate_left
       ·simp only [Act.put,s1_,s2_,s3_,i64_w,i32_w]
        rfl
       refine pure_ (i:=2) (N:=some 21) (v:=?_) (a':=?_) #[true,false,true,false,false,false,false,false,false,false,false,false,false,false,false,false,false,false,false] rfl rfl (any_of HT_.out (by kernel_rfl)) (fun _ _ _ h=>h) (Or.inl ⟨by rfl,?_⟩) ?_ ?_
       rotate_left
       ·intro w'
        go_simp
        with_reducible rfl
       rotate_left
       ·simp only [Act.put,s1_,s2_,s3_,i64_w,i32_w]
        rfl
       refine pure_ (i:=3) (N:=some 22) (v:=?_) (a':=?_) #[true,false,true,true,false,false,false,false,false,false,false,false,false,false,false,false,false,false,false] rfl rfl (any_of HT_.out (by kernel_rfl)) (fun _ _ _ h=>h) (Or.inl ⟨by rfl,?_⟩) ?_ ?_
       rotate_left
       ·intro w'
        go_simp
        with_reducible rfl
       rotate_left
       ·simp only [Act.put,s1_,s2_,s3_,i64_w,i32_w]
        rfl
       refine pure_ (i:=4) (N:=some 23) (v:=?_) (a':=?_) #[true,false,true,true,true,false,false,false,false,false,false,false,false,false,false,false,false,false,false] rfl rfl (any_of HT_.out (by kernel_rfl)) (fun _ _ _ h=>h) (Or.inl ⟨by rfl,?_⟩) ?_ ?_
       rotate_left
       ·intro w'
        go_simp
        with_reducible rfl
       rotate_left
       ·simp only [Act.put,s1_,s2_,s3_,i64_w,i32_w]
        rfl
       refine pure_ (i:=6) (N:=some 25) (v:=?_) (a':=?_) #[true,false,true,true,true,false,true,false,false,false,false,false,false,false,false,false,false,false,false] rfl rfl (any_of HT_.out (by kernel_rfl)) (fun _ _ _ h=>h) (Or.inl ⟨by rfl,?_⟩) ?_ ?_
       rotate_left
       ·intro w'
        go_simp
        with_reducible rfl
       rotate_left
       ·simp only [Act.put,s1_,s2_,s3_,i64_w,i32_w]
        rfl
       refine pure_ (i:=7) (N:=some 26) (v:=?_) (a':=?_) #[true,false,true,true,true,false,true,true,false,false,false,false,false,false,false,false,false,false,false] rfl rfl (any_of HT_.out (by kernel_rfl)) (fun _ _ _ h=>h) (Or.inl ⟨by rfl,?_⟩) ?_ ?_
       rotate_left
       ·intro w'
        go_simp
        with_reducible rfl
       rotate_left
       ·simp only [Act.put,s1_,s2_,s3_,i64_w,i32_w]
        rfl
       refine pure_ (i:=8) (N:=some 27) (v:=?_) (a':=?_) #[true,false,true,true,true,false,true,true,true,false,false,false,false,false,false,false,false,false,false] rfl rfl (any_of HT_.out (by kernel_rfl)) (fun _ _ _ h=>h) (Or.inl ⟨by rfl,?_⟩) ?_ ?_
       rotate_left
       ·intro w'
        go_simp
        with_reducible rfl
       rotate_left
       ·simp only [Act.put,s1_,s2_,s3_,i64_w,i32_w]
        rfl
       refine pure_ (i:=10) (N:=some 29) (v:=?_) (a':=?_) #[true,false,true,true,true,false,true,true,true,false,true,false,false,false,false,false,false,false,false] rfl rfl (any_of HT_.out (by kernel_rfl)) (fun _ _ _ h=>h) (Or.inl ⟨by rfl,?_⟩) ?_ ?_
       rotate_left
       ·intro w'
        go_simp
        with_reducible rfl
       rotate_left
       ·simp only [Act.put,s1_,s2_,s3_,i64_w,i32_w]
        rfl
       refine pure_ (i:=11) (N:=some 30) (v:=?_) (a':=?_) #[true,false,true,true,true,false,true,true,true,false,true,true,false,false,false,false,false,false,false] rfl rfl (any_of HT_.out (by kernel_rfl)) (fun _ _ _ h=>h) (Or.inl ⟨by rfl,?_⟩) ?_ ?_
       rotate_left
       ·intro w'
        go_simp
        with_reducible rfl
       rotate_left
       ·simp only [Act.put,s1_,s2_,s3_,i64_w,i32_w]
        rfl
       refine take_ (i:=1) (N:=some 20) (v:=?_) (a':=?_) #[true,true,true,true,true,false,true,true,true,false,true,true,false,false,false,false,false,false,false] rfl rfl (take_ofW HT_.out HW_.out (by kernel_rfl)) (fun _ _ _ h=>h) (Or.inl ⟨by rfl,?_⟩) hHeld ?_ ?_
       rotate_left
       ·rintro w' ⟨s0,s1⟩
        go_simp
        with_reducible rfl
       rotate_left
       ·simp only [Act.put,s1_,s2_,s3_,i64_w,i32_w]
        rfl
       refine take_ (i:=5) (N:=some 24) (v:=?_) (a':=?_) #[true,true,true,true,true,true,true,true,true,false,true,true,false,false,false,false,false,false,false] rfl rfl (take_ofW HT_.out HW_.out (by kernel_rfl)) (fun _ _ _ h=>h) (Or.inl ⟨by rfl,?_⟩) hHeld ?_ ?_
       rotate_left
       ·rintro w' ⟨s0,s1⟩
        go_simp
        with_reducible rfl
       rotate_left
       ·simp only [Act.put,s1_,s2_,s3_,i64_w,i32_w]
        rfl
       refine one_ (i:=9) (N:=some 28) #[true,true,true,true,true,true,true,true,true,true,true,true,false,false,false,false,false,false,false] rfl rfl (one_of HT_.out (by kernel_rfl)) (by decide) (fun K hK=>?_)
       refine goes_ Try.func110 (by kernel_rfl) rfl #[.pointer (some ⟨g,0,none⟩),.int .i64 x6_1] (by rfl) rfl rfl lm_ ?_
       with_reducible refine (spec_reader_pick.calls k1 g s0_0 x1001_1 x6_1 t15 t16 w0 _ ?side1 ?side2 A20.out).mono ?_
       (case side1=>exact is0_)
       (case side2=>exact hbi0_)
       rintro e w25 ⟨rfl,hi,hb,hk⟩
       have HS1_:=keep_cell hk (hHeld.2) (by first | (rw [add_block];exact Kd.own_blk (IsS148.own_ne HI0.out HO_3.out (by decide))) | (show (Addr.add _ _).block ≠ _;rw [add_block];exact Kd.own_blk (IsS148.own_ne HI0.out HO_3.out (by decide))) | exact Kd.own_blk (IsS148.own_ne HI0.out HO_3.out (by decide)))
       refine ⟨_,rfl,?_⟩
       have n0_:=a0_ (Kd.R_mono (Kd.R_keep (IsS148.apart (is0_ : IsS148 w0 _ g s0_0 x1001_1) (rr_ HO_3.out) (by decide)) hk (fun _ h=>h.2)) (fun _ h=>h.1))
       have n1_:=a0_ (Kd.R_mono (Kd.R_keep (IsS148.apart (is0_ : IsS148 w0 _ g s0_0 x1001_1) (rr_ Z9.out) (by decide)) hk (fun _ h=>h.2)) (fun _ h=>h.1))
       have n2_:=kk_ hk BK1 NB1_0
       have n3_:=kk_ hk BK8 NB8_0
       have n4_:=a0_ (KeepBut.trans (w:=w) hk_ hk (.inl rfl))
       have n5_:=a0_ (hb)
       have n6_:=a0_ (hi)
       clear HO_3
       clear Z9
       clear BK1
       clear BK8
       clear HK
       clear HB
       clear HI0
       have HO_3:=n0_
       have Z9:=n1_
       have BK1:=n2_
       have BK8:=n3_
       have HK:=n4_
       have HB:=n5_
       have HI0:=n6_
       clear n0_ n1_ n2_ n3_ n4_ n5_ n6_
       (try clear hb)
       (try clear hb2)
       (try clear hk)
       (try clear hi)
       refine hK.out _ _ ⟨(blk_cell BK8.out 0).trans rfl,HS1_⟩ (fun hHeld=>?_)
       clear hK K
       refine norm_ (a':=?_) ?_ ?_
       rotate_left
       ·show Act.put _ (some 28) _ = _
        simp only [Act.put,s1_,s2_,s3_,i64_w,i32_w]
        rfl
       refine one_ (i:=12) (N:=some 31) #[true,true,true,true,true,true,true,true,true,true,true,true,true,false,false,false,false,false,false] rfl rfl (one_of HT_.out (by kernel_rfl)) (by decide) (fun K hK=>?_)
       refine Kd.R_lit_step (Kd.int .i64) _ 3 ?hg (N:=31) ?hd (xs:=([0,t15,wrap64 (x6_1 - 1)] : List Int)) (inner:=[.int .i64 0,.int .i64 t15,.int .i64 (wrap64 (x6_1 - 1))]) (ok:=fun _=>True) (okp:=fun _=>True) ?hr ?hp (fun _ hk=>hk) trivial (Below.refl _ _) (Nat.le_refl _) (by simp) ?_;(case hd=>rfl);(case hg=>rfl);(case hr=>first | (go_simp;done) | (go_simp;rfl));(case hp=>exact (Reps.one (show Kd.M (Kd.int .i64) _ _ _ 0 [.int .i64 0] from rfl) (Reps.one (show Kd.M (Kd.int .i64) _ _ _ t15 [.int .i64 t15] from rfl) (Reps.one (show Kd.M (Kd.int .i64) _ _ _ (wrap64 (x6_1 - 1)) [.int .i64 (wrap64 (x6_1 - 1))] from rfl) (Reps.none _ _)))))
       intro v18 w26 ho27 hb hg_ hnew_
       have HS1_:=(hb.cell (World.block_lt_of_cell? _ _ (hHeld.2))).trans (hHeld.2)
       clear hg_ hnew_
       (first | rw [← Ny17.out] at ho27 | (simp only [Int.reduceToNat] at ho27;rw [← Ny17.out] at ho27))
       have n0_:=rb_ HO_3 hb
       have n1_:=rb_ Z9 hb
       have n2_:=a0_ (Kd.R_lower ho27 (keep_size (w:=w) (g:=g) (row:=none) hk_))
       have n3_:=kb_ BK1 hb
       have n4_:=kb_ BK8 hb
       have n5_:=a0_ (IsS148.below is0_ hb)
       have n6_:=a0_ (KeepBut.trans (w:=w) hk_ (KeepBut.of_below hb g none) (.inl rfl))
       have n7_:=a0_ (below_step hbi0_ hb)
       clear HO_3
       clear Z9
       clear BK1
       clear BK8
       clear HI0
       clear HK
       clear HB
       have HO_3:=n0_
       have Z9:=n1_
       have HO19:=n2_
       have BK1:=n3_
       have BK8:=n4_
       have HI0:=n5_
       have HK:=n6_
       have HB:=n7_
       clear n0_ n1_ n2_ n3_ n4_ n5_ n6_ n7_
       clear hb ho27
       obtain ⟨Ao28,co28,eo28⟩:=Kd.R_slice HO19.out
       (first | subst eo28 | (injection eo28 with f1_ f2_ f3_;have f4_:=f1_.symm;have f5_:=f3_.symm;clear f1_ f2_ f3_;subst f4_;subst f5_))
       refine hK.out _ _ ⟨(blk_cell BK8.out 0).trans rfl,HS1_⟩ (fun hHeld=>?_)
       clear hK K
       refine norm_ (a':=?_) ?_ ?_
       rotate_left
       ·show Act.put _ (some 31) _ = _
        simp only [Act.put,s1_,s2_,s3_,i64_w,i32_w]
        rfl
       refine one_ (i:=13) (N:=some 32) #[true,true,true,true,true,true,true,true,true,true,true,true,true,true,false,false,false,false,false] rfl rfl (one_of HT_.out (by kernel_rfl)) (by decide) (fun K hK=>?_)
       refine goes_ Try.func146 (by kernel_rfl) rfl #[.pointer (some ⟨g,0,none⟩),.slice Ao28 y17.length co28] (by rfl) rfl rfl lm_ ?_
       with_reducible refine (spec_reader_one.calls k1 g s0_0 t16 _ _ y17 t20 t21 w0 _ ?side1 ?side2 ?side3 ?side4 ?side5 A21.out).mono ?_
       (case side1=>exact is0_)
       (case side2=>exact hbi0_)
       (case side3=>exact cc_ (Kd.R_reads' HO19.out).2.2)
       (case side4=>exact (Kd.R_reads' HO19.out).2.1)
       (case side5=>exact far_slice (IsS148.own_ne HI0.out HO19.out (by decide)))
       rintro e w29 ⟨rfl,hi,hb,hk⟩
       have HS1_:=keep_cell hk (hHeld.2) (by first | (rw [add_block];exact Kd.own_blk (IsS148.own_ne HI0.out HO_3.out (by decide))) | (show (Addr.add _ _).block ≠ _;rw [add_block];exact Kd.own_blk (IsS148.own_ne HI0.out HO_3.out (by decide))) | exact Kd.own_blk (IsS148.own_ne HI0.out HO_3.out (by decide)))
       refine ⟨_,rfl,?_⟩
       have n0_:=a0_ (Kd.R_mono (Kd.R_keep (IsS148.apart (is0_ : IsS148 w0 _ g s0_0 t16) (rr_ HO_3.out) (by decide)) hk (fun _ h=>h.2)) (fun _ h=>h.1))
       have n1_:=a0_ (Kd.R_mono (Kd.R_keep (IsS148.apart (is0_ : IsS148 w0 _ g s0_0 t16) (rr_ Z9.out) (by decide)) hk (fun _ h=>h.2)) (fun _ h=>h.1))
       have n2_:=kk_ hk BK1 NB1_0
       have n3_:=kk_ hk BK8 NB8_0
       have n4_:=a0_ (Kd.R_mono (Kd.R_keep (IsS148.apart (is0_ : IsS148 w0 _ g s0_0 t16) (rr_ HO19.out) (by decide)) hk (fun _ h=>h.2)) (fun _ h=>h.1))
       have n5_:=a0_ (KeepBut.trans (w:=w) hk_ hk (.inl rfl))
       have n6_:=a0_ (hb)
       have n7_:=a0_ (hi)
       clear HO_3
       clear Z9
       clear BK1
       clear BK8
       clear HO19
       clear HK
       clear HB
       clear HI0
       have HO_3:=n0_
       have Z9:=n1_
       have BK1:=n2_
       have BK8:=n3_
       have HO19:=n4_
       have HK:=n5_
       have HB:=n6_
       have HI0:=n7_
       clear n0_ n1_ n2_ n3_ n4_ n5_ n6_ n7_
       (try clear hb)
       (try clear hb2)
       (try clear hk)
       (try clear hi)
       refine hK.out _ _ ⟨(blk_cell BK8.out 0).trans rfl,HS1_⟩ (fun hHeld=>?_)
       clear hK K
       refine norm_ (a':=?_) ?_ ?_
       rotate_left
       ·show Act.put _ (some 32) _ = _
        simp only [Act.put,s1_,s2_,s3_,i64_w,i32_w]
        rfl
       refine pure_ (i:=14) (N:=some 33) (v:=?_) (a':=?_) #[true,true,true,true,true,true,true,true,true,true,true,true,true,true,true,false,false,false,false] rfl rfl (any_of HT_.out (by kernel_rfl)) (fun _ _ _ h=>h) (Or.inl ⟨by rfl,?_⟩) ?_ ?_
       rotate_left
       ·intro w'
        go_simp
        with_reducible rfl
       rotate_left
       ·simp only [Act.put,s1_,s2_,s3_,i64_w,i32_w]
        rfl
       refine one_ (i:=15) (N:=some 34) #[true,true,true,true,true,true,true,true,true,true,true,true,true,true,true,true,false,false,false] rfl rfl (one_of HT_.out (by kernel_rfl)) (by decide) (fun K hK=>?_)
       refine value_ (w1:=?_) (v:=?_) (by rfl) rfl ?_ ?_
       rotate_left 2
       ·go_simp
        constructor
        ·rfl
        ·rfl
       refine hK.out _ _ ⟨(blk_cell (blk_alloc BK8.out _) 0).trans rfl,(World.cell?_alloc_lt _ _ _ (World.block_lt_of_cell? _ _ (hHeld.2))).trans (hHeld.2)⟩ (fun hHeld=>?_)
       clear hK K
       refine norm_ (a':=?_) ?_ ?_
       rotate_left
       ·show Act.put _ (some 34) _ = _
        simp only [Act.put,s1_,s2_,s3_,i64_w,i32_w]
        rfl
       refine last_ (i:=16) (N:=some 35) #[true,true,true,true,true,true,true,true,true,true,true,true,true,true,true,true,true,false,false] rfl rfl (one_of HT_.out (by kernel_rfl)) (by decide) (fun K hK=>?_)
       refine Kd.R_append_step k125 w.heap.size (by rfl) (.tmp 20) (.tmp 34) 23 125 (.agg #[(.string ⟨#[]⟩),(.int .i64 0)]) 24 rfl Try.underlying23 info125 rfl (by decide) (by omega) u9000 x9000_1 (⟨rdOf ByteArray.empty y2 x6_1,t20⟩ : S125) [.string (rdOf ByteArray.empty y2 x6_1),.int .i64 t20] (fun _=>True) (fun _=>False) rfl rfl ?aP (fun _ hk=>hk.elim) ?aF ?aO (Below.refl _ _) ?aS ?aL ?_
       (case aP=>exact k125_mkM _ _ _ (⟨rdOf ByteArray.empty y2 x6_1,t20⟩ : S125))
       (case aF=>exact (fun _ _=>trivial))
       (case aO=>exact (rr_ Z9.out))
       (case aS=>exact (keep_size (w:=w) (g:=g) (row:=none) hk_))
       (case aL=>have:=LMc22.out;omega)
       intro v23 w30 ho hb hg hat
       rw [← Ny22.out] at ho
       have n0_:=a0_ (Kd.R_over' (rr_ HO_3.out) (Kd.R_typed (rr_ Z9.out)) (by decide) hg)
       have n1_:=a0_ (blk_grown (bb_ BK1.out) hg (Kd.R_ne Z9.out BK1.out (by decide)))
       have n2_:=a0_ (blk_grown (bb_ BK8.out) hg (Kd.R_ne Z9.out BK8.out (by decide)))
       have n3_:=a0_ (IsS148.grown is0_ hg (IsS148.own_ne HI0.out Z9.out (by decide)))
       have n4_:=a0_ (Kd.R_over' (rr_ HO19.out) (Kd.R_typed (rr_ Z9.out)) (by decide) hg)
       have n5_:=a0_ (below_weaken hbi0_ HL.out hb)
       have n6_:=a0_ (KeepBut.trans (w:=w) hk_ (KeepBut.of_grown hg g) (Kd.R_base2 Z9.out))
       have n7_:=a0_ (ho)
       clear HO_3
       clear BK1
       clear BK8
       clear HI0
       clear HO19
       clear HB
       clear HK
       clear Z9
       have HO_3:=n0_
       have BK1:=n1_
       have BK8:=n2_
       have HI0:=n3_
       have HO19:=n4_
       have HB:=n5_
       have HK:=n6_
       have HO24:=n7_
       clear n0_ n1_ n2_ n3_ n4_ n5_ n6_ n7_
       clear ho hb hg hat
       obtain ⟨Ao31,co31,eo31⟩:=Kd.R_slice HO24.out
       (first | subst eo31 | (injection eo31 with f1_ f2_ f3_;have f4_:=f1_.symm;have f5_:=f3_.symm;clear f1_ f2_ f3_;subst f4_;subst f5_))
       refine hK.out _ _ ?_
       clear hK K
       refine norm_ (a':=?_) ?_ ?_
       rotate_left
       ·show Act.put _ (some 35) _ = _
        simp only [Act.put,s1_,s2_,s3_,i64_w,i32_w]
        rfl
       refine pure_ (i:=17) (N:=some 36) (v:=?_) (a':=?_) #[true,true,true,true,true,true,true,true,true,true,true,true,true,true,true,true,true,true,false] rfl rfl (any_of HT_.out (by kernel_rfl)) (fun _ _ _ h=>h) (Or.inl ⟨by rfl,?_⟩) ?_ ?_
       rotate_left
       ·intro w'
        go_simp
        with_reducible rfl
       rotate_left
       ·simp only [Act.put,s1_,s2_,s3_,i64_w,i32_w]
        rfl
       refine last_ (i:=18) (N:=none) #[true,true,true,true,true,true,true,true,true,true,true,true,true,true,true,true,true,true,true] rfl rfl (one_of HT_.out (by kernel_rfl)) (by decide) (fun K hK=>?_)
       have hs32 : w30.cell? ⟨gb8,0,none⟩ = some (u9000):=(blk_cell BK8.out 0).trans rfl
       have hfs32:=blk_frozen BK8.out 0
       have hns32_0:=NB1_8.out
       have hms32_0:=NB8_1.out
       refine skip_ (w1:=?_) (by rfl) rfl ?_ ?_
       rotate_left
       ·go_simp
        rfl
       refine hK.out _ _ ?_
       clear hK K
       refine done_ (done_of HT_.out (by kernel_rfl)) ?_
       try go_wp2
       go_roundg k1
       case measure=>have:=HK1.out;omega
       case rel=>exact ⟨(wrap64 (x6_1 + 1)),(t21),(y22),(.slice Ao31 y22.length co31),(by first | rfl | (simp;done) | (simp [*];done)),H',⟨by have:=HK1.out;omega⟩,⟨by (with_reducible repeat (first | apply Kd.R_alloc | apply Kd.R_drewN | apply Kd.R_drew));exact Kd.R_mono (Kd.R_far (p:=⟨gb8,0,none⟩) (Kd.R_types HO_3.out BK8.out (by decide)) (fun _ hk=>hk.2) (.slice Ao31 y22.length co31)) (fun _ hk=>trivial)⟩,⟨by (with_reducible repeat (first | apply Kd.R_alloc | apply Kd.R_drewN | apply Kd.R_drew));exact Kd.R_mono (Kd.R_far (p:=⟨gb8,0,none⟩) (Kd.R_types HO24.out BK8.out (by decide)) (fun _ hk=>hk.2) (.slice Ao31 y22.length co31)) (fun _ hk=>trivial)⟩,⟨by (with_reducible repeat (first | refine blk_drewN ?_ _ | refine blk_drew ?_ | refine blk_alloc ?_ _));refine blk_far ?_ NB1_8.out _;(with_reducible repeat (first | refine blk_drewN ?_ _ | refine blk_drew ?_ | refine blk_alloc ?_ _));exact BK1.out⟩,⟨by (with_reducible repeat (first | refine blk_drewN ?_ _ | refine blk_drew ?_ | refine blk_alloc ?_ _));refine blk_put (cs:=#[u9000]) ?_ 0 _ rfl;(with_reducible repeat (first | refine blk_drewN ?_ _ | refine blk_drew ?_ | refine blk_alloc ?_ _));exact BK8.out⟩,⟨is0_⟩,⟨hk_⟩,⟨hbi0_⟩⟩
      ·rw [if_neg c22] at H
       exact absurd H (by simp)
     ·rw [if_neg c19] at H
      exact absurd H (by simp)
    ·rw [if_neg c18] at H
     exact absurd H (by simp)
   ·rw [if_neg c17] at H
    have c17b0 : decide (x6_1 < t12) = false:=decide_eq_false c17
    clear c17
    simp only [Option.some.injEq,Prod.mk.injEq] at H
    obtain ⟨rfl,rfl⟩:=H
    have hnb33:=NB8_1.out
    have hnc33:=NB1_8.out
    have hnb34:=NB8_0.out
    have hnc34:=NB0_8.out
    have hcz35_0 : wr.cell? ⟨gb8,0,none⟩ = some (u9000):=(blk_cell BK8.out 0).trans rfl
    have hfz35_0:=blk_frozen BK8.out 0
    obtain ⟨Ao36,co36,eo36⟩:=Kd.R_slice Z9.out
    subst eo36
    have hnb37:=NB1_0.out
    have hnc37:=NB0_1.out
    have hcz38_0 : wr.cell? ⟨gb1,0,none⟩ = some (.slice none 0 0):=(blk_cell BK1.out 0).trans rfl
    have hfz38_0:=blk_frozen BK1.out 0
    go_wp2
    refine bodyPost_ret (results_cell_row rfl _ _ gb1 25 #[.slice Ao36 x9000_1.length co36] (0,0) _ rfl (by (with_reducible repeat (first | refine blk_drewN ?_ _ | refine blk_drew ?_ | refine blk_alloc ?_ _));refine blk_put (cs:=#[.slice none 0 0]) ?_ 0 _ rfl;(with_reducible repeat (first | refine blk_drewN ?_ _ | refine blk_drew ?_ | refine blk_alloc ?_ _));exact BK1.out) Try.underlying25 rfl (by kernel_rfl)) rfl ?_
    exact ⟨_,by first | rfl | (simp [errW_none,errW_some] <;> rfl) | (simp [*,errW_none,errW_some] <;> rfl),by (with_reducible repeat (first | apply Kd.R_alloc | apply Kd.R_drewN | apply Kd.R_drew));exact Kd.R_mono (Kd.R_far (p:=⟨gb1,0,none⟩) (Kd.R_types Z9.out BK1.out (by decide)) (fun _ hk=>hk.2) (.slice Ao36 x9000_1.length co36)) (fun _ hk=>trivial),is0_,hbi0_,hk_⟩
theorem spec_goodTree_l0 (b : List Int) (hb : byL b) (nm : List ByteArray) (hm : nm.length = 8) (hs : ∀ x ∈ nm,x.size ≤ 7) (n : Nat) (hn : n ≤ 8) : ∀ (d i : Nat) (q : Int) (t : List Cls),i + d = n → 1 ≤ i → t.length = i → 0 ≤ q → q + 2 * d ≤ 1099511627776 → gT t → ∃ t' q',Ev (fun k=>spec_goodTree.l0 k nm (n : Int) (i : Int) b q t) (t',q') ∧ q ≤ q' ∧ q' ≤ q + 2 * d ∧ t'.length = n ∧ gT t':=by
 intro d
 induction d with
 | zero =>
  intro i q t hi h1 hl hq0 hq1 hg
  refine ⟨t,q,Ev.succ ?_,by omega,by omega,by omega,hg⟩
  simp only [spec_goodTree.l0]
  exact Ev.neg (by omega) (Ev.const rfl)
 | succ d ih =>
  intro i q t hi h1 hl hq0 hq1 hg
  obtain ⟨x,hx,x0,x1,_⟩:=spec_pick_ev b q (i : Int) hb hq0 (by omega)
  have hxi:=x1 (by omega)
  have ew : wrap64 ((i : Int) - 1) = (i : Int) - 1:=wrap_in (by omega) (by omega)
  obtain ⟨y,hy,hym⟩:=spec_one_ev b (q + 1) [0,x,(i : Int) - 1] hb (by omega) (by omega) (by simp)
  have hyr : 0 ≤ y ∧ y ≤ (i : Int) - 1:=by
   simp only [List.mem_cons,List.not_mem_nil,or_false] at hym
   omega
  have hnm : (rdOf ByteArray.empty nm (i : Int)).size ≤ 7:=by
   refine hs _ ?_
   unfold rdOf
   rw [Int.toNat_natCast,List.getD_eq_getElem?_getD,List.getElem?_eq_getElem (show i < nm.length by omega)]
   exact List.getElem_mem _
  obtain ⟨t',q',he,h2,h3,h4,h5⟩:=ih (i + 1) (q + 1 + 1) (t ++ [⟨rdOf ByteArray.empty nm (i : Int),y⟩]) (by omega) (by omega) (by simp;omega) (by omega) (by omega) (gT_snoc hg (by omega) _ hnm hyr.1 (by rw [hl];exact hyr.2))
  refine ⟨t',q',Ev.succ ?_,by omega,by omega,h4,h5⟩
  simp only [spec_goodTree.l0,ew]
  refine Ev.pos (by omega) (Ev.pos (by omega) (Ev.pos (by omega) (Ev.bind hx (Ev.bind hy (Ev.pos (by omega) ?_)))))
  rw [wrap_succ (i:=(i : Int)) (n:=8) (by omega) (by omega) (by omega)]
  exact he
theorem spec_goodTree_ev (b : List Int) (p : Int) (hb : byL b) (h0 : 0 ≤ p) (hp : p ≤ 1099511627000) : ∃ t q,Ev (fun k=>spec_goodTree.f k b p) (t,q) ∧ p ≤ q ∧ q ≤ p + 20 ∧ 1 ≤ t.length ∧ t.length ≤ 8 ∧ gT t:=by
 obtain ⟨n,hn,hnm⟩:=spec_one_ev b p [4,5,3,6,2,1,8] hb h0 (by omega) (by simp)
 have hr : 1 ≤ n ∧ n ≤ 8:=by
  simp only [List.mem_cons,List.not_mem_nil,or_false] at hnm
  omega
 obtain ⟨m,rfl⟩:=Int.eq_ofNat_of_zero_le (show 0 ≤ n by omega)
 obtain ⟨t,q,he,h2,h3,h4,h5⟩:=spec_goodTree_l0 b hb [(⟨#[97,110,121]⟩ : ByteArray),(⟨#[105,111]⟩ : ByteArray),(⟨#[107,101,121]⟩ : ByteArray),(⟨#[116,105,109,101]⟩ : ByteArray),(⟨#[110,101,116]⟩ : ByteArray),(⟨#[100,105,115,107]⟩ : ByteArray),(⟨#[116,121,112,101]⟩ : ByteArray),(⟨#[111,100,100]⟩ : ByteArray)] rfl (by
  intro x hx
  simp only [List.mem_cons,List.not_mem_nil,or_false] at hx
  rcases hx with rfl | rfl | rfl | rfl | rfl | rfl | rfl | rfl <;> decide) m (by omega) (m - 1) 1 (p + 1) [⟨(⟨#[97,110,121]⟩ : ByteArray),(-1)⟩] (by omega) (by omega) rfl (by omega) (by omega) (by
  refine ⟨fun x hx=>?_,fun j hj=>?_⟩
  ·obtain rfl : x = ⟨(⟨#[97,110,121]⟩ : ByteArray),(-1)⟩:=by simpa using hx
   decide
  ·obtain rfl : j = 0:=by simp at hj;omega
   exact ⟨fun _=>rfl,fun h=>by omega⟩)
 exact ⟨t,q,Ev.bind hn he,by omega,by omega,by omega,by omega,h5⟩
end Go.Proofs.Ytacgehaipacehaa.P
namespace Go.Proofs.Ytacgehaipacehaa.P
open Go.RowKit Go.Proofs.YtacgehaipacehaaW.PrintWords Go.Proofs.YtacgehaipacehaaW.PrintLast Go.Proofs.YtacgehaipacehaaW.PrintMore
attribute [local go_sem] max2_int min2_int max_two min_two max_three min_three max_four min_four
set_option linter.unusedVariables false
set_option linter.unusedSimpArgs false
def spec_reader_of.f (k : Nat) (s0_0 : List Int) (s0_1 : Int) (l1 : List ByteArray) : Option (ByteArray × Int):=(spec_reader_pick.f k s0_0 s0_1 (l1.length : Int)).bind fun bt1=>(if 0 ≤ bt1.1 then (if bt1.1 < (l1.length : Int) then (some (rdOf ByteArray.empty l1 bt1.1,bt1.2)) else (none)) else (none))
theorem spec_reader_of.mono : ∀ a0 a1 a2 k,LeO (spec_reader_of.f k a0 a1 a2) (spec_reader_of.f (k + 1) a0 a1 a2):=by
 intro a0 a1 a2 k
 unfold spec_reader_of.f
 repeat' first
   | (with_reducible exact spec_reader_pick.mono _ _ _ _)
   | (with_reducible exact LeO.refl _)
   | (with_reducible exact LeO.none _)
   | (with_reducible refine LeO.ite ?_ ?_)
   | (with_reducible refine LeO.bind ?_ (fun _=>?_))
   | exact spec_reader_pick.mono _ _ _ _
   | exact LeO.none _
   | refine LeO.ite ?_ ?_
   | refine LeO.bind ?_ (fun _=>?_)
set_option maxHeartbeats 8000000 in
set_option maxRecDepth 100000 in
theorem spec_reader_of.calls (k : Nat) (g : Nat) (s0_0 : List Int) (s0_1 : Int) (A1 : Option Addr) (c1 : Nat) (l1 : List ByteArray) (r1 : ByteArray) (r2 : Int) (w0 w : World) (hI : IsS148 w0 w g s0_0 s0_1) (hB : Below w0.heap.size w0 w) (hr1 : Kd.C Kd.string w A1 l1.length l1) (hc1 : l1.length ≤ c1) (hf1 : ∀ ad,A1 = some ad → 0 < l1.length → ad.block ≠ g) (h : spec_reader_of.f k s0_0 s0_1 l1 = some (r1,r2)) :
  Calls Try.prog 147 #[.pointer (some ⟨g,0,none⟩),.slice A1 l1.length c1] w fun e w'=>e = .returned (.string r1) ∧ IsS148 w0 w' g s0_0 r2 ∧ Below w0.heap.size w0 w' ∧ KeepBut w w' g none:=by
 have HR1:=a0_ hr1
 have HC1:=a0_ hc1
 clear hr1 hc1
 have HI0:=a0_ hI
 have HK:=a0_ (KeepBut.refl w g none)
 have HL:=a0_ hB.size
 clear hI
 have HW0:=a0_ hB.size
 have HB:=a0_ hB
 clear hB
 have H : ((spec_reader_pick.f k s0_0 s0_1 (l1.length : Int)).bind fun bt1=>(if 0 ≤ bt1.1 then (if bt1.1 < (l1.length : Int) then (some (rdOf ByteArray.empty l1 bt1.1,bt1.2)) else (none)) else (none))) = some (r1,r2):=h
 clear h
 replace H:=Option.bind_eq_some_iff.mp H
 obtain ⟨⟨t1,t2⟩,A30,H⟩:=H
 try dsimp only at H
 have A3:=a0_ A30
 clear A30
 by_cases c4 : 0 ≤ t1
 ·rw [if_pos c4] at H
  have c4b0 : decide (0 ≤ t1) = true:=decide_eq_true c4
  clear c4
  by_cases c5 : t1 < (l1.length : Int)
  ·rw [if_pos c5] at H
   have c5b0 : decide (t1 < (l1.length : Int)) = true:=decide_eq_true c5
   clear c5
   simp only [Option.some.injEq,Prod.mk.injEq] at H
   obtain ⟨rfl,rfl⟩:=H
   go_enter Try.func147,Try.ntmps147
   go_wp2_with (first | ((with_reducible refine gate_callee (f:=110) rfl ?_);refine goesL_ (some 9) rfl rfl Try.func110 (by kernel_rfl) rfl #[.pointer (some ⟨g,0,none⟩),.int .i64 (l1.length : Int)] rfl lm_ ?_;(with_reducible refine (spec_reader_pick.calls k g s0_0 s0_1 (l1.length : Int) t1 t2 w0 _ ?side1 ?side2 A3.out).mono ?_);(case side1=>exact is0_);(case side2=>exact hbi0_);rintro e w6 ⟨rfl,hi,hb,hk⟩;refine ⟨_,rfl,?_⟩;replace HK:=a0_ (KeepBut.trans (w:=w) hk_ hk (.inl rfl));replace HI0:=a0_ (hi);replace HB:=a0_ (hb);(try clear hb);have p3 : 0 ≤ (t1 : Int):=of_decide_eq_true (by first | (with_reducible assumption) | assumption);have q3 : t1 < (l1.length : Int):=of_decide_eq_true (by first | (with_reducible assumption) | assumption);obtain ⟨ad3,e3,hx3_0⟩:=Kd.at_string HR1.out t1 p3 q3;cases e3;replace hx3_0:=keep_cell HK.out hx3_0 (by first | (rw [add_block];exact hf1 _ rfl (by omega)) | exact hf1 _ rfl (by omega) | exact hf1 ad3 rfl (by omega));replace p3:=eq_true p3;replace q3:=eq_true q3))
   go_ret
   exact ⟨by first | rfl | (simp [errW_none,errW_some] <;> rfl) | (simp [*,errW_none,errW_some] <;> rfl),is0_,hbi0_,hk_⟩
  ·rw [if_neg c5] at H
   exact absurd H (by simp)
 ·rw [if_neg c4] at H
  exact absurd H (by simp)
theorem spec_of_ev (b : List Int) (p : Int) (l : List ByteArray) (hb : byL b) (h0 : 0 ≤ p) (hp : p ≤ 1099511627776) (hl : 1 ≤ l.length) : ∃ x,Ev (fun k=>spec_reader_of.f k b p l) (x,p + 1) ∧ x ∈ l:=by
 obtain ⟨x,hx,x0,x1,_⟩:=spec_pick_ev b p (l.length : Int) hb h0 hp
 have hlt:=x1 (by omega)
 have hn : x.toNat < l.length:=by omega
 refine ⟨rdOf ByteArray.empty l x,Ev.bind hx (Ev.pos x0 (Ev.pos hlt (Ev.const rfl))),?_⟩
 unfold rdOf
 rw [List.getD_eq_getElem?_getD,List.getElem?_eq_getElem hn]
 exact List.getElem_mem hn
end Go.Proofs.Ytacgehaipacehaa.P
