/- Texts under the proof of FnTopTreeUpto: helper words, the functions' contracts and the plain laws. No condition. -/
import Derived.Test.YtacgehaipacehaaProg
import Derived.Below
import Derived.Deep.Draws
import Derived.Deep.AppendLies
import Derived.Maps.AppendAt
import Derived.OwnWalk
import Derived.Laws.BytesArg
import Derived.Laws.MakeOwn
import Derived.Laws.OwnMore
import Derived.Deep.OwnRows
import Derived.Tactics
import Derived.Lib.ConvBytes
import Derived.Laws.Slices
import Derived.WalkKit
import Derived.KernelRfl
import Derived.RowKit3
import Derived.Deep.LoopGhost
import Derived.Deep.QuietTactic
import Derived.BigQuiet
import Derived.WideLaws
import Derived.Deep.DeepCutAuto
import Derived.Deep.CutBlock
import Derived.Deep.RegionHeld3
import Derived.Laws.Rows
import Derived.Lib.AppendStr
import Derived.ArgAppend
import Derived.Laws.IdiomCopy
import Derived.OrdersHeld
import Derived.Laws.BitsLemmas
import Derived.RowKit
import Derived.Shelf.Abstract
import Derived.Test.YtacgehaipacehaaQFnTopTreeUptowWords
import Derived.Test.YtacgehaipacehaaQFnTopTreeUptowLast
import Derived.Test.YtacgehaipacehaaQFnTopTreeUptowTab
import Derived.Test.YtacgehaipacehaaQFnTopTreeUptowFour
import Derived.Test.YtacgehaipacehaaQFnTopTreeUptowQPut
import Derived.Test.YtacgehaipacehaaQFnTopTreeUptowApart
import Derived.Test.YtacgehaipacehaaQFnTopTreeUptowArr
import Derived.Test.YtacgehaipacehaaQFnTopTreeUptowZeros
import Derived.Test.YtacgehaipacehaaQFnTopTreeUptowFoot
import Derived.Test.YtacgehaipacehaaQFnTopTreeUptowKept
import Derived.Test.YtacgehaipacehaaQFnTopTreeUptowShare
import Derived.Test.YtacgehaipacehaaQFnTopTreeUptowN
import Derived.Test.YtacgehaipacehaaQFnTopTreeUptowFootNe
import Derived.Test.YtacgehaipacehaaQFnTopTreeUptowAt
import Derived.Test.YtacgehaipacehaaQFnTopTreeUptowEqStruct
import Derived.Test.YtacgehaipacehaaQFnTopTreeUptowRepsOne
import Derived.Test.YtacgehaipacehaaQFnTopTreeUptowInv
import Derived.Test.YtacgehaipacehaaQFnTopTreeUptowInvWords
import Derived.Test.YtacgehaipacehaaQFnTopTreeUptowGuard
import Derived.Test.YtacgehaipacehaaQFnTopTreeUptowNEv
import Derived.Test.YtacgehaipacehaaQFnTopTreeUptowMore
import Derived.Test.YtacgehaipacehaaQFnTopTreeUptowMine
import Derived.Lib.Strings
import Derived.Lib.Builder
import Derived.Lib.UnsafeStr
import Derived.Test.YtacgehaipacehaaQFnTopTreeUptowShelf
import Derived.Lib.CutLaws
namespace Go.Proofs.Ytacgehaipacehaa.P
open Go.RowKit Go.Proofs.YtacgehaipacehaaW.PrintWords Go.Proofs.YtacgehaipacehaaW.PrintLast Go.Proofs.YtacgehaipacehaaW.PrintMore
theorem s1_ {α : Type} (l : List α) (i : Nat) (a : α) : l.toArray.setIfInBounds i a = (l.set i a).toArray := List.setIfInBounds_toArray l i a
theorem s2_ {α : Type} (a b : α) (l : List α) : (a :: l).set 0 b = b :: l := rfl
theorem s3_ {α : Type} (a b : α) (l : List α) (n : Nat) : (a :: l).set (n + 1) b = a :: l.set n b := rfl
theorem a0_ {P : Prop} (h : P) : Aside0 P := Aside0.mk h
theorem hbw_ {n : Nat} {w w' : World} (h : Below n w w' := by repeat (first | (with_reducible first | exact HB.out | apply below_alloc | apply pw_below_drewN | apply below_drew1 | refine below_set ?_ (Aside0.out (by assumption))) | exact HB.out)) : Below n w w' := h
theorem lm_ {P : Prop} (h : P := by (try simp only [List.map_toArray, List.map_cons, List.map_nil]); first | done | rfl | (simp only [List.length_drop, List.length_take]; rfl)) : P := h
theorem rr_ {P Q : Prop} (x : P) (h : P → Q := by intro x_; (with_reducible repeat (first | apply Kd.R_alloc | apply Kd.R_drewN | apply Kd.R_drew)); exact x_) : Q := h x
theorem rm_ {α : Type} {d : Kd α} {e : Nat} {w w' : World} {base : Nat} {ok ok' : Nat → Prop} {v : Value} {xs : List α} (x : d.R e w base ok v xs) (f : ∀ k, ok k → ok' k) (h : d.R e w base ok' v xs → d.R e w' base ok' v xs := by intro x_; (with_reducible repeat (first | apply Kd.R_alloc | apply Kd.R_drewN | apply Kd.R_drew)); exact x_) : d.R e w' base ok' v xs := h (Kd.R_mono x f)
theorem bb_ {P Q : Prop} (x : P) (h : P → Q := by intro x_; (with_reducible repeat (first | refine blk_drewN ?_ _ | refine blk_drew ?_ | refine blk_alloc ?_ _)); exact x_) : Q := h x
theorem cc_ {P Q : Prop} (x : P) (h : P → Q := by intro x_; repeat (first | exact x_ | (with_reducible refine Kd.C_alloc ?_ _) | (with_reducible refine Kd.C_drewN ?_ _) | (with_reducible refine Kd.C_drew ?_))) : Q := h x
theorem kb_ {w0 w w1 : World} {g : Nat} {o : Obj} (x : Aside0 (w0.heap[g]? = some o)) (hb : Below w.heap.size w w1) (h : w0.heap[g]? = some o → w.heap[g]? = some o := by intro x_; (with_reducible repeat (first | refine blk_drewN ?_ _ | refine blk_drew ?_ | refine blk_alloc ?_ _)); exact x_) : Aside0 (w1.heap[g]? = some o) := ⟨blk_below (h x.1) hb⟩
theorem kf_ {w0 w w1 : World} {g b : Nat} {t : TypeId} {cs : Array Value} (x : Aside0 (w0.heap[g]? = some (.cells cs t (0, 0)))) (ne : Aside0 (g ≠ b)) (hb : Below w.heap.size w w1) (h : w0.heap[g]? = some (.cells cs t (0, 0)) → g ≠ b → w.heap[g]? = some (.cells cs t (0, 0)) := by intro x_ n_; (with_reducible repeat (first | refine blk_drewN ?_ _ | refine blk_drew ?_ | refine blk_alloc ?_ _)); refine blk_far ?_ n_ _; (with_reducible repeat (first | refine blk_drewN ?_ _ | refine blk_drew ?_ | refine blk_alloc ?_ _)); exact x_) : Aside0 (w1.heap[g]? = some (.cells cs t (0, 0))) := ⟨blk_below (h x.1 ne.1) hb⟩
theorem rb_ {α : Type} {d : Kd α} {e : Nat} {w0 w w1 : World} {base : Nat} {ok : Nat → Prop} {v : Value} {xs : List α} (x : Aside0 (d.R e w0 base ok v xs)) (hb : Below w.heap.size w w1) (h : d.R e w0 base ok v xs → d.R e w base ok v xs := by intro x_; (with_reducible repeat (first | apply Kd.R_alloc | apply Kd.R_drewN | apply Kd.R_drew)); exact x_) : Aside0 (d.R e w1 base ok v xs) := ⟨Kd.R_below (h x.1) hb⟩
theorem hk_ {w W : World} {g : Nat} {row : Option Nat} (h : KeepBut w W g row := by repeat (first | (with_reducible first | exact HK.out | apply KeepBut.set_ | apply keep_drewN | apply keep_drew | apply keep_alloc | refine keep_far ?_ (Aside0.out (by assumption)) _) | exact HK.out)) : KeepBut w W g row := h
theorem bff_ {P Q : Prop} (x : P) (h : P → Q := by intro x_; repeat (first | (with_reducible first | exact x_ | refine blk_drewN ?_ _ | refine blk_drew ?_ | refine blk_alloc ?_ _ | refine blk_far ?_ (Aside0.out (by assumption)) _) | exact x_)) : Q := h x
theorem kk_ {w0 w w1 : World} {g g' : Nat} {row : Option Nat} {o : Obj} (hk : KeepBut w w1 g row) (x : Aside0 (w0.heap[g']? = some o)) (ne : Aside0 (g' ≠ g)) (hr : some g' ≠ row := by simp) (h : w0.heap[g']? = some o → w.heap[g']? = some o := by intro x_; repeat (first | (with_reducible first | exact x_ | refine blk_drewN ?_ _ | refine blk_drew ?_ | refine blk_alloc ?_ _ | refine blk_far ?_ (Aside0.out (by assumption)) _) | exact x_)) : Aside0 (w1.heap[g']? = some o) := ⟨KeepBut.blk hk (h x.1) ne.1 hr⟩
theorem rf_ {α : Type} {d : Kd α} {e : Nat} {w W : World} {base : Nat} {ok : Nat → Prop} {v : Value} {xs : List α} {g t : Nat} {cells : Array Value} (x : d.R e w base ok v xs) (b : w.heap[g]? = some (.cells cells t (0, 0))) (u : Value) (ht : ∀ q, q ∈ e :: d.E → q ≠ t := by decide) (h : d.R e (w.setCell ⟨g, 0, none⟩ u) base ok v xs → d.R e W base ok v xs := by intro x_; (with_reducible repeat (first | apply Kd.R_alloc | apply Kd.R_drewN | apply Kd.R_drew)); exact x_) : d.R e W base ok v xs := h (Kd.R_mono (Kd.R_far (p := ⟨g, 0, none⟩) (Kd.R_types x b ht) (fun _ hk => hk.2) u) (fun _ h_ => h_.1))
theorem nl_ {w : World} {n : Nat} {o : Obj} (g : Nat) (hg : n = w.heap.size) (x : w.heap[g]? = some o) : Aside0 (g ≠ n) := ⟨by rw [hg]; exact Nat.ne_of_lt (blk_lt x)⟩
theorem ng_ {w : World} {n : Nat} {o : Obj} (g : Nat) (hg : n = w.heap.size) (x : w.heap[g]? = some o) : Aside0 (n ≠ g) := ⟨by rw [hg]; exact Nat.ne_of_gt (blk_lt x)⟩
end Go.Proofs.Ytacgehaipacehaa.P
namespace Go.Proofs.Ytacgehaipacehaa.P
open Go.RowKit Go.Proofs.YtacgehaipacehaaW.PrintWords Go.Proofs.YtacgehaipacehaaW.PrintLast Go.Proofs.YtacgehaipacehaaW.PrintMore
attribute [local go_sem] max2_int min2_int max_two min_two max_three min_three max_four min_four
set_option linter.unusedVariables false
set_option linter.unusedSimpArgs false
def errW : Option Int → Value
 | none=>.nilIface
 | some c=>.iface 0 (.int .i64 c)
theorem errW_none : errW none = .nilIface:=rfl
theorem errW_some (c : Int) : errW (some c) = .iface 0 (.int .i64 c):=rfl
theorem info3 : (Try.prog.info? 3).map (fun i=>(i.zero,i.size,i.bytes)) = some (some (.int .i64 0),1,8):=by kernel_rfl
theorem info5 : (Try.prog.info? 5).map (fun i=>(i.zero,i.size,i.bytes)) = some (some (.int .u8 0),1,1):=by kernel_rfl
theorem info9 : (Try.prog.info? 9).map (fun i=>(i.zero,i.size,i.bytes)) = some (some (.string ⟨#[]⟩),1,16):=by kernel_rfl
theorem info75 : (Try.prog.info? 75).map (fun i=>(i.zero,i.size,i.bytes)) = some (some (.agg #[(.int .i64 0),(.int .i64 0),(.int .i64 0),(.int .i64 0)]),4,32):=by kernel_rfl
theorem info95 : (Try.prog.info? 95).map (fun i=>(i.zero,i.size,i.bytes)) = some (some (.agg #[(.int .i64 0),(.int .i64 0),(.int .i64 0),(.int .i64 0)]),4,32):=by kernel_rfl
theorem info113 : (Try.prog.info? 113).map (fun i=>(i.zero,i.size,i.bytes)) = some (some (.agg #[(.string ⟨#[]⟩),(.int .i64 0)]),2,24):=by kernel_rfl
theorem info115 : (Try.prog.info? 115).map (fun i=>(i.zero,i.size,i.bytes)) = some (some (.agg #[(.string ⟨#[]⟩),(.int .i64 0),(.int .i64 0)]),3,32):=by kernel_rfl
theorem info125 : (Try.prog.info? 125).map (fun i=>(i.zero,i.size,i.bytes)) = some (some (.agg #[(.string ⟨#[]⟩),(.int .i64 0)]),2,24):=by kernel_rfl
structure S125 where
 f0 : ByteArray
 f1 : Int
def z125 : S125:=⟨(⟨#[]⟩ : ByteArray),(0 : Int)⟩
def k125 : Kd S125:=Kd.iso (Kd.pair Kd.string (Kd.int .i64)) (fun x : S125=>(x.f0,x.f1))
theorem k125_open {w : World} {x : S125} {cs : List Value} (h : k125.K w x cs) : cs = [.string x.f0,.int .i64 x.f1]:=by
 obtain ⟨_,_,rfl,rfl,rfl⟩:=h
 exact rfl
theorem k125_openM {w : World} {base : Nat} {ok : Nat → Prop} {x : S125} {cs : List Value} (h : k125.M w base ok x cs) : cs = [.string x.f0,.int .i64 x.f1]:=by
 obtain ⟨_,_,rfl,rfl,rfl⟩:=h
 exact rfl
theorem k125_mk (w : World) (x : S125)  : k125.K w x [.string x.f0,.int .i64 x.f1]:=⟨[.string x.f0],[.int .i64 x.f1],rfl,rfl,rfl⟩
theorem k125_mkM (w : World) (base : Nat) (ok : Nat → Prop) (x : S125)  : k125.M w base ok x [.string x.f0,.int .i64 x.f1]:=⟨[.string x.f0],[.int .i64 x.f1],rfl,rfl,rfl⟩
def rd_T125 (xs : List S125) (i : Int) : S125:=xs.getD i.toNat z125
theorem at_T125 {w : World} {A : Option Addr} {n : Nat} {xs : List S125} (h : Kd.C k125 w A n xs) (i : Int) (h0 : 0 ≤ i) (h1 : i < n) : ∃ ad ,A = some ad ∧ w.cell? (ad.add (i.toNat * 2)) = some (.string (rd_T125 xs i).f0) ∧ w.cell? ⟨(ad.add (i.toNat * 2)).block,(ad.add (i.toNat * 2)).off + 1,none⟩ = some (.int .i64 (rd_T125 xs i).f1):=by
 obtain ⟨ad,c,e,_,hK,hc0⟩:=Kd.C_get h z125 i h0 h1
 have hc : ∀ j u,c[j]? = some u → w.cell? (ad.add (i.toNat * 2 + j)) = some u:=hc0
 obtain rfl:=k125_open hK
 exact ⟨ad,e,hc 0 _ rfl,by rw [← add_field _ _ 1 (by omega)];exact hc 1 _ rfl⟩
def rd_L4 (xs : List (List S125)) (i : Int) : (List S125):=xs.getD i.toNat ([] : List S125)
theorem at_L4 {w : World} {A : Option Addr} {n : Nat} {xs : List (List S125)} (h : Kd.C (Kd.slice 125 k125) w A n xs) (i : Int) (h0 : 0 ≤ i) (h1 : i < n) : ∃ ad A0 c0,A = some ad ∧ w.cell? (ad.add i.toNat) = some (.slice A0 (rd_L4 xs i).length c0) ∧ (rd_L4 xs i).length ≤ c0 ∧ k125.C w A0 (rd_L4 xs i).length (rd_L4 xs i):=by
 obtain ⟨ad,c,e,_,hK,hc0⟩:=Kd.C_get h ([] : List S125) i h0 h1
 have hc : ∀ j u,c[j]? = some u → w.cell? (ad.add (i.toNat * 1 + j)) = some u:=hc0
 obtain ⟨A0,c0,rfl,l0,g0⟩:=hK
 exact ⟨ad,A0,c0,e,by have hq:=hc 0 _ rfl;rwa [Nat.mul_one,Nat.add_zero] at hq,l0,g0⟩
structure S25 where
 f0 : (List S125)
def z25 : S25:=⟨([] : List S125)⟩
def k25 : Kd S25:=Kd.iso (Kd.slice 125 k125) (fun x : S25=>x.f0)
theorem k25_open {w : World} {x : S25} {cs : List Value} (h : k25.K w x cs) : ∃ A0 c0,cs = [.slice A0 x.f0.length c0] ∧ x.f0.length ≤ c0 ∧ k125.C w A0 x.f0.length x.f0:=by
 obtain ⟨A0,c0,rfl,l0,g0⟩:=h
 exact ⟨A0,c0,rfl,l0,g0⟩
theorem k25_openM {w : World} {base : Nat} {ok : Nat → Prop} {x : S25} {cs : List Value} (h : k25.M w base ok x cs) : ∃ v0,cs = [v0] ∧ k125.R 125 w base ok v0 x.f0:=by
 obtain ⟨v0,rfl,g0⟩:=h
 exact ⟨v0,rfl,g0⟩
theorem k25_mk (w : World) (x : S25) {A0 : Option Addr} {c0 : Nat} (l0 : x.f0.length ≤ c0) (g0 : k125.C w A0 x.f0.length x.f0) : k25.K w x [.slice A0 x.f0.length c0]:=⟨A0,c0,rfl,l0,g0⟩
theorem k25_mkM (w : World) (base : Nat) (ok : Nat → Prop) (x : S25) {v0 : Value} (g0 : k125.R 125 w base ok v0 x.f0) : k25.M w base ok x [v0]:=⟨v0,rfl,g0⟩
def rd_T25 (xs : List S25) (i : Int) : S25:=xs.getD i.toNat z25
theorem at_T25 {w : World} {A : Option Addr} {n : Nat} {xs : List S25} (h : Kd.C k25 w A n xs) (i : Int) (h0 : 0 ≤ i) (h1 : i < n) : ∃ ad A0 c0,A = some ad ∧ w.cell? (ad.add i.toNat) = some (.slice A0 (rd_T25 xs i).f0.length c0) ∧ (rd_T25 xs i).f0.length ≤ c0 ∧ k125.C w A0 (rd_T25 xs i).f0.length (rd_T25 xs i).f0:=by
 obtain ⟨ad,c,e,_,hK,hc0⟩:=Kd.C_get h z25 i h0 h1
 have hc : ∀ j u,c[j]? = some u → w.cell? (ad.add (i.toNat * 1 + j)) = some u:=hc0
 obtain ⟨A0,c0,rfl,l0,g0⟩:=k25_open hK
 exact ⟨ad,A0,c0,e,by have hq:=hc 0 _ rfl;rwa [Nat.mul_one,Nat.add_zero] at hq,l0,g0⟩
def rd_L7 (xs : List (List Int)) (i : Int) : (List Int):=xs.getD i.toNat ([] : List Int)
theorem at_L7 {w : World} {A : Option Addr} {n : Nat} {xs : List (List Int)} (h : Kd.C (Kd.slice 3 (Kd.int .i64)) w A n xs) (i : Int) (h0 : 0 ≤ i) (h1 : i < n) : ∃ ad A0 c0,A = some ad ∧ w.cell? (ad.add i.toNat) = some (.slice A0 (rd_L7 xs i).length c0) ∧ (rd_L7 xs i).length ≤ c0 ∧ (Kd.int .i64).C w A0 (rd_L7 xs i).length (rd_L7 xs i):=by
 obtain ⟨ad,c,e,_,hK,hc0⟩:=Kd.C_get h ([] : List Int) i h0 h1
 have hc : ∀ j u,c[j]? = some u → w.cell? (ad.add (i.toNat * 1 + j)) = some u:=hc0
 obtain ⟨A0,c0,rfl,l0,g0⟩:=hK
 exact ⟨ad,A0,c0,e,by have hq:=hc 0 _ rfl;rwa [Nat.mul_one,Nat.add_zero] at hq,l0,g0⟩
structure S153 where
 f0 : ByteArray
 f1 : Int
def z153 : S153:=⟨(⟨#[]⟩ : ByteArray),(0 : Int)⟩
def k153 : Kd S153:=Kd.iso (Kd.pair Kd.string (Kd.int .i64)) (fun x : S153=>(x.f0,x.f1))
theorem k153_open {w : World} {x : S153} {cs : List Value} (h : k153.K w x cs) : cs = [.string x.f0,.int .i64 x.f1]:=by
 obtain ⟨_,_,rfl,rfl,rfl⟩:=h
 exact rfl
theorem k153_openM {w : World} {base : Nat} {ok : Nat → Prop} {x : S153} {cs : List Value} (h : k153.M w base ok x cs) : cs = [.string x.f0,.int .i64 x.f1]:=by
 obtain ⟨_,_,rfl,rfl,rfl⟩:=h
 exact rfl
theorem k153_mk (w : World) (x : S153)  : k153.K w x [.string x.f0,.int .i64 x.f1]:=⟨[.string x.f0],[.int .i64 x.f1],rfl,rfl,rfl⟩
theorem k153_mkM (w : World) (base : Nat) (ok : Nat → Prop) (x : S153)  : k153.M w base ok x [.string x.f0,.int .i64 x.f1]:=⟨[.string x.f0],[.int .i64 x.f1],rfl,rfl,rfl⟩
def rd_T153 (xs : List S153) (i : Int) : S153:=xs.getD i.toNat z153
theorem at_T153 {w : World} {A : Option Addr} {n : Nat} {xs : List S153} (h : Kd.C k153 w A n xs) (i : Int) (h0 : 0 ≤ i) (h1 : i < n) : ∃ ad ,A = some ad ∧ w.cell? (ad.add (i.toNat * 2)) = some (.string (rd_T153 xs i).f0) ∧ w.cell? ⟨(ad.add (i.toNat * 2)).block,(ad.add (i.toNat * 2)).off + 1,none⟩ = some (.int .i64 (rd_T153 xs i).f1):=by
 obtain ⟨ad,c,e,_,hK,hc0⟩:=Kd.C_get h z153 i h0 h1
 have hc : ∀ j u,c[j]? = some u → w.cell? (ad.add (i.toNat * 2 + j)) = some u:=hc0
 obtain rfl:=k153_open hK
 exact ⟨ad,e,hc 0 _ rfl,by rw [← add_field _ _ 1 (by omega)];exact hc 1 _ rfl⟩
structure S99 where
 f0 : Int
 f1 : Int
 f2 : Int
 f3 : Int
def z99 : S99:=⟨(0 : Int),(0 : Int),(0 : Int),(0 : Int)⟩
def k99 : Kd S99:=Kd.iso (Kd.pair (Kd.int .i64) (Kd.pair (Kd.int .i64) (Kd.pair (Kd.int .i64) (Kd.int .i64)))) (fun x : S99=>(x.f0,x.f1,x.f2,x.f3))
theorem k99_open {w : World} {x : S99} {cs : List Value} (h : k99.K w x cs) : cs = [.int .i64 x.f0,.int .i64 x.f1,.int .i64 x.f2,.int .i64 x.f3]:=by
 obtain ⟨_,_,rfl,rfl,⟨_,_,rfl,rfl,⟨_,_,rfl,rfl,rfl⟩⟩⟩:=h
 exact rfl
theorem k99_openM {w : World} {base : Nat} {ok : Nat → Prop} {x : S99} {cs : List Value} (h : k99.M w base ok x cs) : cs = [.int .i64 x.f0,.int .i64 x.f1,.int .i64 x.f2,.int .i64 x.f3]:=by
 obtain ⟨_,_,rfl,rfl,⟨_,_,rfl,rfl,⟨_,_,rfl,rfl,rfl⟩⟩⟩:=h
 exact rfl
theorem k99_mk (w : World) (x : S99)  : k99.K w x [.int .i64 x.f0,.int .i64 x.f1,.int .i64 x.f2,.int .i64 x.f3]:=⟨[.int .i64 x.f0],[.int .i64 x.f1,.int .i64 x.f2,.int .i64 x.f3],rfl,rfl,⟨[.int .i64 x.f1],[.int .i64 x.f2,.int .i64 x.f3],rfl,rfl,⟨[.int .i64 x.f2],[.int .i64 x.f3],rfl,rfl,rfl⟩⟩⟩
theorem k99_mkM (w : World) (base : Nat) (ok : Nat → Prop) (x : S99)  : k99.M w base ok x [.int .i64 x.f0,.int .i64 x.f1,.int .i64 x.f2,.int .i64 x.f3]:=⟨[.int .i64 x.f0],[.int .i64 x.f1,.int .i64 x.f2,.int .i64 x.f3],rfl,rfl,⟨[.int .i64 x.f1],[.int .i64 x.f2,.int .i64 x.f3],rfl,rfl,⟨[.int .i64 x.f2],[.int .i64 x.f3],rfl,rfl,rfl⟩⟩⟩
def rd_T99 (xs : List S99) (i : Int) : S99:=xs.getD i.toNat z99
theorem at_T99 {w : World} {A : Option Addr} {n : Nat} {xs : List S99} (h : Kd.C k99 w A n xs) (i : Int) (h0 : 0 ≤ i) (h1 : i < n) : ∃ ad ,A = some ad ∧ w.cell? (ad.add (i.toNat * 4)) = some (.int .i64 (rd_T99 xs i).f0) ∧ w.cell? ⟨(ad.add (i.toNat * 4)).block,(ad.add (i.toNat * 4)).off + 1,none⟩ = some (.int .i64 (rd_T99 xs i).f1) ∧ w.cell? ⟨(ad.add (i.toNat * 4)).block,(ad.add (i.toNat * 4)).off + 2,none⟩ = some (.int .i64 (rd_T99 xs i).f2) ∧ w.cell? ⟨(ad.add (i.toNat * 4)).block,(ad.add (i.toNat * 4)).off + 3,none⟩ = some (.int .i64 (rd_T99 xs i).f3):=by
 obtain ⟨ad,c,e,_,hK,hc0⟩:=Kd.C_get h z99 i h0 h1
 have hc : ∀ j u,c[j]? = some u → w.cell? (ad.add (i.toNat * 4 + j)) = some u:=hc0
 obtain rfl:=k99_open hK
 exact ⟨ad,e,hc 0 _ rfl,by rw [← add_field _ _ 1 (by omega)];exact hc 1 _ rfl,by rw [← add_field _ _ 2 (by omega)];exact hc 2 _ rfl,by rw [← add_field _ _ 3 (by omega)];exact hc 3 _ rfl⟩
structure S95 where
 f0 : Int
 f1 : Int
 f2 : Int
 f3 : Int
def z95 : S95:=⟨(0 : Int),(0 : Int),(0 : Int),(0 : Int)⟩
def k95 : Kd S95:=Kd.iso (Kd.pair (Kd.int .i64) (Kd.pair (Kd.int .i64) (Kd.pair (Kd.int .i64) (Kd.int .i64)))) (fun x : S95=>(x.f0,x.f1,x.f2,x.f3))
theorem k95_open {w : World} {x : S95} {cs : List Value} (h : k95.K w x cs) : cs = [.int .i64 x.f0,.int .i64 x.f1,.int .i64 x.f2,.int .i64 x.f3]:=by
 obtain ⟨_,_,rfl,rfl,⟨_,_,rfl,rfl,⟨_,_,rfl,rfl,rfl⟩⟩⟩:=h
 exact rfl
theorem k95_openM {w : World} {base : Nat} {ok : Nat → Prop} {x : S95} {cs : List Value} (h : k95.M w base ok x cs) : cs = [.int .i64 x.f0,.int .i64 x.f1,.int .i64 x.f2,.int .i64 x.f3]:=by
 obtain ⟨_,_,rfl,rfl,⟨_,_,rfl,rfl,⟨_,_,rfl,rfl,rfl⟩⟩⟩:=h
 exact rfl
theorem k95_mk (w : World) (x : S95)  : k95.K w x [.int .i64 x.f0,.int .i64 x.f1,.int .i64 x.f2,.int .i64 x.f3]:=⟨[.int .i64 x.f0],[.int .i64 x.f1,.int .i64 x.f2,.int .i64 x.f3],rfl,rfl,⟨[.int .i64 x.f1],[.int .i64 x.f2,.int .i64 x.f3],rfl,rfl,⟨[.int .i64 x.f2],[.int .i64 x.f3],rfl,rfl,rfl⟩⟩⟩
theorem k95_mkM (w : World) (base : Nat) (ok : Nat → Prop) (x : S95)  : k95.M w base ok x [.int .i64 x.f0,.int .i64 x.f1,.int .i64 x.f2,.int .i64 x.f3]:=⟨[.int .i64 x.f0],[.int .i64 x.f1,.int .i64 x.f2,.int .i64 x.f3],rfl,rfl,⟨[.int .i64 x.f1],[.int .i64 x.f2,.int .i64 x.f3],rfl,rfl,⟨[.int .i64 x.f2],[.int .i64 x.f3],rfl,rfl,rfl⟩⟩⟩
def rd_T95 (xs : List S95) (i : Int) : S95:=xs.getD i.toNat z95
theorem at_T95 {w : World} {A : Option Addr} {n : Nat} {xs : List S95} (h : Kd.C k95 w A n xs) (i : Int) (h0 : 0 ≤ i) (h1 : i < n) : ∃ ad ,A = some ad ∧ w.cell? (ad.add (i.toNat * 4)) = some (.int .i64 (rd_T95 xs i).f0) ∧ w.cell? ⟨(ad.add (i.toNat * 4)).block,(ad.add (i.toNat * 4)).off + 1,none⟩ = some (.int .i64 (rd_T95 xs i).f1) ∧ w.cell? ⟨(ad.add (i.toNat * 4)).block,(ad.add (i.toNat * 4)).off + 2,none⟩ = some (.int .i64 (rd_T95 xs i).f2) ∧ w.cell? ⟨(ad.add (i.toNat * 4)).block,(ad.add (i.toNat * 4)).off + 3,none⟩ = some (.int .i64 (rd_T95 xs i).f3):=by
 obtain ⟨ad,c,e,_,hK,hc0⟩:=Kd.C_get h z95 i h0 h1
 have hc : ∀ j u,c[j]? = some u → w.cell? (ad.add (i.toNat * 4 + j)) = some u:=hc0
 obtain rfl:=k95_open hK
 exact ⟨ad,e,hc 0 _ rfl,by rw [← add_field _ _ 1 (by omega)];exact hc 1 _ rfl,by rw [← add_field _ _ 2 (by omega)];exact hc 2 _ rfl,by rw [← add_field _ _ 3 (by omega)];exact hc 3 _ rfl⟩
structure S107 where
 f0 : ByteArray
 f1 : Int
def z107 : S107:=⟨(⟨#[]⟩ : ByteArray),(0 : Int)⟩
def k107 : Kd S107:=Kd.iso (Kd.pair Kd.string (Kd.int .i64)) (fun x : S107=>(x.f0,x.f1))
theorem k107_open {w : World} {x : S107} {cs : List Value} (h : k107.K w x cs) : cs = [.string x.f0,.int .i64 x.f1]:=by
 obtain ⟨_,_,rfl,rfl,rfl⟩:=h
 exact rfl
theorem k107_openM {w : World} {base : Nat} {ok : Nat → Prop} {x : S107} {cs : List Value} (h : k107.M w base ok x cs) : cs = [.string x.f0,.int .i64 x.f1]:=by
 obtain ⟨_,_,rfl,rfl,rfl⟩:=h
 exact rfl
theorem k107_mk (w : World) (x : S107)  : k107.K w x [.string x.f0,.int .i64 x.f1]:=⟨[.string x.f0],[.int .i64 x.f1],rfl,rfl,rfl⟩
theorem k107_mkM (w : World) (base : Nat) (ok : Nat → Prop) (x : S107)  : k107.M w base ok x [.string x.f0,.int .i64 x.f1]:=⟨[.string x.f0],[.int .i64 x.f1],rfl,rfl,rfl⟩
def rd_T107 (xs : List S107) (i : Int) : S107:=xs.getD i.toNat z107
theorem at_T107 {w : World} {A : Option Addr} {n : Nat} {xs : List S107} (h : Kd.C k107 w A n xs) (i : Int) (h0 : 0 ≤ i) (h1 : i < n) : ∃ ad ,A = some ad ∧ w.cell? (ad.add (i.toNat * 2)) = some (.string (rd_T107 xs i).f0) ∧ w.cell? ⟨(ad.add (i.toNat * 2)).block,(ad.add (i.toNat * 2)).off + 1,none⟩ = some (.int .i64 (rd_T107 xs i).f1):=by
 obtain ⟨ad,c,e,_,hK,hc0⟩:=Kd.C_get h z107 i h0 h1
 have hc : ∀ j u,c[j]? = some u → w.cell? (ad.add (i.toNat * 2 + j)) = some u:=hc0
 obtain rfl:=k107_open hK
 exact ⟨ad,e,hc 0 _ rfl,by rw [← add_field _ _ 1 (by omega)];exact hc 1 _ rfl⟩
structure S109 where
 f0 : S107
 f1 : Int
def z109 : S109:=⟨z107,(0 : Int)⟩
def k109 : Kd S109:=Kd.iso (Kd.pair k107 (Kd.int .i64)) (fun x : S109=>(x.f0,x.f1))
theorem k109_open {w : World} {x : S109} {cs : List Value} (h : k109.K w x cs) : cs = [.string x.f0.f0,.int .i64 x.f0.f1,.int .i64 x.f1]:=by
 obtain ⟨_,_,rfl,s0,rfl⟩:=h
 obtain rfl:=k107_open s0
 exact rfl
theorem k109_openM {w : World} {base : Nat} {ok : Nat → Prop} {x : S109} {cs : List Value} (h : k109.M w base ok x cs) : cs = [.string x.f0.f0,.int .i64 x.f0.f1,.int .i64 x.f1]:=by
 obtain ⟨_,_,rfl,s0,rfl⟩:=h
 obtain rfl:=k107_openM s0
 exact rfl
theorem k109_mk (w : World) (x : S109)  : k109.K w x [.string x.f0.f0,.int .i64 x.f0.f1,.int .i64 x.f1]:=⟨[.string x.f0.f0,.int .i64 x.f0.f1],[.int .i64 x.f1],rfl,(k107_mk w x.f0 ),rfl⟩
theorem k109_mkM (w : World) (base : Nat) (ok : Nat → Prop) (x : S109)  : k109.M w base ok x [.string x.f0.f0,.int .i64 x.f0.f1,.int .i64 x.f1]:=⟨[.string x.f0.f0,.int .i64 x.f0.f1],[.int .i64 x.f1],rfl,(k107_mkM w base ok x.f0 ),rfl⟩
def rd_T109 (xs : List S109) (i : Int) : S109:=xs.getD i.toNat z109
theorem at_T109 {w : World} {A : Option Addr} {n : Nat} {xs : List S109} (h : Kd.C k109 w A n xs) (i : Int) (h0 : 0 ≤ i) (h1 : i < n) : ∃ ad ,A = some ad ∧ w.cell? (ad.add (i.toNat * 3)) = some (.string (rd_T109 xs i).f0.f0) ∧ w.cell? ⟨(ad.add (i.toNat * 3)).block,(ad.add (i.toNat * 3)).off + 1,none⟩ = some (.int .i64 (rd_T109 xs i).f0.f1) ∧ w.cell? ⟨(ad.add (i.toNat * 3)).block,(ad.add (i.toNat * 3)).off + 2,none⟩ = some (.int .i64 (rd_T109 xs i).f1):=by
 obtain ⟨ad,c,e,_,hK,hc0⟩:=Kd.C_get h z109 i h0 h1
 have hc : ∀ j u,c[j]? = some u → w.cell? (ad.add (i.toNat * 3 + j)) = some u:=hc0
 obtain rfl:=k109_open hK
 exact ⟨ad,e,hc 0 _ rfl,by rw [← add_field _ _ 1 (by omega)];exact hc 1 _ rfl,by rw [← add_field _ _ 2 (by omega)];exact hc 2 _ rfl⟩
structure S113 where
 f0 : ByteArray
 f1 : Int
def z113 : S113:=⟨(⟨#[]⟩ : ByteArray),(0 : Int)⟩
def k113 : Kd S113:=Kd.iso (Kd.pair Kd.string (Kd.int .i64)) (fun x : S113=>(x.f0,x.f1))
theorem k113_open {w : World} {x : S113} {cs : List Value} (h : k113.K w x cs) : cs = [.string x.f0,.int .i64 x.f1]:=by
 obtain ⟨_,_,rfl,rfl,rfl⟩:=h
 exact rfl
theorem k113_openM {w : World} {base : Nat} {ok : Nat → Prop} {x : S113} {cs : List Value} (h : k113.M w base ok x cs) : cs = [.string x.f0,.int .i64 x.f1]:=by
 obtain ⟨_,_,rfl,rfl,rfl⟩:=h
 exact rfl
theorem k113_mk (w : World) (x : S113)  : k113.K w x [.string x.f0,.int .i64 x.f1]:=⟨[.string x.f0],[.int .i64 x.f1],rfl,rfl,rfl⟩
theorem k113_mkM (w : World) (base : Nat) (ok : Nat → Prop) (x : S113)  : k113.M w base ok x [.string x.f0,.int .i64 x.f1]:=⟨[.string x.f0],[.int .i64 x.f1],rfl,rfl,rfl⟩
def rd_T113 (xs : List S113) (i : Int) : S113:=xs.getD i.toNat z113
theorem at_T113 {w : World} {A : Option Addr} {n : Nat} {xs : List S113} (h : Kd.C k113 w A n xs) (i : Int) (h0 : 0 ≤ i) (h1 : i < n) : ∃ ad ,A = some ad ∧ w.cell? (ad.add (i.toNat * 2)) = some (.string (rd_T113 xs i).f0) ∧ w.cell? ⟨(ad.add (i.toNat * 2)).block,(ad.add (i.toNat * 2)).off + 1,none⟩ = some (.int .i64 (rd_T113 xs i).f1):=by
 obtain ⟨ad,c,e,_,hK,hc0⟩:=Kd.C_get h z113 i h0 h1
 have hc : ∀ j u,c[j]? = some u → w.cell? (ad.add (i.toNat * 2 + j)) = some u:=hc0
 obtain rfl:=k113_open hK
 exact ⟨ad,e,hc 0 _ rfl,by rw [← add_field _ _ 1 (by omega)];exact hc 1 _ rfl⟩
structure S115 where
 f0 : S113
 f1 : Int
def z115 : S115:=⟨z113,(0 : Int)⟩
def k115 : Kd S115:=Kd.iso (Kd.pair k113 (Kd.int .i64)) (fun x : S115=>(x.f0,x.f1))
theorem k115_open {w : World} {x : S115} {cs : List Value} (h : k115.K w x cs) : cs = [.string x.f0.f0,.int .i64 x.f0.f1,.int .i64 x.f1]:=by
 obtain ⟨_,_,rfl,s0,rfl⟩:=h
 obtain rfl:=k113_open s0
 exact rfl
theorem k115_openM {w : World} {base : Nat} {ok : Nat → Prop} {x : S115} {cs : List Value} (h : k115.M w base ok x cs) : cs = [.string x.f0.f0,.int .i64 x.f0.f1,.int .i64 x.f1]:=by
 obtain ⟨_,_,rfl,s0,rfl⟩:=h
 obtain rfl:=k113_openM s0
 exact rfl
theorem k115_mk (w : World) (x : S115)  : k115.K w x [.string x.f0.f0,.int .i64 x.f0.f1,.int .i64 x.f1]:=⟨[.string x.f0.f0,.int .i64 x.f0.f1],[.int .i64 x.f1],rfl,(k113_mk w x.f0 ),rfl⟩
theorem k115_mkM (w : World) (base : Nat) (ok : Nat → Prop) (x : S115)  : k115.M w base ok x [.string x.f0.f0,.int .i64 x.f0.f1,.int .i64 x.f1]:=⟨[.string x.f0.f0,.int .i64 x.f0.f1],[.int .i64 x.f1],rfl,(k113_mkM w base ok x.f0 ),rfl⟩
def rd_T115 (xs : List S115) (i : Int) : S115:=xs.getD i.toNat z115
theorem at_T115 {w : World} {A : Option Addr} {n : Nat} {xs : List S115} (h : Kd.C k115 w A n xs) (i : Int) (h0 : 0 ≤ i) (h1 : i < n) : ∃ ad ,A = some ad ∧ w.cell? (ad.add (i.toNat * 3)) = some (.string (rd_T115 xs i).f0.f0) ∧ w.cell? ⟨(ad.add (i.toNat * 3)).block,(ad.add (i.toNat * 3)).off + 1,none⟩ = some (.int .i64 (rd_T115 xs i).f0.f1) ∧ w.cell? ⟨(ad.add (i.toNat * 3)).block,(ad.add (i.toNat * 3)).off + 2,none⟩ = some (.int .i64 (rd_T115 xs i).f1):=by
 obtain ⟨ad,c,e,_,hK,hc0⟩:=Kd.C_get h z115 i h0 h1
 have hc : ∀ j u,c[j]? = some u → w.cell? (ad.add (i.toNat * 3 + j)) = some u:=hc0
 obtain rfl:=k115_open hK
 exact ⟨ad,e,hc 0 _ rfl,by rw [← add_field _ _ 1 (by omega)];exact hc 1 _ rfl,by rw [← add_field _ _ 2 (by omega)];exact hc 2 _ rfl⟩
def rd_L15 (xs : List (List S113)) (i : Int) : (List S113):=xs.getD i.toNat ([] : List S113)
theorem at_L15 {w : World} {A : Option Addr} {n : Nat} {xs : List (List S113)} (h : Kd.C (Kd.slice 113 k113) w A n xs) (i : Int) (h0 : 0 ≤ i) (h1 : i < n) : ∃ ad A0 c0,A = some ad ∧ w.cell? (ad.add i.toNat) = some (.slice A0 (rd_L15 xs i).length c0) ∧ (rd_L15 xs i).length ≤ c0 ∧ k113.C w A0 (rd_L15 xs i).length (rd_L15 xs i):=by
 obtain ⟨ad,c,e,_,hK,hc0⟩:=Kd.C_get h ([] : List S113) i h0 h1
 have hc : ∀ j u,c[j]? = some u → w.cell? (ad.add (i.toNat * 1 + j)) = some u:=hc0
 obtain ⟨A0,c0,rfl,l0,g0⟩:=hK
 exact ⟨ad,A0,c0,e,by have hq:=hc 0 _ rfl;rwa [Nat.mul_one,Nat.add_zero] at hq,l0,g0⟩
structure S129 where
 f0 : Int
 f1 : Int
 f2 : Int
 f3 : Int
def z129 : S129:=⟨(0 : Int),(0 : Int),(0 : Int),(0 : Int)⟩
def k129 : Kd S129:=Kd.iso (Kd.pair (Kd.int .i64) (Kd.pair (Kd.int .i64) (Kd.pair (Kd.int .i64) (Kd.int .i64)))) (fun x : S129=>(x.f0,x.f1,x.f2,x.f3))
theorem k129_open {w : World} {x : S129} {cs : List Value} (h : k129.K w x cs) : cs = [.int .i64 x.f0,.int .i64 x.f1,.int .i64 x.f2,.int .i64 x.f3]:=by
 obtain ⟨_,_,rfl,rfl,⟨_,_,rfl,rfl,⟨_,_,rfl,rfl,rfl⟩⟩⟩:=h
 exact rfl
theorem k129_openM {w : World} {base : Nat} {ok : Nat → Prop} {x : S129} {cs : List Value} (h : k129.M w base ok x cs) : cs = [.int .i64 x.f0,.int .i64 x.f1,.int .i64 x.f2,.int .i64 x.f3]:=by
 obtain ⟨_,_,rfl,rfl,⟨_,_,rfl,rfl,⟨_,_,rfl,rfl,rfl⟩⟩⟩:=h
 exact rfl
theorem k129_mk (w : World) (x : S129)  : k129.K w x [.int .i64 x.f0,.int .i64 x.f1,.int .i64 x.f2,.int .i64 x.f3]:=⟨[.int .i64 x.f0],[.int .i64 x.f1,.int .i64 x.f2,.int .i64 x.f3],rfl,rfl,⟨[.int .i64 x.f1],[.int .i64 x.f2,.int .i64 x.f3],rfl,rfl,⟨[.int .i64 x.f2],[.int .i64 x.f3],rfl,rfl,rfl⟩⟩⟩
theorem k129_mkM (w : World) (base : Nat) (ok : Nat → Prop) (x : S129)  : k129.M w base ok x [.int .i64 x.f0,.int .i64 x.f1,.int .i64 x.f2,.int .i64 x.f3]:=⟨[.int .i64 x.f0],[.int .i64 x.f1,.int .i64 x.f2,.int .i64 x.f3],rfl,rfl,⟨[.int .i64 x.f1],[.int .i64 x.f2,.int .i64 x.f3],rfl,rfl,⟨[.int .i64 x.f2],[.int .i64 x.f3],rfl,rfl,rfl⟩⟩⟩
def rd_T129 (xs : List S129) (i : Int) : S129:=xs.getD i.toNat z129
theorem at_T129 {w : World} {A : Option Addr} {n : Nat} {xs : List S129} (h : Kd.C k129 w A n xs) (i : Int) (h0 : 0 ≤ i) (h1 : i < n) : ∃ ad ,A = some ad ∧ w.cell? (ad.add (i.toNat * 4)) = some (.int .i64 (rd_T129 xs i).f0) ∧ w.cell? ⟨(ad.add (i.toNat * 4)).block,(ad.add (i.toNat * 4)).off + 1,none⟩ = some (.int .i64 (rd_T129 xs i).f1) ∧ w.cell? ⟨(ad.add (i.toNat * 4)).block,(ad.add (i.toNat * 4)).off + 2,none⟩ = some (.int .i64 (rd_T129 xs i).f2) ∧ w.cell? ⟨(ad.add (i.toNat * 4)).block,(ad.add (i.toNat * 4)).off + 3,none⟩ = some (.int .i64 (rd_T129 xs i).f3):=by
 obtain ⟨ad,c,e,_,hK,hc0⟩:=Kd.C_get h z129 i h0 h1
 have hc : ∀ j u,c[j]? = some u → w.cell? (ad.add (i.toNat * 4 + j)) = some u:=hc0
 obtain rfl:=k129_open hK
 exact ⟨ad,e,hc 0 _ rfl,by rw [← add_field _ _ 1 (by omega)];exact hc 1 _ rfl,by rw [← add_field _ _ 2 (by omega)];exact hc 2 _ rfl,by rw [← add_field _ _ 3 (by omega)];exact hc 3 _ rfl⟩
structure S75 where
 f0 : Int
 f1 : Int
 f2 : Int
 f3 : Int
def z75 : S75:=⟨(0 : Int),(0 : Int),(0 : Int),(0 : Int)⟩
def k75 : Kd S75:=Kd.iso (Kd.pair (Kd.int .i64) (Kd.pair (Kd.int .i64) (Kd.pair (Kd.int .i64) (Kd.int .i64)))) (fun x : S75=>(x.f0,x.f1,x.f2,x.f3))
theorem k75_open {w : World} {x : S75} {cs : List Value} (h : k75.K w x cs) : cs = [.int .i64 x.f0,.int .i64 x.f1,.int .i64 x.f2,.int .i64 x.f3]:=by
 obtain ⟨_,_,rfl,rfl,⟨_,_,rfl,rfl,⟨_,_,rfl,rfl,rfl⟩⟩⟩:=h
 exact rfl
theorem k75_openM {w : World} {base : Nat} {ok : Nat → Prop} {x : S75} {cs : List Value} (h : k75.M w base ok x cs) : cs = [.int .i64 x.f0,.int .i64 x.f1,.int .i64 x.f2,.int .i64 x.f3]:=by
 obtain ⟨_,_,rfl,rfl,⟨_,_,rfl,rfl,⟨_,_,rfl,rfl,rfl⟩⟩⟩:=h
 exact rfl
theorem k75_mk (w : World) (x : S75)  : k75.K w x [.int .i64 x.f0,.int .i64 x.f1,.int .i64 x.f2,.int .i64 x.f3]:=⟨[.int .i64 x.f0],[.int .i64 x.f1,.int .i64 x.f2,.int .i64 x.f3],rfl,rfl,⟨[.int .i64 x.f1],[.int .i64 x.f2,.int .i64 x.f3],rfl,rfl,⟨[.int .i64 x.f2],[.int .i64 x.f3],rfl,rfl,rfl⟩⟩⟩
theorem k75_mkM (w : World) (base : Nat) (ok : Nat → Prop) (x : S75)  : k75.M w base ok x [.int .i64 x.f0,.int .i64 x.f1,.int .i64 x.f2,.int .i64 x.f3]:=⟨[.int .i64 x.f0],[.int .i64 x.f1,.int .i64 x.f2,.int .i64 x.f3],rfl,rfl,⟨[.int .i64 x.f1],[.int .i64 x.f2,.int .i64 x.f3],rfl,rfl,⟨[.int .i64 x.f2],[.int .i64 x.f3],rfl,rfl,rfl⟩⟩⟩
def rd_T75 (xs : List S75) (i : Int) : S75:=xs.getD i.toNat z75
theorem at_T75 {w : World} {A : Option Addr} {n : Nat} {xs : List S75} (h : Kd.C k75 w A n xs) (i : Int) (h0 : 0 ≤ i) (h1 : i < n) : ∃ ad ,A = some ad ∧ w.cell? (ad.add (i.toNat * 4)) = some (.int .i64 (rd_T75 xs i).f0) ∧ w.cell? ⟨(ad.add (i.toNat * 4)).block,(ad.add (i.toNat * 4)).off + 1,none⟩ = some (.int .i64 (rd_T75 xs i).f1) ∧ w.cell? ⟨(ad.add (i.toNat * 4)).block,(ad.add (i.toNat * 4)).off + 2,none⟩ = some (.int .i64 (rd_T75 xs i).f2) ∧ w.cell? ⟨(ad.add (i.toNat * 4)).block,(ad.add (i.toNat * 4)).off + 3,none⟩ = some (.int .i64 (rd_T75 xs i).f3):=by
 obtain ⟨ad,c,e,_,hK,hc0⟩:=Kd.C_get h z75 i h0 h1
 have hc : ∀ j u,c[j]? = some u → w.cell? (ad.add (i.toNat * 4 + j)) = some u:=hc0
 obtain rfl:=k75_open hK
 exact ⟨ad,e,hc 0 _ rfl,by rw [← add_field _ _ 1 (by omega)];exact hc 1 _ rfl,by rw [← add_field _ _ 2 (by omega)];exact hc 2 _ rfl,by rw [← add_field _ _ 3 (by omega)];exact hc 3 _ rfl⟩
end Go.Proofs.Ytacgehaipacehaa.P
section
namespace Go.Proofs.Ytacgehaipacehaa.P
open Go.RowKit Go.Proofs.YtacgehaipacehaaW.PrintWords Go.Proofs.YtacgehaipacehaaW.PrintLast Go.Proofs.YtacgehaipacehaaW.PrintMore
attribute [local go_sem] max2_int min2_int max_two min_two max_three min_three max_four min_four
set_option linter.unusedVariables false
set_option linter.unusedSimpArgs false
def Ev {α : Type} (F : Nat → Option α) (x : α) : Prop:=∃ K,∀ k,K ≤ k → F k = some x
namespace Ev
variable {α β : Type}
theorem of_mono {F : Nat → Option α} {x : α} (hm : ∀ k,LeO (F k) (F (k + 1))) {K : Nat} (h : F K = some x) : Ev F x:=⟨K,fun _ hk=>at_rounds hm hk h⟩
theorem const {a : Option α} {x : α} (h : a = some x) : Ev (fun _=>a) x:=⟨0,fun _ _=>h⟩
theorem bind {F : Nat → Option α} {G : Nat → α → Option β} {x : α} {y : β} (h : Ev F x) (h2 : Ev (fun k=>G k x) y) : Ev (fun k=>(F k).bind (G k)) y:=by
 obtain ⟨K,hK⟩:=h
 obtain ⟨K2,hK2⟩:=h2
 refine ⟨max K K2,fun k hk=>?_⟩
 show (F k).bind (G k) = some y
 rw [hK k (Nat.le_trans (Nat.le_max_left _ _) hk)]
 exact hK2 k (Nat.le_trans (Nat.le_max_right _ _) hk)
theorem pos {F G : Nat → Option α} {x : α} {c : Prop} [Decidable c] (hc : c) (h : Ev F x) : Ev (fun k=>if c then F k else G k) x:=by
 obtain ⟨K,hK⟩:=h
 exact ⟨K,fun k hk=>by show (if c then F k else G k) = some x;rw [if_pos hc];exact hK k hk⟩
theorem neg {F G : Nat → Option α} {x : α} {c : Prop} [Decidable c] (hc : ¬ c) (h : Ev G x) : Ev (fun k=>if c then F k else G k) x:=by
 obtain ⟨K,hK⟩:=h
 exact ⟨K,fun k hk=>by show (if c then F k else G k) = some x;rw [if_neg hc];exact hK k hk⟩
theorem succ {F : Nat → Option α} {x : α} (h : Ev (fun k=>F (k + 1)) x) : Ev F x:=by
 obtain ⟨K,hK⟩:=h
 refine ⟨K + 1,fun k hk=>?_⟩
 obtain ⟨j,rfl⟩ : ∃ j,k = j + 1:=⟨k - 1,by omega⟩
 exact hK j (by omega)
theorem out {F : Nat → Option α} {x : α} (h : Ev F x) : ∃ k,F k = some x:=by
 obtain ⟨K,hK⟩:=h
 exact ⟨K,hK K (Nat.le_refl _)⟩
theorem congr {F G : Nat → Option α} {x : α} (h : Ev F x) (e : ∀ k,G k = F k) : Ev G x:=by
 obtain ⟨K,hK⟩:=h
 exact ⟨K,fun k hk=>(e k).trans (hK k hk)⟩
end Ev
theorem st_loop {σ ρ : Type} (L : Nat → σ → Int → Option ρ) (n : Nat) (S : Nat → σ) (v : ρ) (hstep : ∀ k i,i < n → L (k + 1) (S i) (i : Int) = L k (S (i + 1)) ((i + 1 : Nat) : Int)) (hend : ∀ k,L (k + 1) (S n) (n : Int) = some v) : L (n + 1) (S 0) 0 = some v:=by
 have key : ∀ d i k,i + d = n → L (d + 1 + k) (S i) (i : Int) = some v:=by
  intro d
  induction d with
  | zero =>
   intro i k hi
   obtain rfl : i = n:=by omega
   rw [show 0 + 1 + k = k + 1 by omega]
   exact hend k
  | succ d ih =>
   intro i k hi
   rw [show d + 1 + 1 + k = (d + 1 + k) + 1 by omega,hstep _ i (by omega)]
   exact ih (i + 1) k (by omega)
 have:=key n 0 0 (by omega)
 simpa using this
theorem fill_at {α β : Type} (xs : List α) (c : α → β) (z : α) (y : β) (i : Nat) (hi : i < xs.length) : (((xs.take i).map c) ++ List.replicate (xs.length - i) y).set i (c (xs.getD i z)) = ((xs.take (i + 1)).map c) ++ List.replicate (xs.length - (i + 1)) y:=by
 have h1 : xs.take (i + 1) = xs.take i ++ [xs.getD i z]:=by
  rw [List.take_succ_eq_append_getElem hi,List.getD_eq_getElem?_getD,List.getElem?_eq_getElem hi]
  rfl
 rw [h1,List.set_append_right _ _ (by simp;omega)]
 have h2 : i - ((xs.take i).map c).length = 0:=by simp;omega
 rw [h2,show xs.length - i = (xs.length - (i + 1)) + 1 by omega,List.replicate_succ,s2_,List.map_append,List.append_assoc]
 rfl
theorem fill_len {α β : Type} (xs : List α) (c : α → β) (y : β) (i : Nat) (hi : i ≤ xs.length) : (((xs.take i).map c) ++ List.replicate (xs.length - i) y).length = xs.length:=by
 simp
 omega
theorem rd_nat (l : List Int) (i : Nat) (hi : i < l.length) : rd l (i : Int) = l.getD i 0:=by simp [rd]
def marks (a : Int) (n : Nat) : List Int:=(List.range n).map (fun i : Nat=>a + (i : Int))
theorem marks_len (a : Int) (n : Nat) : (marks a n).length = n:=by simp [marks]
end Go.Proofs.Ytacgehaipacehaa.P
end
namespace Go.Proofs.Ytacgehaipacehaa.P
open Go.RowKit Go.Proofs.YtacgehaipacehaaW.PrintWords Go.Proofs.YtacgehaipacehaaW.PrintLast Go.Proofs.YtacgehaipacehaaW.PrintMore
attribute [local go_sem] max2_int min2_int max_two min_two max_three min_three max_four min_four
set_option linter.unusedVariables false
set_option linter.unusedSimpArgs false
abbrev Cls:=S125
def okName (s : ByteArray) : Bool:=s.data.toList.all (fun c=>decide (97 ≤ c.toNat) && decide (c.toNat ≤ 122)) && (decide (1 ≤ s.size) && decide (s.size ≤ 6))
def named (t : List Cls) (n : ByteArray) : Int:=idxP (fun x : Cls=>x.f0.toList == n.toList) t
def okCls (t : List Cls) (i : Nat) (x : Cls) : Bool:=okName x.f0 && (decide (named t x.f0 = (i : Int)) && (if i = 0 then decide (x.f1 = -1) else decide (0 ≤ x.f1) && decide (x.f1 ≤ (i : Int) - 1)))
def vT (t : List Cls) : Bool:=(List.range t.length).all (fun i=>okCls t i (t.getD i z125)) && (decide (1 ≤ t.length) && decide (t.length ≤ 8))
def smT (t : List Cls) : Bool:=t.all fun x=>decide (x.f0.size < 9223372036854775807)
def hasC (t : List Cls) (a : Int) : Bool:=decide (0 ≤ a) && decide (a < (t.length : Int))
def upF (t : List Cls) : Nat → Int → List Int
 | 0,_=>[]
 | n + 1,a=>if 0 ≤ a then a :: upF t n (rd_T125 t a).f1 else []
def abv (t : List Cls) (a : Int) : List Int:=upF t (a.toNat + 1) a
def isA (t : List Cls) (a b : Int) : Bool:=(abv t a).contains b
theorem vT_len {t : List Cls} (h : vT t = true) : 1 ≤ t.length ∧ t.length ≤ 8:=by
 unfold vT at h
 simp only [Bool.and_eq_true,decide_eq_true_eq] at h
 exact h.2
theorem vT_at {t : List Cls} (h : vT t = true) (i : Nat) (hi : i < t.length) : okCls t i (t.getD i z125) = true:=by
 unfold vT at h
 simp only [Bool.and_eq_true,List.all_eq_true,List.mem_range] at h
 exact h.1 i hi
theorem vT_name {t : List Cls} (h : vT t = true) (i : Nat) (hi : i < t.length) : okName (t.getD i z125).f0 = true ∧ named t (t.getD i z125).f0 = i:=by
 have:=vT_at h i hi
 unfold okCls at this
 simp only [Bool.and_eq_true,decide_eq_true_eq] at this
 exact ⟨this.1,this.2.1⟩
theorem vT_root {t : List Cls} (h : vT t = true) : (t.getD 0 z125).f1 = -1:=by
 have:=vT_at h 0 (by have:=vT_len h;omega)
 unfold okCls at this
 simp only [Bool.and_eq_true,decide_eq_true_eq,if_pos] at this
 exact this.2.2
theorem vT_par {t : List Cls} (h : vT t = true) (i : Nat) (h0 : 0 < i) (hi : i < t.length) : 0 ≤ (t.getD i z125).f1 ∧ (t.getD i z125).f1 ≤ (i : Int) - 1:=by
 have:=vT_at h i hi
 unfold okCls at this
 rw [if_neg (by omega)] at this
 simp only [Bool.and_eq_true,decide_eq_true_eq] at this
 exact this.2.2
theorem vT_par' {t : List Cls} (h : vT t = true) (a : Int) (h0 : 0 ≤ a) (ha : a < (t.length : Int)) : -1 ≤ (rd_T125 t a).f1 ∧ (rd_T125 t a).f1 < a:=by
 unfold rd_T125
 by_cases e : a = 0
 ·subst e
  have:=vT_root h
  simp only [Int.toNat_zero]
  omega
 ·have:=vT_par h a.toNat (by omega) (by omega)
  omega
theorem upF_more {t : List Cls} (h : vT t = true) : ∀ (n m : Nat) (a : Int),a < (t.length : Int) → a < (n : Int) → a < (m : Int) → upF t n a = upF t m a:=by
 intro n
 induction n with
 | zero=>intro m a ha hn hm;cases m with
  | zero=>rfl
  | succ m=>simp only [upF];rw [if_neg (by omega)]
 | succ n ih =>
  intro m a ha hn hm
  cases m with
  | zero=>simp only [upF];rw [if_neg (by omega)]
  | succ m =>
   simp only [upF]
   by_cases h0 : 0 ≤ a
   ·rw [if_pos h0,if_pos h0]
    have:=vT_par' h a h0 ha
    rw [ih m _ (by omega) (by omega) (by omega)]
   ·rw [if_neg h0,if_neg h0]
theorem abv_step {t : List Cls} (h : vT t = true) (a : Int) (h0 : 0 ≤ a) (ha : a < (t.length : Int)) : abv t a = a :: abv t (rd_T125 t a).f1:=by
 have:=vT_par' h a h0 ha
 unfold abv
 rw [upF,if_pos h0,upF_more h a.toNat ((rd_T125 t a).f1.toNat + 1) _ (by omega) (by omega) (by omega)]
theorem abv_neg (t : List Cls) (a : Int) (h0 : a < 0) : abv t a = []:=by
 unfold abv
 rw [upF,if_neg (by omega)]
theorem upF_len (t : List Cls) : ∀ (n : Nat) (a : Int),(upF t n a).length ≤ n:=by
 intro n
 induction n with
 | zero=>intro a;simp [upF]
 | succ n ih =>
  intro a
  simp only [upF]
  split
  ·have:=ih (rd_T125 t a).f1
   simp only [List.length_cons];omega
  ·simp
theorem vT_small {t : List Cls} (h : vT t = true) : smT t = true:=by
 unfold smT
 rw [List.all_eq_true]
 intro x hx
 obtain ⟨i,hi,rfl⟩:=List.getElem_of_mem hx
 have:=(vT_name h i hi).1
 unfold okName at this
 simp only [Bool.and_eq_true,decide_eq_true_eq] at this
 have h2 : (t.getD i z125) = t[i]:=by simp [hi]
 rw [h2] at this
 simp only [decide_eq_true_eq]
 omega
theorem smT_at {t : List Cls} (h : smT t = true) (i : Nat) (hi : i < t.length) : t[i].f0.size ≤ 9223372036854775806:=by
 unfold smT at h
 rw [List.all_eq_true] at h
 have:=h t[i] (List.getElem_mem hi)
 simp only [decide_eq_true_eq] at this
 omega
theorem hasC_iff {t : List Cls} {a : Int} : hasC t a = true ↔ 0 ≤ a ∧ a < (t.length : Int):=by
 unfold hasC;simp
theorem abv_len {t : List Cls} (h : vT t = true) (a : Int) (ha : a < (t.length : Int)) : (abv t a).length ≤ 8:=by
 have h1:=upF_len t (a.toNat + 1) a
 have h2:=vT_len h
 unfold abv
 by_cases h0 : 0 ≤ a
 ·omega
 ·rw [upF,if_neg h0];simp
end Go.Proofs.Ytacgehaipacehaa.P
namespace Go.Proofs.Ytacgehaipacehaa.P
open Go.RowKit Go.Proofs.YtacgehaipacehaaW.PrintWords Go.Proofs.YtacgehaipacehaaW.PrintLast Go.Proofs.YtacgehaipacehaaW.PrintMore
attribute [local go_sem] max2_int min2_int max_two min_two max_three min_three max_four min_four
set_option linter.unusedVariables false
set_option linter.unusedSimpArgs false
def impl_within.f (a0 : Int) (a1 : Int) (a2 : Int) : Option (Bool):=if a0 ≥ a1 then (some (decide (a0 ≤ a2))) else (some false)
set_option maxHeartbeats 8000000 in
set_option maxRecDepth 100000 in
theorem impl_within.calls (a0 : Int) (a1 : Int) (a2 : Int) (r : Bool) (w : World) (h : impl_within.f a0 a1 a2 = some r) :
  Calls Try.prog 75 #[.int .i64 a0,.int .i64 a1,.int .i64 a2] w fun e w'=>e = .returned (.bool r) ∧ Drawn0 w w':=by
 have H : (if a0 ≥ a1 then (some (decide (a0 ≤ a2))) else (some false)) = some r:=h
 clear h
 by_cases c4 : a0 ≥ a1
 ·rw [if_pos c4] at H
  have c4b0 : decide (a1 ≤ a0) = true:=decide_eq_true c4
  clear c4
  obtain rfl:=Option.some.inj H
  go_enter Try.func75,Try.ntmps75
  go_wp2
  go_ret
  exact ⟨by first | rfl | (simp;done) | (simp [*];done),by repeat (first | exact Drawn0.refl _ | apply Drawn0.step)⟩
 ·rw [if_neg c4] at H
  have c4b0 : decide (a1 ≤ a0) = false:=decide_eq_false c4
  clear c4
  obtain rfl:=Option.some.inj H
  go_enter Try.func75,Try.ntmps75
  go_wp2
  go_ret
  exact ⟨by first | rfl | (simp;done) | (simp [*];done),by repeat (first | exact Drawn0.refl _ | apply Drawn0.step)⟩
theorem impl_within_ev (a b c : Int) : impl_within.f a b c = some (decide (b ≤ a) && decide (a ≤ c)):=by
 unfold impl_within.f
 by_cases h : a ≥ b
 ·rw [if_pos h,decide_eq_true (show b ≤ a from h),Bool.true_and]
 ·rw [if_neg h,decide_eq_false (show ¬ b ≤ a from h),Bool.false_and]
end Go.Proofs.Ytacgehaipacehaa.P
namespace Go.Proofs.Ytacgehaipacehaa.P
open Go.RowKit Go.Proofs.YtacgehaipacehaaW.PrintWords Go.Proofs.YtacgehaipacehaaW.PrintLast Go.Proofs.YtacgehaipacehaaW.PrintMore
attribute [local go_sem] max2_int min2_int max_two min_two max_three min_three max_four min_four
set_option linter.unusedVariables false
set_option linter.unusedSimpArgs false
set_option maxHeartbeats 2000000 in
theorem slices_IndexFunc_Class.callsF (A : Option Addr) (c : Nat) (l : List S125) (g : Nat) (lb : Array Value) (p : S125 → Bool) (w : World) (eg : ∀ args w,(callFunc g args).run Try.prog w = .ok (.enter g args) w)
  (hr : Kd.C k125 w A l.length l) (hc : l.length ≤ c) (hp : ∀ x,x ∈ l → ∀ W,Below w.heap.size w W → Calls Try.prog g (#[.agg #[.string x.f0,.int .i64 x.f1]] ++ lb) W fun e w'=>e = .returned (.bool (p x)) ∧ Below W.heap.size W w') :
  Calls Try.prog 137 #[.slice A l.length c,.func (.func g) #[] lb] w fun e w'=>e = .returned (.int .i64 (idxP p l)) ∧ Below w.heap.size w w':=by
 have HR:=a0_ hr
 have HP:=a0_ hp
 have hmax : l.length ≤ 9223372036854775807:=hr.2.1
 clear hr hp hc
 go_enter Try.func137,Try.ntmps137
 go_wp2
 go_loopg [5,8] l.length (fun gg _ s8 wr=>∃ kk : Nat,kk ≤ l.length ∧ l.length - kk ≤ gg ∧ s8 = .int .i64 kk ∧ Aside0 (Below w.heap.size w wr) ∧ Aside0 (∀ j (hj : j < l.length),j < kk → p l[j] = false))
 case atStart=>exact ⟨0,Nat.zero_le _,by omega,rfl,⟨Below.refl _ w⟩,⟨fun j _ hj=>absurd hj (Nat.not_lt_zero _)⟩⟩
 case round =>
  obtain ⟨kk,hkk,hg,rfl,BW,HA⟩:=hrel
  by_cases hlt : kk < l.length
  ·have hltz : (kk : Int) < (l.length : Int):=by omega
   obtain ⟨ad,ea,hx0,hx1⟩:=at_T125 HR.out (kk : Int) (by omega) (by omega)
   cases ea
   have hrd : rd_T125 l (kk : Int) = l[kk]:=by simp [rd_T125,hlt]
   rw [hrd] at hx0 hx1
   rw [Int.toNat_natCast] at hx0 hx1
   replace hx0:=(BW.out.cell (World.block_lt_of_cell? w _ hx0)).trans hx0
   replace hx1:=(BW.out.cell (World.block_lt_of_cell? w _ hx1)).trans hx1
   have hcall:=HP.out l[kk] (List.getElem_mem hlt) wr BW.out
   clear hrd
   generalize hy : l[kk] = y at hx0 hx1 hcall
   have B:=a0_ hy
   clear hy
   cases hq : p y with
   | true =>
    rw [hq] at hcall
    go_wp2_with (go_at_fn g;refine hcall.mono ?_;rintro e w' ⟨rfl,hb'⟩)
    go_ret
    refine ⟨?_,below_step BW.out hb'⟩
    rw [idxP_hit p l kk hlt (by rw [B.out];exact hq) HA.out];rfl
   | false =>
    rw [hq] at hcall
    go_wp2_with (go_at_fn g;refine hcall.mono ?_;rintro e w' ⟨rfl,hb'⟩)
    go_roundg (l.length - (kk + 1))
    case measure=>omega
    case rel =>
     refine ⟨kk + 1,by omega,by omega,by go_num,⟨below_step BW.out hb'⟩,⟨fun j hj hjk=>?_⟩⟩
     by_cases e : j = kk
     ·subst e
      rw [B.out];exact hq
     ·exact HA.out j hj (by omega)
  ·have hltz : ¬ (kk : Int) < (l.length : Int):=by omega
   have : kk = l.length:=by omega
   subst this
   go_wp2
   go_ret
   refine ⟨?_,BW.out⟩
   rw [idxP_miss p l (fun j hj=>HA.out j hj hj)];rfl
end Go.Proofs.Ytacgehaipacehaa.P
namespace Go.Proofs.Ytacgehaipacehaa.P
open Go.RowKit Go.Proofs.YtacgehaipacehaaW.PrintWords Go.Proofs.YtacgehaipacehaaW.PrintLast Go.Proofs.YtacgehaipacehaaW.PrintMore
attribute [local go_sem] max2_int min2_int max_two min_two max_three min_three max_four min_four
set_option linter.unusedVariables false
set_option linter.unusedSimpArgs false
theorem impl_Tree_named_1.callsF (B : Nat) (nm : ByteArray) (x : S125) (w : World) (hB : w.heap[B]? = some (.cells #[.string nm] 9 (0,0))) :
  Calls Try.prog 138 #[.agg #[.string x.f0,.int .i64 x.f1],.pointer (some ⟨B,0,none⟩)] w fun e w'=>e = .returned (.bool (x.f0.toList == nm.toList)) ∧ Below w.heap.size w w':=by
 have hc : w.cell? ⟨B,0,none⟩ = some (.string nm):=(blk_cell hB 0).trans rfl
 have hlt : B < w.heap.size:=(Array.getElem?_eq_some_iff.1 hB).1
 have hne : B ≠ w.heap.size:=by omega
 clear hB
 go_enter Try.func138,Try.ntmps138
 go_wp2
 all_goals (go_ret;exact ⟨by simp_all,(Below.refl _ w).alloc (Nat.le_refl _) _⟩)
end Go.Proofs.Ytacgehaipacehaa.P
namespace Go.Proofs.Ytacgehaipacehaa.P
open Go.RowKit Go.Proofs.YtacgehaipacehaaW.PrintWords Go.Proofs.YtacgehaipacehaaW.PrintLast Go.Proofs.YtacgehaipacehaaW.PrintMore
attribute [local go_sem] max2_int min2_int max_two min_two max_three min_three max_four min_four
set_option linter.unusedVariables false
set_option linter.unusedSimpArgs false
def impl_Tree_named.f (l0_0 : List (S125)) (a1 : ByteArray) : Option Int:=some (idxP (fun x : S125=>x.f0.toList == a1.toList) l0_0)
set_option maxHeartbeats 2000000 in
theorem impl_Tree_named.calls (A0_0 : Option Addr) (c0_0 : Nat) (l0_0 : List (S125)) (a1 : ByteArray) (r : Int) (w : World) (hr0_0 : Kd.C k125 w A0_0 l0_0.length l0_0) (hc0_0 : l0_0.length ≤ c0_0) (h : impl_Tree_named.f l0_0 a1 = some r) :
  Calls Try.prog 92 #[.agg #[.slice A0_0 l0_0.length c0_0],.string a1] w fun e w'=>e = .returned (.int .i64 r) ∧ Below w.heap.size w w':=by
 obtain rfl:=Option.some.inj h
 clear h
 have hu31:=Try.underlying25
 have eg : ∀ args w,(callFunc 138 args).run Try.prog w = .ok (.enter 138 args) w:=enters_of Try.func138 (by kernel_rfl) rfl
 have hcon:=fun (W : World) (hb : Below w.heap.size w W) (hB : W.heap[w.heap.size + 1]? = some (.cells #[.string a1] 9 (0,0)))=>slices_IndexFunc_Class.callsF A0_0 c0_0 l0_0 138 #[.pointer (some ⟨w.heap.size + 1,0,none⟩)] (fun x=>x.f0.toList == a1.toList) W eg (Kd.C_below hr0_0 hb) hc0_0 (fun x _ W' hW=>by
  have:=impl_Tree_named_1.callsF (w.heap.size + 1) a1 x W' (blk_keptB hB hW)
  simpa using this)
 clear hr0_0 hc0_0
 generalize idxP (fun x : S125=>x.f0.toList == a1.toList) l0_0 = r at hcon ⊢
 have HC:=a0_ hcon
 clear hcon
 go_enter Try.func92,Try.ntmps92
 go_wp2_with (go_at_call 137;refine (HC.out _ ?hb ?hB).mono ?_;(case hb=>exact below2 w _ _);(case hB=>exact heap_new2 w _ _);rintro e w' ⟨rfl,hb'⟩)
 go_ret
 exact ⟨rfl,(below2 w _ _).trans (hb'.mono (by simp;omega))⟩
end Go.Proofs.Ytacgehaipacehaa.P
namespace Go.Proofs.Ytacgehaipacehaa.P
open Go.RowKit Go.Proofs.YtacgehaipacehaaW.PrintWords Go.Proofs.YtacgehaipacehaaW.PrintLast Go.Proofs.YtacgehaipacehaaW.PrintMore
attribute [local go_sem] max2_int min2_int max_two min_two max_three min_three max_four min_four
set_option linter.unusedVariables false
set_option linter.unusedSimpArgs false
def impl_nameOk.l0 : Nat → ByteArray → Int → Int → Option (Bool)
 | 0,_,_,_=>none
 | k + 1,x0,x5,x6=>if x6 < x5 then (if 0 ≤ x6 then (if x6 < (x0.size : Int) then (if (bt x0 x6) < 97 then (some false) else (if (bt x0 x6) > 122 then (some false) else (impl_nameOk.l0 k x0 x5 (wrap64 (x6 + 1))))) else (none)) else (none)) else ((impl_within.f (x0.size : Int) 1 6).bind fun t1=>(some t1))
def impl_nameOk.f (k : Nat) (a0 : ByteArray) : Option (Bool):=impl_nameOk.l0 k a0 (a0.size : Int) 0
theorem impl_nameOk.mono_l : ∀ k,(∀ y0 y1 y2,LeO (impl_nameOk.l0 k y0 y1 y2) (impl_nameOk.l0 (k + 1) y0 y1 y2))
 | 0=>fun _ _ _ r h=>by simp [impl_nameOk.l0] at h
 | k + 1=>by
  have ih0:=impl_nameOk.mono_l k
  ·intro y0 y1 y2
   unfold impl_nameOk.l0
   repeat' first
   | (with_reducible exact ih0 _ _ _)
   | (with_reducible exact LeO.refl _)
   | (with_reducible exact LeO.none _)
   | (with_reducible refine LeO.ite ?_ ?_)
   | (with_reducible refine LeO.bind ?_ (fun _=>?_))
   | exact ih0 _ _ _
   | exact LeO.none _
   | refine LeO.ite ?_ ?_
   | refine LeO.bind ?_ (fun _=>?_)
theorem impl_nameOk.mono : ∀ a0 k,LeO (impl_nameOk.f k a0) (impl_nameOk.f (k + 1) a0):=by
 intro a0 k
 have ih0:=impl_nameOk.mono_l k
 unfold impl_nameOk.f
 repeat' first
   | (with_reducible exact ih0 _ _ _)
   | (with_reducible exact LeO.refl _)
   | (with_reducible exact LeO.none _)
   | (with_reducible refine LeO.ite ?_ ?_)
   | (with_reducible refine LeO.bind ?_ (fun _=>?_))
   | exact ih0 _ _ _
   | exact LeO.none _
   | refine LeO.ite ?_ ?_
   | refine LeO.bind ?_ (fun _=>?_)
set_option maxHeartbeats 8000000 in
set_option maxRecDepth 100000 in
theorem impl_nameOk.calls (k : Nat) (a0 : ByteArray) (r : Bool) (w : World) (h : impl_nameOk.f k a0 = some r) :
  Calls Try.prog 112 #[.string a0] w fun e w'=>e = .returned (.bool r) ∧ Drawn0 w w':=by
 have H : (impl_nameOk.l0 k a0 (a0.size : Int) 0) = some r:=h
 clear h
 have H':=a0_ H
 clear H
 go_enter Try.func112,Try.ntmps112
 go_wp2
 go_loopg [6] k (fun kq v6 w'=>∃ (x6_1 : Int),v6 = .int .i64 x6_1 ∧ Aside0 (impl_nameOk.l0 kq a0 (a0.size : Int) x6_1 = some r) ∧ Aside0 (kq ≤ k) ∧ Drawn0 w w')
 case atStart=>exact ⟨(0),(by first | rfl | (simp;done) | (simp [*];done)),H',⟨Nat.le_refl _⟩,by repeat (first | exact Drawn0.refl _ | apply Drawn0.step)⟩
 case round =>
  clear H'
  try clear c1
  obtain ⟨x6_1,rfl,HA,HK1,⟨m1,rfl⟩⟩:=hrel
  cases gk with
  | zero=>exact absurd HA.out (by simp [impl_nameOk.l0])
  | succ k1 =>
   have H:=HA.out
   clear HA
   simp only [impl_nameOk.l0] at H
   by_cases c2 : x6_1 < (a0.size : Int)
   ·rw [if_pos c2] at H
    have c2b0 : decide (x6_1 < (a0.size : Int)) = true:=decide_eq_true c2
    clear c2
    by_cases c3 : 0 ≤ x6_1
    ·rw [if_pos c3] at H
     have c3b0 : decide (0 ≤ x6_1) = true:=decide_eq_true c3
     clear c3
     by_cases c4 : x6_1 < (a0.size : Int)
     ·rw [if_pos c4] at H
      have c4b0 : decide (x6_1 < (a0.size : Int)) = true:=decide_eq_true c4
      clear c4
      by_cases c6 : (bt a0 x6_1) < 97
      ·rw [if_pos c6] at H
       have c6b0 : decide ((bt a0 x6_1) < 97) = true:=decide_eq_true c6
       clear c6
       obtain rfl:=Option.some.inj H
       have p5 : 0 ≤ (x6_1 : Int):=of_decide_eq_true (by first | (with_reducible assumption) | assumption)
       have q5 : x6_1 < (a0.size : Int):=of_decide_eq_true (by first | (with_reducible assumption) | assumption)
       have hx5:=bt_at a0 x6_1
       replace p5:=eq_true p5
       replace q5:=eq_true q5
       go_wp2
       go_ret
       exact ⟨by first | rfl | (simp;done) | (simp [*];done),by repeat (first | exact Drawn0.refl _ | apply Drawn0.step)⟩
      ·rw [if_neg c6] at H
       have c6b0 : decide ((bt a0 x6_1) < 97) = false:=decide_eq_false c6
       clear c6
       by_cases c8 : (bt a0 x6_1) > 122
       ·rw [if_pos c8] at H
        have c8b0 : decide (122 < (bt a0 x6_1)) = true:=decide_eq_true c8
        clear c8
        obtain rfl:=Option.some.inj H
        have p5 : 0 ≤ (x6_1 : Int):=of_decide_eq_true (by first | (with_reducible assumption) | assumption)
        have q5 : x6_1 < (a0.size : Int):=of_decide_eq_true (by first | (with_reducible assumption) | assumption)
        have hx5:=bt_at a0 x6_1
        replace p5:=eq_true p5
        replace q5:=eq_true q5
        have p7 : 0 ≤ (x6_1 : Int):=of_decide_eq_true (by first | (with_reducible assumption) | assumption)
        have q7 : x6_1 < (a0.size : Int):=of_decide_eq_true (by first | (with_reducible assumption) | assumption)
        have hx7:=bt_at a0 x6_1
        replace p7:=eq_true p7
        replace q7:=eq_true q7
        go_wp2
        go_ret
        exact ⟨by first | rfl | (simp;done) | (simp [*];done),by repeat (first | exact Drawn0.refl _ | apply Drawn0.step)⟩
       ·rw [if_neg c8] at H
        have c8b0 : decide (122 < (bt a0 x6_1)) = false:=decide_eq_false c8
        clear c8
        have H':=a0_ H
        clear H
        have p5 : 0 ≤ (x6_1 : Int):=of_decide_eq_true (by first | (with_reducible assumption) | assumption)
        have q5 : x6_1 < (a0.size : Int):=of_decide_eq_true (by first | (with_reducible assumption) | assumption)
        have hx5:=bt_at a0 x6_1
        replace p5:=eq_true p5
        replace q5:=eq_true q5
        have p7 : 0 ≤ (x6_1 : Int):=of_decide_eq_true (by first | (with_reducible assumption) | assumption)
        have q7 : x6_1 < (a0.size : Int):=of_decide_eq_true (by first | (with_reducible assumption) | assumption)
        have hx7:=bt_at a0 x6_1
        replace p7:=eq_true p7
        replace q7:=eq_true q7
        go_wp2
        go_roundg k1
        case measure=>have:=HK1.out;omega
        case rel=>exact ⟨(wrap64 (x6_1 + 1)),(by first | rfl | (simp;done) | (simp [*];done)),H',⟨by have:=HK1.out;omega⟩,by repeat (first | exact Drawn0.refl _ | apply Drawn0.step)⟩
     ·rw [if_neg c4] at H
      exact absurd H (by simp)
    ·rw [if_neg c3] at H
     exact absurd H (by simp)
   ·rw [if_neg c2] at H
    have c2b0 : decide (x6_1 < (a0.size : Int)) = false:=decide_eq_false c2
    clear c2
    replace H:=Option.bind_eq_some_iff.mp H
    obtain ⟨t1,A90,H⟩:=H
    replace H : (some t1) = some r:=H
    have A9:=a0_ A90
    clear A90
    obtain rfl:=Option.some.inj H
    go_wp2_with (first | ((with_reducible refine gate_callee (f:=75) rfl ?_);refine goesL_ (some 22) rfl rfl Try.func75 (by kernel_rfl) rfl #[.int .i64 (a0.size : Int),.int .i64 1,.int .i64 6] rfl lm_ ?_;(with_reducible refine (impl_within.calls (a0.size : Int) 1 6 t1 _ A9.out).mono ?_);rintro e w' ⟨rfl,⟨nd,rfl⟩⟩;refine ⟨_,rfl,?_⟩))
    go_ret
    exact ⟨by first | rfl | (simp;done) | (simp [*];done),by repeat (first | exact Drawn0.refl _ | apply Drawn0.step)⟩
theorem impl_nameOk_l0 (s : ByteArray) (hs : s.size ≤ 9223372036854775807) (d : Nat) : ∀ (k : Nat) (i : Nat),i ≤ s.size → s.size - i = d → d < k → impl_nameOk.l0 k s (s.size : Int) (i : Int) = some ((s.data.toList.drop i).all (fun c=>decide (97 ≤ c.toNat) && decide (c.toNat ≤ 122)) && (decide (1 ≤ s.size) && decide (s.size ≤ 6))):=by
 induction d with
 | zero =>
  intro k i hi hd hk
  obtain ⟨k,rfl⟩ : ∃ m,k = m + 1:=⟨k - 1,by omega⟩
  simp only [impl_nameOk.l0]
  rw [if_neg (by omega)]
  have : s.data.toList.drop i = []:=by
   apply List.drop_eq_nil_of_le
   have : s.data.toList.length = s.size:=toL_len s
   omega
  rw [this]
  simp only [impl_within.f,List.all_nil,Bool.true_and]
  by_cases h1 : 1 ≤ s.size
  ·rw [if_pos (show (s.size : Int) ≥ 1 by omega)]
   by_cases h2 : s.size ≤ 6
   ·simp [h1,h2];omega
   ·simp [h2];omega
  ·rw [if_neg (show ¬ (s.size : Int) ≥ 1 by omega)];simp [h1]
 | succ d ih =>
  intro k i hi hd hk
  obtain ⟨k,rfl⟩ : ∃ m,k = m + 1:=⟨k - 1,by omega⟩
  have hlt : i < s.size:=by omega
  have hl : s.data.toList.length = s.size:=toL_len s
  simp only [impl_nameOk.l0]
  rw [if_pos (show (i : Int) < (s.size : Int) by omega),if_pos (show (0 : Int) ≤ (i : Int) by omega),if_pos (show (i : Int) < (s.size : Int) by omega),bt_getElem s i hlt]
  have hd2 : s.data.toList.drop i = s[i] :: s.data.toList.drop (i + 1):=by
   rw [List.drop_eq_getElem_cons (by omega)]
   congr 1
  rw [hd2,List.all_cons]
  by_cases h1 : (s[i].toNat : Int) < 97
  ·rw [if_pos h1];have : ¬ 97 ≤ s[i].toNat:=by omega
   simp [this]
  ·rw [if_neg h1]
   by_cases h2 : (s[i].toNat : Int) > 122
   ·rw [if_pos h2];have : ¬ s[i].toNat ≤ 122:=by omega
    simp [this]
   ·rw [if_neg h2,wrap_succ (n:=s.size) (by omega) (by omega) (by omega)]
    have:=ih k (i + 1) (by omega) (by omega) (by omega)
    rw [show ((i : Int) + 1) = ((i + 1 : Nat) : Int) by omega,this]
    have a : 97 ≤ s[i].toNat:=by omega
    have b : s[i].toNat ≤ 122:=by omega
    simp [a,b]
theorem impl_nameOk_ev (s : ByteArray) (hs : s.size ≤ 9223372036854775807) : impl_nameOk.f (s.size + 1) s = some (okName s):=by
 unfold impl_nameOk.f okName
 have:=impl_nameOk_l0 s hs s.size (s.size + 1) 0 (by omega) (by omega) (by omega)
 simpa using this
end Go.Proofs.Ytacgehaipacehaa.P
namespace Go.Proofs.Ytacgehaipacehaa.P
open Go.RowKit Go.Proofs.YtacgehaipacehaaW.PrintWords Go.Proofs.YtacgehaipacehaaW.PrintLast Go.Proofs.YtacgehaipacehaaW.PrintMore
attribute [local go_sem] max2_int min2_int max_two min_two max_three min_three max_four min_four
set_option linter.unusedVariables false
set_option linter.unusedSimpArgs false
def impl_ValidTree.f (l0_0 : List (S125)) : Option Bool:=if smT l0_0 = true then some (vT l0_0) else none
set_option maxHeartbeats 4000000 in
set_option maxRecDepth 100000 in
theorem impl_ValidTree.calls (A0_0 : Option Addr) (c0_0 : Nat) (l0_0 : List (S125)) (r : Bool) (w : World) (hr0_0 : Kd.C k125 w A0_0 l0_0.length l0_0) (hc0_0 : l0_0.length ≤ c0_0) (h : impl_ValidTree.f l0_0 = some r) :
  Calls Try.prog 54 #[.agg #[.slice A0_0 l0_0.length c0_0]] w fun e w'=>e = .returned (.bool r) ∧ Below w.heap.size w w':=by
 have hu31:=Try.underlying25
 have hsm : smT l0_0 = true:=by
  apply Classical.byContradiction
  intro hn
  rw [impl_ValidTree.f,if_neg hn] at h
  cases h
 rw [impl_ValidTree.f,if_pos hsm] at h
 have HRr:=a0_ (Option.some.inj h)
 have HSM:=a0_ hsm
 have HR:=a0_ hr0_0
 have hmax : l0_0.length ≤ 9223372036854775807:=hr0_0.2.1
 clear h hsm hr0_0
 go_enter Try.func54,Try.ntmps54
 go_wp2
 go_loopg [8] l0_0.length (fun gg s8 wr=>∃ kk : Nat,kk ≤ l0_0.length ∧ l0_0.length - kk ≤ gg ∧ s8 = .int .i64 kk ∧ Aside0 (Below w.heap.size w wr) ∧ Aside0 (wr.heap[w.heap.size]? = some (.cells #[.slice A0_0 l0_0.length c0_0] 25 (0,0))) ∧ Aside0 (∀ j,j < kk → okCls l0_0 j (l0_0.getD j z125) = true))
 case atStart=>exact ⟨0,Nat.zero_le _,by omega,rfl,⟨below1 w _⟩,⟨heap_new1 w _⟩,⟨fun j hj=>absurd hj (Nat.not_lt_zero _)⟩⟩
 case round =>
  obtain ⟨kk,hkk,hg,rfl,BW,BK,HA⟩:=hrel
  have hcz : wr.cell? ⟨w.heap.size,0,none⟩ = some (.slice A0_0 l0_0.length c0_0):=(blk_cell BK.out 0).trans rfl
  by_cases hlt : kk < l0_0.length
  ·have hltz : (kk : Int) < (l0_0.length : Int):=by omega
   obtain ⟨ad,ea,hx0,hx1⟩:=at_T125 HR.out (kk : Int) (by omega) (by omega)
   cases ea
   have hrd : rd_T125 l0_0 (kk : Int) = l0_0[kk]:=by simp [rd_T125,hlt]
   rw [hrd] at hx0 hx1
   rw [Int.toNat_natCast] at hx0 hx1
   replace hx0:=(BW.out.cell (World.block_lt_of_cell? w _ hx0)).trans hx0
   replace hx1:=(BW.out.cell (World.block_lt_of_cell? w _ hx1)).trans hx1
   clear hrd
   generalize hy : l0_0[kk] = y at hx0 hx1
   have B:=a0_ hy
   clear hy
   go_upto_region 4 with (fail)
   have hW1:=a0_ (below_alloc BW.out (.cells #[.string y.f0,.int .i64 y.f1] 125))
   have hW2:=a0_ (blk_alloc BK.out (.cells #[.string y.f0,.int .i64 y.f1] 125))
   have hW3:=(blk_cell hW2.out 0).trans rfl
   have hW4:=(blk_cell (heap_new1 wr (.cells #[.string y.f0,.int .i64 y.f1] 125)) 0).trans rfl
   have hW5:=(blk_cell (heap_new1 wr (.cells #[.string y.f0,.int .i64 y.f1] 125)) 1).trans rfl
   clear hcz hx0 hx1 BW BK
   generalize wr.alloc (.cells #[.string y.f0,.int .i64 y.f1] 125) = W1 at hW1 hW2 hW3 hW4 hW5 ⊢
   generalize wr.heap.size = gb at hW4 hW5 ⊢
   have hy1 : y.f0.size ≤ 9223372036854775806:=by rw [← B.out];exact smT_at HSM.out kk hlt
   have A1:=a0_ (impl_nameOk_ev y.f0 (by omega))
   have hcn0:=fun (W : World) (hW : Below w.heap.size w W)=>impl_Tree_named.calls (some ad) c0_0 l0_0 y.f0 (named l0_0 y.f0) W (Kd.C_below HR.out hW) hc0_0 rfl
   have hok : okCls l0_0 kk (l0_0.getD kk z125) = okCls l0_0 kk y:=by
    rw [← B.out];simp [List.getD,hlt]
   have hdef : okCls l0_0 kk y = (okName y.f0 && (decide (named l0_0 y.f0 = (kk : Int)) && (if kk = 0 then decide (y.f1 = -1) else decide (0 ≤ y.f1) && decide (y.f1 ≤ (kk : Int) - 1)))):=rfl
   generalize named l0_0 y.f0 = nn at hcn0 hdef
   have HCN:=a0_ hcn0
   have HOK:=a0_ hok
   have HDF:=a0_ hdef
   clear hcn0 hok hdef hy1
   go_cut [45] (fun v45 wc=>v45 = .bool (!okCls l0_0 kk y) ∧ Aside0 (Below w.heap.size w wc) ∧ Aside0 (wc.heap[w.heap.size]? = some (.cells #[.slice (some ad) l0_0.length c0_0] 25 (0,0))))
   case first =>
    have hw1 : IntKind.i64.wrap ((kk : Int) - 1) = (kk : Int) - 1:=by rw [IntKind.wrap_i64];omega
    have A2:=a0_ (show impl_within.f y.f1 0 ((kk : Int) - 1) = some (decide (0 ≤ y.f1) && decide (y.f1 ≤ (kk : Int) - 1)) by
     unfold impl_within.f
     by_cases h0 : 0 ≤ y.f1
     ·rw [if_pos h0];simp [h0]
     ·rw [if_neg h0];simp [h0])
    cases hb1 : okName y.f0 with
    | false =>
     rw [hb1] at A1
     have BV : okCls l0_0 kk y = false:=by rw [HDF.out,hb1];rfl
     clear HDF HOK
     go_wp2_with (first
     | (go_at_call 112;(with_reducible refine (impl_nameOk.calls _ y.f0 _ _ A1.out).mono ?_);rintro e w' ⟨rfl,hd⟩;have hb:=drawn_below hd;replace hW3:=pw_cell_below hb hW3;replace hW4:=pw_cell_below hb hW4;replace hW5:=pw_cell_below hb hW5;replace hW1:=a0_ (below_step hW1.out hb);replace hW2:=a0_ (blk_keptB hW2.out hb);clear hb hd)
     | (go_at_call 92;(with_reducible refine (HCN.out _ hW1.out).mono ?_);rintro e w' ⟨rfl,hb⟩;replace hW3:=pw_cell_below hb hW3;replace hW4:=pw_cell_below hb hW4;replace hW5:=pw_cell_below hb hW5;replace hW1:=a0_ (below_step hW1.out hb);replace hW2:=a0_ (blk_keptB hW2.out hb);clear hb)
     | (go_at_call 75;(with_reducible refine (impl_within.calls y.f1 0 ((kk : Int) - 1) _ _ A2.out).mono ?_);rintro e w' ⟨rfl,hd⟩;have hb:=drawn_below hd;replace hW3:=pw_cell_below hb hW3;replace hW4:=pw_cell_below hb hW4;replace hW5:=pw_cell_below hb hW5;replace hW1:=a0_ (below_step hW1.out hb);replace hW2:=a0_ (blk_keptB hW2.out hb);clear hb hd))
     go_meet
     case rel=>exact ⟨by (rw [BV]);first | rfl | (simp [*];done),⟨hW1.out⟩,⟨hW2.out⟩⟩
    | true =>
     rw [hb1] at A1
     by_cases hb2 : nn ≠ (kk : Int)
     ·have BV : okCls l0_0 kk y = false:=by rw [HDF.out,hb1,decide_eq_false hb2];rfl
      have d2 : (nn != (kk : Int)) = true:=bne_iff_ne.2 hb2
      have d2' : (nn == (kk : Int)) = false:=beq_eq_false_iff_ne.2 hb2
      clear HDF HOK hb2
      go_wp2_with (first
     | (go_at_call 112;(with_reducible refine (impl_nameOk.calls _ y.f0 _ _ A1.out).mono ?_);rintro e w' ⟨rfl,hd⟩;have hb:=drawn_below hd;replace hW3:=pw_cell_below hb hW3;replace hW4:=pw_cell_below hb hW4;replace hW5:=pw_cell_below hb hW5;replace hW1:=a0_ (below_step hW1.out hb);replace hW2:=a0_ (blk_keptB hW2.out hb);clear hb hd)
     | (go_at_call 92;(with_reducible refine (HCN.out _ hW1.out).mono ?_);rintro e w' ⟨rfl,hb⟩;replace hW3:=pw_cell_below hb hW3;replace hW4:=pw_cell_below hb hW4;replace hW5:=pw_cell_below hb hW5;replace hW1:=a0_ (below_step hW1.out hb);replace hW2:=a0_ (blk_keptB hW2.out hb);clear hb)
     | (go_at_call 75;(with_reducible refine (impl_within.calls y.f1 0 ((kk : Int) - 1) _ _ A2.out).mono ?_);rintro e w' ⟨rfl,hd⟩;have hb:=drawn_below hd;replace hW3:=pw_cell_below hb hW3;replace hW4:=pw_cell_below hb hW4;replace hW5:=pw_cell_below hb hW5;replace hW1:=a0_ (below_step hW1.out hb);replace hW2:=a0_ (blk_keptB hW2.out hb);clear hb hd))
      go_meet
      case rel=>exact ⟨by (rw [BV]);first | rfl | (simp [*];done),⟨hW1.out⟩,⟨hW2.out⟩⟩
     ·have hnm : nn = (kk : Int):=Classical.byContradiction fun hn=>hb2 hn
      have d2 : (nn != (kk : Int)) = false:=bne_eq_false_iff_eq.2 hnm
      have d2' : (nn == (kk : Int)) = true:=beq_iff_eq.2 hnm
      have BV0 : okCls l0_0 kk y = (if kk = 0 then decide (y.f1 = -1) else decide (0 ≤ y.f1) && decide (y.f1 ≤ (kk : Int) - 1)):=by rw [HDF.out,hb1,decide_eq_true hnm];rfl
      clear HDF HOK hb2 hnm
      by_cases hk0 : kk = 0
      ·have BV : okCls l0_0 kk y = decide (y.f1 = -1):=by rw [BV0,if_pos hk0]
       have e0 : ((kk : Int) == 0) = true:=beq_iff_eq.2 (by omega)
       have e1 : decide (0 < (kk : Int)) = false:=decide_eq_false (by omega)
       have e1n : decide (0 < kk) = false:=decide_eq_false (by omega)
       clear BV0
       by_cases hp : y.f1 = -1
       ·have e2 : (y.f1 != -1) = false:=by rw [hp];rfl
        have e3 : (y.f1 == -1) = true:=by rw [hp];rfl
        rw [decide_eq_true hp] at BV
        clear hp hk0
        go_wp2_with (first
     | (go_at_call 112;(with_reducible refine (impl_nameOk.calls _ y.f0 _ _ A1.out).mono ?_);rintro e w' ⟨rfl,hd⟩;have hb:=drawn_below hd;replace hW3:=pw_cell_below hb hW3;replace hW4:=pw_cell_below hb hW4;replace hW5:=pw_cell_below hb hW5;replace hW1:=a0_ (below_step hW1.out hb);replace hW2:=a0_ (blk_keptB hW2.out hb);clear hb hd)
     | (go_at_call 92;(with_reducible refine (HCN.out _ hW1.out).mono ?_);rintro e w' ⟨rfl,hb⟩;replace hW3:=pw_cell_below hb hW3;replace hW4:=pw_cell_below hb hW4;replace hW5:=pw_cell_below hb hW5;replace hW1:=a0_ (below_step hW1.out hb);replace hW2:=a0_ (blk_keptB hW2.out hb);clear hb)
     | (go_at_call 75;(with_reducible refine (impl_within.calls y.f1 0 ((kk : Int) - 1) _ _ A2.out).mono ?_);rintro e w' ⟨rfl,hd⟩;have hb:=drawn_below hd;replace hW3:=pw_cell_below hb hW3;replace hW4:=pw_cell_below hb hW4;replace hW5:=pw_cell_below hb hW5;replace hW1:=a0_ (below_step hW1.out hb);replace hW2:=a0_ (blk_keptB hW2.out hb);clear hb hd))
        go_meet
        case rel=>exact ⟨by (rw [BV]);first | rfl | (simp [*];done),⟨hW1.out⟩,⟨hW2.out⟩⟩
       ·have e2 : (y.f1 != -1) = true:=bne_iff_ne.2 hp
        have e3 : (y.f1 == -1) = false:=beq_eq_false_iff_ne.2 hp
        rw [decide_eq_false hp] at BV
        clear hp hk0
        go_wp2_with (first
     | (go_at_call 112;(with_reducible refine (impl_nameOk.calls _ y.f0 _ _ A1.out).mono ?_);rintro e w' ⟨rfl,hd⟩;have hb:=drawn_below hd;replace hW3:=pw_cell_below hb hW3;replace hW4:=pw_cell_below hb hW4;replace hW5:=pw_cell_below hb hW5;replace hW1:=a0_ (below_step hW1.out hb);replace hW2:=a0_ (blk_keptB hW2.out hb);clear hb hd)
     | (go_at_call 92;(with_reducible refine (HCN.out _ hW1.out).mono ?_);rintro e w' ⟨rfl,hb⟩;replace hW3:=pw_cell_below hb hW3;replace hW4:=pw_cell_below hb hW4;replace hW5:=pw_cell_below hb hW5;replace hW1:=a0_ (below_step hW1.out hb);replace hW2:=a0_ (blk_keptB hW2.out hb);clear hb)
     | (go_at_call 75;(with_reducible refine (impl_within.calls y.f1 0 ((kk : Int) - 1) _ _ A2.out).mono ?_);rintro e w' ⟨rfl,hd⟩;have hb:=drawn_below hd;replace hW3:=pw_cell_below hb hW3;replace hW4:=pw_cell_below hb hW4;replace hW5:=pw_cell_below hb hW5;replace hW1:=a0_ (below_step hW1.out hb);replace hW2:=a0_ (blk_keptB hW2.out hb);clear hb hd))
        go_meet
        case rel=>exact ⟨by (rw [BV]);first | rfl | (simp [*];done),⟨hW1.out⟩,⟨hW2.out⟩⟩
      ·have BV : okCls l0_0 kk y = (decide (0 ≤ y.f1) && decide (y.f1 ≤ (kk : Int) - 1)):=by rw [BV0,if_neg hk0]
       have e0 : ((kk : Int) == 0) = false:=beq_eq_false_iff_ne.2 (by omega)
       have e1 : decide (0 < (kk : Int)) = true:=decide_eq_true (by omega)
       have e1n : decide (0 < kk) = true:=decide_eq_true (by omega)
       rw [← BV] at A2
       clear BV BV0 hk0
       cases BV : okCls l0_0 kk y with
       | false =>
        rw [BV] at A2
        go_wp2_with (first
     | (go_at_call 112;(with_reducible refine (impl_nameOk.calls _ y.f0 _ _ A1.out).mono ?_);rintro e w' ⟨rfl,hd⟩;have hb:=drawn_below hd;replace hW3:=pw_cell_below hb hW3;replace hW4:=pw_cell_below hb hW4;replace hW5:=pw_cell_below hb hW5;replace hW1:=a0_ (below_step hW1.out hb);replace hW2:=a0_ (blk_keptB hW2.out hb);clear hb hd)
     | (go_at_call 92;(with_reducible refine (HCN.out _ hW1.out).mono ?_);rintro e w' ⟨rfl,hb⟩;replace hW3:=pw_cell_below hb hW3;replace hW4:=pw_cell_below hb hW4;replace hW5:=pw_cell_below hb hW5;replace hW1:=a0_ (below_step hW1.out hb);replace hW2:=a0_ (blk_keptB hW2.out hb);clear hb)
     | (go_at_call 75;(with_reducible refine (impl_within.calls y.f1 0 ((kk : Int) - 1) _ _ A2.out).mono ?_);rintro e w' ⟨rfl,hd⟩;have hb:=drawn_below hd;replace hW3:=pw_cell_below hb hW3;replace hW4:=pw_cell_below hb hW4;replace hW5:=pw_cell_below hb hW5;replace hW1:=a0_ (below_step hW1.out hb);replace hW2:=a0_ (blk_keptB hW2.out hb);clear hb hd))
        go_meet
        case rel=>exact ⟨by (rw [BV]);first | rfl | (simp [*];done),⟨hW1.out⟩,⟨hW2.out⟩⟩
       | true =>
        rw [BV] at A2
        go_wp2_with (first
     | (go_at_call 112;(with_reducible refine (impl_nameOk.calls _ y.f0 _ _ A1.out).mono ?_);rintro e w' ⟨rfl,hd⟩;have hb:=drawn_below hd;replace hW3:=pw_cell_below hb hW3;replace hW4:=pw_cell_below hb hW4;replace hW5:=pw_cell_below hb hW5;replace hW1:=a0_ (below_step hW1.out hb);replace hW2:=a0_ (blk_keptB hW2.out hb);clear hb hd)
     | (go_at_call 92;(with_reducible refine (HCN.out _ hW1.out).mono ?_);rintro e w' ⟨rfl,hb⟩;replace hW3:=pw_cell_below hb hW3;replace hW4:=pw_cell_below hb hW4;replace hW5:=pw_cell_below hb hW5;replace hW1:=a0_ (below_step hW1.out hb);replace hW2:=a0_ (blk_keptB hW2.out hb);clear hb)
     | (go_at_call 75;(with_reducible refine (impl_within.calls y.f1 0 ((kk : Int) - 1) _ _ A2.out).mono ?_);rintro e w' ⟨rfl,hd⟩;have hb:=drawn_below hd;replace hW3:=pw_cell_below hb hW3;replace hW4:=pw_cell_below hb hW4;replace hW5:=pw_cell_below hb hW5;replace hW1:=a0_ (below_step hW1.out hb);replace hW2:=a0_ (blk_keptB hW2.out hb);clear hb hd))
        go_meet
        case rel=>exact ⟨by (rw [BV]);first | rfl | (simp [*];done),⟨hW1.out⟩,⟨hW2.out⟩⟩
   case rest =>
    obtain ⟨rfl,hW,hK⟩:=hcut
    have hb:=HOK.out
    cases BV : okCls l0_0 kk y with
    | false =>
     go_wp2
     go_ret
     refine ⟨?_,hW.out⟩
     rw [← HRr.out]
     have : vT l0_0 = false:=by
      cases hv : vT l0_0 with
      | false=>rfl
      | true=>have:=vT_at hv kk hlt;rw [HOK.out,BV] at this;cases this
     rw [this];rfl
    | true =>
     go_wp2
     go_roundg (l0_0.length - (kk + 1))
     case measure=>omega
     case rel =>
      refine ⟨kk + 1,by omega,by omega,by go_num,⟨hW.out⟩,⟨hK.out⟩,⟨fun j hj=>?_⟩⟩
      by_cases e : j = kk
      ·subst e;rw [HOK.out,BV]
      ·exact HA.out j (by omega)
  ·have hltz : ¬ (kk : Int) < (l0_0.length : Int):=by omega
   have : kk = l0_0.length:=by omega
   subst this
   have A3:=a0_ (show impl_within.f (l0_0.length : Int) 1 8 = some (vT l0_0) by
    have hall : (List.range l0_0.length).all (fun i=>okCls l0_0 i (l0_0.getD i z125)) = true:=by
     rw [List.all_eq_true];intro i hi;exact HA.out i (by simpa using hi)
    unfold impl_within.f vT
    rw [hall]
    by_cases h1 : (1 : Int) ≤ l0_0.length
    ·rw [if_pos h1]
     have h1' : 1 ≤ l0_0.length:=by omega
     by_cases h8 : l0_0.length ≤ 8
     ·simp [h1',h8];omega
     ·simp [h8];omega
    ·rw [if_neg h1]
     have h1' : ¬ 1 ≤ l0_0.length:=by omega
     simp [h1'])
   rw [HRr.out] at A3
   go_wp2_with (go_at_call 75;(with_reducible refine (impl_within.calls (l0_0.length : Int) 1 8 _ _ A3.out).mono ?_);rintro e w' ⟨rfl,⟨nd,rfl⟩⟩)
   go_ret
   exact ⟨rfl,pw_below_drewN BW.out _⟩
end Go.Proofs.Ytacgehaipacehaa.P
namespace Go.Proofs.Ytacgehaipacehaa.P
open Go.RowKit Go.Proofs.YtacgehaipacehaaW.PrintWords Go.Proofs.YtacgehaipacehaaW.PrintLast Go.Proofs.YtacgehaipacehaaW.PrintMore
attribute [local go_sem] max2_int min2_int max_two min_two max_three min_three max_four min_four
set_option linter.unusedVariables false
set_option linter.unusedSimpArgs false
def cuL (c : UInt8) : List UInt8 → List UInt8 × List UInt8 × Bool
 | []=>([],[],false)
 | x :: l=>if x = c then ([],l,true) else (x :: (cuL c l).1,(cuL c l).2.1,(cuL c l).2.2)
def cutB (c : UInt8) (s : ByteArray) : ByteArray × ByteArray × Bool:=(⟨(cuL c s.data.toList).1.toArray⟩,⟨(cuL c s.data.toList).2.1.toArray⟩,(cuL c s.data.toList).2.2)
def splA (c : UInt8) : List UInt8 → List UInt8 → List (List UInt8)
 | cur,[]=>[cur]
 | cur,x :: l=>if x = c then cur :: splA c [] l else splA c (cur ++ [x]) l
def toB (l : List UInt8) : ByteArray:=⟨l.toArray⟩
def ofB (s : ByteArray) : List UInt8:=s.data.toList
theorem toB_ofB (s : ByteArray) : toB (ofB s) = s:=by cases s;simp [toB,ofB]
theorem ofB_toB (l : List UInt8) : ofB (toB l) = l:=by simp [toB,ofB]
theorem toB_inj {a b : List UInt8} (h : toB a = toB b) : a = b:=by rw [← ofB_toB a,h,ofB_toB]
theorem ofB_inj {a b : ByteArray} (h : ofB a = ofB b) : a = b:=by rw [← toB_ofB a,h,toB_ofB]
theorem ofB_len (s : ByteArray) : (ofB s).length = s.size:=by simp [ofB]
theorem toB_size (l : List UInt8) : (toB l).size = l.length:=by simp [toB,ByteArray.size]
theorem cuL_hit (c : UInt8) : ∀ (a r : List UInt8),(∀ x ∈ a,x ≠ c) → cuL c (a ++ c :: r) = (a,r,true):=by
 intro a
 induction a with
 | nil=>intro r _;simp [cuL]
 | cons x a ih =>
  intro r h
  have h1:=h x (by simp)
  have h2:=ih r (fun y hy=>h y (by simp [hy]))
  rw [List.cons_append,cuL,if_neg h1,h2]
theorem cuL_miss (c : UInt8) : ∀ (a : List UInt8),(∀ x ∈ a,x ≠ c) → cuL c a = (a,[],false):=by
 intro a
 induction a with
 | nil=>intro _;rfl
 | cons x a ih =>
  intro h
  have h1:=h x (by simp)
  have h2:=ih (fun y hy=>h y (by simp [hy]))
  rw [cuL,if_neg h1,h2]
theorem cuL_len (c : UInt8) : ∀ (l : List UInt8),(cuL c l).1.length ≤ l.length ∧ (l ≠ [] → (cuL c l).2.1.length < l.length):=by
 intro l
 induction l with
 | nil=>exact ⟨Nat.le_refl _,fun h=>absurd rfl h⟩
 | cons x l ih =>
  rw [cuL]
  split
  ·simp
  ·refine ⟨by simp;exact ih.1,fun _=>?_⟩
   simp only [List.length_cons]
   by_cases e : l = []
   ·subst e;simp [cuL]
   ·have:=ih.2 e;omega
theorem splA_hit (c : UInt8) : ∀ (a cur r : List UInt8),(∀ x ∈ a,x ≠ c) → splA c cur (a ++ c :: r) = (cur ++ a) :: splA c [] r:=by
 intro a
 induction a with
 | nil=>intro cur r _;simp [splA]
 | cons x a ih =>
  intro cur r h
  have h1:=h x (by simp)
  have h2:=ih (cur ++ [x]) r (fun y hy=>h y (by simp [hy]))
  rw [List.cons_append,splA,if_neg h1,h2,List.append_assoc]
  rfl
theorem splA_miss (c : UInt8) : ∀ (a cur : List UInt8),(∀ x ∈ a,x ≠ c) → splA c cur a = [cur ++ a]:=by
 intro a
 induction a with
 | nil=>intro cur _;simp [splA]
 | cons x a ih =>
  intro cur h
  have h1:=h x (by simp)
  have h2:=ih (cur ++ [x]) (fun y hy=>h y (by simp [hy]))
  rw [splA,if_neg h1,h2,List.append_assoc]
  rfl
theorem splA_len (c : UInt8) : ∀ (l cur : List UInt8),1 ≤ (splA c cur l).length ∧ (splA c cur l).length ≤ l.length + 1:=by
 intro l
 induction l with
 | nil=>intro cur;simp [splA]
 | cons x l ih =>
  intro cur
  rw [splA]
  split
  ·have:=ih []
   simp only [List.length_cons];omega
  ·have:=ih (cur ++ [x])
   simp only [List.length_cons];omega
theorem splA_mem (c : UInt8) : ∀ (l cur : List UInt8),∀ x ∈ splA c cur l,x.length ≤ cur.length + l.length:=by
 intro l
 induction l with
 | nil=>intro cur x hx;simp [splA] at hx;subst hx;simp
 | cons y l ih =>
  intro cur x hx
  rw [splA] at hx
  split at hx
  ·rcases List.mem_cons.1 hx with rfl | hx
   ·omega
   ·have:=ih [] x hx
    simp only [List.length_nil,List.length_cons] at this ⊢;omega
  ·have:=ih (cur ++ [y]) x hx
   simp only [List.length_append,List.length_cons,List.length_nil] at this ⊢;omega
def lineL (t : List Cls) (x : Cls) : List UInt8:=ofB x.f0 ++ ((if 0 ≤ x.f1 then 32 :: ofB (t.getD x.f1.toNat z125).f0 else []) ++ [10])
def linesL (t l : List Cls) : List UInt8:=l.flatMap (lineL t)
def treeTx (t : List Cls) : ByteArray:=toB (linesL t t)
def textP (t : List Cls) : ByteArray:=if vT t = true then treeTx t else ByteArray.empty
def clsOf (acc : List Cls) (line : ByteArray) : Cls:=⟨(cutB 32 line).1,if (cutB 32 line).2.2 = true then named acc (cutB 32 line).2.1 else -1⟩
def parI : Nat → List Cls → ByteArray → List Cls
 | 0,acc,_=>acc
 | n + 1,acc,s=>if s.size = 0 then acc else parI n (acc ++ [clsOf acc (cutB 10 s).1]) (cutB 10 s).2.1
def clsS (acc : List Cls) (line : ByteArray) : Cls:=⟨toB ((splA 32 [] (ofB line)).getD 0 []),if (splA 32 [] (ofB line)).length = 2 then named acc (toB ((splA 32 [] (ofB line)).getD 1 [])) else -1⟩
def parS (acc : List Cls) : List (List UInt8) → List Cls
 | []=>acc
 | x :: l=>parS (acc ++ [clsS acc (toB x)]) l
def linS (s : ByteArray) : List (List UInt8):=(splA 10 [] (ofB s)).dropLast
def okTx (t : List Cls) (s : ByteArray) : Bool:=vT t && decide (treeTx t = s)
def parP (s : ByteArray) : List Cls × Bool:=if okTx (parI s.size [] s) s = true then (parI s.size [] s,true) else ([],false)
theorem okName_not {s : ByteArray} (h : okName s = true) (c : UInt8) (hc : c.toNat < 97) : ∀ x ∈ ofB s,x ≠ c:=by
 intro x hx e
 unfold okName at h
 rw [Bool.and_eq_true,List.all_eq_true] at h
 have:=h.1 x hx
 simp only [Bool.and_eq_true,decide_eq_true_eq] at this
 subst e
 omega
theorem okName_len {s : ByteArray} (h : okName s = true) : 1 ≤ s.size ∧ s.size ≤ 6:=by
 unfold okName at h
 simp only [Bool.and_eq_true,decide_eq_true_eq] at h
 exact h.2
theorem idxP_take {α : Type} (p : α → Bool) (l : List α) (m n : Nat) (h : idxP p l = (m : Int)) (hm : m < n) : idxP p (l.take n) = (m : Int):=by
 have hs : l.findIdx? p = some m:=by
  unfold idxP at h
  cases hf : l.findIdx? p with
  | none=>rw [hf] at h;simp at h
  | some i =>
   rw [hf] at h
   simp only at h
   rw [show i = m by omega]
 rw [List.findIdx?_eq_some_iff_getElem] at hs
 obtain ⟨hl,hp,hA⟩:=hs
 have hl2 : m < (l.take n).length:=by rw [List.length_take];omega
 refine idxP_hit p (l.take n) m hl2 ?_ (fun j hj hjm=>?_)
 ·rw [List.getElem_take];exact hp
 ·rw [List.getElem_take]
  have:=hA j hjm
  simpa using this
def bodL (t : List Cls) (x : Cls) : List UInt8:=ofB x.f0 ++ (if 0 ≤ x.f1 then 32 :: ofB (t.getD x.f1.toNat z125).f0 else [])
theorem lineL_bod (t : List Cls) (x : Cls) : lineL t x = bodL t x ++ [10]:=by unfold lineL bodL;rw [List.append_assoc]
theorem bod_not {t : List Cls} (h : vT t = true) (i : Nat) (hi : i < t.length) : ∀ x ∈ bodL t (t.getD i z125),x ≠ 10:=by
 intro x hx
 unfold bodL at hx
 rcases List.mem_append.1 hx with hx | hx
 ·exact okName_not (vT_name h i hi).1 10 (by decide) x hx
 ·split at hx
  case isTrue h0 =>
   rcases List.mem_cons.1 hx with rfl | hx
   ·decide
   ·have h1:=(vT_par' h (i : Int) (by omega) (by omega)).2
    have h2 : rd_T125 t (i : Int) = t.getD i z125:=by simp [rd_T125]
    rw [h2] at h1
    exact okName_not (vT_name h _ (by omega)).1 10 (by decide) x hx
  case isFalse=>cases hx
theorem vT_parent {t : List Cls} (h : vT t = true) (i : Nat) (hi : i < t.length) : (i = 0 → (t.getD i z125).f1 = -1) ∧ (0 < i → 0 ≤ (t.getD i z125).f1 ∧ (t.getD i z125).f1 < (i : Int)):=by
 refine ⟨fun e=>by subst e;exact vT_root h,fun h0=>?_⟩
 have:=vT_par h i h0 hi
 omega
theorem clsOf_line {t : List Cls} (h : vT t = true) (i : Nat) (hi : i < t.length) : clsOf (t.take i) (toB (bodL t (t.getD i z125))) = t.getD i z125:=by
 have hn:=okName_not (vT_name h i hi).1 32 (by decide)
 have hp:=vT_parent h i hi
 unfold clsOf cutB
 rw [show (toB (bodL t (t.getD i z125))).data.toList = bodL t (t.getD i z125) from ofB_toB _]
 unfold bodL
 by_cases h0 : i = 0
 ·have h1:=hp.1 h0
  rw [if_neg (by omega),List.append_nil,cuL_miss 32 _ hn]
  simp only
  rw [if_neg (by simp),← h1,show (⟨(ofB (t.getD i z125).f0).toArray⟩ : ByteArray) = (t.getD i z125).f0 from toB_ofB _]
 ·have h1:=hp.2 (by omega)
  rw [if_pos h1.1,cuL_hit 32 _ _ hn]
  simp only
  rw [if_pos trivial,show (⟨(ofB (t.getD i z125).f0).toArray⟩ : ByteArray) = (t.getD i z125).f0 from toB_ofB _]
  generalize hq : (t.getD i z125).f1 = q at h1 ⊢
  rw [show (⟨(ofB (t.getD q.toNat z125).f0).toArray⟩ : ByteArray) = (t.getD q.toNat z125).f0 from toB_ofB _]
  have h2:=(vT_name h q.toNat (by omega)).2
  have h3 : named (t.take i) (t.getD q.toNat z125).f0 = q:=by
   have:=idxP_take _ t q.toNat i h2 (by omega)
   unfold named
   rw [this]
   omega
  rw [h3,← hq]
theorem take_snoc {t : List Cls} (i : Nat) (hi : i < t.length) : t.take i ++ [t.getD i z125] = t.take (i + 1):=by
 rw [List.take_succ_eq_append_getElem hi]
 simp [List.getD,hi]
theorem drop_cons {t : List Cls} (i : Nat) (hi : i < t.length) : t.drop i = t.getD i z125 :: t.drop (i + 1):=by
 rw [List.drop_eq_getElem_cons hi]
 simp [List.getD,hi]
theorem parI_back {t : List Cls} (h : vT t = true) : ∀ (d n i : Nat),i + d = t.length → (linesL t (t.drop i)).length ≤ n → parI n (t.take i) (toB (linesL t (t.drop i))) = t:=by
 intro d
 induction d with
 | zero =>
  intro n i hi hn
  rw [List.drop_of_length_le (by omega),List.take_of_length_le (by omega)]
  cases n with
  | zero=>rfl
  | succ n=>rw [parI,if_pos (by rw [toB_size];rfl)]
 | succ d ih =>
  intro n i hi hn
  have hlt : i < t.length:=by omega
  have hl : linesL t (t.drop i) = bodL t (t.getD i z125) ++ 10 :: linesL t (t.drop (i + 1)):=by
   rw [drop_cons i hlt]
   unfold linesL
   rw [List.flatMap_cons,lineL_bod,List.append_assoc]
   rfl
  have hlen : (linesL t (t.drop i)).length = (bodL t (t.getD i z125)).length + 1 + (linesL t (t.drop (i + 1))).length:=by rw [hl];simp;omega
  obtain ⟨m,rfl⟩ : ∃ m,n = m + 1:=⟨n - 1,by omega⟩
  rw [parI,if_neg (by rw [toB_size];omega)]
  have hc : cutB 10 (toB (linesL t (t.drop i))) = (toB (bodL t (t.getD i z125)),toB (linesL t (t.drop (i + 1))),true):=by
   unfold cutB
   rw [show (toB (linesL t (t.drop i))).data.toList = linesL t (t.drop i) from ofB_toB _,hl,cuL_hit 10 _ _ (bod_not h i hlt)]
   rfl
  rw [hc]
  simp only
  rw [clsOf_line h i hlt,take_snoc i hlt]
  exact ih m (i + 1) (by omega) (by omega)
theorem clsS_line {t : List Cls} (h : vT t = true) (i : Nat) (hi : i < t.length) : clsS (t.take i) (toB (bodL t (t.getD i z125))) = t.getD i z125:=by
 have hn:=okName_not (vT_name h i hi).1 32 (by decide)
 have hp:=vT_parent h i hi
 unfold clsS
 rw [ofB_toB]
 unfold bodL
 by_cases h0 : i = 0
 ·have h1:=hp.1 h0
  rw [if_neg (by omega),List.append_nil,splA_miss 32 _ _ hn]
  rw [if_neg (by simp),← h1]
  have : toB (([[] ++ ofB (t.getD i z125).f0] : List (List UInt8)).getD 0 []) = (t.getD i z125).f0:=toB_ofB _
  rw [this]
 ·have h1:=hp.2 (by omega)
  generalize hq : (t.getD i z125).f1 = q at h1 ⊢
  have hn2:=okName_not (vT_name h q.toNat (by omega)).1 32 (by decide)
  rw [if_pos h1.1,splA_hit 32 _ _ _ hn,splA_miss 32 _ _ hn2,if_pos (by rfl)]
  have e0 : toB (([[] ++ ofB (t.getD i z125).f0,[] ++ ofB (t.getD q.toNat z125).f0] : List (List UInt8)).getD 0 []) = (t.getD i z125).f0:=toB_ofB _
  have e1 : toB (([[] ++ ofB (t.getD i z125).f0,[] ++ ofB (t.getD q.toNat z125).f0] : List (List UInt8)).getD 1 []) = (t.getD q.toNat z125).f0:=toB_ofB _
  rw [e0,e1]
  have h2:=(vT_name h q.toNat (by omega)).2
  have h3 : named (t.take i) (t.getD q.toNat z125).f0 = q:=by
   have:=idxP_take _ t q.toNat i h2 (by omega)
   unfold named
   rw [this]
   omega
  rw [h3,← hq]
theorem parS_back {t : List Cls} (h : vT t = true) : ∀ (d i : Nat),i + d = t.length → parS (t.take i) (splA 10 [] (linesL t (t.drop i))).dropLast = t:=by
 intro d
 induction d with
 | zero =>
  intro i hi
  rw [List.drop_of_length_le (by omega),List.take_of_length_le (by omega)]
  rfl
 | succ d ih =>
  intro i hi
  have hlt : i < t.length:=by omega
  have hl : linesL t (t.drop i) = bodL t (t.getD i z125) ++ 10 :: linesL t (t.drop (i + 1)):=by
   rw [drop_cons i hlt]
   unfold linesL
   rw [List.flatMap_cons,lineL_bod,List.append_assoc]
   rfl
  rw [hl,splA_hit 10 _ _ _ (bod_not h i hlt),List.nil_append]
  have hne:=(splA_len 10 (linesL t (t.drop (i + 1))) []).1
  obtain ⟨y,r,hy⟩ : ∃ y r,splA 10 [] (linesL t (t.drop (i + 1))) = y :: r:=by
   cases hs : splA 10 [] (linesL t (t.drop (i + 1))) with
   | nil=>rw [hs] at hne;simp at hne
   | cons y r=>exact ⟨y,r,rfl⟩
  have hi2:=ih (i + 1) (by omega)
  rw [hy] at hi2 ⊢
  rw [List.dropLast_cons_cons,parS,clsS_line h i hlt,take_snoc i hlt]
  exact hi2
theorem parI_text {t : List Cls} (h : vT t = true) : parI (treeTx t).size [] (treeTx t) = t:=by
 have:=parI_back h t.length (treeTx t).size 0 (by omega) (by rw [List.drop_zero];unfold treeTx;rw [toB_size];exact Nat.le_refl _)
 simpa [treeTx] using this
theorem parS_text {t : List Cls} (h : vT t = true) : parS [] (linS (treeTx t)) = t:=by
 have:=parS_back h t.length 0 (by omega)
 unfold linS treeTx
 rw [ofB_toB]
 simpa using this
theorem okTx_parts {t : List Cls} {s : ByteArray} (h : okTx t s = true) : vT t = true ∧ treeTx t = s:=by
 unfold okTx at h
 rw [Bool.and_eq_true] at h
 exact ⟨h.1,of_decide_eq_true h.2⟩
theorem parP_spec (s : ByteArray) : parP s = if okTx (parS [] (linS s)) s = true then (parS [] (linS s),true) else ([],false):=by
 unfold parP
 by_cases h1 : okTx (parI s.size [] s) s = true
 ·obtain ⟨hv,he⟩:=okTx_parts h1
  have h2 : parS [] (linS s) = parI s.size [] s:=by
   generalize parI s.size [] s = t at hv he
   subst he
   exact parS_text hv
  rw [h2,if_pos h1]
 ·by_cases h2 : okTx (parS [] (linS s)) s = true
  ·obtain ⟨hv,he⟩:=okTx_parts h2
   have h3 : parI s.size [] s = parS [] (linS s):=by
    generalize parS [] (linS s) = t at hv he
    subst he
    exact parI_text hv
   rw [h3] at h1
   exact absurd h2 h1
  ·rw [if_neg h1,if_neg h2]
theorem parP_yes {s : ByteArray} {t : List Cls} (h : parP s = (t,true)) : vT t = true ∧ treeTx t = s:=by
 unfold parP at h
 split at h
 case isTrue h1=>obtain ⟨rfl,_⟩:=Prod.mk.inj h;exact okTx_parts h1
 case isFalse=>cases (Prod.mk.inj h).2
theorem parP_no {s : ByteArray} {t : List Cls} (h : parP s = (t,false)) : t = []:=by
 unfold parP at h
 split at h
 ·cases (Prod.mk.inj h).2
 ·exact (Prod.mk.inj h).1.symm
theorem parP_text {t : List Cls} (h : vT t = true) : parP (treeTx t) = (t,true):=by
 have h1:=parI_text h
 unfold parP
 rw [h1,if_pos (by unfold okTx;rw [h];simp)]
theorem lineL_len {t : List Cls} (h : vT t = true) (i : Nat) (hi : i < t.length) : 1 ≤ (lineL t (t.getD i z125)).length ∧ (lineL t (t.getD i z125)).length ≤ 14:=by
 have h1:=okName_len (vT_name h i hi).1
 have hp:=vT_parent h i hi
 unfold lineL
 rw [List.length_append,List.length_append,ofB_len,List.length_singleton]
 split
 case isTrue h0 =>
  have h2:=(hp.2 (by have:=hp.1;omega))
  have h3:=okName_len (vT_name h (t.getD i z125).f1.toNat (by omega)).1
  rw [List.length_cons,ofB_len]
  omega
 case isFalse=>rw [List.length_nil];omega
theorem linesL_len {t : List Cls} (h : vT t = true) : ∀ (j : Nat),j ≤ t.length → (linesL t (t.take j)).length ≤ 14 * j ∧ j ≤ (linesL t (t.take j)).length:=by
 intro j
 induction j with
 | zero=>intro _;simp [linesL]
 | succ j ih =>
  intro hj
  have h1:=ih (by omega)
  have h2:=lineL_len h j (by omega)
  rw [← take_snoc j (by omega)]
  unfold linesL at h1 ⊢
  rw [List.flatMap_append,List.flatMap_singleton,List.length_append]
  omega
theorem treeTx_size {t : List Cls} (h : vT t = true) : 1 ≤ (treeTx t).size ∧ (treeTx t).size ≤ 112:=by
 have h1:=linesL_len h t.length (Nat.le_refl _)
 have h2:=vT_len h
 rw [List.take_of_length_le (Nat.le_refl _)] at h1
 unfold treeTx
 rw [toB_size]
 omega
end Go.Proofs.Ytacgehaipacehaa.P
namespace Go.Proofs.Ytacgehaipacehaa.P
open Go.RowKit Go.Proofs.YtacgehaipacehaaW.PrintWords Go.Proofs.YtacgehaipacehaaW.PrintLast Go.Proofs.YtacgehaipacehaaW.PrintMore
attribute [local go_sem] max2_int min2_int max_two min_two max_three min_three max_four min_four
set_option linter.unusedVariables false
set_option linter.unusedSimpArgs false
def spec_classNamed.l0 : Nat → List (S125) → ByteArray → Int → Option (Int)
 | 0,_,_,_=>none
 | k + 1,x0,x1,x5=>if x5 < (x0.length : Int) then (if 0 ≤ x5 then (if ((rd_T125 x0 x5).f0).toList = x1.toList then (some x5) else (spec_classNamed.l0 k x0 x1 (wrap64 (x5 + 1)))) else (none)) else (some (-1))
def spec_classNamed.f (k : Nat) (l0 : List (S125)) (a1 : ByteArray) : Option (Int):=spec_classNamed.l0 k l0 a1 0
theorem spec_classNamed.mono_l : ∀ k,(∀ y0 y1 y2,LeO (spec_classNamed.l0 k y0 y1 y2) (spec_classNamed.l0 (k + 1) y0 y1 y2))
 | 0=>fun _ _ _ r h=>by simp [spec_classNamed.l0] at h
 | k + 1=>by
  have ih0:=spec_classNamed.mono_l k
  ·intro y0 y1 y2
   unfold spec_classNamed.l0
   repeat' first
   | (with_reducible exact ih0 _ _ _)
   | (with_reducible exact LeO.refl _)
   | (with_reducible exact LeO.none _)
   | (with_reducible refine LeO.ite ?_ ?_)
   | (with_reducible refine LeO.bind ?_ (fun _=>?_))
   | exact ih0 _ _ _
   | exact LeO.none _
   | refine LeO.ite ?_ ?_
   | refine LeO.bind ?_ (fun _=>?_)
theorem spec_classNamed.mono : ∀ a0 a1 k,LeO (spec_classNamed.f k a0 a1) (spec_classNamed.f (k + 1) a0 a1):=by
 intro a0 a1 k
 have ih0:=spec_classNamed.mono_l k
 unfold spec_classNamed.f
 repeat' first
   | (with_reducible exact ih0 _ _ _)
   | (with_reducible exact LeO.refl _)
   | (with_reducible exact LeO.none _)
   | (with_reducible refine LeO.ite ?_ ?_)
   | (with_reducible refine LeO.bind ?_ (fun _=>?_))
   | exact ih0 _ _ _
   | exact LeO.none _
   | refine LeO.ite ?_ ?_
   | refine LeO.bind ?_ (fun _=>?_)
set_option maxHeartbeats 8000000 in
set_option maxRecDepth 100000 in
theorem spec_classNamed.calls (k : Nat) (A0 : Option Addr) (c0 : Nat) (l0 : List (S125)) (a1 : ByteArray) (r : Int) (w : World) (hr0 : Kd.C k125 w A0 l0.length l0) (hc0 : l0.length ≤ c0) (h : spec_classNamed.f k l0 a1 = some r) :
  Calls Try.prog 135 #[.slice A0 l0.length c0,.string a1] w fun e w'=>e = .returned (.int .i64 r) ∧ Drawn0 w w':=by
 have HR0:=a0_ hr0
 have HC0:=a0_ hc0
 clear hr0 hc0
 have H : (spec_classNamed.l0 k l0 a1 0) = some r:=h
 clear h
 have H':=a0_ H
 clear H
 go_enter Try.func135,Try.ntmps135
 go_wp2
 go_loopg [5] k (fun kq v5 w'=>∃ (x5_1 : Int),v5 = .int .i64 x5_1 ∧ Aside0 (spec_classNamed.l0 kq l0 a1 x5_1 = some r) ∧ Aside0 (kq ≤ k) ∧ Drawn0 w w')
 case atStart=>exact ⟨(0),(by first | rfl | (simp;done) | (simp [*];done)),H',⟨Nat.le_refl _⟩,by repeat (first | exact Drawn0.refl _ | apply Drawn0.step)⟩
 case round =>
  clear H'
  try clear c1
  try clear p2
  obtain ⟨x5_1,rfl,HA,HK1,⟨m1,rfl⟩⟩:=hrel
  cases gk with
  | zero=>exact absurd HA.out (by simp [spec_classNamed.l0])
  | succ k1 =>
   have H:=HA.out
   clear HA
   simp only [spec_classNamed.l0] at H
   by_cases c3 : x5_1 < (l0.length : Int)
   ·rw [if_pos c3] at H
    have c3b0 : decide (x5_1 < (l0.length : Int)) = true:=decide_eq_true c3
    clear c3
    by_cases c4 : 0 ≤ x5_1
    ·rw [if_pos c4] at H
     have c4b0 : decide (0 ≤ x5_1) = true:=decide_eq_true c4
     clear c4
     by_cases c5 : ((rd_T125 l0 x5_1).f0).toList = a1.toList
     ·rw [if_pos c5] at H
      have c5b0 : (((rd_T125 l0 x5_1).f0).toList == a1.toList) = true:=beq_iff_eq.mpr c5
      have c5b1 : (((rd_T125 l0 x5_1).f0).toList != a1.toList) = false:=bne_eq_false_iff_eq.mpr c5
      clear c5
      obtain rfl:=Option.some.inj H
      have p1 : 0 ≤ (x5_1 : Int):=of_decide_eq_true (by first | (with_reducible assumption) | assumption)
      have q1 : x5_1 < (l0.length : Int):=of_decide_eq_true (by first | (with_reducible assumption) | assumption)
      obtain ⟨ad1,e1,hx1_0,hx1_1⟩:=at_T125 HR0.out x5_1 p1 q1
      cases e1
      replace p1:=eq_true p1
      replace q1:=eq_true q1
      go_wp2
      go_ret
      exact ⟨by first | rfl | (simp;done) | (simp [*];done),by repeat (first | exact Drawn0.refl _ | apply Drawn0.step)⟩
     ·rw [if_neg c5] at H
      have c5b0 : (((rd_T125 l0 x5_1).f0).toList == a1.toList) = false:=beq_eq_false_iff_ne.mpr c5
      have c5b1 : (((rd_T125 l0 x5_1).f0).toList != a1.toList) = true:=bne_iff_ne.mpr c5
      have H':=a0_ H
      clear H
      have p1 : 0 ≤ (x5_1 : Int):=of_decide_eq_true (by first | (with_reducible assumption) | assumption)
      have q1 : x5_1 < (l0.length : Int):=of_decide_eq_true (by first | (with_reducible assumption) | assumption)
      obtain ⟨ad1,e1,hx1_0,hx1_1⟩:=at_T125 HR0.out x5_1 p1 q1
      cases e1
      replace p1:=eq_true p1
      replace q1:=eq_true q1
      go_wp2
      go_roundg k1
      case measure=>have:=HK1.out;omega
      case rel=>exact ⟨(wrap64 (x5_1 + 1)),(by first | rfl | (simp;done) | (simp [*];done)),H',⟨by have:=HK1.out;omega⟩,by repeat (first | exact Drawn0.refl _ | apply Drawn0.step)⟩
    ·rw [if_neg c4] at H
     exact absurd H (by simp)
   ·rw [if_neg c3] at H
    have c3b0 : decide (x5_1 < (l0.length : Int)) = false:=decide_eq_false c3
    clear c3
    obtain rfl:=Option.some.inj H
    go_wp2
    go_ret
    exact ⟨by first | rfl | (simp;done) | (simp [*];done),by repeat (first | exact Drawn0.refl _ | apply Drawn0.step)⟩
theorem spec_classNamed_l0 (t : List Cls) (n : ByteArray) (hs : t.length ≤ 9223372036854775807) (d : Nat) : ∀ (k : Nat) (i : Nat),i ≤ t.length → t.length - i = d → d < k → (∀ j (hj : j < t.length),j < i → (t[j].f0.toList == n.toList) = false) → spec_classNamed.l0 k t n (i : Int) = some (named t n):=by
 induction d with
 | zero =>
  intro k i hi hd hk hA
  obtain ⟨k,rfl⟩ : ∃ m,k = m + 1:=⟨k - 1,by omega⟩
  simp only [spec_classNamed.l0]
  rw [if_neg (show ¬ (i : Int) < (t.length : Int) by omega)]
  unfold named
  rw [idxP_miss _ t (fun j hj=>hA j hj (by omega))]
 | succ d ih =>
  intro k i hi hd hk hA
  obtain ⟨k,rfl⟩ : ∃ m,k = m + 1:=⟨k - 1,by omega⟩
  have hlt : i < t.length:=by omega
  simp only [spec_classNamed.l0]
  have hrd : rd_T125 t (i : Int) = t[i]:=by simp [rd_T125,hlt]
  rw [if_pos (show (i : Int) < (t.length : Int) by omega),if_pos (show (0 : Int) ≤ (i : Int) by omega),hrd]
  by_cases h1 : t[i].f0.toList = n.toList
  ·rw [if_pos h1]
   unfold named
   rw [idxP_hit (fun x : Cls=>x.f0.toList == n.toList) t i hlt (beq_iff_eq.2 h1) hA]
  ·rw [if_neg h1,wrap_succ (n:=t.length) (by omega) (by omega) (by omega)]
   rw [show ((i : Int) + 1) = ((i + 1 : Nat) : Int) by omega]
   refine ih k (i + 1) (by omega) (by omega) (by omega) (fun j hj hji=>?_)
   by_cases e : j = i
   ·subst e;exact beq_eq_false_iff_ne.2 h1
   ·exact hA j hj (by omega)
theorem spec_classNamed_ev (t : List Cls) (n : ByteArray) (hs : t.length ≤ 9223372036854775807) : spec_classNamed.f (t.length + 1) t n = some (named t n):=by
 unfold spec_classNamed.f
 exact spec_classNamed_l0 t n hs t.length (t.length + 1) 0 (by omega) (by omega) (by omega) (fun j _ hj=>absurd hj (Nat.not_lt_zero _))
end Go.Proofs.Ytacgehaipacehaa.P
namespace Go.Proofs.Ytacgehaipacehaa.P
open Go.RowKit Go.Proofs.YtacgehaipacehaaW.PrintWords Go.Proofs.YtacgehaipacehaaW.PrintLast Go.Proofs.YtacgehaipacehaaW.PrintMore
attribute [local go_sem] max2_int min2_int max_two min_two max_three min_three max_four min_four
set_option linter.unusedVariables false
set_option linter.unusedSimpArgs false
def spec_inRange.f (a0 : Int) (a1 : Int) (a2 : Int) : Option (Bool):=if a1 ≤ a0 then (some (decide (a0 ≤ a2))) else (some false)
set_option maxHeartbeats 8000000 in
set_option maxRecDepth 100000 in
theorem spec_inRange.calls (a0 : Int) (a1 : Int) (a2 : Int) (r : Bool) (w : World) (h : spec_inRange.f a0 a1 a2 = some r) :
  Calls Try.prog 70 #[.int .i64 a0,.int .i64 a1,.int .i64 a2] w fun e w'=>e = .returned (.bool r) ∧ Drawn0 w w':=by
 have H : (if a1 ≤ a0 then (some (decide (a0 ≤ a2))) else (some false)) = some r:=h
 clear h
 by_cases c4 : a1 ≤ a0
 ·rw [if_pos c4] at H
  have c4b0 : decide (a1 ≤ a0) = true:=decide_eq_true c4
  clear c4
  obtain rfl:=Option.some.inj H
  go_enter Try.func70,Try.ntmps70
  go_wp2
  go_ret
  exact ⟨by first | rfl | (simp;done) | (simp [*];done),by repeat (first | exact Drawn0.refl _ | apply Drawn0.step)⟩
 ·rw [if_neg c4] at H
  have c4b0 : decide (a1 ≤ a0) = false:=decide_eq_false c4
  clear c4
  obtain rfl:=Option.some.inj H
  go_enter Try.func70,Try.ntmps70
  go_wp2
  go_ret
  exact ⟨by first | rfl | (simp;done) | (simp [*];done),by repeat (first | exact Drawn0.refl _ | apply Drawn0.step)⟩
theorem spec_inRange_ev (a b c : Int) : spec_inRange.f a b c = some (decide (b ≤ a) && decide (a ≤ c)):=by
 unfold spec_inRange.f
 by_cases h : b ≤ a
 ·rw [if_pos h];simp [h]
 ·rw [if_neg h];simp [h]
end Go.Proofs.Ytacgehaipacehaa.P
namespace Go.Proofs.Ytacgehaipacehaa.P
open Go.RowKit Go.Proofs.YtacgehaipacehaaW.PrintWords Go.Proofs.YtacgehaipacehaaW.PrintLast Go.Proofs.YtacgehaipacehaaW.PrintMore
attribute [local go_sem] max2_int min2_int max_two min_two max_three min_three max_four min_four
set_option linter.unusedVariables false
set_option linter.unusedSimpArgs false
def spec_validName.l0 : Nat → ByteArray → Int → Option (Bool)
 | 0,_,_=>none
 | k + 1,x0,x3=>if x3 < (x0.size : Int) then (if 0 ≤ x3 then (if (bt x0 x3) < 97 then (some false) else (if (bt x0 x3) > 122 then (some false) else (spec_validName.l0 k x0 (wrap64 (x3 + 1))))) else (none)) else ((spec_inRange.f (x0.size : Int) 1 6).bind fun t1=>(some t1))
def spec_validName.f (k : Nat) (a0 : ByteArray) : Option (Bool):=spec_validName.l0 k a0 0
theorem spec_validName.mono_l : ∀ k,(∀ y0 y1,LeO (spec_validName.l0 k y0 y1) (spec_validName.l0 (k + 1) y0 y1))
 | 0=>fun _ _ r h=>by simp [spec_validName.l0] at h
 | k + 1=>by
  have ih0:=spec_validName.mono_l k
  ·intro y0 y1
   unfold spec_validName.l0
   repeat' first
   | (with_reducible exact ih0 _ _)
   | (with_reducible exact LeO.refl _)
   | (with_reducible exact LeO.none _)
   | (with_reducible refine LeO.ite ?_ ?_)
   | (with_reducible refine LeO.bind ?_ (fun _=>?_))
   | exact ih0 _ _
   | exact LeO.none _
   | refine LeO.ite ?_ ?_
   | refine LeO.bind ?_ (fun _=>?_)
theorem spec_validName.mono : ∀ a0 k,LeO (spec_validName.f k a0) (spec_validName.f (k + 1) a0):=by
 intro a0 k
 have ih0:=spec_validName.mono_l k
 unfold spec_validName.f
 repeat' first
   | (with_reducible exact ih0 _ _)
   | (with_reducible exact LeO.refl _)
   | (with_reducible exact LeO.none _)
   | (with_reducible refine LeO.ite ?_ ?_)
   | (with_reducible refine LeO.bind ?_ (fun _=>?_))
   | exact ih0 _ _
   | exact LeO.none _
   | refine LeO.ite ?_ ?_
   | refine LeO.bind ?_ (fun _=>?_)
set_option maxHeartbeats 8000000 in
set_option maxRecDepth 100000 in
theorem spec_validName.calls (k : Nat) (a0 : ByteArray) (r : Bool) (w : World) (h : spec_validName.f k a0 = some r) :
  Calls Try.prog 149 #[.string a0] w fun e w'=>e = .returned (.bool r) ∧ Drawn0 w w':=by
 have H : (spec_validName.l0 k a0 0) = some r:=h
 clear h
 have H':=a0_ H
 clear H
 go_enter Try.func149,Try.ntmps149
 go_wp2
 go_loopg [3] k (fun kq v3 w'=>∃ (x3_1 : Int),v3 = .int .i64 x3_1 ∧ Aside0 (spec_validName.l0 kq a0 x3_1 = some r) ∧ Aside0 (kq ≤ k) ∧ Drawn0 w w')
 case atStart=>exact ⟨(0),(by first | rfl | (simp;done) | (simp [*];done)),H',⟨Nat.le_refl _⟩,by repeat (first | exact Drawn0.refl _ | apply Drawn0.step)⟩
 case round =>
  clear H'
  try clear c1
  obtain ⟨x3_1,rfl,HA,HK1,⟨m1,rfl⟩⟩:=hrel
  cases gk with
  | zero=>exact absurd HA.out (by simp [spec_validName.l0])
  | succ k1 =>
   have H:=HA.out
   clear HA
   simp only [spec_validName.l0] at H
   by_cases c2 : x3_1 < (a0.size : Int)
   ·rw [if_pos c2] at H
    have c2b0 : decide (x3_1 < (a0.size : Int)) = true:=decide_eq_true c2
    clear c2
    by_cases c3 : 0 ≤ x3_1
    ·rw [if_pos c3] at H
     have c3b0 : decide (0 ≤ x3_1) = true:=decide_eq_true c3
     clear c3
     by_cases c5 : (bt a0 x3_1) < 97
     ·rw [if_pos c5] at H
      have c5b0 : decide ((bt a0 x3_1) < 97) = true:=decide_eq_true c5
      clear c5
      obtain rfl:=Option.some.inj H
      have p4 : 0 ≤ (x3_1 : Int):=of_decide_eq_true (by first | (with_reducible assumption) | assumption)
      have q4 : x3_1 < (a0.size : Int):=of_decide_eq_true (by first | (with_reducible assumption) | assumption)
      have hx4:=bt_at a0 x3_1
      replace p4:=eq_true p4
      replace q4:=eq_true q4
      go_wp2
      go_ret
      exact ⟨by first | rfl | (simp;done) | (simp [*];done),by repeat (first | exact Drawn0.refl _ | apply Drawn0.step)⟩
     ·rw [if_neg c5] at H
      have c5b0 : decide ((bt a0 x3_1) < 97) = false:=decide_eq_false c5
      clear c5
      by_cases c7 : (bt a0 x3_1) > 122
      ·rw [if_pos c7] at H
       have c7b0 : decide (122 < (bt a0 x3_1)) = true:=decide_eq_true c7
       clear c7
       obtain rfl:=Option.some.inj H
       have p4 : 0 ≤ (x3_1 : Int):=of_decide_eq_true (by first | (with_reducible assumption) | assumption)
       have q4 : x3_1 < (a0.size : Int):=of_decide_eq_true (by first | (with_reducible assumption) | assumption)
       have hx4:=bt_at a0 x3_1
       replace p4:=eq_true p4
       replace q4:=eq_true q4
       have p6 : 0 ≤ (x3_1 : Int):=of_decide_eq_true (by first | (with_reducible assumption) | assumption)
       have q6 : x3_1 < (a0.size : Int):=of_decide_eq_true (by first | (with_reducible assumption) | assumption)
       have hx6:=bt_at a0 x3_1
       replace p6:=eq_true p6
       replace q6:=eq_true q6
       go_wp2
       go_ret
       exact ⟨by first | rfl | (simp;done) | (simp [*];done),by repeat (first | exact Drawn0.refl _ | apply Drawn0.step)⟩
      ·rw [if_neg c7] at H
       have c7b0 : decide (122 < (bt a0 x3_1)) = false:=decide_eq_false c7
       clear c7
       have H':=a0_ H
       clear H
       have p4 : 0 ≤ (x3_1 : Int):=of_decide_eq_true (by first | (with_reducible assumption) | assumption)
       have q4 : x3_1 < (a0.size : Int):=of_decide_eq_true (by first | (with_reducible assumption) | assumption)
       have hx4:=bt_at a0 x3_1
       replace p4:=eq_true p4
       replace q4:=eq_true q4
       have p6 : 0 ≤ (x3_1 : Int):=of_decide_eq_true (by first | (with_reducible assumption) | assumption)
       have q6 : x3_1 < (a0.size : Int):=of_decide_eq_true (by first | (with_reducible assumption) | assumption)
       have hx6:=bt_at a0 x3_1
       replace p6:=eq_true p6
       replace q6:=eq_true q6
       go_wp2
       go_roundg k1
       case measure=>have:=HK1.out;omega
       case rel=>exact ⟨(wrap64 (x3_1 + 1)),(by first | rfl | (simp;done) | (simp [*];done)),H',⟨by have:=HK1.out;omega⟩,by repeat (first | exact Drawn0.refl _ | apply Drawn0.step)⟩
    ·rw [if_neg c3] at H
     exact absurd H (by simp)
   ·rw [if_neg c2] at H
    have c2b0 : decide (x3_1 < (a0.size : Int)) = false:=decide_eq_false c2
    clear c2
    replace H:=Option.bind_eq_some_iff.mp H
    obtain ⟨t1,A80,H⟩:=H
    replace H : (some t1) = some r:=H
    have A8:=a0_ A80
    clear A80
    obtain rfl:=Option.some.inj H
    go_wp2_with (first | ((with_reducible refine gate_callee (f:=70) rfl ?_);refine goesL_ (some 22) rfl rfl Try.func70 (by kernel_rfl) rfl #[.int .i64 (a0.size : Int),.int .i64 1,.int .i64 6] rfl lm_ ?_;(with_reducible refine (spec_inRange.calls (a0.size : Int) 1 6 t1 _ A8.out).mono ?_);rintro e w' ⟨rfl,⟨nd,rfl⟩⟩;refine ⟨_,rfl,?_⟩))
    go_ret
    exact ⟨by first | rfl | (simp;done) | (simp [*];done),by repeat (first | exact Drawn0.refl _ | apply Drawn0.step)⟩
theorem spec_validName_l0 (s : ByteArray) (hs : s.size ≤ 9223372036854775807) (d : Nat) : ∀ (k : Nat) (i : Nat),i ≤ s.size → s.size - i = d → d < k → spec_validName.l0 k s (i : Int) = some ((s.data.toList.drop i).all (fun c=>decide (97 ≤ c.toNat) && decide (c.toNat ≤ 122)) && (decide (1 ≤ s.size) && decide (s.size ≤ 6))):=by
 induction d with
 | zero =>
  intro k i hi hd hk
  obtain ⟨k,rfl⟩ : ∃ m,k = m + 1:=⟨k - 1,by omega⟩
  simp only [spec_validName.l0]
  rw [if_neg (by omega)]
  have : s.data.toList.drop i = []:=by
   apply List.drop_eq_nil_of_le
   have : s.data.toList.length = s.size:=toL_len s
   omega
  rw [this]
  simp only [spec_inRange.f,List.all_nil,Bool.true_and]
  by_cases h1 : 1 ≤ s.size
  ·rw [if_pos (show (s.size : Int) ≥ 1 by omega)]
   by_cases h2 : s.size ≤ 6
   ·simp [h1,h2];omega
   ·simp [h2];omega
  ·rw [if_neg (show ¬ (1 : Int) ≤ s.size by omega)];simp [h1]
 | succ d ih =>
  intro k i hi hd hk
  obtain ⟨k,rfl⟩ : ∃ m,k = m + 1:=⟨k - 1,by omega⟩
  have hlt : i < s.size:=by omega
  have hl : s.data.toList.length = s.size:=toL_len s
  simp only [spec_validName.l0]
  rw [if_pos (show (i : Int) < (s.size : Int) by omega),if_pos (show (0 : Int) ≤ (i : Int) by omega),bt_getElem s i hlt]
  have hd2 : s.data.toList.drop i = s[i] :: s.data.toList.drop (i + 1):=by
   rw [List.drop_eq_getElem_cons (by omega)]
   congr 1
  rw [hd2,List.all_cons]
  by_cases h1 : (s[i].toNat : Int) < 97
  ·rw [if_pos h1];have : ¬ 97 ≤ s[i].toNat:=by omega
   simp [this]
  ·rw [if_neg h1]
   by_cases h2 : (s[i].toNat : Int) > 122
   ·rw [if_pos h2];have : ¬ s[i].toNat ≤ 122:=by omega
    simp [this]
   ·rw [if_neg h2,wrap_succ (n:=s.size) (by omega) (by omega) (by omega)]
    have:=ih k (i + 1) (by omega) (by omega) (by omega)
    rw [show ((i : Int) + 1) = ((i + 1 : Nat) : Int) by omega,this]
    have a : 97 ≤ s[i].toNat:=by omega
    have b : s[i].toNat ≤ 122:=by omega
    simp [a,b]
theorem spec_validName_ev (s : ByteArray) (hs : s.size ≤ 9223372036854775807) : spec_validName.f (s.size + 1) s = some (okName s):=by
 unfold spec_validName.f okName
 have:=spec_validName_l0 s hs s.size (s.size + 1) 0 (by omega) (by omega) (by omega)
 simpa using this
end Go.Proofs.Ytacgehaipacehaa.P
namespace Go.Proofs.Ytacgehaipacehaa.P
open Go.RowKit Go.Proofs.YtacgehaipacehaaW.PrintWords Go.Proofs.YtacgehaipacehaaW.PrintLast Go.Proofs.YtacgehaipacehaaW.PrintMore
attribute [local go_sem] max2_int min2_int max_two min_two max_three min_three max_four min_four
set_option linter.unusedVariables false
set_option linter.unusedSimpArgs false
theorem named_ahead (t : List Cls) (i : Nat) (hi : i < t.length) : (named (t.take i) t[i].f0 ≥ 0) ↔ ¬ named t t[i].f0 = (i : Int):=by
 have hself : (t[i].f0.toList == t[i].f0.toList) = true:=beq_self_eq_true _
 have hd:=idxP_nonneg (fun x : Cls=>x.f0.toList == t[i].f0.toList) (t.take i)
 unfold named
 by_cases hA : ∀ j (hj : j < t.length),j < i → (t[j].f0.toList == t[i].f0.toList) = false
 ·have h1 : idxP (fun x : Cls=>x.f0.toList == t[i].f0.toList) t = (i : Int):=idxP_hit _ t i hi hself hA
  have h2 : (t.take i).any (fun x : Cls=>x.f0.toList == t[i].f0.toList) = false:=by
   rw [List.any_eq_false]
   intro x hx
   obtain ⟨j,hj,rfl⟩:=List.getElem_of_mem hx
   have hj2 : j < i ∧ j < t.length:=by simp at hj;omega
   rw [List.getElem_take]
   simp [hA j hj2.2 hj2.1]
  rw [h2,decide_eq_false_iff_not] at hd
  constructor
  ·intro h;exact absurd h hd
  ·intro h;exact absurd h1 h
 ·have hex : ∃ j,∃ hj : j < t.length,j < i ∧ (t[j].f0.toList == t[i].f0.toList) = true:=by
   apply Classical.byContradiction
   intro hn
   apply hA
   intro j hj hji
   cases hb : (t[j].f0.toList == t[i].f0.toList) with
   | false=>rfl
   | true=>exact absurd ⟨j,hj,hji,hb⟩ hn
  obtain ⟨j,hj,hji,hb⟩:=hex
  have h2 : (t.take i).any (fun x : Cls=>x.f0.toList == t[i].f0.toList) = true:=by
   rw [List.any_eq_true]
   exact ⟨t[j],List.mem_take_iff_getElem.2 ⟨j,by omega,rfl⟩,hb⟩
  rw [h2,decide_eq_true_eq] at hd
  constructor
  ·intro _ h
   unfold idxP at h
   cases hf : t.findIdx? (fun x : Cls=>x.f0.toList == t[i].f0.toList) with
   | none=>rw [hf] at h;simp at h
   | some m =>
    rw [hf] at h
    have hm : m = i:=by have h' : (m : Int) = (i : Int):=h;omega
    subst hm
    rw [List.findIdx?_eq_some_iff_getElem] at hf
    obtain ⟨_,_,hf⟩:=hf
    exact absurd hb (by simpa using hf j hji)
  ·intro _;exact hd
def spec_validTree.f (l0_0 : List (S125)) : Option Bool:=if smT l0_0 = true then some (vT l0_0) else none
set_option maxHeartbeats 4000000 in
set_option maxRecDepth 100000 in
theorem spec_validTree.calls (A0_0 : Option Addr) (c0_0 : Nat) (l0_0 : List (S125)) (r : Bool) (w : World) (hr0_0 : Kd.C k125 w A0_0 l0_0.length l0_0) (hc0_0 : l0_0.length ≤ c0_0) (h : spec_validTree.f l0_0 = some r) :
  Calls Try.prog 107 #[.agg #[.slice A0_0 l0_0.length c0_0]] w fun e w'=>e = .returned (.bool r) ∧ Below w.heap.size w w':=by
 have hu31:=Try.underlying25
 have hsm : smT l0_0 = true:=by
  apply Classical.byContradiction
  intro hn
  rw [spec_validTree.f,if_neg hn] at h
  cases h
 rw [spec_validTree.f,if_pos hsm] at h
 have HRr:=a0_ (Option.some.inj h)
 have HSM:=a0_ hsm
 have HR:=a0_ hr0_0
 have hmax : l0_0.length ≤ 9223372036854775807:=hr0_0.2.1
 clear h hsm hr0_0
 go_enter Try.func107,Try.ntmps107
 go_wp2
 go_loopg [3] l0_0.length (fun gg s3 wr=>∃ kk : Nat,kk ≤ l0_0.length ∧ l0_0.length - kk ≤ gg ∧ s3 = .int .i64 kk ∧ Aside0 (Below w.heap.size w wr) ∧ Aside0 (wr.heap[w.heap.size]? = some (.cells #[.slice A0_0 l0_0.length c0_0] 25 (0,0))) ∧ Aside0 (∀ j,j < kk → okCls l0_0 j (l0_0.getD j z125) = true))
 case atStart=>exact ⟨0,Nat.zero_le _,by omega,rfl,⟨below1 w _⟩,⟨heap_new1 w _⟩,⟨fun j hj=>absurd hj (Nat.not_lt_zero _)⟩⟩
 case round =>
  obtain ⟨kk,hkk,hg,rfl,BW,BK,HA⟩:=hrel
  have hcz : wr.cell? ⟨w.heap.size,0,none⟩ = some (.slice A0_0 l0_0.length c0_0):=(blk_cell BK.out 0).trans rfl
  by_cases hlt : kk < l0_0.length
  ·have hltz : (kk : Int) < (l0_0.length : Int):=by omega
   obtain ⟨ad,ea,hx0,hx1⟩:=at_T125 HR.out (kk : Int) (by omega) (by omega)
   cases ea
   have hrd : rd_T125 l0_0 (kk : Int) = l0_0[kk]:=by simp [rd_T125,hlt]
   rw [hrd] at hx0 hx1
   rw [Int.toNat_natCast] at hx0 hx1
   replace hx0:=(BW.out.cell (World.block_lt_of_cell? w _ hx0)).trans hx0
   replace hx1:=(BW.out.cell (World.block_lt_of_cell? w _ hx1)).trans hx1
   clear hrd
   generalize hy : l0_0[kk] = y at hx0 hx1
   have B:=a0_ hy
   clear hy
   go_upto_region 5 with (fail)
   have hW1:=a0_ (below_alloc BW.out (.cells #[.string y.f0,.int .i64 y.f1] 125))
   have hW2:=a0_ (blk_alloc BK.out (.cells #[.string y.f0,.int .i64 y.f1] 125))
   have hW3:=(blk_cell hW2.out 0).trans rfl
   have hW4:=(blk_cell (heap_new1 wr (.cells #[.string y.f0,.int .i64 y.f1] 125)) 0).trans rfl
   have hW5:=(blk_cell (heap_new1 wr (.cells #[.string y.f0,.int .i64 y.f1] 125)) 1).trans rfl
   clear hcz hx0 hx1 BW BK
   generalize wr.alloc (.cells #[.string y.f0,.int .i64 y.f1] 125) = W1 at hW1 hW2 hW3 hW4 hW5 ⊢
   generalize wr.heap.size = gb at hW4 hW5 ⊢
   have hy1 : y.f0.size ≤ 9223372036854775806:=by rw [← B.out];exact smT_at HSM.out kk hlt
   have A1:=a0_ (spec_validName_ev y.f0 (by omega))
   have hlen : (l0_0.take kk).length = kk:=by simp;omega
   have hcn0:=fun (W : World) (hW : Below w.heap.size w W)=>spec_classNamed.calls _ (some ad) c0_0 (l0_0.take kk) y.f0 _ W (by
    have h1:=Kd.C_take (Kd.C_below HR.out hW) (show kk ≤ l0_0.length by omega)
    exact h1) (by rw [hlen];omega) (spec_classNamed_ev (l0_0.take kk) y.f0 (by rw [hlen];omega))
   rw [hlen] at hcn0
   have hahead:=named_ahead l0_0 kk hlt
   rw [B.out] at hahead
   have hok : okCls l0_0 kk (l0_0.getD kk z125) = okCls l0_0 kk y:=by
    rw [← B.out];simp [List.getD,hlt]
   have hdef : okCls l0_0 kk y = (okName y.f0 && (decide (named l0_0 y.f0 = (kk : Int)) && (if kk = 0 then decide (y.f1 = -1) else decide (0 ≤ y.f1) && decide (y.f1 ≤ (kk : Int) - 1)))):=rfl
   generalize hnn : named (l0_0.take kk) y.f0 = nn at hcn0 hahead
   have HCN:=a0_ hcn0
   have HAH:=a0_ hahead
   have HOK:=a0_ hok
   have HDF:=a0_ hdef
   clear hcn0 hahead hok hdef hnn hlen hy1
   have hcut : ∀ W : World,(Instr.slice 23 (.slice (some ad) l0_0.length c0_0) none (some (.int .i64 (kk : Int))) none).run Try.prog W = .ok (.slice (some ad) kk c0_0) W:=by
    obtain ⟨i0,hi0,_,hsz,_⟩:=info_parts info125
    have h1:=cut_to (P:=Try.prog) 23 125 .i64 Try.underlying23 hi0 (some ad) l0_0.length c0_0 (kk : Int) (by omega) (by omega) hc0_0
    rw [Int.toNat_natCast] at h1
    exact h1
   go_cut [51] (fun v51 wc=>v51 = .bool (!okCls l0_0 kk y) ∧ Aside0 (Below w.heap.size w wc) ∧ Aside0 (wc.heap[w.heap.size]? = some (.cells #[.slice (some ad) l0_0.length c0_0] 25 (0,0))))
   case first =>
    have hw1 : IntKind.i64.wrap ((kk : Int) - 1) = (kk : Int) - 1:=by rw [IntKind.wrap_i64];omega
    have A2:=a0_ (show spec_inRange.f y.f1 0 ((kk : Int) - 1) = some (decide (0 ≤ y.f1) && decide (y.f1 ≤ (kk : Int) - 1)) by
     unfold spec_inRange.f
     by_cases h0 : 0 ≤ y.f1
     ·rw [if_pos h0];simp [h0]
     ·rw [if_neg h0];simp [h0])
    cases hb1 : okName y.f0 with
    | false =>
     rw [hb1] at A1
     have BV : okCls l0_0 kk y = false:=by rw [HDF.out,hb1];rfl
     clear HDF HAH HOK
     go_quiet (first
     | (go_at_call 149;(with_reducible refine (spec_validName.calls _ y.f0 _ _ A1.out).mono ?_);rintro e w' ⟨rfl,⟨nd,rfl⟩⟩;exact ⟨rfl,_,World.drewN_drewN _ _ _⟩)
     | (go_at_call 135;(with_reducible refine (HCN.out _ (pw_below_drewN hW1.out _)).mono ?_);rintro e w' ⟨rfl,⟨nd,rfl⟩⟩;exact ⟨rfl,_,World.drewN_drewN _ _ _⟩)
     | (go_at_call 70;(with_reducible refine (spec_inRange.calls y.f1 0 ((kk : Int) - 1) _ _ A2.out).mono ?_);rintro e w' ⟨rfl,⟨nd,rfl⟩⟩;exact ⟨rfl,_,World.drewN_drewN _ _ _⟩))
     go_wp2
     go_meet
     case rel=>exact ⟨by (rw [BV]);first | rfl | (simp [*];done),⟨pw_below_drewN hW1.out _⟩,⟨blk_drewN hW2.out _⟩⟩
    | true =>
     rw [hb1] at A1
     by_cases hb2 : nn ≥ 0
     ·have BV : okCls l0_0 kk y = false:=by rw [HDF.out,hb1,decide_eq_false (HAH.out.1 hb2)];rfl
      have d2 : decide (0 ≤ nn) = true:=decide_eq_true hb2
      clear HDF HAH HOK hb2
      go_quiet (first
     | (go_at_call 149;(with_reducible refine (spec_validName.calls _ y.f0 _ _ A1.out).mono ?_);rintro e w' ⟨rfl,⟨nd,rfl⟩⟩;exact ⟨rfl,_,World.drewN_drewN _ _ _⟩)
     | (go_at_call 135;(with_reducible refine (HCN.out _ (pw_below_drewN hW1.out _)).mono ?_);rintro e w' ⟨rfl,⟨nd,rfl⟩⟩;exact ⟨rfl,_,World.drewN_drewN _ _ _⟩)
     | (go_at_call 70;(with_reducible refine (spec_inRange.calls y.f1 0 ((kk : Int) - 1) _ _ A2.out).mono ?_);rintro e w' ⟨rfl,⟨nd,rfl⟩⟩;exact ⟨rfl,_,World.drewN_drewN _ _ _⟩))
      go_wp2
      go_meet
      case rel=>exact ⟨by (rw [BV]);first | rfl | (simp [*];done),⟨pw_below_drewN hW1.out _⟩,⟨blk_drewN hW2.out _⟩⟩
     ·have hnm : named l0_0 y.f0 = (kk : Int):=Classical.byContradiction fun hn=>hb2 (HAH.out.2 hn)
      have d2 : decide (0 ≤ nn) = false:=decide_eq_false hb2
      have BV0 : okCls l0_0 kk y = (if kk = 0 then decide (y.f1 = -1) else decide (0 ≤ y.f1) && decide (y.f1 ≤ (kk : Int) - 1)):=by rw [HDF.out,hb1,decide_eq_true hnm];rfl
      clear HDF HAH HOK hb2 hnm
      by_cases hk0 : kk = 0
      ·have BV : okCls l0_0 kk y = decide (y.f1 = -1):=by rw [BV0,if_pos hk0]
       have e0 : ((kk : Int) == 0) = true:=beq_iff_eq.2 (by omega)
       have e1 : decide (0 < (kk : Int)) = false:=decide_eq_false (by omega)
       have e1n : decide (0 < kk) = false:=decide_eq_false (by omega)
       clear BV0
       by_cases hp : y.f1 = -1
       ·have e2 : (y.f1 != -1) = false:=by rw [hp];rfl
        have e3 : (y.f1 == -1) = true:=by rw [hp];rfl
        rw [decide_eq_true hp] at BV
        clear hp hk0
        go_quiet (first
     | (go_at_call 149;(with_reducible refine (spec_validName.calls _ y.f0 _ _ A1.out).mono ?_);rintro e w' ⟨rfl,⟨nd,rfl⟩⟩;exact ⟨rfl,_,World.drewN_drewN _ _ _⟩)
     | (go_at_call 135;(with_reducible refine (HCN.out _ (pw_below_drewN hW1.out _)).mono ?_);rintro e w' ⟨rfl,⟨nd,rfl⟩⟩;exact ⟨rfl,_,World.drewN_drewN _ _ _⟩)
     | (go_at_call 70;(with_reducible refine (spec_inRange.calls y.f1 0 ((kk : Int) - 1) _ _ A2.out).mono ?_);rintro e w' ⟨rfl,⟨nd,rfl⟩⟩;exact ⟨rfl,_,World.drewN_drewN _ _ _⟩))
        go_wp2
        go_meet
        case rel=>exact ⟨by (rw [BV]);first | rfl | (simp [*];done),⟨pw_below_drewN hW1.out _⟩,⟨blk_drewN hW2.out _⟩⟩
       ·have e2 : (y.f1 != -1) = true:=bne_iff_ne.2 hp
        have e3 : (y.f1 == -1) = false:=beq_eq_false_iff_ne.2 hp
        rw [decide_eq_false hp] at BV
        clear hp hk0
        go_quiet (first
     | (go_at_call 149;(with_reducible refine (spec_validName.calls _ y.f0 _ _ A1.out).mono ?_);rintro e w' ⟨rfl,⟨nd,rfl⟩⟩;exact ⟨rfl,_,World.drewN_drewN _ _ _⟩)
     | (go_at_call 135;(with_reducible refine (HCN.out _ (pw_below_drewN hW1.out _)).mono ?_);rintro e w' ⟨rfl,⟨nd,rfl⟩⟩;exact ⟨rfl,_,World.drewN_drewN _ _ _⟩)
     | (go_at_call 70;(with_reducible refine (spec_inRange.calls y.f1 0 ((kk : Int) - 1) _ _ A2.out).mono ?_);rintro e w' ⟨rfl,⟨nd,rfl⟩⟩;exact ⟨rfl,_,World.drewN_drewN _ _ _⟩))
        go_wp2
        go_meet
        case rel=>exact ⟨by (rw [BV]);first | rfl | (simp [*];done),⟨pw_below_drewN hW1.out _⟩,⟨blk_drewN hW2.out _⟩⟩
      ·have BV : okCls l0_0 kk y = (decide (0 ≤ y.f1) && decide (y.f1 ≤ (kk : Int) - 1)):=by rw [BV0,if_neg hk0]
       have e0 : ((kk : Int) == 0) = false:=beq_eq_false_iff_ne.2 (by omega)
       have e1 : decide (0 < (kk : Int)) = true:=decide_eq_true (by omega)
       have e1n : decide (0 < kk) = true:=decide_eq_true (by omega)
       rw [← BV] at A2
       clear BV BV0 hk0
       cases BV : okCls l0_0 kk y with
       | false =>
        rw [BV] at A2
        go_quiet (first
     | (go_at_call 149;(with_reducible refine (spec_validName.calls _ y.f0 _ _ A1.out).mono ?_);rintro e w' ⟨rfl,⟨nd,rfl⟩⟩;exact ⟨rfl,_,World.drewN_drewN _ _ _⟩)
     | (go_at_call 135;(with_reducible refine (HCN.out _ (pw_below_drewN hW1.out _)).mono ?_);rintro e w' ⟨rfl,⟨nd,rfl⟩⟩;exact ⟨rfl,_,World.drewN_drewN _ _ _⟩)
     | (go_at_call 70;(with_reducible refine (spec_inRange.calls y.f1 0 ((kk : Int) - 1) _ _ A2.out).mono ?_);rintro e w' ⟨rfl,⟨nd,rfl⟩⟩;exact ⟨rfl,_,World.drewN_drewN _ _ _⟩))
        go_wp2
        go_meet
        case rel=>exact ⟨by (rw [BV]);first | rfl | (simp [*];done),⟨pw_below_drewN hW1.out _⟩,⟨blk_drewN hW2.out _⟩⟩
       | true =>
        rw [BV] at A2
        go_quiet (first
     | (go_at_call 149;(with_reducible refine (spec_validName.calls _ y.f0 _ _ A1.out).mono ?_);rintro e w' ⟨rfl,⟨nd,rfl⟩⟩;exact ⟨rfl,_,World.drewN_drewN _ _ _⟩)
     | (go_at_call 135;(with_reducible refine (HCN.out _ (pw_below_drewN hW1.out _)).mono ?_);rintro e w' ⟨rfl,⟨nd,rfl⟩⟩;exact ⟨rfl,_,World.drewN_drewN _ _ _⟩)
     | (go_at_call 70;(with_reducible refine (spec_inRange.calls y.f1 0 ((kk : Int) - 1) _ _ A2.out).mono ?_);rintro e w' ⟨rfl,⟨nd,rfl⟩⟩;exact ⟨rfl,_,World.drewN_drewN _ _ _⟩))
        go_wp2
        go_meet
        case rel=>exact ⟨by (rw [BV]);first | rfl | (simp [*];done),⟨pw_below_drewN hW1.out _⟩,⟨blk_drewN hW2.out _⟩⟩
   case rest =>
    obtain ⟨rfl,hW,hK⟩:=hcut
    have hb:=HOK.out
    cases BV : okCls l0_0 kk y with
    | false =>
     go_wp2
     go_ret
     refine ⟨?_,hW.out⟩
     rw [← HRr.out]
     have : vT l0_0 = false:=by
      cases hv : vT l0_0 with
      | false=>rfl
      | true=>have:=vT_at hv kk hlt;rw [HOK.out,BV] at this;cases this
     rw [this];rfl
    | true =>
     go_wp2
     go_roundg (l0_0.length - (kk + 1))
     case measure=>omega
     case rel =>
      refine ⟨kk + 1,by omega,by omega,by go_num,⟨hW.out⟩,⟨hK.out⟩,⟨fun j hj=>?_⟩⟩
      by_cases e : j = kk
      ·subst e;rw [HOK.out,BV]
      ·exact HA.out j (by omega)
  ·have hltz : ¬ (kk : Int) < (l0_0.length : Int):=by omega
   have : kk = l0_0.length:=by omega
   subst this
   have A3:=a0_ (show spec_inRange.f (l0_0.length : Int) 1 8 = some (vT l0_0) by
    have hall : (List.range l0_0.length).all (fun i=>okCls l0_0 i (l0_0.getD i z125)) = true:=by
     rw [List.all_eq_true];intro i hi;exact HA.out i (by simpa using hi)
    unfold spec_inRange.f vT
    rw [hall]
    by_cases h1 : (1 : Int) ≤ l0_0.length
    ·rw [if_pos h1]
     have h1' : 1 ≤ l0_0.length:=by omega
     by_cases h8 : l0_0.length ≤ 8
     ·simp [h1',h8];omega
     ·simp [h8];omega
    ·rw [if_neg h1]
     have h1' : ¬ 1 ≤ l0_0.length:=by omega
     simp [h1'])
   rw [HRr.out] at A3
   go_wp2_with (go_at_call 70;(with_reducible refine (spec_inRange.calls (l0_0.length : Int) 1 8 _ _ A3.out).mono ?_);rintro e w' ⟨rfl,⟨nd,rfl⟩⟩)
   go_ret
   exact ⟨rfl,pw_below_drewN BW.out _⟩
end Go.Proofs.Ytacgehaipacehaa.P
namespace Go.Proofs.Ytacgehaipacehaa.P
open Go.RowKit Go.Proofs.YtacgehaipacehaaW.PrintWords Go.Proofs.YtacgehaipacehaaW.PrintLast Go.Proofs.YtacgehaipacehaaW.PrintMore
attribute [local go_sem] max2_int min2_int max_two min_two max_three min_three max_four min_four
set_option linter.unusedVariables false
set_option linter.unusedSimpArgs false
theorem sz1_treeText (b : UInt8) : (⟨#[b]⟩ : ByteArray).size = 1:=rfl
def spec_treeText.l0 : Nat → ByteArray → Int → List (S125) → Option (ByteArray)
 | 0,_,_,_=>none
 | k + 1,x3,x4,x2000=>if x4 < (x2000.length : Int) then (if 0 ≤ x4 then (if x3.size + ((rd_T125 x2000 x4).f0).size ≤ 9223372036854775807 then (if x4 > 0 then (if (x3 ++ ((rd_T125 x2000 x4).f0)).size + 1 ≤ 9223372036854775807 then (if 0 ≤ ((rd_T125 x2000 x4).f1) then (if ((rd_T125 x2000 x4).f1) < (x2000.length : Int) then (if ((x3 ++ ((rd_T125 x2000 x4).f0)) ++ (⟨#[32]⟩ : ByteArray)).size + ((rd_T125 x2000 ((rd_T125 x2000 x4).f1)).f0).size ≤ 9223372036854775807 then (if (((x3 ++ ((rd_T125 x2000 x4).f0)) ++ (⟨#[32]⟩ : ByteArray)) ++ ((rd_T125 x2000 ((rd_T125 x2000 x4).f1)).f0)).size + 1 ≤ 9223372036854775807 then (spec_treeText.l0 k ((((x3 ++ ((rd_T125 x2000 x4).f0)) ++ (⟨#[32]⟩ : ByteArray)) ++ ((rd_T125 x2000 ((rd_T125 x2000 x4).f1)).f0)) ++ (⟨#[10]⟩ : ByteArray)) (wrap64 (x4 + 1)) x2000) else (none)) else (none)) else (none)) else (none)) else (none)) else (if (x3 ++ ((rd_T125 x2000 x4).f0)).size + 1 ≤ 9223372036854775807 then (spec_treeText.l0 k ((x3 ++ ((rd_T125 x2000 x4).f0)) ++ (⟨#[10]⟩ : ByteArray)) (wrap64 (x4 + 1)) x2000) else (none))) else (none)) else (none)) else (some x3)
def spec_treeText.f (k : Nat) (l0_0 : List (S125)) : Option (ByteArray):=spec_treeText.l0 k (⟨#[]⟩ : ByteArray) 0 l0_0
theorem spec_treeText.mono_l : ∀ k,(∀ y0 y1 y2,LeO (spec_treeText.l0 k y0 y1 y2) (spec_treeText.l0 (k + 1) y0 y1 y2))
 | 0=>fun _ _ _ r h=>by simp [spec_treeText.l0] at h
 | k + 1=>by
  have ih0:=spec_treeText.mono_l k
  ·intro y0 y1 y2
   unfold spec_treeText.l0
   repeat' first
   | (with_reducible exact ih0 _ _ _)
   | (with_reducible exact LeO.refl _)
   | (with_reducible exact LeO.none _)
   | (with_reducible refine LeO.ite ?_ ?_)
   | (with_reducible refine LeO.bind ?_ (fun _=>?_))
   | exact ih0 _ _ _
   | exact LeO.none _
   | refine LeO.ite ?_ ?_
   | refine LeO.bind ?_ (fun _=>?_)
theorem spec_treeText.mono : ∀ a0 k,LeO (spec_treeText.f k a0) (spec_treeText.f (k + 1) a0):=by
 intro a0 k
 have ih0:=spec_treeText.mono_l k
 unfold spec_treeText.f
 repeat' first
   | (with_reducible exact ih0 _ _ _)
   | (with_reducible exact LeO.refl _)
   | (with_reducible exact LeO.none _)
   | (with_reducible refine LeO.ite ?_ ?_)
   | (with_reducible refine LeO.bind ?_ (fun _=>?_))
   | exact ih0 _ _ _
   | exact LeO.none _
   | refine LeO.ite ?_ ?_
   | refine LeO.bind ?_ (fun _=>?_)
set_option maxHeartbeats 8000000 in
set_option maxRecDepth 100000 in
theorem spec_treeText.calls (k : Nat) (A0_0 : Option Addr) (c0_0 : Nat) (l0_0 : List (S125)) (r : ByteArray) (w : World) (hr0_0 : Kd.C k125 w A0_0 l0_0.length l0_0) (hc0_0 : l0_0.length ≤ c0_0) (h : spec_treeText.f k l0_0 = some r) :
  Calls Try.prog 108 #[.agg #[.slice A0_0 l0_0.length c0_0]] w fun e w'=>e = .returned (.string r) ∧ Below w.heap.size w w':=by
 have hu25:=Try.underlying25
 have HR0_0:=a0_ hr0_0
 have HC0_0:=a0_ hc0_0
 clear hr0_0 hc0_0
 have HB:=a0_ (Below.refl w.heap.size w)
 have H : (spec_treeText.l0 k (⟨#[]⟩ : ByteArray) 0 l0_0) = some r:=h
 clear h
 have H':=a0_ H
 clear H
 go_enter Try.func108,Try.ntmps108
 go_wp2_with (first | ((with_reducible refine gate_dst (N:=1) rfl ?_);refine box_event ?hg (N:=1) ?hd (cs:=#[.slice A0_0 l0_0.length c0_0]) (t:=25) ?hr ?_;(case hd=>rfl);(case hg=>rfl);(case hr=>first | (go_simp;done) | (go_simp;rfl));intro gb1 hg w2 hbox hb;have BK1:=a0_ (hbox);have GW1:=a0_ ((by rw [hg];exact (below_size hbw_) : w.heap.size ≤ gb1));have GE1:=a0_ ((by rw [hg];exact (below_size hbw_) : w.heap.size ≤ gb1));replace HB:=a0_ (below_step hbw_ hb);clear hb hbox hg))
 repeat (go_quiet (first | ((with_reducible refine gate_dst (N:=1) rfl ?_);refine box_event ?hg (N:=1) ?hd (cs:=#[.slice A0_0 l0_0.length c0_0]) (t:=25) ?hr ?_;(case hd=>rfl);(case hg=>rfl);(case hr=>first | (go_simp;done) | (go_simp;rfl));intro gb1 hg w2 hbox hb;have BK1:=a0_ (hbox);have GW1:=a0_ ((by rw [hg];exact (below_size hbw_) : w.heap.size ≤ gb1));have GE1:=a0_ ((by rw [hg];exact (below_size hbw_) : w.heap.size ≤ gb1));replace HB:=a0_ (below_step hbw_ hb);clear hb hbox hg));try go_wp2_with (first | ((with_reducible refine gate_dst (N:=1) rfl ?_);refine box_event ?hg (N:=1) ?hd (cs:=#[.slice A0_0 l0_0.length c0_0]) (t:=25) ?hr ?_;(case hd=>rfl);(case hg=>rfl);(case hr=>first | (go_simp;done) | (go_simp;rfl));intro gb1 hg w2 hbox hb;have BK1:=a0_ (hbox);have GW1:=a0_ ((by rw [hg];exact (below_size hbw_) : w.heap.size ≤ gb1));have GE1:=a0_ ((by rw [hg];exact (below_size hbw_) : w.heap.size ≤ gb1));replace HB:=a0_ (below_step hbw_ hb);clear hb hbox hg)))
 go_loopg [3,4] k (fun kq v3 v4 w'=>∃ (x3_1 : ByteArray) (x4_1 : Int),v3 = .string x3_1 ∧ v4 = .int .i64 x4_1 ∧ Aside0 (spec_treeText.l0 kq x3_1 x4_1 l0_0 = some r) ∧ Aside0 (kq ≤ k) ∧ Aside0 (w'.heap[gb1]? = some (.cells #[(.slice A0_0 l0_0.length c0_0)] 25 (0,0))) ∧ Aside0 (Below w.heap.size w w'))
 case atStart=>exact ⟨((⟨#[]⟩ : ByteArray)),(0),(by first | rfl | (simp;done) | (simp [*];done)),(by first | rfl | (simp;done) | (simp [*];done)),H',⟨Nat.le_refl _⟩,⟨by (with_reducible repeat (first | refine blk_drewN ?_ _ | refine blk_drew ?_ | refine blk_alloc ?_ _));exact BK1.out⟩,⟨hbw_⟩⟩
 case round =>
  clear H'
  try clear c1
  try clear p2
  obtain ⟨x3_1,x4_1,rfl,rfl,HA,HK1,BK1,HB⟩:=hrel
  cases gk with
  | zero=>exact absurd HA.out (by simp [spec_treeText.l0])
  | succ k1 =>
   have H:=HA.out
   clear HA
   simp only [spec_treeText.l0] at H
   by_cases c3 : x4_1 < (l0_0.length : Int)
   ·rw [if_pos c3] at H
    have c3b0 : decide (x4_1 < (l0_0.length : Int)) = true:=decide_eq_true c3
    clear c3
    by_cases c4 : 0 ≤ x4_1
    ·rw [if_pos c4] at H
     have c4b0 : decide (0 ≤ x4_1) = true:=decide_eq_true c4
     clear c4
     by_cases c5 : x3_1.size + ((rd_T125 l0_0 x4_1).f0).size ≤ 9223372036854775807
     ·rw [if_pos c5] at H
      have c5b0:=eq_true c5
      have c5b1 : decide (x3_1.size + ((rd_T125 l0_0 x4_1).f0).size ≤ 9223372036854775807) = true:=decide_eq_true c5
      try have c5b2 : (9223372036854775807 < x3_1.size + ((rd_T125 l0_0 x4_1).f0).size) = False:=eq_false (Nat.not_lt.2 c5)
      try (have c5b3:=c5b2;simp only [ByteArray.size_append,sz1_treeText] at c5b3)
      by_cases c6 : x4_1 > 0
      ·rw [if_pos c6] at H
       have c6b0 : decide (0 < x4_1) = true:=decide_eq_true c6
       clear c6
       by_cases c7 : (x3_1 ++ ((rd_T125 l0_0 x4_1).f0)).size + 1 ≤ 9223372036854775807
       ·rw [if_pos c7] at H
        have c7b0:=eq_true c7
        have c7b1 : decide ((x3_1 ++ ((rd_T125 l0_0 x4_1).f0)).size + 1 ≤ 9223372036854775807) = true:=decide_eq_true c7
        try have c7b2 : (9223372036854775807 < (x3_1 ++ ((rd_T125 l0_0 x4_1).f0)).size + 1) = False:=eq_false (Nat.not_lt.2 c7)
        try (have c7b3:=c7b2;simp only [ByteArray.size_append,sz1_treeText] at c7b3)
        by_cases c8 : 0 ≤ ((rd_T125 l0_0 x4_1).f1)
        ·rw [if_pos c8] at H
         have c8b0 : decide (0 ≤ ((rd_T125 l0_0 x4_1).f1)) = true:=decide_eq_true c8
         clear c8
         by_cases c9 : ((rd_T125 l0_0 x4_1).f1) < (l0_0.length : Int)
         ·rw [if_pos c9] at H
          have c9b0 : decide (((rd_T125 l0_0 x4_1).f1) < (l0_0.length : Int)) = true:=decide_eq_true c9
          clear c9
          by_cases c10 : ((x3_1 ++ ((rd_T125 l0_0 x4_1).f0)) ++ (⟨#[32]⟩ : ByteArray)).size + ((rd_T125 l0_0 ((rd_T125 l0_0 x4_1).f1)).f0).size ≤ 9223372036854775807
          ·rw [if_pos c10] at H
           have c10b0:=eq_true c10
           have c10b1 : decide (((x3_1 ++ ((rd_T125 l0_0 x4_1).f0)) ++ (⟨#[32]⟩ : ByteArray)).size + ((rd_T125 l0_0 ((rd_T125 l0_0 x4_1).f1)).f0).size ≤ 9223372036854775807) = true:=decide_eq_true c10
           try have c10b2 : (9223372036854775807 < ((x3_1 ++ ((rd_T125 l0_0 x4_1).f0)) ++ (⟨#[32]⟩ : ByteArray)).size + ((rd_T125 l0_0 ((rd_T125 l0_0 x4_1).f1)).f0).size) = False:=eq_false (Nat.not_lt.2 c10)
           try (have c10b3:=c10b2;simp only [ByteArray.size_append,sz1_treeText] at c10b3)
           by_cases c11 : (((x3_1 ++ ((rd_T125 l0_0 x4_1).f0)) ++ (⟨#[32]⟩ : ByteArray)) ++ ((rd_T125 l0_0 ((rd_T125 l0_0 x4_1).f1)).f0)).size + 1 ≤ 9223372036854775807
           ·rw [if_pos c11] at H
            have c11b0:=eq_true c11
            have c11b1 : decide ((((x3_1 ++ ((rd_T125 l0_0 x4_1).f0)) ++ (⟨#[32]⟩ : ByteArray)) ++ ((rd_T125 l0_0 ((rd_T125 l0_0 x4_1).f1)).f0)).size + 1 ≤ 9223372036854775807) = true:=decide_eq_true c11
            try have c11b2 : (9223372036854775807 < (((x3_1 ++ ((rd_T125 l0_0 x4_1).f0)) ++ (⟨#[32]⟩ : ByteArray)) ++ ((rd_T125 l0_0 ((rd_T125 l0_0 x4_1).f1)).f0)).size + 1) = False:=eq_false (Nat.not_lt.2 c11)
            try (have c11b3:=c11b2;simp only [ByteArray.size_append,sz1_treeText] at c11b3)
            have H':=a0_ H
            clear H
            have hcz12_0 : wr.cell? ⟨gb1,0,none⟩ = some (.slice A0_0 l0_0.length c0_0):=(blk_cell BK1.out 0).trans rfl
            have hfz12_0:=blk_frozen BK1.out 0
            have p2 : 0 ≤ (x4_1 : Int):=of_decide_eq_true (by first | (with_reducible assumption) | assumption)
            have q2 : x4_1 < (l0_0.length : Int):=of_decide_eq_true (by first | (with_reducible assumption) | assumption)
            obtain ⟨ad2,e2,hx2_0,hx2_1⟩:=at_T125 HR0_0.out x4_1 p2 q2
            cases e2
            replace hx2_0:=(HB.out.cell (World.block_lt_of_cell? w _ hx2_0)).trans hx2_0
            replace hx2_1:=(HB.out.cell (World.block_lt_of_cell? w _ hx2_1)).trans hx2_1
            replace p2:=eq_true p2
            replace q2:=eq_true q2
            have p3 : 0 ≤ (x4_1 : Int):=of_decide_eq_true (by first | (with_reducible assumption) | assumption)
            have q3 : x4_1 < (l0_0.length : Int):=of_decide_eq_true (by first | (with_reducible assumption) | assumption)
            obtain ⟨ad3,e3,hx3_0,hx3_1⟩:=at_T125 HR0_0.out x4_1 p3 q3
            obtain rfl : ad2 = ad3:=(by injection e3)
            replace hx3_0:=(HB.out.cell (World.block_lt_of_cell? w _ hx3_0)).trans hx3_0
            replace hx3_1:=(HB.out.cell (World.block_lt_of_cell? w _ hx3_1)).trans hx3_1
            replace p3:=eq_true p3
            replace q3:=eq_true q3
            have p4 : 0 ≤ (((rd_T125 l0_0 x4_1).f1) : Int):=of_decide_eq_true (by first | (with_reducible assumption) | assumption)
            have q4 : ((rd_T125 l0_0 x4_1).f1) < (l0_0.length : Int):=of_decide_eq_true (by first | (with_reducible assumption) | assumption)
            obtain ⟨ad4,e4,hx4_0,hx4_1⟩:=at_T125 HR0_0.out ((rd_T125 l0_0 x4_1).f1) p4 q4
            obtain rfl : ad2 = ad4:=(by injection e4)
            replace hx4_0:=(HB.out.cell (World.block_lt_of_cell? w _ hx4_0)).trans hx4_0
            replace hx4_1:=(HB.out.cell (World.block_lt_of_cell? w _ hx4_1)).trans hx4_1
            replace p4:=eq_true p4
            replace q4:=eq_true q4
            go_wp2
            repeat (go_quiet (fail);try go_wp2)
            go_roundg k1
            case measure=>have:=HK1.out;omega
            case rel=>exact ⟨((((x3_1 ++ ((rd_T125 l0_0 x4_1).f0)) ++ (⟨#[32]⟩ : ByteArray)) ++ ((rd_T125 l0_0 ((rd_T125 l0_0 x4_1).f1)).f0)) ++ (⟨#[10]⟩ : ByteArray)),(wrap64 (x4_1 + 1)),(by first | rfl | (simp;done) | (simp [*];done)),(by first | rfl | (simp;done) | (simp [*];done)),H',⟨by have:=HK1.out;omega⟩,⟨by (with_reducible repeat (first | refine blk_drewN ?_ _ | refine blk_drew ?_ | refine blk_alloc ?_ _));exact BK1.out⟩,⟨hbw_⟩⟩
           ·rw [if_neg c11] at H
            exact absurd H (by simp)
          ·rw [if_neg c10] at H
           exact absurd H (by simp)
         ·rw [if_neg c9] at H
          exact absurd H (by simp)
        ·rw [if_neg c8] at H
         exact absurd H (by simp)
       ·rw [if_neg c7] at H
        exact absurd H (by simp)
      ·rw [if_neg c6] at H
       have c6b0 : decide (0 < x4_1) = false:=decide_eq_false c6
       clear c6
       by_cases c13 : (x3_1 ++ ((rd_T125 l0_0 x4_1).f0)).size + 1 ≤ 9223372036854775807
       ·rw [if_pos c13] at H
        have c13b0:=eq_true c13
        have c13b1 : decide ((x3_1 ++ ((rd_T125 l0_0 x4_1).f0)).size + 1 ≤ 9223372036854775807) = true:=decide_eq_true c13
        try have c13b2 : (9223372036854775807 < (x3_1 ++ ((rd_T125 l0_0 x4_1).f0)).size + 1) = False:=eq_false (Nat.not_lt.2 c13)
        try (have c13b3:=c13b2;simp only [ByteArray.size_append,sz1_treeText] at c13b3)
        have H':=a0_ H
        clear H
        have hcz14_0 : wr.cell? ⟨gb1,0,none⟩ = some (.slice A0_0 l0_0.length c0_0):=(blk_cell BK1.out 0).trans rfl
        have hfz14_0:=blk_frozen BK1.out 0
        have p2 : 0 ≤ (x4_1 : Int):=of_decide_eq_true (by first | (with_reducible assumption) | assumption)
        have q2 : x4_1 < (l0_0.length : Int):=of_decide_eq_true (by first | (with_reducible assumption) | assumption)
        obtain ⟨ad2,e2,hx2_0,hx2_1⟩:=at_T125 HR0_0.out x4_1 p2 q2
        cases e2
        replace hx2_0:=(HB.out.cell (World.block_lt_of_cell? w _ hx2_0)).trans hx2_0
        replace hx2_1:=(HB.out.cell (World.block_lt_of_cell? w _ hx2_1)).trans hx2_1
        replace p2:=eq_true p2
        replace q2:=eq_true q2
        go_wp2
        repeat (go_quiet (fail);try go_wp2)
        go_roundg k1
        case measure=>have:=HK1.out;omega
        case rel=>exact ⟨((x3_1 ++ ((rd_T125 l0_0 x4_1).f0)) ++ (⟨#[10]⟩ : ByteArray)),(wrap64 (x4_1 + 1)),(by first | rfl | (simp;done) | (simp [*];done)),(by first | rfl | (simp;done) | (simp [*];done)),H',⟨by have:=HK1.out;omega⟩,⟨by (with_reducible repeat (first | refine blk_drewN ?_ _ | refine blk_drew ?_ | refine blk_alloc ?_ _));exact BK1.out⟩,⟨hbw_⟩⟩
       ·rw [if_neg c13] at H
        exact absurd H (by simp)
     ·rw [if_neg c5] at H
      exact absurd H (by simp)
    ·rw [if_neg c4] at H
     exact absurd H (by simp)
   ·rw [if_neg c3] at H
    have c3b0 : decide (x4_1 < (l0_0.length : Int)) = false:=decide_eq_false c3
    clear c3
    obtain rfl:=Option.some.inj H
    have hcz15_0 : wr.cell? ⟨gb1,0,none⟩ = some (.slice A0_0 l0_0.length c0_0):=(blk_cell BK1.out 0).trans rfl
    have hfz15_0:=blk_frozen BK1.out 0
    go_wp2
    repeat (go_quiet (fail);try go_wp2)
    go_ret
    exact ⟨by first | rfl | (simp [errW_none,errW_some] <;> rfl) | (simp [*,errW_none,errW_some] <;> rfl),hbw_⟩
theorem toB_app (a b : List UInt8) : toB a ++ toB b = toB (a ++ b):=by
 apply ofB_inj
 rw [ofB_toB]
 simp [ofB,toB]
def gTx (t : List Cls) : Prop:=t.length ≤ 8 ∧ (∀ x ∈ t,x.f0.size ≤ 7) ∧ ∀ j,j < t.length → (j = 0 → (t.getD j z125).f1 = -1) ∧ (0 < j → 0 ≤ (t.getD j z125).f1 ∧ (t.getD j z125).f1 < (j : Int))
theorem gTx_at {t : List Cls} (h : gTx t) (j : Nat) (hj : j < t.length) : (t.getD j z125).f0.size ≤ 7:=by
 refine h.2.1 _ ?_
 rw [List.getD_eq_getElem?_getD,List.getElem?_eq_getElem hj]
 exact List.getElem_mem hj
theorem gTx_of {t : List Cls} (h : vT t = true) : gTx t:=by
 refine ⟨(vT_len h).2,fun x hx=>?_,fun j hj=>vT_parent h j hj⟩
 obtain ⟨j,hj,rfl⟩:=List.getElem_of_mem hx
 have:=okName_len (vT_name h j hj).1
 have e : t.getD j z125 = t[j]:=by simp [List.getD,hj]
 rw [e] at this
 omega
theorem gTx_len {t : List Cls} (h : gTx t) : ∀ (j : Nat),j ≤ t.length → (linesL t (t.take j)).length ≤ 16 * j:=by
 intro j
 induction j with
 | zero=>intro _;simp [linesL]
 | succ j ih =>
  intro hj
  have h1:=ih (by omega)
  have h2:=gTx_at h j (by omega)
  have hp:=h.2.2 j (by omega)
  have h3 : (lineL t (t.getD j z125)).length ≤ 16:=by
   unfold lineL
   rw [List.length_append,List.length_append,ofB_len,List.length_singleton]
   split
   case isTrue h0 =>
    have h4:=gTx_at h (t.getD j z125).f1.toNat (by have:=hp.1;omega)
    rw [List.length_cons,ofB_len]
    omega
   case isFalse=>rw [List.length_nil];omega
  rw [← take_snoc j (by omega)]
  unfold linesL at h1 ⊢
  rw [List.flatMap_append,List.flatMap_singleton,List.length_append]
  omega
theorem gTx_size {t : List Cls} (h : gTx t) : (treeTx t).size ≤ 128:=by
 have h1:=gTx_len h t.length (Nat.le_refl _)
 have h2:=h.1
 rw [List.take_of_length_le (Nat.le_refl _)] at h1
 unfold treeTx
 rw [toB_size]
 omega
theorem spec_treeText_gev (t : List Cls) (hg : gTx t) : Ev (fun k=>spec_treeText.f k t) (treeTx t):=by
 have hl8:=hg.1
 have key : ∀ d j,j + d = t.length → Ev (fun k=>spec_treeText.l0 k (toB (linesL t (t.take j))) (j : Int) t) (treeTx t):=by
  intro d
  induction d with
  | zero =>
   intro j hj
   refine Ev.succ ?_
   simp only [spec_treeText.l0]
   rw [List.take_of_length_le (by omega)]
   exact Ev.neg (by omega) (Ev.const rfl)
  | succ d ih =>
   intro j hj
   have hlt : j < t.length:=by omega
   have hr : rd_T125 t (j : Int) = t.getD j z125:=by simp [rd_T125]
   have hn:=gTx_at hg j hlt
   have hp:=hg.2.2 j hlt
   have hll:=gTx_len hg j (by omega)
   have hst : linesL t (t.take (j + 1)) = linesL t (t.take j) ++ lineL t (t.getD j z125):=by
    rw [← take_snoc j hlt]
    unfold linesL
    rw [List.flatMap_append,List.flatMap_singleton]
   have hi:=ih (j + 1) (by omega)
   have hs1 : (toB (linesL t (t.take j))).size = (linesL t (t.take j)).length:=toB_size _
   refine Ev.succ ?_
   simp only [spec_treeText.l0,hr]
   rw [wrap_succ (i:=(j : Int)) (n:=t.length) (by omega) (by omega) (by omega)]
   rw [hst] at hi
   generalize hL : linesL t (t.take j) = L at *
   generalize hy : t.getD j z125 = y at *
   obtain ⟨y0,y1⟩:=y
   simp only at hn hp ⊢
   have s1 : (⟨#[32]⟩ : ByteArray).size = 1:=rfl
   have ey : y0 = toB (ofB y0):=(toB_ofB y0).symm
   have hys:=ofB_len y0
   refine Ev.pos (by omega) (Ev.pos (by omega) (Ev.pos (by omega) ?_))
   by_cases h0 : j = 0
   ·have h1:=hp.1 h0
    refine Ev.neg (by omega) (Ev.pos (by rw [ByteArray.size_append];omega) ?_)
    have e : (toB L ++ y0) ++ (⟨#[10]⟩ : ByteArray) = toB (L ++ lineL t ⟨y0,y1⟩):=by
     unfold lineL
     rw [if_neg (by simp only;omega)]
     conv=>lhs;rw [ey]
     rw [toB_app,show (⟨#[10]⟩ : ByteArray) = toB [10] from rfl,toB_app]
     simp
    rw [e]
    exact hi
   ·have h1:=hp.2 (by omega)
    have hn2:=gTx_at hg y1.toNat (by omega)
    have hr2 : rd_T125 t y1 = t.getD y1.toNat z125:=by simp [rd_T125]
    rw [hr2]
    refine Ev.pos (by omega) (Ev.pos (by rw [ByteArray.size_append];omega) (Ev.pos (by omega) (Ev.pos (by omega) (Ev.pos (by rw [ByteArray.size_append,ByteArray.size_append];omega) (Ev.pos (by rw [ByteArray.size_append,ByteArray.size_append,ByteArray.size_append];omega) ?_)))))
    have e : (((toB L ++ y0) ++ (⟨#[32]⟩ : ByteArray)) ++ (t.getD y1.toNat z125).f0) ++ (⟨#[10]⟩ : ByteArray) = toB (L ++ lineL t ⟨y0,y1⟩):=by
     unfold lineL
     rw [if_pos (by simp only;omega)]
     generalize (t.getD y1.toNat z125).f0 = p0
     have ep : p0 = toB (ofB p0):=(toB_ofB p0).symm
     conv=>lhs;rw [ey,ep]
     rw [toB_app,show (⟨#[32]⟩ : ByteArray) = toB [32] from rfl,toB_app,toB_app,show (⟨#[10]⟩ : ByteArray) = toB [10] from rfl,toB_app]
     simp
    rw [e]
    exact hi
 have:=key t.length 0 (by omega)
 unfold spec_treeText.f
 have e0 : (⟨#[]⟩ : ByteArray) = toB (linesL t (t.take 0)):=rfl
 rw [e0]
 exact this
theorem spec_treeText_ev (t : List Cls) (hv : vT t = true) : Ev (fun k=>spec_treeText.f k t) (treeTx t):=spec_treeText_gev t (gTx_of hv)
end Go.Proofs.Ytacgehaipacehaa.P
namespace Go.Proofs.Ytacgehaipacehaa.P
open Go.RowKit Go.Proofs.YtacgehaipacehaaW.PrintWords Go.Proofs.YtacgehaipacehaaW.PrintLast Go.Proofs.YtacgehaipacehaaW.PrintMore
attribute [local go_sem] max2_int min2_int max_two min_two max_three min_three max_four min_four
set_option linter.unusedVariables false
set_option linter.unusedSimpArgs false
def spec_splitAt.l0 : Nat → ByteArray → Int → List ByteArray → Int → Int → Option (List ByteArray)
 | 0,_,_,_,_,_=>none
 | k + 1,x0,x1,x5,x6,x7=>if x7 < (x0.size : Int) then (if 0 ≤ x7 then (if (bt x0 x7) = x1 then (if 0 ≤ x6 then (if x6 ≤ x7 then (if x7 ≤ (x0.size : Int) then (if x5.length < 8796093022208 then (spec_splitAt.l0 k x0 x1 (x5 ++ [x0.extract (x6 : Int).toNat (x7 : Int).toNat]) (wrap64 (x7 + 1)) (wrap64 (x7 + 1))) else (none)) else (none)) else (none)) else (none)) else (spec_splitAt.l0 k x0 x1 x5 x6 (wrap64 (x7 + 1)))) else (none)) else (if 0 ≤ x6 then (if x6 ≤ (x0.size : Int) then (if x5.length < 8796093022208 then (some (x5 ++ [x0.extract (x6 : Int).toNat x0.size])) else (none)) else (none)) else (none))
def spec_splitAt.f (k : Nat) (a0 : ByteArray) (a1 : Int) : Option (List ByteArray):=spec_splitAt.l0 k a0 a1 (([] : List ByteArray)) 0 0
theorem spec_splitAt.mono_l : ∀ k,(∀ y0 y1 y2 y3 y4,LeO (spec_splitAt.l0 k y0 y1 y2 y3 y4) (spec_splitAt.l0 (k + 1) y0 y1 y2 y3 y4))
 | 0=>fun _ _ _ _ _ r h=>by simp [spec_splitAt.l0] at h
 | k + 1=>by
  have ih0:=spec_splitAt.mono_l k
  ·intro y0 y1 y2 y3 y4
   unfold spec_splitAt.l0
   repeat' first
   | (with_reducible exact ih0 _ _ _ _ _)
   | (with_reducible exact LeO.refl _)
   | (with_reducible exact LeO.none _)
   | (with_reducible refine LeO.ite ?_ ?_)
   | (with_reducible refine LeO.bind ?_ (fun _=>?_))
   | exact ih0 _ _ _ _ _
   | exact LeO.none _
   | refine LeO.ite ?_ ?_
   | refine LeO.bind ?_ (fun _=>?_)
theorem spec_splitAt.mono : ∀ a0 a1 k,LeO (spec_splitAt.f k a0 a1) (spec_splitAt.f (k + 1) a0 a1):=by
 intro a0 a1 k
 have ih0:=spec_splitAt.mono_l k
 unfold spec_splitAt.f
 repeat' first
   | (with_reducible exact ih0 _ _ _ _ _)
   | (with_reducible exact LeO.refl _)
   | (with_reducible exact LeO.none _)
   | (with_reducible refine LeO.ite ?_ ?_)
   | (with_reducible refine LeO.bind ?_ (fun _=>?_))
   | exact ih0 _ _ _ _ _
   | exact LeO.none _
   | refine LeO.ite ?_ ?_
   | refine LeO.bind ?_ (fun _=>?_)
set_option maxHeartbeats 8000000 in
set_option maxRecDepth 100000 in
theorem spec_splitAt.calls (k : Nat) (a0 : ByteArray) (a1 : Int) (r : List ByteArray) (w : World) (h : spec_splitAt.f k a0 a1 = some r) :
  Calls Try.prog 134 #[.string a0,.int .u8 a1] w fun e w'=>∃ v0_ : Value,e = .returned (v0_) ∧ Kd.R Kd.string 9 w' w.heap.size (fun _=>True) v0_ r ∧ Below w.heap.size w w':=by
 have HB:=a0_ (Below.refl w.heap.size w)
 have H : (spec_splitAt.l0 k a0 a1 (([] : List ByteArray)) 0 0) = some r:=h
 clear h
 obtain ⟨y1,hy1⟩ : ∃ y_ : List ByteArray,y_ = (([] : List ByteArray)):=⟨_,rfl⟩
 replace H : (spec_splitAt.l0 k a0 a1 y1 0 0) = some r:=by first | (rw [hy1];with_reducible exact H) | (have H2_:=(Option.bind_some _ _).symm.trans H;rw [hy1];with_reducible exact H2_) | (have H2_:=(Option.bind_some _ _).symm.trans H;with_reducible exact H2_) | with_reducible exact H | (rw [hy1];exact H) | exact H
 have Ny1:=a0_ hy1
 clear hy1
 have H':=a0_ H
 clear H
 go_enter Try.func134,Try.ntmps134
 go_wp2_with (first | ((with_reducible refine gate_dst (N:=8) rfl ?_);refine Kd.R_lit Kd.string _ 9 ?hg (N:=8) ?hd (xs:=([] : List ByteArray)) (inner:=[]) (ok:=fun _=>True) (okp:=fun _=>True) ?hr ?hp (fun _ hk=>hk) trivial (Below.refl _ _) (Nat.le_refl _) (by simp) ?_;(case hd=>rfl);(case hg=>rfl);(case hr=>first | (go_simp;done) | (go_simp;rfl));(case hp=>exact (Reps.none _ _));intro v2 w3 ho4 hb hg_ hnew_;clear hg_ hnew_;(first | rw [← Ny1.out] at ho4 | (simp only [Int.reduceToNat] at ho4;rw [← Ny1.out] at ho4));have HO3:=a0_ (Kd.R_lower ho4 (below_size hbw_));replace HB:=a0_ (below_step hbw_ hb);clear hb ho4))
 go_loopg [5,6,7] k (fun kq v5 v6 v7 w'=>∃ (x5_1 : List ByteArray) (x6_1 : Int) (x7_1 : Int),v6 = .int .i64 x6_1 ∧ v7 = .int .i64 x7_1 ∧ Aside0 (spec_splitAt.l0 kq a0 a1 x5_1 x6_1 x7_1 = some r) ∧ Aside0 (kq ≤ k) ∧ Aside0 (Kd.R Kd.string 9 w' w.heap.size (fun _=>True) v5 x5_1) ∧ Aside0 (Below w.heap.size w w'))
 case atStart=>exact ⟨(y1),(0),(0),(by first | rfl | (simp;done) | (simp [*];done)),(by first | rfl | (simp;done) | (simp [*];done)),H',⟨Nat.le_refl _⟩,⟨by (with_reducible repeat (first | apply Kd.R_alloc | apply Kd.R_drewN | apply Kd.R_drew));exact HO3.out⟩,⟨hbw_⟩⟩
 case round =>
  clear H'
  try clear c1
  try clear p2
  obtain ⟨x5_1,x6_1,x7_1,rfl,rfl,HA,HK1,HO_5,HB⟩:=hrel
  cases gk with
  | zero=>exact absurd HA.out (by simp [spec_splitAt.l0])
  | succ k1 =>
   have H:=HA.out
   clear HA
   simp only [spec_splitAt.l0] at H
   by_cases c5 : x7_1 < (a0.size : Int)
   ·rw [if_pos c5] at H
    have c5b0 : decide (x7_1 < (a0.size : Int)) = true:=decide_eq_true c5
    clear c5
    by_cases c6 : 0 ≤ x7_1
    ·rw [if_pos c6] at H
     have c6b0 : decide (0 ≤ x7_1) = true:=decide_eq_true c6
     clear c6
     by_cases c8 : (bt a0 x7_1) = a1
     ·rw [if_pos c8] at H
      have c8b0 : ((bt a0 x7_1) == a1) = true:=beq_iff_eq.mpr c8
      have c8b1 : ((bt a0 x7_1) != a1) = false:=bne_eq_false_iff_eq.mpr c8
      clear c8
      by_cases c9 : 0 ≤ x6_1
      ·rw [if_pos c9] at H
       have c9b0:=eq_true c9
       have c9b1 : decide (0 ≤ x6_1) = true:=decide_eq_true c9
       clear c9
       by_cases c10 : x6_1 ≤ x7_1
       ·rw [if_pos c10] at H
        have c10b0:=eq_true c10
        have c10b1 : decide (x6_1 ≤ x7_1) = true:=decide_eq_true c10
        clear c10
        by_cases c11 : x7_1 ≤ (a0.size : Int)
        ·rw [if_pos c11] at H
         have c11b0:=eq_true c11
         have c11b1 : decide (x7_1 ≤ (a0.size : Int)) = true:=decide_eq_true c11
         clear c11
         by_cases c12 : x5_1.length < 8796093022208
         ·rw [if_pos c12] at H
          have LMc12:=a0_ c12
          clear c12
          obtain ⟨y4,hy4⟩ : ∃ y_ : List ByteArray,y_ = (x5_1 ++ [a0.extract (x6_1 : Int).toNat (x7_1 : Int).toNat]):=⟨_,rfl⟩
          replace H : (spec_splitAt.l0 k1 a0 a1 y4 (wrap64 (x7_1 + 1)) (wrap64 (x7_1 + 1))) = some r:=by first | (rw [hy4];with_reducible exact H) | (have H2_:=(Option.bind_some _ _).symm.trans H;rw [hy4];with_reducible exact H2_) | (have H2_:=(Option.bind_some _ _).symm.trans H;with_reducible exact H2_) | with_reducible exact H | (rw [hy4];exact H) | exact H
          have Ny4:=a0_ hy4
          clear hy4
          have H':=a0_ H
          clear H
          have p7 : 0 ≤ (x7_1 : Int):=of_decide_eq_true (by first | (with_reducible assumption) | assumption)
          have q7 : x7_1 < (a0.size : Int):=of_decide_eq_true (by first | (with_reducible assumption) | assumption)
          have hx7:=bt_at a0 x7_1
          replace p7:=eq_true p7
          replace q7:=eq_true q7
          go_wp2_with (first | ((with_reducible refine gate_builtin (b:=.append) (xs:=#[.tmp 20,.tmp 25]) rfl ?_);at_builtin;refine Kd.R_append Kd.string (w0:=w) w.heap.size rfl (.tmp 20) (.tmp 25) 165 9 (.string ⟨#[]⟩) 16 rfl Try.underlying165 info9 rfl (by decide) (by omega) u5 x5_1 (a0.extract (x6_1 : Int).toNat (x7_1 : Int).toNat) [.string (a0.extract (x6_1 : Int).toNat (x7_1 : Int).toNat)] (fun _=>True) (fun _=>False) rfl rfl ?aP (fun _ hk=>hk.elim) ?aF ?aO ?aB ?aS ?aL ?_;(case aP=>exact rfl);(case aB=>exact hbw_);(case aF=>exact (fun _ _=>trivial));(case aO=>exact (rr_ HO_5.out));(case aS=>exact (below_size hbw_));(case aL=>have:=LMc12.out;omega);intro v5 w13 ho hb hg hat;rw [← Ny4.out] at ho;have HO6:=a0_ (ho);replace HB:=a0_ (hb);clear HO_5;clear ho hb hg hat))
          go_roundg k1
          case measure=>have:=HK1.out;omega
          case rel=>exact ⟨(y4),(wrap64 (x7_1 + 1)),(wrap64 (x7_1 + 1)),(by first | rfl | (simp;done) | (simp [*];done)),(by first | rfl | (simp;done) | (simp [*];done)),H',⟨by have:=HK1.out;omega⟩,⟨by (with_reducible repeat (first | apply Kd.R_alloc | apply Kd.R_drewN | apply Kd.R_drew));exact HO6.out⟩,⟨hbw_⟩⟩
         ·rw [if_neg c12] at H
          exact absurd H (by simp)
        ·rw [if_neg c11] at H
         exact absurd H (by simp)
       ·rw [if_neg c10] at H
        exact absurd H (by simp)
      ·rw [if_neg c9] at H
       exact absurd H (by simp)
     ·rw [if_neg c8] at H
      have c8b0 : ((bt a0 x7_1) == a1) = false:=beq_eq_false_iff_ne.mpr c8
      have c8b1 : ((bt a0 x7_1) != a1) = true:=bne_iff_ne.mpr c8
      have H':=a0_ H
      clear H
      have p7 : 0 ≤ (x7_1 : Int):=of_decide_eq_true (by first | (with_reducible assumption) | assumption)
      have q7 : x7_1 < (a0.size : Int):=of_decide_eq_true (by first | (with_reducible assumption) | assumption)
      have hx7:=bt_at a0 x7_1
      replace p7:=eq_true p7
      replace q7:=eq_true q7
      go_wp2
      go_roundg k1
      case measure=>have:=HK1.out;omega
      case rel=>exact ⟨(x5_1),(x6_1),(wrap64 (x7_1 + 1)),(by first | rfl | (simp;done) | (simp [*];done)),(by first | rfl | (simp;done) | (simp [*];done)),H',⟨by have:=HK1.out;omega⟩,⟨by (with_reducible repeat (first | apply Kd.R_alloc | apply Kd.R_drewN | apply Kd.R_drew));exact HO_5.out⟩,⟨hbw_⟩⟩
    ·rw [if_neg c6] at H
     exact absurd H (by simp)
   ·rw [if_neg c5] at H
    have c5b0 : decide (x7_1 < (a0.size : Int)) = false:=decide_eq_false c5
    clear c5
    by_cases c14 : 0 ≤ x6_1
    ·rw [if_pos c14] at H
     have c14b0:=eq_true c14
     have c14b1 : decide (0 ≤ x6_1) = true:=decide_eq_true c14
     clear c14
     by_cases c15 : x6_1 ≤ (a0.size : Int)
     ·rw [if_pos c15] at H
      have c15b0:=eq_true c15
      have c15b1 : decide (x6_1 ≤ (a0.size : Int)) = true:=decide_eq_true c15
      clear c15
      by_cases c16 : x5_1.length < 8796093022208
      ·rw [if_pos c16] at H
       have LMc16:=a0_ c16
       clear c16
       obtain ⟨y7,hy7⟩ : ∃ y_ : List ByteArray,y_ = (x5_1 ++ [a0.extract (x6_1 : Int).toNat a0.size]):=⟨_,rfl⟩
       replace H : (some y7) = some r:=by first | (rw [hy7];with_reducible exact H) | (have H2_:=(Option.bind_some _ _).symm.trans H;rw [hy7];with_reducible exact H2_) | (have H2_:=(Option.bind_some _ _).symm.trans H;with_reducible exact H2_) | with_reducible exact H | (rw [hy7];exact H) | exact H
       have Ny7:=a0_ hy7
       clear hy7
       obtain rfl:=Option.some.inj H
       go_wp2_with (first | ((with_reducible refine gate_builtin (b:=.append) (xs:=#[.tmp 29,.tmp 33]) rfl ?_);at_builtin;refine Kd.R_append Kd.string (w0:=w) w.heap.size rfl (.tmp 29) (.tmp 33) 165 9 (.string ⟨#[]⟩) 16 rfl Try.underlying165 info9 rfl (by decide) (by omega) u5 x5_1 (a0.extract (x6_1 : Int).toNat a0.size) [.string (a0.extract (x6_1 : Int).toNat a0.size)] (fun _=>True) (fun _=>False) rfl rfl ?aP (fun _ hk=>hk.elim) ?aF ?aO ?aB ?aS ?aL ?_;(case aP=>exact rfl);(case aB=>exact hbw_);(case aF=>exact (fun _ _=>trivial));(case aO=>exact (rr_ HO_5.out));(case aS=>exact (below_size hbw_));(case aL=>have:=LMc16.out;omega);intro v8 w17 ho hb hg hat;rw [← Ny7.out] at ho;have HO9:=a0_ (ho);replace HB:=a0_ (hb);clear HO_5;clear ho hb hg hat))
       go_ret
       exact ⟨_,by first | rfl | (simp [errW_none,errW_some] <;> rfl) | (simp [*,errW_none,errW_some] <;> rfl),by (with_reducible repeat (first | apply Kd.R_alloc | apply Kd.R_drewN | apply Kd.R_drew));exact HO9.out,hbw_⟩
      ·rw [if_neg c16] at H
       exact absurd H (by simp)
     ·rw [if_neg c15] at H
      exact absurd H (by simp)
    ·rw [if_neg c14] at H
     exact absurd H (by simp)
theorem ofB_drop (s : ByteArray) (i : Nat) (hi : i < s.size) : (ofB s).drop i = s[i] :: (ofB s).drop (i + 1):=by
 have hl : (ofB s).length = s.size:=ofB_len s
 rw [List.drop_eq_getElem_cons (by omega)]
 rfl
theorem ofB_sub (s : ByteArray) (a b : Nat) : s.extract a b = toB (((ofB s).drop a).take (b - a)):=Lib.extract_eq s a b
theorem take_mid (l : List UInt8) (f i : Nat) (hf : f ≤ i) (hi : i < l.length) : (l.drop f).take (i + 1 - f) = (l.drop f).take (i - f) ++ [l[i]]:=by
 rw [show i + 1 - f = (i - f) + 1 by omega,List.take_succ_eq_append_getElem (by rw [List.length_drop];omega)]
 congr 2
 rw [List.getElem_drop]
 simp only [show f + (i - f) = i by omega]
theorem spec_splitAt_l0 (s : ByteArray) (c : UInt8) (ci : Int) (hc : ci = (c.toNat : Int)) (hs : s.size ≤ 8796093000000) : ∀ (d i f : Nat) (out : List (List UInt8)),i + d = s.size → f ≤ i → out.length ≤ i → Ev (fun k=>spec_splitAt.l0 k s ci (out.map toB) (f : Int) (i : Int)) ((out ++ splA c (((ofB s).drop f).take (i - f)) ((ofB s).drop i)).map toB):=by
 have hl : (ofB s).length = s.size:=ofB_len s
 intro d
 induction d with
 | zero =>
  intro i f out hi hf ho
  refine Ev.succ ?_
  simp only [spec_splitAt.l0]
  refine Ev.neg (by omega) (Ev.pos (by omega) (Ev.pos (by omega) (Ev.pos (by rw [List.length_map];omega) (Ev.const ?_))))
  rw [List.drop_of_length_le (show (ofB s).length ≤ i by omega),splA,List.map_append,Int.toNat_natCast,ofB_sub,show s.size - f = i - f by omega]
  rfl
 | succ d ih =>
  intro i f out hi hf ho
  have hlt : i < s.size:=by omega
  refine Ev.succ ?_
  simp only [spec_splitAt.l0]
  have hi0 : (0 : Int) ≤ (i : Int):=Int.natCast_nonneg i
  have hf0 : (0 : Int) ≤ (f : Int):=Int.natCast_nonneg f
  have hfi : (f : Int) ≤ (i : Int):=Int.ofNat_le.2 hf
  have hlen : (out.map toB).length < 8796093022208:=by rw [List.length_map];omega
  have hi2 : (i : Int) ≤ (s.size : Int):=by omega
  have hi1 : (i : Int) < (s.size : Int):=by omega
  have hb : bt s (i : Int) = ((s[i]'hlt).toNat : Int):=bt_getElem s i hlt
  have hw : wrap64 ((i : Int) + 1) = ((i + 1 : Nat) : Int):=by rw [wrap_succ (n:=s.size) (by omega) (by omega) (by omega)];omega
  rw [hb,hw,ofB_drop s i hlt]
  refine Ev.pos hi1 ?_
  refine Ev.pos hi0 ?_
  have hA:=ih (i + 1) (i + 1) (out ++ [((ofB s).drop f).take (i - f)]) (by omega) (by omega) (by simp;omega)
  have hB:=ih (i + 1) f out (by omega) (Nat.le_succ_of_le hf) (Nat.le_succ_of_le ho)
  have e2 : ((ofB s).drop f).take (i + 1 - f) = ((ofB s).drop f).take (i - f) ++ [s[i]'hlt]:=take_mid (ofB s) f i hf (by rw [hl];exact hlt)
  by_cases e : s[i]'hlt = c
  ·rw [splA,if_pos e]
   refine Ev.pos (by rw [e,hc]) ?_
   refine Ev.pos hf0 ?_
   refine Ev.pos hfi ?_
   refine Ev.pos hi2 ?_
   refine Ev.pos hlen ?_
   rw [List.map_append,Nat.sub_self,List.take_zero,List.append_assoc] at hA
   rw [Int.toNat_natCast,Int.toNat_natCast,ofB_sub]
   exact hA
  ·rw [splA,if_neg e]
   refine Ev.neg (fun h=>e ?_) ?_
   ·rw [hc] at h
    exact UInt8.toNat_inj.1 (Int.ofNat.inj h)
   ·rw [e2] at hB
    exact hB
theorem spec_splitAt_ev (s : ByteArray) (c : UInt8) (ci : Int) (hc : ci = (c.toNat : Int)) (hs : s.size ≤ 8796093000000) : Ev (fun k=>spec_splitAt.f k s ci) ((splA c [] (ofB s)).map toB):=by
 have:=spec_splitAt_l0 s c ci hc hs s.size 0 0 [] (by omega) (by omega) (by simp)
 unfold spec_splitAt.f
 simpa using this
end Go.Proofs.Ytacgehaipacehaa.P
namespace Go.Proofs.Ytacgehaipacehaa.P
open Go.RowKit Go.Proofs.YtacgehaipacehaaW.PrintWords Go.Proofs.YtacgehaipacehaaW.PrintLast Go.Proofs.YtacgehaipacehaaW.PrintMore
attribute [local go_sem] max2_int min2_int max_two min_two max_three min_three max_four min_four
set_option linter.unusedVariables false
set_option linter.unusedSimpArgs false
def spec_parseTree.l0 : Nat → ByteArray → List ByteArray → Int → List (S125) → Option ((List (S125)) × Bool)
 | 0,_,_,_,_=>none
 | k + 1,x0,x5,x6,x3000=>if (wrap64 (x6 + 1)) < (x5.length : Int) then (if 0 ≤ x6 then (if x6 < (x5.length : Int) then ((spec_splitAt.f k (rdOf ByteArray.empty x5 x6) 32).bind fun t9=>(if 0 < (t9.length : Int) then (if (t9.length : Int) = 2 then (if 1 < (t9.length : Int) then ((spec_classNamed.f k x3000 (rdOf ByteArray.empty t9 1)).bind fun t15=>(if x3000.length < 5864062014805 then (spec_parseTree.l0 k x0 x5 (wrap64 (x6 + 1)) (x3000 ++ [(⟨rdOf ByteArray.empty t9 0,t15⟩ : S125)])) else (none))) else (none)) else (if x3000.length < 5864062014805 then (spec_parseTree.l0 k x0 x5 (wrap64 (x6 + 1)) (x3000 ++ [(⟨rdOf ByteArray.empty t9 0,(-1)⟩ : S125)])) else (none))) else (none))) else (none)) else (none)) else ((spec_validTree.f x3000).bind fun t6=>(if t6 = true then ((spec_treeText.f k x3000).bind fun t7=>(some (x3000,(t7.toList == x0.toList)))) else (some (x3000,false))))
def spec_parseTree.f (k : Nat) (a0 : ByteArray) : Option ((List (S125)) × Bool):=(spec_splitAt.f k a0 10).bind fun t3=>(spec_parseTree.l0 k a0 t3 0 ([] : List (S125)))
theorem spec_parseTree.mono_l : ∀ k,(∀ y0 y1 y2 y3,LeO (spec_parseTree.l0 k y0 y1 y2 y3) (spec_parseTree.l0 (k + 1) y0 y1 y2 y3))
 | 0=>fun _ _ _ _ r h=>by simp [spec_parseTree.l0] at h
 | k + 1=>by
  have ih0:=spec_parseTree.mono_l k
  ·intro y0 y1 y2 y3
   unfold spec_parseTree.l0
   repeat' first
   | (with_reducible exact ih0 _ _ _ _)
   | (with_reducible exact spec_classNamed.mono _ _ _)
   | (with_reducible exact spec_splitAt.mono _ _ _)
   | (with_reducible exact spec_treeText.mono _ _)
   | (with_reducible exact LeO.refl _)
   | (with_reducible exact LeO.none _)
   | (with_reducible refine LeO.ite ?_ ?_)
   | (with_reducible refine LeO.bind ?_ (fun _=>?_))
   | exact ih0 _ _ _ _
   | exact spec_classNamed.mono _ _ _
   | exact spec_splitAt.mono _ _ _
   | exact spec_treeText.mono _ _
   | exact LeO.none _
   | refine LeO.ite ?_ ?_
   | refine LeO.bind ?_ (fun _=>?_)
theorem spec_parseTree.mono : ∀ a0 k,LeO (spec_parseTree.f k a0) (spec_parseTree.f (k + 1) a0):=by
 intro a0 k
 have ih0:=spec_parseTree.mono_l k
 unfold spec_parseTree.f
 repeat' first
   | (with_reducible exact ih0 _ _ _ _)
   | (with_reducible exact spec_classNamed.mono _ _ _)
   | (with_reducible exact spec_splitAt.mono _ _ _)
   | (with_reducible exact spec_treeText.mono _ _)
   | (with_reducible exact LeO.refl _)
   | (with_reducible exact LeO.none _)
   | (with_reducible refine LeO.ite ?_ ?_)
   | (with_reducible refine LeO.bind ?_ (fun _=>?_))
   | exact ih0 _ _ _ _
   | exact spec_classNamed.mono _ _ _
   | exact spec_splitAt.mono _ _ _
   | exact spec_treeText.mono _ _
   | exact LeO.none _
   | refine LeO.ite ?_ ?_
   | refine LeO.bind ?_ (fun _=>?_)
def spec_parseTree.T9 : Bool × List (List Nat × List Nat):=(true,[([],[]),([0],[0]),([],[]),([2],[2]),([3],[3]),([1,4],[1,4]),([0,1,2,3,4,5],[]),([6,5,5,0,1,2,3,4,5],[5,6])])
def spec_parseTree.B9 : List Nat:=[0,1,0,4,12,31,63,127]
theorem spec_parseTree.tab9 : rtab .any (opsOf Try.f90 9) = spec_parseTree.T9:=by kernel_rfl
theorem spec_parseTree.bits9 : waitsOk spec_parseTree.T9.2 spec_parseTree.B9 = true:=by kernel_rfl
def spec_parseTree.T11 : Bool × List (List Nat × List Nat):=(true,[([],[]),([],[]),([1],[1]),([2,2],[2]),([3],[3]),([4,3,3],[3,4]),([3],[3]),([5,6,3],[3,5,6]),([3,7],[3,7]),([0,5,0],[0]),([8,9,0,1,2,3,4,5,6,7,8,9],[8])])
def spec_parseTree.B11 : List Nat:=[0,0,2,6,14,30,14,126,254,63,1023]
theorem spec_parseTree.tab11 : rtab .any (opsOf Try.f90 11) = spec_parseTree.T11:=by kernel_rfl
theorem spec_parseTree.bits11 : waitsOk spec_parseTree.T11.2 spec_parseTree.B11 = true:=by kernel_rfl
set_option maxHeartbeats 8000000 in
set_option maxRecDepth 100000 in
theorem spec_parseTree.calls (k : Nat) (a0 : ByteArray) (r1 : List (S125)) (r2 : Bool) (w : World) (h : spec_parseTree.f k a0 = some (r1,r2)) :
  Calls Try.prog 90 #[.string a0] w fun e w'=>∃ v0_ : Value,e = .returned (.tuple #[.agg #[v0_],.bool r2]) ∧ Kd.R k125 125 w' w.heap.size (fun _=>True) v0_ r1 ∧ Below w.heap.size w w':=by
 have hu25:=Try.underlying25
 have hu125:=Try.underlying125
 have HB:=a0_ (Below.refl w.heap.size w)
 have H : ((spec_splitAt.f k a0 10).bind fun t3=>(spec_parseTree.l0 k a0 t3 0 ([] : List (S125)))) = some (r1,r2):=h
 clear h
 replace H:=Option.bind_eq_some_iff.mp H
 obtain ⟨t3,A20,H⟩:=H
 try dsimp only at H
 have A2:=a0_ A20
 clear A20
 have H':=a0_ H
 clear H
 go_enter Try.func90,Try.ntmps90
 go_wp2_with (first | ((with_reducible refine gate_dst (N:=2) rfl ?_);refine box_event ?hg (N:=2) ?hd (cs:=#[.slice none 0 0]) (t:=25) ?hr ?_;(case hd=>rfl);(case hg=>rfl);(case hr=>first | (go_simp;done) | (go_simp;rfl));intro gb1 hg w3 hbox hb;have BK1:=a0_ (hbox);have GW1:=a0_ ((by rw [hg];exact (below_size hbw_) : w.heap.size ≤ gb1));have GE1:=a0_ ((by rw [hg];exact (below_size hbw_) : w.heap.size ≤ gb1));replace HB:=a0_ (below_step hbw_ hb);clear hb hbox hg) | ((with_reducible refine gate_dst (N:=4) rfl ?_);refine box_event ?hg (N:=4) ?hd (cs:=#[.slice none 0 0]) (t:=25) ?hr ?_;(case hd=>rfl);(case hg=>rfl);(case hr=>first | (go_simp;done) | (go_simp;rfl));intro gb2 hg w4 hbox hb;have n0_:=kb_ BK1 hb;have n1_:=a0_ (below_step hbw_ hb);have n2_:=a0_ (hbox);have n3_:=a0_ ((by rw [hg];exact (below_size hbw_) : w.heap.size ≤ gb2));have n4_:=a0_ ((by rw [hg];exact (below_size hbw_) : w.heap.size ≤ gb2));have n5_:=a0_ ((by rw [hg];exact Nat.ne_of_lt (blk_lt (bb_ BK1.out)) : gb1 ≠ gb2));have n6_:=a0_ ((by rw [hg];exact Nat.ne_of_gt (blk_lt (bb_ BK1.out)) : gb2 ≠ gb1));clear BK1 HB;have BK1:=n0_;have HB:=n1_;have BK2:=n2_;have GW2:=n3_;have GE2:=n4_;have NB1_2:=n5_;have NB2_1:=n6_;clear n0_ n1_ n2_ n3_ n4_ n5_ n6_;clear hb hbox hg;have hnb5:=NB2_1.out;have hnc5:=NB1_2.out;have hcz6_0 : w4.cell? ⟨gb2,0,none⟩ = some (.slice none 0 0):=(blk_cell BK2.out 0).trans rfl;have hfz6_0:=blk_frozen BK2.out 0) | ((with_reducible refine gate_callee (f:=134) rfl ?_);refine goesL_ (some 11) rfl rfl Try.func134 (by kernel_rfl) rfl #[.string a0,.int .u8 10] rfl lm_ ?_;(with_reducible refine (spec_splitAt.calls k a0 10 t3 _ A2.out).mono ?_);rintro e w7 ⟨v4,rfl,ho0,hb⟩;refine ⟨_,rfl,?_⟩;have HO5:=a0_ (Kd.R_lower ho0 (below_size hbw_));replace BK1:=kf_ BK1 NB1_2 hb;replace BK2:=a0_ (blk_below (g:=gb2) (o:=.cells #[.slice none 0 0] 25 (0,0)) (by (with_reducible repeat (first | refine blk_drewN ?_ _ | refine blk_drew ?_ | refine blk_alloc ?_ _));refine blk_put (cs:=#[.slice none 0 0]) ?_ 0 _ rfl;(with_reducible repeat (first | refine blk_drewN ?_ _ | refine blk_drew ?_ | refine blk_alloc ?_ _));exact BK2.out) hb);replace HB:=a0_ (below_step hbw_ hb);(try clear hb);(try clear ho0)))
 go_loopg [6] k (fun kq v6 w'=>∃ (x6_1 : Int) (x3000_1 : List (S125)) (u3000 : Value),v6 = .int .i64 x6_1 ∧ Aside0 (spec_parseTree.l0 kq a0 t3 x6_1 x3000_1 = some (r1,r2)) ∧ Aside0 (kq ≤ k) ∧ Aside0 (Kd.R Kd.string 9 w' w.heap.size (fun _=>True) v4 t3) ∧ Aside0 (Kd.R k125 125 w' w.heap.size (fun _=>True) u3000 x3000_1) ∧ Aside0 (w'.heap[gb1]? = some (.cells #[(.slice none 0 0)] 25 (0,0))) ∧ Aside0 (w'.heap[gb2]? = some (.cells #[u3000] 25 (0,0))) ∧ Aside0 (Below w.heap.size w w'))
 case atStart=>exact ⟨(0),(([] : List (S125))),(.slice none 0 0),(by first | rfl | (simp;done) | (simp [*];done)),H',⟨Nat.le_refl _⟩,⟨by (with_reducible repeat (first | apply Kd.R_alloc | apply Kd.R_drewN | apply Kd.R_drew));exact HO5.out⟩,⟨by first | exact Kd.R_nil _ _ _ _ _ | exact Kd.N_nil _ _ _ _ _ | exact Kd.V_nil _ _ _ _ _ | exact Kd.Q_nil _ _ _ _ _ | exact Kd.S_nil _ _ _ _ _⟩,⟨by (with_reducible repeat (first | refine blk_drewN ?_ _ | refine blk_drew ?_ | refine blk_alloc ?_ _));exact BK1.out⟩,⟨by (with_reducible repeat (first | refine blk_drewN ?_ _ | refine blk_drew ?_ | refine blk_alloc ?_ _));exact BK2.out⟩,⟨hbw_⟩⟩
 case round =>
  clear H'
  try clear c1
  try clear p2
  try clear c5
  try clear hcz6_0
  try clear hfz6_0
  obtain ⟨x6_1,x3000_1,u3000,rfl,HA,HK1,HO_5,Z3,BK1,BK2,HB⟩:=hrel
  cases gk with
  | zero=>exact absurd HA.out (by simp [spec_parseTree.l0])
  | succ k1 =>
   have H:=HA.out
   clear HA
   simp only [spec_parseTree.l0] at H
   by_cases c8 : (wrap64 (x6_1 + 1)) < (t3.length : Int)
   ·rw [if_pos c8] at H
    have c8b0 : decide ((wrap64 (x6_1 + 1)) < (t3.length : Int)) = true:=decide_eq_true c8
    clear c8
    by_cases c9 : 0 ≤ x6_1
    ·rw [if_pos c9] at H
     have c9b0 : decide (0 ≤ x6_1) = true:=decide_eq_true c9
     clear c9
     by_cases c10 : x6_1 < (t3.length : Int)
     ·rw [if_pos c10] at H
      have c10b0 : decide (x6_1 < (t3.length : Int)) = true:=decide_eq_true c10
      clear c10
      replace H:=Option.bind_eq_some_iff.mp H
      obtain ⟨t9,A110,H⟩:=H
      try dsimp only at H
      have A11:=a0_ A110
      clear A110
      by_cases c12 : 0 < (t9.length : Int)
      ·rw [if_pos c12] at H
       have c12b0 : decide (0 < (t9.length : Int)) = true:=decide_eq_true c12
       have c12b1 : decide (0 < t9.length) = true:=decide_eq_true (by omega)
       clear c12
       by_cases c13 : (t9.length : Int) = 2
       ·rw [if_pos c13] at H
        have c13b0 : ((t9.length : Int) == 2) = true:=beq_iff_eq.mpr c13
        have c13b1 : ((t9.length : Int) != 2) = false:=bne_eq_false_iff_eq.mpr c13
        clear c13
        by_cases c14 : 1 < (t9.length : Int)
        ·rw [if_pos c14] at H
         have c14b0 : decide (1 < (t9.length : Int)) = true:=decide_eq_true c14
         have c14b1 : decide (1 < t9.length) = true:=decide_eq_true (by omega)
         clear c14
         replace H:=Option.bind_eq_some_iff.mp H
         obtain ⟨t15,A150,H⟩:=H
         try dsimp only at H
         have A15:=a0_ A150
         clear A150
         by_cases c16 : x3000_1.length < 5864062014805
         ·rw [if_pos c16] at H
          have LMc16:=a0_ c16
          clear c16
          obtain ⟨y16,hy16⟩ : ∃ y_ : List (S125),y_ = (x3000_1 ++ [(⟨rdOf ByteArray.empty t9 0,t15⟩ : S125)]):=⟨_,rfl⟩
          replace H : (spec_parseTree.l0 k1 a0 t3 (wrap64 (x6_1 + 1)) y16) = some (r1,r2):=by first | (rw [hy16];with_reducible exact H) | (have H2_:=(Option.bind_some _ _).symm.trans H;rw [hy16];with_reducible exact H2_) | (have H2_:=(Option.bind_some _ _).symm.trans H;with_reducible exact H2_) | with_reducible exact H | (rw [hy16];exact H) | exact H
          have Ny16:=a0_ hy16
          clear hy16
          have H':=a0_ H
          clear H
          obtain ⟨Ao17,co17,eo17⟩:=Kd.R_slice HO_5.out
          subst eo17
          have p8 : 0 ≤ (x6_1 : Int):=of_decide_eq_true (by first | (with_reducible assumption) | assumption)
          have q8 : x6_1 < (t3.length : Int):=of_decide_eq_true (by first | (with_reducible assumption) | assumption)
          obtain ⟨ad8,e8,hx8_0⟩:=Kd.at_string (Kd.R_reads' HO_5.out).2.2 x6_1 p8 q8
          cases e8
          replace p8:=eq_true p8
          replace q8:=eq_true q8
          try go_wp2_with (first | ((with_reducible refine gate_callee (f:=134) rfl ?_);refine goesL_ (some 23) rfl rfl Try.func134 (by kernel_rfl) rfl #[.string (rdOf ByteArray.empty t3 x6_1),.int .u8 32] rfl lm_ ?_;(with_reducible refine (spec_splitAt.calls k1 (rdOf ByteArray.empty t3 x6_1) 32 t9 _ A11.out).mono ?_);rintro e w18 ⟨v10,rfl,ho0,hb⟩;refine ⟨_,rfl,?_⟩;have n0_:=a0_ (Kd.R_elder' (rr_ HO_5.out) (Kd.R_base ho0) hb);have n1_:=rb_ Z3 hb;have n2_:=a0_ (Kd.R_lower (Kd.R_new' ho0 (Kd.R_lt (rr_ HO_5.out))) (below_size hbw_));have n3_:=kb_ BK1 hb;have n4_:=kb_ BK2 hb;have n5_:=a0_ (below_step hbw_ hb);clear HO_5 Z3;clear BK1 BK2 HB;have HO_5:=n0_;have Z3:=n1_;have HO11:=n2_;have BK1:=n3_;have BK2:=n4_;have HB:=n5_;clear n0_ n1_ n2_ n3_ n4_ n5_;(try clear hb);(try clear ho0);obtain ⟨Ao19,co19,eo19⟩:=Kd.R_slice HO11.out;subst eo19;have p12 : 0 ≤ (0 : Int):=(by omega);have q12 : 0 < (t9.length : Int):=of_decide_eq_true (by first | (with_reducible assumption) | assumption);obtain ⟨ad12,e12,hx12_0⟩:=Kd.at_string (Kd.R_reads' HO11.out).2.2 0 p12 q12;cases e12;have qi12 : (0 < t9.length) = True:=eq_true (by omega);(try rw [show ((0 : Int)).toNat = 0 from rfl] at hx12_0);(try rw [Addr.add_zero'] at hx12_0);replace p12:=eq_true p12;replace q12:=eq_true q12) | ((with_reducible refine gate_dst (N:=8) rfl ?_);refine box_event ?hg (N:=8) ?hd (cs:=#[.string (⟨#[]⟩ : ByteArray),.int .i64 0]) (t:=125) ?hr ?_;(case hd=>rfl);(case hg=>rfl);(case hr=>first | (go_simp;done) | (go_simp;rfl));intro gb13 hg w20 hbox hb;have n0_:=rb_ HO_5 hb;have n1_:=a0_ (Kd.R_below (Kd.R_elderB (rr_ Z3.out) gb13 (Nat.le_of_eq hg.symm)) hb);have n2_:=rb_ HO11 hb;have n3_:=kb_ BK1 hb;have n4_:=kb_ BK2 hb;have n5_:=a0_ (below_step hbw_ hb);have n6_:=a0_ (hbox);have n7_:=a0_ ((by rw [hg];exact (below_size hbw_) : w.heap.size ≤ gb13));have n8_:=a0_ ((by rw [hg];exact (below_size hbw_) : w.heap.size ≤ gb13));have n9_:=a0_ ((by rw [hg];exact Nat.ne_of_lt (blk_lt (bb_ BK1.out)) : gb1 ≠ gb13));have n10_:=a0_ ((by rw [hg];exact Nat.ne_of_gt (blk_lt (bb_ BK1.out)) : gb13 ≠ gb1));have n11_:=a0_ ((by rw [hg];exact Nat.ne_of_lt (blk_lt (bb_ BK2.out)) : gb2 ≠ gb13));have n12_:=a0_ ((by rw [hg];exact Nat.ne_of_gt (blk_lt (bb_ BK2.out)) : gb13 ≠ gb2));clear HO_5 Z3;clear HO11 BK1;clear BK2 HB;have HO_5:=n0_;have Z3:=n1_;have HO11:=n2_;have BK1:=n3_;have BK2:=n4_;have HB:=n5_;have BK13:=n6_;have GW13:=n7_;have GE13:=n8_;have NB1_13:=n9_;have NB13_1:=n10_;have NB2_13:=n11_;have NB13_2:=n12_;clear n0_ n1_ n2_ n3_ n4_ n5_ n6_ n7_ n8_ n9_ n10_ n11_ n12_;clear hb hbox hg;have hnb21:=NB13_1.out;have hnc21:=NB1_13.out;have hnb22:=NB13_2.out;have hnc22:=NB2_13.out;have hcz23_0 : w20.cell? ⟨gb13,0,none⟩ = some (.string (⟨#[]⟩ : ByteArray)):=(blk_cell BK13.out 0).trans rfl;have hcz23_1 : w20.cell? ⟨gb13,1,none⟩ = some (.int .i64 0):=(blk_cell BK13.out 1).trans rfl;have hfz23_0:=blk_frozen BK13.out 0;have hfz23_1:=blk_frozen BK13.out 1))
          have n0_ : Aside0 (Kd.R Kd.string 9 ((w20.setCell ⟨gb13,0,none⟩ (.string (rdOf ByteArray.empty t9 0))).setCell ⟨gb13,1,none⟩ (.int .i64 (-1))) w.heap.size (fun k_=>some k_ ≠ (.slice (some ad12) t9.length co19 : Value).ownBlock) (.slice (some ad8) t3.length co17) t3):=⟨by (with_reducible repeat (first | apply Kd.R_alloc | apply Kd.R_drewN | apply Kd.R_drew));exact Kd.R_mono (Kd.R_far (p:=⟨gb13,1,none⟩) (Kd.R_far (p:=⟨gb13,0,none⟩) (Kd.R_types HO_5.out BK13.out (by decide)) (fun _ hk=>hk.2) (.string (rdOf ByteArray.empty t9 0))) (fun _ hk=>hk.2) (.int .i64 (-1))) (fun _ hk=>hk.1.2)⟩
          have n1_ : Aside0 (Kd.R k125 125 ((w20.setCell ⟨gb13,0,none⟩ (.string (rdOf ByteArray.empty t9 0))).setCell ⟨gb13,1,none⟩ (.int .i64 (-1))) w.heap.size (fun k_=>k_ ≠ gb13) u3000 x3000_1):=⟨by (with_reducible repeat (first | apply Kd.R_alloc | apply Kd.R_drewN | apply Kd.R_drew));exact Kd.R_mono (Kd.R_far (p:=⟨gb13,1,none⟩) (Kd.R_far (p:=⟨gb13,0,none⟩) (Kd.R_mono Z3.out (fun k_ hk=>(⟨hk,hk.2⟩ : _ ∧ k_ ≠ gb13))) (fun _ hk=>hk.2) (.string (rdOf ByteArray.empty t9 0))) (fun _ hk=>hk.2) (.int .i64 (-1))) (fun _ hk=>hk.1.2)⟩
          have n2_ : Aside0 (Kd.R Kd.string 9 ((w20.setCell ⟨gb13,0,none⟩ (.string (rdOf ByteArray.empty t9 0))).setCell ⟨gb13,1,none⟩ (.int .i64 (-1))) w.heap.size (fun k_=>some k_ ≠ (.slice (some ad8) t3.length co17 : Value).ownBlock) (.slice (some ad12) t9.length co19) t9):=⟨by (with_reducible repeat (first | apply Kd.R_alloc | apply Kd.R_drewN | apply Kd.R_drew));exact Kd.R_mono (Kd.R_far (p:=⟨gb13,1,none⟩) (Kd.R_far (p:=⟨gb13,0,none⟩) (Kd.R_types HO11.out BK13.out (by decide)) (fun _ hk=>hk.2) (.string (rdOf ByteArray.empty t9 0))) (fun _ hk=>hk.2) (.int .i64 (-1))) (fun _ hk=>hk.1.2)⟩
          have n3_ : Aside0 (((w20.setCell ⟨gb13,0,none⟩ (.string (rdOf ByteArray.empty t9 0))).setCell ⟨gb13,1,none⟩ (.int .i64 (-1))).heap[gb1]? = some (.cells #[.slice none 0 0] 25 (0,0))):=⟨by (with_reducible repeat (first | refine blk_drewN ?_ _ | refine blk_drew ?_ | refine blk_alloc ?_ _));refine blk_far ?_ NB1_13.out _;(with_reducible repeat (first | refine blk_drewN ?_ _ | refine blk_drew ?_ | refine blk_alloc ?_ _));refine blk_far ?_ NB1_13.out _;(with_reducible repeat (first | refine blk_drewN ?_ _ | refine blk_drew ?_ | refine blk_alloc ?_ _));exact BK1.out⟩
          have n4_ : Aside0 (((w20.setCell ⟨gb13,0,none⟩ (.string (rdOf ByteArray.empty t9 0))).setCell ⟨gb13,1,none⟩ (.int .i64 (-1))).heap[gb2]? = some (.cells #[u3000] 25 (0,0))):=⟨by (with_reducible repeat (first | refine blk_drewN ?_ _ | refine blk_drew ?_ | refine blk_alloc ?_ _));refine blk_far ?_ NB2_13.out _;(with_reducible repeat (first | refine blk_drewN ?_ _ | refine blk_drew ?_ | refine blk_alloc ?_ _));refine blk_far ?_ NB2_13.out _;(with_reducible repeat (first | refine blk_drewN ?_ _ | refine blk_drew ?_ | refine blk_alloc ?_ _));exact BK2.out⟩
          have n5_ : Aside0 (((w20.setCell ⟨gb13,0,none⟩ (.string (rdOf ByteArray.empty t9 0))).setCell ⟨gb13,1,none⟩ (.int .i64 (-1))).heap[gb13]? = some (.cells #[.string (rdOf ByteArray.empty t9 0),.int .i64 (-1)] 125 (0,0))):=⟨by (with_reducible repeat (first | refine blk_drewN ?_ _ | refine blk_drew ?_ | refine blk_alloc ?_ _));refine blk_put (cs:=#[.string (rdOf ByteArray.empty t9 0),.int .i64 0]) ?_ 1 _ rfl;(with_reducible repeat (first | refine blk_drewN ?_ _ | refine blk_drew ?_ | refine blk_alloc ?_ _));refine blk_put (cs:=#[.string (⟨#[]⟩ : ByteArray),.int .i64 0]) ?_ 0 _ rfl;(with_reducible repeat (first | refine blk_drewN ?_ _ | refine blk_drew ?_ | refine blk_alloc ?_ _));exact BK13.out⟩
          have n6_ : Aside0 (Below w.heap.size w ((w20.setCell ⟨gb13,0,none⟩ (.string (rdOf ByteArray.empty t9 0))).setCell ⟨gb13,1,none⟩ (.int .i64 (-1)))):=⟨hbw_⟩
          (try clear HO_5)
          (try clear Z3)
          (try clear HO11)
          (try clear BK1)
          (try clear BK2)
          (try clear BK13)
          (try clear HB)
          generalize ((w20.setCell ⟨gb13,0,none⟩ (.string (rdOf ByteArray.empty t9 0))).setCell ⟨gb13,1,none⟩ (.int .i64 (-1))) = w24 at n0_ n1_ n2_ n3_ n4_ n5_ n6_ ⊢
          have HO_5:=n0_
          have Z3:=n1_
          have HO11:=n2_
          have BK1:=n3_
          have BK2:=n4_
          have BK13:=n5_
          have HB:=n6_
          clear n0_ n1_ n2_ n3_ n4_ n5_ n6_
          have n0_:=a0_ (Kd.R_drew HO_5.out)
          have n1_:=a0_ (Kd.R_drew Z3.out)
          have n2_:=a0_ (Kd.R_drew HO11.out)
          have n3_:=a0_ (blk_drew BK1.out)
          have n4_:=a0_ (blk_drew BK2.out)
          have n5_:=a0_ (blk_drew BK13.out)
          have n6_:=a0_ (below_drew1 HB.out)
          clear HO_5
          clear Z3
          clear HO11
          clear BK1
          clear BK2
          clear BK13
          clear HB
          have HO_5:=n0_
          have Z3:=n1_
          have HO11:=n2_
          have BK1:=n3_
          have BK2:=n4_
          have BK13:=n5_
          have HB:=n6_
          clear n0_ n1_ n2_ n3_ n4_ n5_ n6_
          have p14 : 0 ≤ (1 : Int):=(by omega)
          have q14 : 1 < (t9.length : Int):=of_decide_eq_true (by first | (with_reducible assumption) | assumption)
          obtain ⟨ad14,e14,hx14_0⟩:=Kd.at_string (Kd.R_reads' HO11.out).2.2 1 p14 q14
          obtain rfl : ad12 = ad14:=(by injection e14)
          (try simp only [show (1 : Int).toNat = 1 from rfl,Nat.reduceMul,Nat.reduceEqDiff,Go.Addr.add,↓reduceIte] at hx14_0)
          have qi14 : (1 < t9.length) = True:=eq_true (by omega)
          (try rw [show ((1 : Int)).toNat = 1 from rfl] at hx14_0)
          replace p14:=eq_true p14
          replace q14:=eq_true q14
          obtain ⟨Ao26,co26,eo26⟩:=Kd.R_slice Z3.out
          (first | subst eo26 | (injection eo26 with f1_ f2_ f3_;have f4_:=f1_.symm;have f5_:=f3_.symm;clear f1_ f2_ f3_;subst f4_;subst f5_))
          refine start_ (n:=8) (S:=fun w'=>w'.cell? ⟨gb2,0,none⟩ = some (.slice Ao26 x3000_1.length co26) ∧ w'.cell? ⟨ad12.block,ad12.off + 1,none⟩ = some (.string (rdOf ByteArray.empty t9 1))) (ds:=[]) #[false,false,false,false,false,false,false,false] (by kernel_rfl) rfl rfl ⟨(blk_cell BK2.out 0).trans rfl,hx14_0⟩ (fun hHeld=>?_);refine with_tabW spec_parseTree.tab9 spec_parseTree.bits9 (fun HT_ HW_=>?_)
          generalize w24.drew = w25 at HO_5 Z3 HO11 BK1 BK2 BK13 HB hx14_0 hHeld ⊢
          refine pure_ (i:=0) (N:=some 31) (v:=?_) (a':=?_) #[true,false,false,false,false,false,false,false] rfl rfl (any_of HT_.out (by kernel_rfl)) (fun _ _ _ h=>h) (Or.inl ⟨by rfl,?_⟩) ?_ ?_
          rotate_left
          ·intro w'
           go_simp
           with_reducible rfl
          rotate_left
          ·simp only [Act.put,s1_,s2_,s3_,i64_w,i32_w]
           rfl
          refine pure_ (i:=2) (N:=some 33) (v:=?_) (a':=?_) #[true,false,true,false,false,false,false,false] rfl rfl (any_of HT_.out (by kernel_rfl)) (fun _ _ _ h=>h) (Or.inl ⟨by rfl,?_⟩) ?_ ?_
          rotate_left
          ·intro w'
           go_simp
           with_reducible rfl
          rotate_left
          ·simp only [Act.put,s1_,s2_,s3_,i64_w,i32_w]
           rfl
          refine pure_ (i:=3) (N:=some 34) (v:=?_) (a':=?_) #[true,false,true,true,false,false,false,false] rfl rfl (any_of HT_.out (by kernel_rfl)) (fun _ _ _ h=>h) (Or.inl ⟨by rfl,?_⟩) ?_ ?_
          rotate_left
          ·intro w'
           go_simp
           with_reducible rfl
          rotate_left
          ·simp only [Act.put,s1_,s2_,s3_,i64_w,i32_w]
           rfl
          refine take_ (i:=1) (N:=some 32) (v:=?_) (a':=?_) #[true,true,true,true,false,false,false,false] rfl rfl (take_ofW HT_.out HW_.out (by kernel_rfl)) (fun _ _ _ h=>h) (Or.inl ⟨by rfl,?_⟩) hHeld ?_ ?_
          rotate_left
          ·rintro w' ⟨s0,s1⟩
           go_simp
           with_reducible rfl
          rotate_left
          ·simp only [Act.put,s1_,s2_,s3_,i64_w,i32_w]
           rfl
          refine take_ (i:=4) (N:=some 35) (v:=?_) (a':=?_) #[true,true,true,true,true,false,false,false] rfl rfl (take_ofW HT_.out HW_.out (by kernel_rfl)) (fun _ _ _ h=>h) (Or.inl ⟨by rfl,?_⟩) hHeld ?_ ?_
          rotate_left
          ·rintro w' ⟨s0,s1⟩
           go_simp
           with_reducible rfl
          rotate_left
          ·simp only [Act.put,s1_,s2_,s3_,i64_w,i32_w]
           rfl
          refine one_ (i:=5) (N:=some 36) #[true,true,true,true,true,true,false,false] rfl rfl (one_of HT_.out (by kernel_rfl)) (by decide) (fun K hK=>?_)
          refine goes_ Try.func135 (by kernel_rfl) rfl #[.slice Ao26 x3000_1.length co26,.string (rdOf ByteArray.empty t9 1)] (by rfl) rfl rfl lm_ ?_
          with_reducible refine (spec_classNamed.calls k1 _ _ x3000_1 (rdOf ByteArray.empty t9 1) t15 _ ?side1 ?side2 A15.out).mono ?_
          (case side1=>exact cc_ (Kd.R_reads' Z3.out).2.2)
          (case side2=>exact (Kd.R_reads' Z3.out).2.1)
          rintro e w' ⟨rfl,⟨nd,rfl⟩⟩
          refine ⟨_,rfl,?_⟩
          refine hK.out _ _ ⟨(blk_cell BK2.out 0).trans rfl,hHeld.2⟩ (fun hHeld=>?_)
          clear hK K
          refine norm_ (a':=?_) ?_ ?_
          rotate_left
          ·show Act.put _ (some 36) _ = _
           simp only [Act.put,s1_,s2_,s3_,i64_w,i32_w]
           rfl
          refine pure_ (i:=6) (N:=some 37) (v:=?_) (a':=?_) #[true,true,true,true,true,true,true,false] rfl rfl (any_of HT_.out (by kernel_rfl)) (fun _ _ _ h=>h) (Or.inl ⟨by rfl,?_⟩) ?_ ?_
          rotate_left
          ·intro w'
           go_simp
           with_reducible rfl
          rotate_left
          ·simp only [Act.put,s1_,s2_,s3_,i64_w,i32_w]
           rfl
          refine one_ (i:=7) (N:=none) #[true,true,true,true,true,true,true,true] rfl rfl (one_of HT_.out (by kernel_rfl)) (by decide) (fun K hK=>?_)
          have hs27 : w25.cell? ⟨gb13,1,none⟩ = some (.int .i64 (-1)):=(blk_cell BK13.out 1).trans rfl
          have hfs27:=blk_frozen BK13.out 1
          have hns27_0:=NB1_13.out
          have hns27_1:=NB2_13.out
          have hms27_0:=NB13_1.out
          have hms27_1:=NB13_2.out
          refine skip_ (w1:=?_) (by rfl) rfl ?_ ?_
          rotate_left
          ·go_simp
           rfl
          refine hK.out _ _ ⟨((cell_far (p:=⟨gb13,_,none⟩) NB2_13.out _).trans (hHeld.1)),((cell_far (p:=⟨gb13,_,none⟩) (by first | exact Kd.own_blk (Kd.R_ne HO11.out BK13.out (by decide)) | (rw [add_block];exact Kd.own_blk (Kd.R_ne HO11.out BK13.out (by decide))) | (show (Addr.add _ _).block ≠ _;rw [add_block];exact Kd.own_blk (Kd.R_ne HO11.out BK13.out (by decide))) | (dsimp only;exact Kd.own_blk (Kd.R_ne HO11.out BK13.out (by decide)))) _).trans (hHeld.2))⟩ (fun hHeld=>?_)
          clear hK K
          refine done_ (done_of HT_.out (by kernel_rfl)) ?_
          have hnb28:=NB2_1.out
          have hnc28:=NB1_2.out
          have hcz29_0 : w25.cell? ⟨gb2,0,none⟩ = some (.slice Ao26 x3000_1.length co26):=(blk_cell BK2.out 0).trans rfl
          have hfz29_0:=blk_frozen BK2.out 0
          have hcz30_0 : w25.cell? ⟨gb13,0,none⟩ = some (.string (rdOf ByteArray.empty t9 0)):=(blk_cell BK13.out 0).trans rfl
          have hcz30_1 : w25.cell? ⟨gb13,1,none⟩ = some (.int .i64 (-1)):=(blk_cell BK13.out 1).trans rfl
          have hfz30_0:=blk_frozen BK13.out 0
          have hfz30_1:=blk_frozen BK13.out 1
          try go_wp2_with (first | ((with_reducible refine gate_builtin (b:=.append) (xs:=#[.tmp 39,.tmp 41]) rfl ?_);at_builtin;refine Kd.R_append k125 (w0:=w) w.heap.size rfl (.tmp 39) (.tmp 41) 23 125 (.agg #[(.string ⟨#[]⟩),(.int .i64 0)]) 24 rfl Try.underlying23 info125 rfl (by decide) (by omega) (.slice Ao26 x3000_1.length co26) x3000_1 (⟨rdOf ByteArray.empty t9 0,t15⟩ : S125) [.string (rdOf ByteArray.empty t9 0),.int .i64 t15] (fun k_=>k_ ≠ gb13) (fun _=>False) rfl (by first | (go_simp;done) | (go_simp;rfl)) ?aP (fun _ hk=>hk.elim) ?aF ?aO ?aB ?aS ?aL ?_;(case aP=>exact k125_mkM _ _ _ (⟨rdOf ByteArray.empty t9 0,t15⟩ : S125));(case aB=>exact hbw_);(case aF=>exact (fun k_ hk=>Kd.freshB (g:=gb13) (o:=.cells #[.string (rdOf ByteArray.empty t9 0),.int .i64 t15] 125 (0,0)) (by (with_reducible repeat (first | refine blk_drewN ?_ _ | refine blk_drew ?_ | refine blk_alloc ?_ _));refine blk_put (cs:=#[.string (rdOf ByteArray.empty t9 0),.int .i64 (-1)]) ?_ 1 _ rfl;(with_reducible repeat (first | refine blk_drewN ?_ _ | refine blk_drew ?_ | refine blk_alloc ?_ _));exact BK13.out) k_ hk));(case aO=>exact (by (with_reducible repeat (first | apply Kd.R_alloc | apply Kd.R_drewN | apply Kd.R_drew));exact Kd.R_mono (Kd.R_far (p:=⟨gb13,1,none⟩) (Kd.R_mono Z3.out (fun k_ hk=>(⟨hk,hk⟩ : _ ∧ k_ ≠ gb13))) (fun _ hk=>hk.2) (.int .i64 t15)) (fun _ hk=>hk.1)));(case aS=>exact (below_size hbw_));(case aL=>have:=LMc16.out;omega);intro v17 w31 ho hb hg hat;rw [← Ny16.out] at ho;replace HO_5:=a0_ (Kd.R_over' (by (with_reducible repeat (first | apply Kd.R_alloc | apply Kd.R_drewN | apply Kd.R_drew));exact (Kd.R_mono (Kd.R_far (p:=⟨gb13,1,none⟩) (Kd.R_types HO_5.out BK13.out (by decide)) (fun _ hk=>hk.2) (.int .i64 t15)) (fun _ h_=>h_.1))) (Kd.R_typed (by (with_reducible repeat (first | apply Kd.R_alloc | apply Kd.R_drewN | apply Kd.R_drew));exact (Kd.R_mono (Kd.R_far (p:=⟨gb13,1,none⟩) (Kd.R_mono Z3.out (fun k_ hk=>(⟨hk,hk⟩ : _ ∧ k_ ≠ gb13))) (fun _ hk=>hk.2) (.int .i64 t15)) (fun _ h_=>h_.1)))) (by decide) hg);replace BK1:=a0_ (blk_grown (g:=gb1) (o:=.cells #[.slice none 0 0] 25 (0,0)) (bff_ BK1.out) hg (Kd.R_ne Z3.out BK1.out (by decide)));replace BK2:=a0_ (blk_grown (g:=gb2) (o:=.cells #[.slice Ao26 x3000_1.length co26] 25 (0,0)) (bff_ BK2.out) hg (Kd.R_ne Z3.out BK2.out (by decide)));replace HO11:=a0_ (Kd.R_over' (by (with_reducible repeat (first | apply Kd.R_alloc | apply Kd.R_drewN | apply Kd.R_drew));exact (Kd.R_mono (Kd.R_far (p:=⟨gb13,1,none⟩) (Kd.R_types HO11.out BK13.out (by decide)) (fun _ hk=>hk.2) (.int .i64 t15)) (fun _ h_=>h_.1))) (Kd.R_typed (by (with_reducible repeat (first | apply Kd.R_alloc | apply Kd.R_drewN | apply Kd.R_drew));exact (Kd.R_mono (Kd.R_far (p:=⟨gb13,1,none⟩) (Kd.R_mono Z3.out (fun k_ hk=>(⟨hk,hk⟩ : _ ∧ k_ ≠ gb13))) (fun _ hk=>hk.2) (.int .i64 t15)) (fun _ h_=>h_.1)))) (by decide) hg);replace BK13:=a0_ (blk_grown (g:=gb13) (o:=.cells #[.string (rdOf ByteArray.empty t9 0),.int .i64 t15] 125 (0,0)) (by (with_reducible repeat (first | refine blk_drewN ?_ _ | refine blk_drew ?_ | refine blk_alloc ?_ _));refine blk_put (cs:=#[.string (rdOf ByteArray.empty t9 0),.int .i64 (-1)]) ?_ 1 _ rfl;(with_reducible repeat (first | refine blk_drewN ?_ _ | refine blk_drew ?_ | refine blk_alloc ?_ _));exact BK13.out) hg (Kd.R_away Z3.out (fun _ hk=>hk)));have HO18:=a0_ (ho);replace HB:=a0_ (hb);clear Z3;clear ho hb hg hat;obtain ⟨Ao32,co32,eo32⟩:=Kd.R_slice HO18.out;subst eo32;have hcz33_0 : w31.cell? ⟨gb2,0,none⟩ = some (.slice Ao26 x3000_1.length co26):=(blk_cell BK2.out 0).trans rfl;have hfz33_0:=blk_frozen BK2.out 0))
          go_roundg k1
          case measure=>have:=HK1.out;omega
          case rel=>exact ⟨(wrap64 (x6_1 + 1)),(y16),(.slice Ao32 y16.length co32),(by first | rfl | (simp;done) | (simp [*];done)),H',⟨by have:=HK1.out;omega⟩,⟨by (with_reducible repeat (first | apply Kd.R_alloc | apply Kd.R_drewN | apply Kd.R_drew));exact Kd.R_mono (Kd.R_far (p:=⟨gb2,0,none⟩) (Kd.R_types HO_5.out BK2.out (by decide)) (fun _ hk=>hk.2) (.slice Ao32 y16.length co32)) (fun _ hk=>trivial)⟩,⟨by (with_reducible repeat (first | apply Kd.R_alloc | apply Kd.R_drewN | apply Kd.R_drew));exact Kd.R_mono (Kd.R_far (p:=⟨gb2,0,none⟩) (Kd.R_types HO18.out BK2.out (by decide)) (fun _ hk=>hk.2) (.slice Ao32 y16.length co32)) (fun _ hk=>trivial)⟩,⟨by (with_reducible repeat (first | refine blk_drewN ?_ _ | refine blk_drew ?_ | refine blk_alloc ?_ _));refine blk_far ?_ NB1_2.out _;(with_reducible repeat (first | refine blk_drewN ?_ _ | refine blk_drew ?_ | refine blk_alloc ?_ _));exact BK1.out⟩,⟨by (with_reducible repeat (first | refine blk_drewN ?_ _ | refine blk_drew ?_ | refine blk_alloc ?_ _));refine blk_put (cs:=#[.slice Ao26 x3000_1.length co26]) ?_ 0 _ rfl;(with_reducible repeat (first | refine blk_drewN ?_ _ | refine blk_drew ?_ | refine blk_alloc ?_ _));exact BK2.out⟩,⟨hbw_⟩⟩
         ·rw [if_neg c16] at H
          exact absurd H (by simp)
        ·rw [if_neg c14] at H
         exact absurd H (by simp)
       ·rw [if_neg c13] at H
        have c13b0 : ((t9.length : Int) == 2) = false:=beq_eq_false_iff_ne.mpr c13
        have c13b1 : ((t9.length : Int) != 2) = true:=bne_iff_ne.mpr c13
        by_cases c34 : x3000_1.length < 5864062014805
        ·rw [if_pos c34] at H
         have LMc34:=a0_ c34
         clear c34
         obtain ⟨y19,hy19⟩ : ∃ y_ : List (S125),y_ = (x3000_1 ++ [(⟨rdOf ByteArray.empty t9 0,(-1)⟩ : S125)]):=⟨_,rfl⟩
         replace H : (spec_parseTree.l0 k1 a0 t3 (wrap64 (x6_1 + 1)) y19) = some (r1,r2):=by first | (rw [hy19];with_reducible exact H) | (have H2_:=(Option.bind_some _ _).symm.trans H;rw [hy19];with_reducible exact H2_) | (have H2_:=(Option.bind_some _ _).symm.trans H;with_reducible exact H2_) | with_reducible exact H | (rw [hy19];exact H) | exact H
         have Ny19:=a0_ hy19
         clear hy19
         have H':=a0_ H
         clear H
         obtain ⟨Ao35,co35,eo35⟩:=Kd.R_slice HO_5.out
         subst eo35
         have p8 : 0 ≤ (x6_1 : Int):=of_decide_eq_true (by first | (with_reducible assumption) | assumption)
         have q8 : x6_1 < (t3.length : Int):=of_decide_eq_true (by first | (with_reducible assumption) | assumption)
         obtain ⟨ad8,e8,hx8_0⟩:=Kd.at_string (Kd.R_reads' HO_5.out).2.2 x6_1 p8 q8
         cases e8
         replace p8:=eq_true p8
         replace q8:=eq_true q8
         go_wp2_with (first | ((with_reducible refine gate_callee (f:=134) rfl ?_);refine goesL_ (some 23) rfl rfl Try.func134 (by kernel_rfl) rfl #[.string (rdOf ByteArray.empty t3 x6_1),.int .u8 32] rfl lm_ ?_;(with_reducible refine (spec_splitAt.calls k1 (rdOf ByteArray.empty t3 x6_1) 32 t9 _ A11.out).mono ?_);rintro e w36 ⟨v10,rfl,ho0,hb⟩;refine ⟨_,rfl,?_⟩;have n0_:=a0_ (Kd.R_elder' (rr_ HO_5.out) (Kd.R_base ho0) hb);have n1_:=rb_ Z3 hb;have n2_:=a0_ (Kd.R_lower (Kd.R_new' ho0 (Kd.R_lt (rr_ HO_5.out))) (below_size hbw_));have n3_:=kb_ BK1 hb;have n4_:=kb_ BK2 hb;have n5_:=a0_ (below_step hbw_ hb);clear HO_5 Z3;clear BK1 BK2 HB;have HO_5:=n0_;have Z3:=n1_;have HO11:=n2_;have BK1:=n3_;have BK2:=n4_;have HB:=n5_;clear n0_ n1_ n2_ n3_ n4_ n5_;(try clear hb);(try clear ho0);obtain ⟨Ao37,co37,eo37⟩:=Kd.R_slice HO11.out;subst eo37;have p12 : 0 ≤ (0 : Int):=(by omega);have q12 : 0 < (t9.length : Int):=of_decide_eq_true (by first | (with_reducible assumption) | assumption);obtain ⟨ad12,e12,hx12_0⟩:=Kd.at_string (Kd.R_reads' HO11.out).2.2 0 p12 q12;cases e12;have qi12 : (0 < t9.length) = True:=eq_true (by omega);(try rw [show ((0 : Int)).toNat = 0 from rfl] at hx12_0);(try rw [Addr.add_zero'] at hx12_0);replace p12:=eq_true p12;replace q12:=eq_true q12) | ((with_reducible refine gate_dst (N:=8) rfl ?_);refine box_event ?hg (N:=8) ?hd (cs:=#[.string (⟨#[]⟩ : ByteArray),.int .i64 0]) (t:=125) ?hr ?_;(case hd=>rfl);(case hg=>rfl);(case hr=>first | (go_simp;done) | (go_simp;rfl));intro gb13 hg w38 hbox hb;have n0_:=rb_ HO_5 hb;have n1_:=a0_ (Kd.R_below (Kd.R_elderB (rr_ Z3.out) gb13 (Nat.le_of_eq hg.symm)) hb);have n2_:=rb_ HO11 hb;have n3_:=kb_ BK1 hb;have n4_:=kb_ BK2 hb;have n5_:=a0_ (below_step hbw_ hb);have n6_:=a0_ (hbox);have n7_:=a0_ ((by rw [hg];exact (below_size hbw_) : w.heap.size ≤ gb13));have n8_:=a0_ ((by rw [hg];exact (below_size hbw_) : w.heap.size ≤ gb13));have n9_:=a0_ ((by rw [hg];exact Nat.ne_of_lt (blk_lt (bb_ BK1.out)) : gb1 ≠ gb13));have n10_:=a0_ ((by rw [hg];exact Nat.ne_of_gt (blk_lt (bb_ BK1.out)) : gb13 ≠ gb1));have n11_:=a0_ ((by rw [hg];exact Nat.ne_of_lt (blk_lt (bb_ BK2.out)) : gb2 ≠ gb13));have n12_:=a0_ ((by rw [hg];exact Nat.ne_of_gt (blk_lt (bb_ BK2.out)) : gb13 ≠ gb2));clear HO_5 Z3;clear HO11 BK1;clear BK2 HB;have HO_5:=n0_;have Z3:=n1_;have HO11:=n2_;have BK1:=n3_;have BK2:=n4_;have HB:=n5_;have BK13:=n6_;have GW13:=n7_;have GE13:=n8_;have NB1_13:=n9_;have NB13_1:=n10_;have NB2_13:=n11_;have NB13_2:=n12_;clear n0_ n1_ n2_ n3_ n4_ n5_ n6_ n7_ n8_ n9_ n10_ n11_ n12_;clear hb hbox hg;have hnb39:=NB13_1.out;have hnc39:=NB1_13.out;have hnb40:=NB13_2.out;have hnc40:=NB2_13.out;have hcz41_0 : w38.cell? ⟨gb13,0,none⟩ = some (.string (⟨#[]⟩ : ByteArray)):=(blk_cell BK13.out 0).trans rfl;have hcz41_1 : w38.cell? ⟨gb13,1,none⟩ = some (.int .i64 0):=(blk_cell BK13.out 1).trans rfl;have hfz41_0:=blk_frozen BK13.out 0;have hfz41_1:=blk_frozen BK13.out 1;have hnb42:=NB2_1.out;have hnc42:=NB1_2.out;have hcz43_0 : w38.cell? ⟨gb2,0,none⟩ = some (u3000):=(blk_cell BK2.out 0).trans rfl;have hfz43_0:=blk_frozen BK2.out 0) | ((with_reducible refine gate_builtin (b:=.append) (xs:=#[.tmp 39,.tmp 41]) rfl ?_);at_builtin;refine Kd.R_append k125 (w0:=w) w.heap.size rfl (.tmp 39) (.tmp 41) 23 125 (.agg #[(.string ⟨#[]⟩),(.int .i64 0)]) 24 rfl Try.underlying23 info125 rfl (by decide) (by omega) u3000 x3000_1 (⟨rdOf ByteArray.empty t9 0,(-1)⟩ : S125) [.string (rdOf ByteArray.empty t9 0),.int .i64 (-1)] (fun k_=>k_ ≠ gb13) (fun _=>False) rfl (by first | (go_simp;done) | (go_simp;rfl)) ?aP (fun _ hk=>hk.elim) ?aF ?aO ?aB ?aS ?aL ?_;(case aP=>exact k125_mkM _ _ _ (⟨rdOf ByteArray.empty t9 0,(-1)⟩ : S125));(case aB=>exact hbw_);(case aF=>exact (fun k_ hk=>Kd.freshB (g:=gb13) (o:=.cells #[.string (rdOf ByteArray.empty t9 0),.int .i64 (-1)] 125 (0,0)) (by (with_reducible repeat (first | refine blk_drewN ?_ _ | refine blk_drew ?_ | refine blk_alloc ?_ _));refine blk_put (cs:=#[.string (rdOf ByteArray.empty t9 0),.int .i64 0]) ?_ 1 _ rfl;(with_reducible repeat (first | refine blk_drewN ?_ _ | refine blk_drew ?_ | refine blk_alloc ?_ _));refine blk_put (cs:=#[.string (⟨#[]⟩ : ByteArray),.int .i64 0]) ?_ 0 _ rfl;(with_reducible repeat (first | refine blk_drewN ?_ _ | refine blk_drew ?_ | refine blk_alloc ?_ _));exact BK13.out) k_ hk));(case aO=>exact (by (with_reducible repeat (first | apply Kd.R_alloc | apply Kd.R_drewN | apply Kd.R_drew));exact Kd.R_mono (Kd.R_far (p:=⟨gb13,1,none⟩) (Kd.R_far (p:=⟨gb13,0,none⟩) (Kd.R_mono Z3.out (fun k_ hk=>(⟨hk,hk.2⟩ : _ ∧ k_ ≠ gb13))) (fun _ hk=>hk.2) (.string (rdOf ByteArray.empty t9 0))) (fun _ hk=>hk.2) (.int .i64 (-1))) (fun _ hk=>hk.1.2)));(case aS=>exact (below_size hbw_));(case aL=>have:=LMc34.out;omega);intro v20 w44 ho hb hg hat;rw [← Ny19.out] at ho;replace HO_5:=a0_ (Kd.R_over' (by (with_reducible repeat (first | apply Kd.R_alloc | apply Kd.R_drewN | apply Kd.R_drew));exact (Kd.R_mono (Kd.R_far (p:=⟨gb13,1,none⟩) (Kd.R_far (p:=⟨gb13,0,none⟩) (Kd.R_types HO_5.out BK13.out (by decide)) (fun _ hk=>hk.2) (.string (rdOf ByteArray.empty t9 0))) (fun _ hk=>hk.2) (.int .i64 (-1))) (fun _ h_=>h_.1))) (Kd.R_typed (by (with_reducible repeat (first | apply Kd.R_alloc | apply Kd.R_drewN | apply Kd.R_drew));exact (Kd.R_mono (Kd.R_far (p:=⟨gb13,1,none⟩) (Kd.R_far (p:=⟨gb13,0,none⟩) (Kd.R_mono Z3.out (fun k_ hk=>(⟨hk,hk.2⟩ : _ ∧ k_ ≠ gb13))) (fun _ hk=>hk.2) (.string (rdOf ByteArray.empty t9 0))) (fun _ hk=>hk.2) (.int .i64 (-1))) (fun _ h_=>h_.1)))) (by decide) hg);replace BK1:=a0_ (blk_grown (g:=gb1) (o:=.cells #[.slice none 0 0] 25 (0,0)) (bff_ BK1.out) hg (Kd.R_ne Z3.out BK1.out (by decide)));replace BK2:=a0_ (blk_grown (g:=gb2) (o:=.cells #[u3000] 25 (0,0)) (bff_ BK2.out) hg (Kd.R_ne Z3.out BK2.out (by decide)));replace HO11:=a0_ (Kd.R_over' (by (with_reducible repeat (first | apply Kd.R_alloc | apply Kd.R_drewN | apply Kd.R_drew));exact (Kd.R_mono (Kd.R_far (p:=⟨gb13,1,none⟩) (Kd.R_far (p:=⟨gb13,0,none⟩) (Kd.R_types HO11.out BK13.out (by decide)) (fun _ hk=>hk.2) (.string (rdOf ByteArray.empty t9 0))) (fun _ hk=>hk.2) (.int .i64 (-1))) (fun _ h_=>h_.1))) (Kd.R_typed (by (with_reducible repeat (first | apply Kd.R_alloc | apply Kd.R_drewN | apply Kd.R_drew));exact (Kd.R_mono (Kd.R_far (p:=⟨gb13,1,none⟩) (Kd.R_far (p:=⟨gb13,0,none⟩) (Kd.R_mono Z3.out (fun k_ hk=>(⟨hk,hk.2⟩ : _ ∧ k_ ≠ gb13))) (fun _ hk=>hk.2) (.string (rdOf ByteArray.empty t9 0))) (fun _ hk=>hk.2) (.int .i64 (-1))) (fun _ h_=>h_.1)))) (by decide) hg);replace BK13:=a0_ (blk_grown (g:=gb13) (o:=.cells #[.string (rdOf ByteArray.empty t9 0),.int .i64 (-1)] 125 (0,0)) (by (with_reducible repeat (first | refine blk_drewN ?_ _ | refine blk_drew ?_ | refine blk_alloc ?_ _));refine blk_put (cs:=#[.string (rdOf ByteArray.empty t9 0),.int .i64 0]) ?_ 1 _ rfl;(with_reducible repeat (first | refine blk_drewN ?_ _ | refine blk_drew ?_ | refine blk_alloc ?_ _));refine blk_put (cs:=#[.string (⟨#[]⟩ : ByteArray),.int .i64 0]) ?_ 0 _ rfl;(with_reducible repeat (first | refine blk_drewN ?_ _ | refine blk_drew ?_ | refine blk_alloc ?_ _));exact BK13.out) hg (Kd.R_away Z3.out (fun _ hk=>hk.2)));have HO21:=a0_ (ho);replace HB:=a0_ (hb);clear Z3;clear ho hb hg hat;obtain ⟨Ao45,co45,eo45⟩:=Kd.R_slice HO21.out;subst eo45;have hcz46_0 : w44.cell? ⟨gb2,0,none⟩ = some (u3000):=(blk_cell BK2.out 0).trans rfl;have hfz46_0:=blk_frozen BK2.out 0))
         go_roundg k1
         case measure=>have:=HK1.out;omega
         case rel=>exact ⟨(wrap64 (x6_1 + 1)),(y19),(.slice Ao45 y19.length co45),(by first | rfl | (simp;done) | (simp [*];done)),H',⟨by have:=HK1.out;omega⟩,⟨by (with_reducible repeat (first | apply Kd.R_alloc | apply Kd.R_drewN | apply Kd.R_drew));exact Kd.R_mono (Kd.R_far (p:=⟨gb2,0,none⟩) (Kd.R_types HO_5.out BK2.out (by decide)) (fun _ hk=>hk.2) (.slice Ao45 y19.length co45)) (fun _ hk=>trivial)⟩,⟨by (with_reducible repeat (first | apply Kd.R_alloc | apply Kd.R_drewN | apply Kd.R_drew));exact Kd.R_mono (Kd.R_far (p:=⟨gb2,0,none⟩) (Kd.R_types HO21.out BK2.out (by decide)) (fun _ hk=>hk.2) (.slice Ao45 y19.length co45)) (fun _ hk=>trivial)⟩,⟨by (with_reducible repeat (first | refine blk_drewN ?_ _ | refine blk_drew ?_ | refine blk_alloc ?_ _));refine blk_far ?_ NB1_2.out _;(with_reducible repeat (first | refine blk_drewN ?_ _ | refine blk_drew ?_ | refine blk_alloc ?_ _));exact BK1.out⟩,⟨by (with_reducible repeat (first | refine blk_drewN ?_ _ | refine blk_drew ?_ | refine blk_alloc ?_ _));refine blk_put (cs:=#[u3000]) ?_ 0 _ rfl;(with_reducible repeat (first | refine blk_drewN ?_ _ | refine blk_drew ?_ | refine blk_alloc ?_ _));exact BK2.out⟩,⟨hbw_⟩⟩
        ·rw [if_neg c34] at H
         exact absurd H (by simp)
      ·rw [if_neg c12] at H
       exact absurd H (by simp)
     ·rw [if_neg c10] at H
      exact absurd H (by simp)
    ·rw [if_neg c9] at H
     exact absurd H (by simp)
   ·rw [if_neg c8] at H
    have c8b0 : decide ((wrap64 (x6_1 + 1)) < (t3.length : Int)) = false:=decide_eq_false c8
    clear c8
    replace H:=Option.bind_eq_some_iff.mp H
    obtain ⟨t6,A470,H⟩:=H
    try dsimp only at H
    have A47:=a0_ A470
    clear A470
    by_cases c48 : t6 = true
    ·subst c48
     have H1 : ((spec_treeText.f k1 x3000_1).bind fun t7=>(some (x3000_1,(t7.toList == a0.toList)))) = some (r1,r2):=by rw [if_pos rfl] at H;exact H
     clear H
     have H:=H1
     clear H1
     replace H:=Option.bind_eq_some_iff.mp H
     obtain ⟨t7,A490,H⟩:=H
     replace H : (some (x3000_1,(t7.toList == a0.toList))) = some (r1,r2):=H
     have A49:=a0_ A490
     clear A490
     simp only [Option.some.injEq,Prod.mk.injEq] at H
     obtain ⟨rfl,rfl⟩:=H
     obtain ⟨Ao50,co50,eo50⟩:=Kd.R_slice HO_5.out
     subst eo50
     try go_wp2
     have n0_:=a0_ (Kd.R_drew HO_5.out)
     have n1_:=a0_ (Kd.R_drew Z3.out)
     have n2_:=a0_ (blk_drew BK1.out)
     have n3_:=a0_ (blk_drew BK2.out)
     have n4_:=a0_ (below_drew1 HB.out)
     clear HO_5
     clear Z3
     clear BK1
     clear BK2
     clear HB
     have HO_5:=n0_
     have Z3:=n1_
     have BK1:=n2_
     have BK2:=n3_
     have HB:=n4_
     clear n0_ n1_ n2_ n3_ n4_
     obtain ⟨Ao52,co52,eo52⟩:=Kd.R_slice Z3.out
     (first | subst eo52 | (injection eo52 with f1_ f2_ f3_;have f4_:=f1_.symm;have f5_:=f3_.symm;clear f1_ f2_ f3_;subst f4_;subst f5_))
     refine start_ (n:=11) (S:=fun w'=>w'.cell? ⟨gb2,0,none⟩ = some (.slice Ao52 x3000_1.length co52)) (ds:=[]) #[false,false,false,false,false,false,false,false,false,false,false] (by kernel_rfl) rfl rfl ((blk_cell BK2.out 0).trans rfl) (fun hHeld=>?_);refine with_tabW spec_parseTree.tab11 spec_parseTree.bits11 (fun HT_ HW_=>?_)
     generalize wr.drew = w51 at HO_5 Z3 BK1 BK2 HB hHeld ⊢
     refine take_ (i:=0) (N:=some 44) (v:=?_) (a':=?_) #[true,false,false,false,false,false,false,false,false,false,false] rfl rfl (take_ofW HT_.out HW_.out (by kernel_rfl)) (fun _ _ _ h=>h) (Or.inl ⟨by rfl,?_⟩) hHeld ?_ ?_
     rotate_left
     ·intro w' s0
      go_simp
      with_reducible rfl
     rotate_left
     ·simp only [Act.put,s1_,s2_,s3_,i64_w,i32_w]
      rfl
     refine take_ (i:=1) (N:=some 45) (v:=?_) (a':=?_) #[true,true,false,false,false,false,false,false,false,false,false] rfl rfl (take_ofW HT_.out HW_.out (by kernel_rfl)) (fun _ _ _ h=>h) (Or.inl ⟨by rfl,?_⟩) hHeld ?_ ?_
     rotate_left
     ·intro w' s0
      go_simp
      with_reducible rfl
     rotate_left
     ·simp only [Act.put,s1_,s2_,s3_,i64_w,i32_w]
      rfl
     refine one_ (i:=2) (N:=some 46) #[true,true,true,false,false,false,false,false,false,false,false] rfl rfl (one_of HT_.out (by kernel_rfl)) (by decide) (fun K hK=>?_)
     refine goes_ Try.func107 (by kernel_rfl) rfl #[.agg #[.slice Ao52 x3000_1.length co52]] (by rfl) rfl rfl lm_ ?_
     with_reducible refine (spec_validTree.calls _ _ x3000_1 true _ ?side1 ?side2 A47.out).mono ?_
     (case side1=>exact cc_ (Kd.R_reads' Z3.out).2.2)
     (case side2=>exact (Kd.R_reads' Z3.out).2.1)
     rintro e w53 ⟨rfl,hb⟩
     refine ⟨_,rfl,?_⟩
     have n0_:=rb_ HO_5 hb
     have n1_:=rb_ Z3 hb
     have n2_:=kb_ BK1 hb
     have n3_:=kb_ BK2 hb
     have n4_:=a0_ (below_step hbw_ hb)
     clear HO_5
     clear Z3
     clear BK1
     clear BK2
     clear HB
     have HO_5:=n0_
     have Z3:=n1_
     have BK1:=n2_
     have BK2:=n3_
     have HB:=n4_
     clear n0_ n1_ n2_ n3_ n4_
     (try clear hb)
     (try clear hb2)
     (try clear hk)
     (try clear hi)
     refine hK.out _ _ ((blk_cell BK2.out 0).trans rfl) (fun hHeld=>?_)
     clear hK K
     refine norm_ (a':=?_) ?_ ?_
     rotate_left
     ·show Act.put _ (some 46) _ = _
      simp only [Act.put,s1_,s2_,s3_,i64_w,i32_w]
      rfl
     refine pure_ (i:=3) (N:=some 47) (v:=?_) (a':=?_) #[true,true,true,true,false,false,false,false,false,false,false] rfl rfl (any_of HT_.out (by kernel_rfl)) (fun _ _ _ h=>h) (Or.inl ⟨by rfl,?_⟩) ?_ ?_
     rotate_left
     ·intro w'
      go_simp
      with_reducible rfl
     rotate_left
     ·simp only [Act.put,s1_,s2_,s3_,i64_w,i32_w]
      rfl
     refine pure_ (i:=6) (N:=some 50) (v:=?_) (a':=?_) #[true,true,true,true,false,false,true,false,false,false,false] rfl rfl (any_of HT_.out (by kernel_rfl)) (fun _ _ _ h=>h) (Or.inl ⟨by rfl,?_⟩) ?_ ?_
     rotate_left
     ·intro w'
      go_simp
      with_reducible rfl
     rotate_left
     ·simp only [Act.put,s1_,s2_,s3_,i64_w,i32_w]
      rfl
     refine take_ (i:=4) (N:=some 48) (v:=?_) (a':=?_) #[true,true,true,true,true,false,true,false,false,false,false] rfl rfl (take_ofW HT_.out HW_.out (by kernel_rfl)) (fun _ _ _ h=>h) (Or.inl ⟨by rfl,?_⟩) hHeld ?_ ?_
     rotate_left
     ·intro w' s0
      go_simp
      with_reducible rfl
     rotate_left
     ·simp only [Act.put,s1_,s2_,s3_,i64_w,i32_w]
      rfl
     refine one_ (i:=5) (N:=some 49) #[true,true,true,true,true,true,true,false,false,false,false] rfl rfl (one_of HT_.out (by kernel_rfl)) (by decide) (fun K hK=>?_)
     refine goes_ Try.func108 (by kernel_rfl) rfl #[.agg #[.slice Ao52 x3000_1.length co52]] (by rfl) rfl rfl lm_ ?_
     with_reducible refine (spec_treeText.calls k1 _ _ x3000_1 t7 _ ?side1 ?side2 A49.out).mono ?_
     (case side1=>exact cc_ (Kd.R_reads' Z3.out).2.2)
     (case side2=>exact (Kd.R_reads' Z3.out).2.1)
     rintro e w54 ⟨rfl,hb⟩
     refine ⟨_,rfl,?_⟩
     have n0_:=rb_ HO_5 hb
     have n1_:=rb_ Z3 hb
     have n2_:=kb_ BK1 hb
     have n3_:=kb_ BK2 hb
     have n4_:=a0_ (below_step hbw_ hb)
     clear HO_5
     clear Z3
     clear BK1
     clear BK2
     clear HB
     have HO_5:=n0_
     have Z3:=n1_
     have BK1:=n2_
     have BK2:=n3_
     have HB:=n4_
     clear n0_ n1_ n2_ n3_ n4_
     (try clear hb)
     (try clear hb2)
     (try clear hk)
     (try clear hi)
     refine hK.out _ _ ((blk_cell BK2.out 0).trans rfl) (fun hHeld=>?_)
     clear hK K
     refine norm_ (a':=?_) ?_ ?_
     rotate_left
     ·show Act.put _ (some 49) _ = _
      simp only [Act.put,s1_,s2_,s3_,i64_w,i32_w]
      rfl
     refine pure_ (i:=7) (N:=some 51) (v:=?_) (a':=?_) #[true,true,true,true,true,true,true,true,false,false,false] rfl rfl (any_of HT_.out (by kernel_rfl)) (fun _ _ _ h=>h) (Or.inl ⟨by rfl,?_⟩) ?_ ?_
     rotate_left
     ·intro w'
      go_simp
      with_reducible rfl
     rotate_left
     ·simp only [Act.put,s1_,s2_,s3_,i64_w,i32_w]
      rfl
     refine pure_ (i:=8) (N:=some 52) (v:=?_) (a':=?_) #[true,true,true,true,true,true,true,true,true,false,false] rfl rfl (any_of HT_.out (by kernel_rfl)) (fun _ _ _ h=>h) (Or.inl ⟨by rfl,?_⟩) ?_ ?_
     rotate_left
     ·intro w'
      go_simp
      with_reducible rfl
     rotate_left
     ·simp only [Act.put,s1_,s2_,s3_,i64_w,i32_w]
      rfl
     refine one_ (i:=9) (N:=none) #[true,true,true,true,true,true,true,true,true,true,false] rfl rfl (one_of HT_.out (by kernel_rfl)) (by decide) (fun K hK=>?_)
     have hs55 : w54.cell? ⟨gb1,0,none⟩ = some (.slice none 0 0):=(blk_cell BK1.out 0).trans rfl
     have hfs55:=blk_frozen BK1.out 0
     have hns55_1:=NB2_1.out
     have hms55_1:=NB1_2.out
     refine skip_ (w1:=?_) (by rfl) rfl ?_ ?_
     rotate_left
     ·go_simp
      rfl
     refine hK.out _ _ (((cell_far (p:=⟨gb1,_,none⟩) NB2_1.out _).trans (hHeld))) (fun hHeld=>?_)
     clear hK K
     refine pure_ (i:=10) (N:=some 3) (v:=?_) (a':=?_) #[true,true,true,true,true,true,true,true,true,true,true] rfl rfl (any_of HT_.out (by kernel_rfl)) (fun _ _ _ h=>h) (Or.inl ⟨by rfl,?_⟩) ?_ ?_
     rotate_left
     ·intro w'
      go_simp
      with_reducible rfl
     rotate_left
     ·simp only [Act.put,s1_,s2_,s3_,i64_w,i32_w]
      rfl
     refine done_ (done_of HT_.out (by kernel_rfl)) ?_
     try go_wp2
     refine bodyPost_ret (results_ct rfl _ _ gb1 25 #[.slice Ao52 x3000_1.length co52] (0,0) _ rfl (by (with_reducible repeat (first | refine blk_drewN ?_ _ | refine blk_drew ?_ | refine blk_alloc ?_ _));refine blk_put (cs:=#[.slice none 0 0]) ?_ 0 _ rfl;(with_reducible repeat (first | refine blk_drewN ?_ _ | refine blk_drew ?_ | refine blk_alloc ?_ _));exact BK1.out) Try.underlying25 rfl (by kernel_rfl)) rfl ?_
     exact ⟨_,by first | rfl | (simp [errW_none,errW_some] <;> rfl) | (simp [*,errW_none,errW_some] <;> rfl),by (with_reducible repeat (first | apply Kd.R_alloc | apply Kd.R_drewN | apply Kd.R_drew));exact Kd.R_mono (Kd.R_far (p:=⟨gb1,0,none⟩) (Kd.R_types Z3.out BK1.out (by decide)) (fun _ hk=>hk.2) (.slice Ao52 x3000_1.length co52)) (fun _ hk=>trivial),hbw_⟩
    ·replace c48:=Bool.eq_false_iff.mpr c48
     subst c48
     have H1 : (some (x3000_1,false)) = some (r1,r2):=by rw [if_neg (show ¬ (false = true) by decide)] at H;exact H
     clear H
     have H:=H1
     clear H1
     simp only [Option.some.injEq,Prod.mk.injEq] at H
     obtain ⟨rfl,rfl⟩:=H
     obtain ⟨Ao56,co56,eo56⟩:=Kd.R_slice HO_5.out
     subst eo56
     try go_wp2
     have n0_:=a0_ (Kd.R_drew HO_5.out)
     have n1_:=a0_ (Kd.R_drew Z3.out)
     have n2_:=a0_ (blk_drew BK1.out)
     have n3_:=a0_ (blk_drew BK2.out)
     have n4_:=a0_ (below_drew1 HB.out)
     clear HO_5
     clear Z3
     clear BK1
     clear BK2
     clear HB
     have HO_5:=n0_
     have Z3:=n1_
     have BK1:=n2_
     have BK2:=n3_
     have HB:=n4_
     clear n0_ n1_ n2_ n3_ n4_
     obtain ⟨Ao58,co58,eo58⟩:=Kd.R_slice Z3.out
     (first | subst eo58 | (injection eo58 with f1_ f2_ f3_;have f4_:=f1_.symm;have f5_:=f3_.symm;clear f1_ f2_ f3_;subst f4_;subst f5_))
     refine start_ (n:=11) (S:=fun w'=>w'.cell? ⟨gb2,0,none⟩ = some (.slice Ao58 x3000_1.length co58)) (ds:=[]) #[false,false,false,false,false,false,false,false,false,false,false] (by kernel_rfl) rfl rfl ((blk_cell BK2.out 0).trans rfl) (fun hHeld=>?_);refine with_tabW spec_parseTree.tab11 spec_parseTree.bits11 (fun HT_ HW_=>?_)
     generalize wr.drew = w57 at HO_5 Z3 BK1 BK2 HB hHeld ⊢
     refine take_ (i:=0) (N:=some 44) (v:=?_) (a':=?_) #[true,false,false,false,false,false,false,false,false,false,false] rfl rfl (take_ofW HT_.out HW_.out (by kernel_rfl)) (fun _ _ _ h=>h) (Or.inl ⟨by rfl,?_⟩) hHeld ?_ ?_
     rotate_left
     ·intro w' s0
      go_simp
      with_reducible rfl
     rotate_left
     ·simp only [Act.put,s1_,s2_,s3_,i64_w,i32_w]
      rfl
     refine take_ (i:=1) (N:=some 45) (v:=?_) (a':=?_) #[true,true,false,false,false,false,false,false,false,false,false] rfl rfl (take_ofW HT_.out HW_.out (by kernel_rfl)) (fun _ _ _ h=>h) (Or.inl ⟨by rfl,?_⟩) hHeld ?_ ?_
     rotate_left
     ·intro w' s0
      go_simp
      with_reducible rfl
     rotate_left
     ·simp only [Act.put,s1_,s2_,s3_,i64_w,i32_w]
      rfl
     refine one_ (i:=2) (N:=some 46) #[true,true,true,false,false,false,false,false,false,false,false] rfl rfl (one_of HT_.out (by kernel_rfl)) (by decide) (fun K hK=>?_)
     refine goes_ Try.func107 (by kernel_rfl) rfl #[.agg #[.slice Ao58 x3000_1.length co58]] (by rfl) rfl rfl lm_ ?_
     with_reducible refine (spec_validTree.calls _ _ x3000_1 false _ ?side1 ?side2 A47.out).mono ?_
     (case side1=>exact cc_ (Kd.R_reads' Z3.out).2.2)
     (case side2=>exact (Kd.R_reads' Z3.out).2.1)
     rintro e w59 ⟨rfl,hb⟩
     refine ⟨_,rfl,?_⟩
     have n0_:=rb_ HO_5 hb
     have n1_:=rb_ Z3 hb
     have n2_:=kb_ BK1 hb
     have n3_:=kb_ BK2 hb
     have n4_:=a0_ (below_step hbw_ hb)
     clear HO_5
     clear Z3
     clear BK1
     clear BK2
     clear HB
     have HO_5:=n0_
     have Z3:=n1_
     have BK1:=n2_
     have BK2:=n3_
     have HB:=n4_
     clear n0_ n1_ n2_ n3_ n4_
     (try clear hb)
     (try clear hb2)
     (try clear hk)
     (try clear hi)
     refine hK.out _ _ ((blk_cell BK2.out 0).trans rfl) (fun hHeld=>?_)
     clear hK K
     refine norm_ (a':=?_) ?_ ?_
     rotate_left
     ·show Act.put _ (some 46) _ = _
      simp only [Act.put,s1_,s2_,s3_,i64_w,i32_w]
      rfl
     refine pure_ (i:=3) (N:=some 47) (v:=?_) (a':=?_) #[true,true,true,true,false,false,false,false,false,false,false] rfl rfl (any_of HT_.out (by kernel_rfl)) (fun _ _ _ h=>h) (Or.inl ⟨by rfl,?_⟩) ?_ ?_
     rotate_left
     ·intro w'
      go_simp
      with_reducible rfl
     rotate_left
     ·simp only [Act.put,s1_,s2_,s3_,i64_w,i32_w]
      rfl
     refine pure_ (i:=4) (N:=some 48) (v:=undef) (a':=?_) #[true,true,true,true,true,false,false,false,false,false,false] rfl rfl (any_of HT_.out (by kernel_rfl)) (fun _ _ _ h=>h) (Or.inr ⟨by rfl,rfl⟩) ?_ ?_
     rotate_left
     ·simp only [Act.put,s1_,s2_,s3_,i64_w,i32_w]
      rfl
     refine pure_ (i:=5) (N:=some 49) (v:=undef) (a':=?_) #[true,true,true,true,true,true,false,false,false,false,false] rfl rfl (any_of HT_.out (by kernel_rfl)) (fun _ _ _ h=>h) (Or.inr ⟨by rfl,rfl⟩) ?_ ?_
     rotate_left
     ·simp only [Act.put,s1_,s2_,s3_,i64_w,i32_w]
      rfl
     refine pure_ (i:=6) (N:=some 50) (v:=undef) (a':=?_) #[true,true,true,true,true,true,true,false,false,false,false] rfl rfl (any_of HT_.out (by kernel_rfl)) (fun _ _ _ h=>h) (Or.inr ⟨by rfl,rfl⟩) ?_ ?_
     rotate_left
     ·simp only [Act.put,s1_,s2_,s3_,i64_w,i32_w]
      rfl
     refine pure_ (i:=7) (N:=some 51) (v:=undef) (a':=?_) #[true,true,true,true,true,true,true,true,false,false,false] rfl rfl (any_of HT_.out (by kernel_rfl)) (fun _ _ _ h=>h) (Or.inr ⟨by rfl,rfl⟩) ?_ ?_
     rotate_left
     ·simp only [Act.put,s1_,s2_,s3_,i64_w,i32_w]
      rfl
     refine pure_ (i:=8) (N:=some 52) (v:=?_) (a':=?_) #[true,true,true,true,true,true,true,true,true,false,false] rfl rfl (any_of HT_.out (by kernel_rfl)) (fun _ _ _ h=>h) (Or.inl ⟨by rfl,?_⟩) ?_ ?_
     rotate_left
     ·intro w'
      go_simp
      with_reducible rfl
     rotate_left
     ·simp only [Act.put,s1_,s2_,s3_,i64_w,i32_w]
      rfl
     refine one_ (i:=9) (N:=none) #[true,true,true,true,true,true,true,true,true,true,false] rfl rfl (one_of HT_.out (by kernel_rfl)) (by decide) (fun K hK=>?_)
     have hs60 : w59.cell? ⟨gb1,0,none⟩ = some (.slice none 0 0):=(blk_cell BK1.out 0).trans rfl
     have hfs60:=blk_frozen BK1.out 0
     have hns60_1:=NB2_1.out
     have hms60_1:=NB1_2.out
     refine skip_ (w1:=?_) (by rfl) rfl ?_ ?_
     rotate_left
     ·go_simp
      rfl
     refine hK.out _ _ (((cell_far (p:=⟨gb1,_,none⟩) NB2_1.out _).trans (hHeld))) (fun hHeld=>?_)
     clear hK K
     refine pure_ (i:=10) (N:=some 3) (v:=?_) (a':=?_) #[true,true,true,true,true,true,true,true,true,true,true] rfl rfl (any_of HT_.out (by kernel_rfl)) (fun _ _ _ h=>h) (Or.inl ⟨by rfl,?_⟩) ?_ ?_
     rotate_left
     ·intro w'
      go_simp
      with_reducible rfl
     rotate_left
     ·simp only [Act.put,s1_,s2_,s3_,i64_w,i32_w]
      rfl
     refine done_ (done_of HT_.out (by kernel_rfl)) ?_
     try go_wp2
     refine bodyPost_ret (results_ct rfl _ _ gb1 25 #[.slice Ao58 x3000_1.length co58] (0,0) _ rfl (by (with_reducible repeat (first | refine blk_drewN ?_ _ | refine blk_drew ?_ | refine blk_alloc ?_ _));refine blk_put (cs:=#[.slice none 0 0]) ?_ 0 _ rfl;(with_reducible repeat (first | refine blk_drewN ?_ _ | refine blk_drew ?_ | refine blk_alloc ?_ _));exact BK1.out) Try.underlying25 rfl (by kernel_rfl)) rfl ?_
     exact ⟨_,by first | rfl | (simp [errW_none,errW_some] <;> rfl) | (simp [*,errW_none,errW_some] <;> rfl),by (with_reducible repeat (first | apply Kd.R_alloc | apply Kd.R_drewN | apply Kd.R_drew));exact Kd.R_mono (Kd.R_far (p:=⟨gb1,0,none⟩) (Kd.R_types Z3.out BK1.out (by decide)) (fun _ hk=>hk.2) (.slice Ao58 x3000_1.length co58)) (fun _ hk=>trivial),hbw_⟩
def szT (t : List Cls) (n : Nat) : Prop:=∀ x ∈ t,x.f0.size ≤ n
theorem smT_sz {t : List Cls} {n : Nat} (h : szT t n) (hn : n ≤ 9223372036854775806) : smT t = true:=by
 unfold smT
 rw [List.all_eq_true]
 intro x hx
 have:=h x hx
 exact decide_eq_true (by omega)
theorem szT_snoc {t : List Cls} {n : Nat} (h : szT t n) (x : Cls) (hx : x.f0.size ≤ n) : szT (t ++ [x]) n:=by
 intro y hy
 rcases List.mem_append.1 hy with hy | hy
 ·exact h y hy
 ·obtain rfl : y = x:=by simpa using hy
  exact hx
theorem toL_eqB {a b : ByteArray} : (a.toList == b.toList) = decide (a = b):=toL_beq
theorem splA_get (c : UInt8) (l : List UInt8) (i : Nat) : ((splA c [] l).getD i []).length ≤ l.length:=by
 by_cases h : i < (splA c [] l).length
 ·have:=splA_mem c l [] _ (List.getElem_mem h)
  rw [List.getD_eq_getElem?_getD,List.getElem?_eq_getElem h]
  simpa using this
 ·rw [List.getD_eq_getElem?_getD,List.getElem?_eq_none (by omega)]
  simp
theorem rdOf_map (l : List (List UInt8)) (i : Nat) : rdOf ByteArray.empty (l.map toB) (i : Int) = toB (l.getD i []):=by
 unfold rdOf
 rw [Int.toNat_natCast,List.getD_eq_getElem?_getD,List.getElem?_map,List.getD_eq_getElem?_getD]
 cases l[i]? <;> rfl
theorem parS_step (acc : List Cls) (l : List (List UInt8)) (i : Nat) (hi : i < l.length) : parS acc (l.drop i) = parS (acc ++ [clsS acc (toB (l.getD i []))]) (l.drop (i + 1)):=by
 rw [List.drop_eq_getElem_cons hi,parS]
 simp [List.getD,hi]
theorem spec_parseTree_l0 (s : ByteArray) (ls : List (List UInt8)) (hls : ∀ x ∈ ls,x.length ≤ s.size) (hs : s.size ≤ 5864062000000) (hl1 : ls.length ≤ s.size + 1) : ∀ (d i : Nat) (acc : List Cls),i + d + 1 = ls.length → acc.length ≤ i → szT acc s.size → Ev (fun k=>spec_parseTree.l0 k s (ls.map toB) (i : Int) acc) (parS acc (ls.dropLast.drop i),okTx (parS acc (ls.dropLast.drop i)) s):=by
 intro d
 induction d with
 | zero =>
  intro i acc hi ha hz
  have hsm:=smT_sz hz (by omega)
  have h1 : spec_validTree.f acc = some (vT acc):=by rw [spec_validTree.f,if_pos hsm]
  have hw : wrap64 ((i : Int) + 1) = (i : Int) + 1:=wrap_in (by omega) (by omega)
  rw [List.drop_of_length_le (by rw [List.length_dropLast];omega),parS]
  refine Ev.succ ?_
  simp only [spec_parseTree.l0]
  rw [List.length_map,hw]
  refine Ev.neg (by omega) (Ev.bind (Ev.const h1) ?_)
  unfold okTx
  cases hv : vT acc with
  | true =>
   refine Ev.pos rfl (Ev.bind (spec_treeText_ev acc hv) (Ev.const ?_))
   rw [toL_eqB]
   rfl
  | false=>exact Ev.neg (by simp) (Ev.const rfl)
 | succ d ih =>
  intro i acc hi ha hz
  have hw : wrap64 ((i : Int) + 1) = ((i + 1 : Nat) : Int):=by rw [wrap_in (by omega) (by omega)];omega
  have hlt : i < ls.length:=by omega
  have hd : ls.dropLast.getD i [] = ls.getD i []:=by
   rw [List.getD_eq_getElem?_getD,List.getD_eq_getElem?_getD,List.getElem?_dropLast,if_pos (by omega)]
  rw [parS_step acc ls.dropLast i (by rw [List.length_dropLast];omega),hd]
  have hm : (ls.getD i []).length ≤ s.size:=by
   rw [List.getD_eq_getElem?_getD,List.getElem?_eq_getElem hlt]
   exact hls _ (List.getElem_mem hlt)
  generalize hline : ls.getD i [] = line at hm
  have hq:=spec_splitAt_ev (toB line) 32 32 rfl (by rw [toB_size];omega)
  rw [ofB_toB] at hq
  have hlen:=splA_len 32 line []
  have hsz:=splA_get 32 line 0
  have hnew : (toB ((splA 32 [] line).getD 0 [])).size ≤ s.size:=by rw [toB_size];omega
  refine Ev.succ ?_
  simp only [spec_parseTree.l0]
  rw [List.length_map,hw,rdOf_map,hline]
  refine Ev.pos (by omega) ?_
  refine Ev.pos (by omega) ?_
  refine Ev.pos (by omega) ?_
  refine Ev.bind hq ?_
  rw [List.length_map]
  refine Ev.pos (by omega) ?_
  have e0 : rdOf ByteArray.empty ((splA 32 [] line).map toB) 0 = toB ((splA 32 [] line).getD 0 []):=rdOf_map _ 0
  have e1 : rdOf ByteArray.empty ((splA 32 [] line).map toB) 1 = toB ((splA 32 [] line).getD 1 []):=rdOf_map _ 1
  rw [e0,e1]
  have hcl : clsS acc (toB line) = ⟨toB ((splA 32 [] line).getD 0 []),if (splA 32 [] line).length = 2 then named acc (toB ((splA 32 [] line).getD 1 [])) else -1⟩:=by unfold clsS;rw [ofB_toB]
  rw [hcl]
  by_cases h2 : (splA 32 [] line).length = 2
  ·rw [if_pos h2]
   refine Ev.pos (by omega) ?_
   refine Ev.pos (by omega) ?_
   refine Ev.bind (x:=named acc (toB ((splA 32 [] line).getD 1 []))) ?_ ?_
   ·exact Ev.of_mono (spec_classNamed.mono acc (toB ((splA 32 [] line).getD 1 []))) (K:=acc.length + 1) (spec_classNamed_ev acc _ (by omega))
   ·refine Ev.pos (by omega) ?_
    exact ih (i + 1) _ (by omega) (by simp;omega) (szT_snoc hz _ hnew)
  ·rw [if_neg h2]
   refine Ev.neg (by omega) ?_
   refine Ev.pos (by omega) ?_
   exact ih (i + 1) _ (by omega) (by simp;omega) (szT_snoc hz _ hnew)
theorem spec_parseTree_ev (s : ByteArray) (hs : s.size ≤ 5864062000000) : Ev (fun k=>spec_parseTree.f k s) (parS [] (linS s),okTx (parS [] (linS s)) s):=by
 have hl:=splA_len 10 (ofB s) []
 rw [ofB_len] at hl
 have h:=spec_parseTree_l0 s (splA 10 [] (ofB s)) (fun x hx=>by have:=splA_mem 10 (ofB s) [] x hx;rw [ofB_len] at this;simpa using this) hs hl.2 ((splA 10 [] (ofB s)).length - 1) 0 [] (by omega) (by simp) (fun x hx=>absurd hx (by simp))
 unfold spec_parseTree.f
 exact Ev.bind (spec_splitAt_ev s 10 10 rfl (by omega)) h
end Go.Proofs.Ytacgehaipacehaa.P
namespace Go.Proofs.Ytacgehaipacehaa.P
open Go.RowKit Go.Proofs.YtacgehaipacehaaW.PrintWords Go.Proofs.YtacgehaipacehaaW.PrintLast Go.Proofs.YtacgehaipacehaaW.PrintMore
attribute [local go_sem] max2_int min2_int max_two min_two max_three min_three max_four min_four
set_option linter.unusedVariables false
set_option linter.unusedSimpArgs false
def spec_ParseTree.f (k : Nat) (a0 : ByteArray) : Option ((List (S125)) × Bool):=(spec_parseTree.f k a0).bind fun bt2=>(if bt2.2 = true then (some (bt2.1,true)) else (some (([] : List (S125)),false)))
theorem spec_ParseTree.mono : ∀ a0 k,LeO (spec_ParseTree.f k a0) (spec_ParseTree.f (k + 1) a0):=by
 intro a0 k
 unfold spec_ParseTree.f
 repeat' first
   | (with_reducible exact spec_parseTree.mono _ _)
   | (with_reducible exact LeO.refl _)
   | (with_reducible exact LeO.none _)
   | (with_reducible refine LeO.ite ?_ ?_)
   | (with_reducible refine LeO.bind ?_ (fun _=>?_))
   | exact spec_parseTree.mono _ _
   | exact LeO.none _
   | refine LeO.ite ?_ ?_
   | refine LeO.bind ?_ (fun _=>?_)
set_option maxHeartbeats 8000000 in
set_option maxRecDepth 100000 in
theorem spec_ParseTree.calls (k : Nat) (a0 : ByteArray) (r1 : List (S125)) (r2 : Bool) (w : World) (h : spec_ParseTree.f k a0 = some (r1,r2)) :
  Calls Try.prog 38 #[.string a0] w fun e w'=>∃ v0_ : Value,e = .returned (.tuple #[.agg #[v0_],.bool r2]) ∧ Kd.R k125 125 w' w.heap.size (fun _=>True) v0_ r1 ∧ Below w.heap.size w w':=by
 have hu25:=Try.underlying25
 have HB:=a0_ (Below.refl w.heap.size w)
 have H : ((spec_parseTree.f k a0).bind fun bt2=>(if bt2.2 = true then (some (bt2.1,true)) else (some (([] : List (S125)),false)))) = some (r1,r2):=h
 clear h
 replace H:=Option.bind_eq_some_iff.mp H
 obtain ⟨⟨t2,t5⟩,A20,H⟩:=H
 try dsimp only at H
 have A2:=a0_ A20
 clear A20
 by_cases c3 : t5 = true
 ·subst c3
  have H1 : (some (t2,true)) = some (r1,r2):=by rw [if_pos rfl] at H;exact H
  clear H
  have H:=H1
  clear H1
  simp only [Option.some.injEq,Prod.mk.injEq] at H
  obtain ⟨rfl,rfl⟩:=H
  go_enter Try.func38,Try.ntmps38
  go_wp2_with (first | ((with_reducible refine gate_dst (N:=2) rfl ?_);refine box_event ?hg (N:=2) ?hd (cs:=#[.slice none 0 0]) (t:=25) ?hr ?_;(case hd=>rfl);(case hg=>rfl);(case hr=>first | (go_simp;done) | (go_simp;rfl));intro gb1 hg w4 hbox hb;have BK1:=a0_ (hbox);have GW1:=a0_ ((by rw [hg];exact (below_size hbw_) : w.heap.size ≤ gb1));have GE1:=a0_ ((by rw [hg];exact (below_size hbw_) : w.heap.size ≤ gb1));replace HB:=a0_ (below_step hbw_ hb);clear hb hbox hg) | ((with_reducible refine gate_callee (f:=90) rfl ?_);refine goesL_ (some 8) rfl rfl Try.func90 (by kernel_rfl) rfl #[.string a0] rfl lm_ ?_;(with_reducible refine (spec_parseTree.calls k a0 t2 true _ A2.out).mono ?_);rintro e w5 ⟨v3,rfl,ho0,hb⟩;refine ⟨_,rfl,?_⟩;have HO4:=a0_ (Kd.R_lower ho0 (below_size hbw_));replace BK1:=kb_ BK1 hb;replace HB:=a0_ (below_step hbw_ hb);(try clear hb);(try clear ho0)) | ((with_reducible refine gate_dst (N:=4) rfl ?_);refine box_event ?hg (N:=4) ?hd (cs:=#[.slice none 0 0]) (t:=25) ?hr ?_;(case hd=>rfl);(case hg=>rfl);(case hr=>first | (go_simp;done) | (go_simp;rfl));intro gb6 hg w6 hbox hb;have n0_:=rb_ HO4 hb;have n1_:=kb_ BK1 hb;have n2_:=a0_ (below_step hbw_ hb);have n3_:=a0_ (hbox);have n4_:=a0_ ((by rw [hg];exact (below_size hbw_) : w.heap.size ≤ gb6));have n5_:=a0_ ((by rw [hg];exact (below_size hbw_) : w.heap.size ≤ gb6));have n6_:=a0_ ((by rw [hg];exact Nat.ne_of_lt (blk_lt (bb_ BK1.out)) : gb1 ≠ gb6));have n7_:=a0_ ((by rw [hg];exact Nat.ne_of_gt (blk_lt (bb_ BK1.out)) : gb6 ≠ gb1));clear HO4 BK1 HB;have HO4:=n0_;have BK1:=n1_;have HB:=n2_;have BK6:=n3_;have GW6:=n4_;have GE6:=n5_;have NB1_6:=n6_;have NB6_1:=n7_;clear n0_ n1_ n2_ n3_ n4_ n5_ n6_ n7_;clear hb hbox hg;obtain ⟨Ao7,co7,eo7⟩:=Kd.R_slice HO4.out;subst eo7;have hnb8:=NB6_1.out;have hnc8:=NB1_6.out;have hcz9_0 : w6.cell? ⟨gb6,0,none⟩ = some (.slice none 0 0):=(blk_cell BK6.out 0).trans rfl;have hfz9_0:=blk_frozen BK6.out 0;have hcz10_0 : w6.cell? ⟨gb1,0,none⟩ = some (.slice none 0 0):=(blk_cell BK1.out 0).trans rfl;have hfz10_0:=blk_frozen BK1.out 0))
  refine bodyPost_ret (results_ct rfl _ _ gb1 25 #[.slice Ao7 t2.length co7] (0,0) _ rfl (by (with_reducible repeat (first | refine blk_drewN ?_ _ | refine blk_drew ?_ | refine blk_alloc ?_ _));refine blk_put (cs:=#[.slice none 0 0]) ?_ 0 _ rfl;(with_reducible repeat (first | refine blk_drewN ?_ _ | refine blk_drew ?_ | refine blk_alloc ?_ _));refine blk_far ?_ NB1_6.out _;(with_reducible repeat (first | refine blk_drewN ?_ _ | refine blk_drew ?_ | refine blk_alloc ?_ _));exact BK1.out) Try.underlying25 rfl (by kernel_rfl)) rfl ?_
  exact ⟨_,by first | rfl | (simp [errW_none,errW_some] <;> rfl) | (simp [*,errW_none,errW_some] <;> rfl),by (with_reducible repeat (first | apply Kd.R_alloc | apply Kd.R_drewN | apply Kd.R_drew));exact Kd.R_mono (Kd.R_far (p:=⟨gb1,0,none⟩) (Kd.R_far (p:=⟨gb6,0,none⟩) (Kd.R_types (Kd.R_types HO4.out BK6.out (by decide)) BK1.out (by decide)) (fun _ hk=>hk.1.2) (.slice Ao7 t2.length co7)) (fun _ hk=>hk.2) (.slice Ao7 t2.length co7)) (fun _ hk=>trivial),hbw_⟩
 ·replace c3:=Bool.eq_false_iff.mpr c3
  subst c3
  have H1 : (some (([] : List (S125)),false)) = some (r1,r2):=by rw [if_neg (show ¬ (false = true) by decide)] at H;exact H
  clear H
  have H:=H1
  clear H1
  simp only [Option.some.injEq,Prod.mk.injEq] at H
  obtain ⟨rfl,rfl⟩:=H
  go_enter Try.func38,Try.ntmps38
  go_wp2_with (first | ((with_reducible refine gate_dst (N:=2) rfl ?_);refine box_event ?hg (N:=2) ?hd (cs:=#[.slice none 0 0]) (t:=25) ?hr ?_;(case hd=>rfl);(case hg=>rfl);(case hr=>first | (go_simp;done) | (go_simp;rfl));intro gb1 hg w11 hbox hb;have BK1:=a0_ (hbox);have GW1:=a0_ ((by rw [hg];exact (below_size hbw_) : w.heap.size ≤ gb1));have GE1:=a0_ ((by rw [hg];exact (below_size hbw_) : w.heap.size ≤ gb1));replace HB:=a0_ (below_step hbw_ hb);clear hb hbox hg) | ((with_reducible refine gate_callee (f:=90) rfl ?_);refine goesL_ (some 8) rfl rfl Try.func90 (by kernel_rfl) rfl #[.string a0] rfl lm_ ?_;(with_reducible refine (spec_parseTree.calls k a0 t2 false _ A2.out).mono ?_);rintro e w12 ⟨v3,rfl,ho0,hb⟩;refine ⟨_,rfl,?_⟩;have HO4:=a0_ (Kd.R_lower ho0 (below_size hbw_));replace BK1:=kb_ BK1 hb;replace HB:=a0_ (below_step hbw_ hb);(try clear hb);(try clear ho0)) | ((with_reducible refine gate_dst (N:=4) rfl ?_);refine box_event ?hg (N:=4) ?hd (cs:=#[.slice none 0 0]) (t:=25) ?hr ?_;(case hd=>rfl);(case hg=>rfl);(case hr=>first | (go_simp;done) | (go_simp;rfl));intro gb6 hg w13 hbox hb;have n0_:=rb_ HO4 hb;have n1_:=kb_ BK1 hb;have n2_:=a0_ (below_step hbw_ hb);have n3_:=a0_ (hbox);have n4_:=a0_ ((by rw [hg];exact (below_size hbw_) : w.heap.size ≤ gb6));have n5_:=a0_ ((by rw [hg];exact (below_size hbw_) : w.heap.size ≤ gb6));have n6_:=a0_ ((by rw [hg];exact Nat.ne_of_lt (blk_lt (bb_ BK1.out)) : gb1 ≠ gb6));have n7_:=a0_ ((by rw [hg];exact Nat.ne_of_gt (blk_lt (bb_ BK1.out)) : gb6 ≠ gb1));clear HO4 BK1 HB;have HO4:=n0_;have BK1:=n1_;have HB:=n2_;have BK6:=n3_;have GW6:=n4_;have GE6:=n5_;have NB1_6:=n6_;have NB6_1:=n7_;clear n0_ n1_ n2_ n3_ n4_ n5_ n6_ n7_;clear hb hbox hg;obtain ⟨Ao14,co14,eo14⟩:=Kd.R_slice HO4.out;subst eo14;have hnb15:=NB6_1.out;have hnc15:=NB1_6.out;have hcz16_0 : w13.cell? ⟨gb6,0,none⟩ = some (.slice none 0 0):=(blk_cell BK6.out 0).trans rfl;have hfz16_0:=blk_frozen BK6.out 0;have hcz17_0 : w13.cell? ⟨gb1,0,none⟩ = some (.slice none 0 0):=(blk_cell BK1.out 0).trans rfl;have hfz17_0:=blk_frozen BK1.out 0))
  refine bodyPost_ret (results_ct rfl _ _ gb1 25 #[.slice none 0 0] (0,0) _ rfl (by (with_reducible repeat (first | refine blk_drewN ?_ _ | refine blk_drew ?_ | refine blk_alloc ?_ _));refine blk_put (cs:=#[.slice none 0 0]) ?_ 0 _ rfl;(with_reducible repeat (first | refine blk_drewN ?_ _ | refine blk_drew ?_ | refine blk_alloc ?_ _));refine blk_far ?_ NB1_6.out _;(with_reducible repeat (first | refine blk_drewN ?_ _ | refine blk_drew ?_ | refine blk_alloc ?_ _));exact BK1.out) Try.underlying25 rfl (by kernel_rfl)) rfl ?_
  exact ⟨_,by first | rfl | (simp [errW_none,errW_some] <;> rfl) | (simp [*,errW_none,errW_some] <;> rfl),by first | exact Kd.R_nil _ _ _ _ _ | exact Kd.N_nil _ _ _ _ _ | exact Kd.V_nil _ _ _ _ _ | exact Kd.Q_nil _ _ _ _ _ | exact Kd.S_nil _ _ _ _ _,hbw_⟩
theorem spec_ParseTree_ev (s : ByteArray) (hs : s.size ≤ 5864062000000) : Ev (fun k=>spec_ParseTree.f k s) (parP s):=by
 rw [parP_spec]
 refine Ev.bind (spec_parseTree_ev s hs) ?_
 cases h : okTx (parS [] (linS s)) s with
 | true=>exact Ev.pos rfl (Ev.const rfl)
 | false=>exact Ev.neg (by simp) (Ev.const rfl)
end Go.Proofs.Ytacgehaipacehaa.P
namespace Go.Proofs.Ytacgehaipacehaa.P
open Go.RowKit Go.Proofs.YtacgehaipacehaaW.PrintWords Go.Proofs.YtacgehaipacehaaW.PrintLast Go.Proofs.YtacgehaipacehaaW.PrintMore
attribute [local go_sem] max2_int min2_int max_two min_two max_three min_three max_four min_four
set_option linter.unusedVariables false
set_option linter.unusedSimpArgs false
theorem sb_size : (Try.prog.info? 137).map (·.size) = some 2:=by kernel_rfl
theorem sb_lies : liesAt Try.prog Try.prog.depth 137 (2 / Try.prog.cellsOf 137) 0 137 1 = true:=by kernel_rfl
theorem sb_byte : (Try.prog.info? 5).map (fun i=>(i.zero,i.size,i.bytes)) = some (some (.int .u8 0),1,1):=by kernel_rfl
set_option maxHeartbeats 1000000 in
set_option maxRecDepth 100000 in
theorem sb_check_used (b : Nat) (w : World) (h0 : w.cell? ⟨b,0,none⟩ = some (.pointer (some ⟨b,0,none⟩))) :
  Calls Try.prog 148 #[.pointer (some ⟨b,0,none⟩)] w fun e w'=>e = .returned (.tuple #[]) ∧ w' = w:=by
 obtain ⟨j,hj,_⟩:=Option.map_eq_some_iff.1 sb_size
 go_enter Try.func148,Try.ntmps148
 go_wp2
 rw [Lib.run_neq_ptr_same w _ Try.underlying135 hj]
 go_wp2
 go_end0
 exact ⟨rfl,rfl⟩
set_option maxHeartbeats 1000000 in
set_option maxRecDepth 100000 in
theorem sb_check_fresh (b : Nat) (w : World) (h0 : w.cell? ⟨b,0,none⟩ = some (.pointer none)) (hsh : w.shape? b = some (137,2)) (hfz : w.frozen? ⟨b,0,none⟩ = false) :
  Calls Try.prog 148 #[.pointer (some ⟨b,0,none⟩)] w fun e w'=>e = .returned (.tuple #[]) ∧ w' = w.setCell ⟨b,0,none⟩ (.pointer (some ⟨b,0,none⟩)):=by
 obtain ⟨j,hj,hjs⟩:=Option.map_eq_some_iff.1 sb_size
 go_enter Try.func148,Try.ntmps148
 go_wp2
 rw [Lib.run_to_unsafe w ⟨b,0,none⟩ Try.underlying135 Try.underlying191 hj (by rw [hjs];decide) hsh (Nat.zero_lt_succ 1)]
 simp only [Result.andThen]
 rw [Oper.upon_value]
 go_wp2
 rw [run_callFunc_extern Try.func165 (by kernel_rfl) (by kernel_rfl) (by kernel_rfl) (e:=Extern.AbiNoEscape.same) (by kernel_rfl)]
 rw [Lib.run_noEscape]
 simp only [Result.andThen]
 rw [Oper.upon_value]
 go_wp2
 rw [Lib.run_from_unsafe w ⟨b,0,none⟩ Try.underlying191 Try.underlying135 hj hsh sb_lies]
 simp only [Result.andThen]
 rw [Oper.upon_value]
 go_wp2
 go_end0
 exact ⟨rfl,rfl⟩
theorem sb_check (B b : Nat) (bs : List Value) (w : World) (h : Lib.IsBuilderF 137 5 B b bs w) :
  Calls Try.prog 148 #[.pointer (some ⟨b,0,none⟩)] w fun e w'=>e = .returned (.tuple #[]) ∧ (Lib.BuilderAtF 137 5 B b (.pointer (some ⟨b,0,none⟩)) bs w' ∧ Below B w w' ∧ Lib.OthersKept 5 (some b) w w'):=by
 rcases h with h | h
 ·refine (sb_check_fresh b w h.cell0 h.shape h.frozen0).mono ?_
  rintro e w' ⟨rfl,rfl⟩
  exact ⟨rfl,h.used _,(Below.refl B w).setCell (p:=⟨b,0,none⟩) h.1 _,(Lib.OthersKept.refl _ _ w).setCell ⟨b,0,none⟩ rfl _⟩
 ·refine (sb_check_used b w h.cell0).mono ?_
  rintro e w' ⟨rfl,rfl⟩
  exact ⟨rfl,h,Below.refl B _,Lib.OthersKept.refl _ _ _⟩
end Go.Proofs.Ytacgehaipacehaa.P
namespace Go.Proofs.Ytacgehaipacehaa.P
open Go.RowKit Go.Proofs.YtacgehaipacehaaW.PrintWords Go.Proofs.YtacgehaipacehaaW.PrintLast Go.Proofs.YtacgehaipacehaaW.PrintMore
attribute [local go_sem] max2_int min2_int max_two min_two max_three min_three max_four min_four
set_option linter.unusedVariables false
set_option linter.unusedSimpArgs false
set_option maxHeartbeats 2000000 in
set_option maxRecDepth 100000 in
theorem sb_WriteString (B b : Nat) (bs : List Value) (s : ByteArray) (w : World) (h : Lib.IsBuilderF 137 5 B b bs w) (hlen : bs.length + s.size ≤ 140737488355328) (hBw : B ≤ w.heap.size) :
  Calls Try.prog 104 #[.pointer (some ⟨b,0,none⟩),.string s] w fun e w'=>e = .returned (.tuple #[.int .i64 s.size,.nilIface]) ∧ (Lib.BuilderAtF 137 5 B b (.pointer (some ⟨b,0,none⟩)) (bs ++ Lib.strCells s) w' ∧ Below B w w' ∧ Lib.OthersKept 5 (some b) w w'):=by
 obtain ⟨i0,hi,hz0,hz1,hz2⟩:=info_parts sb_byte
 go_enter Try.func104,Try.ntmps104
 go_wp2_with (go_at_call 148;refine (sb_check B b bs _ h).mono ?_)
 rintro e w1 ⟨rfl,h1,hb1,hk1⟩
 obtain ⟨hB,v,hbk,hown,hne⟩:=h1
 have c0 : w1.cell? ⟨b,0,none⟩ = some (.pointer (some ⟨b,0,none⟩)):=by rw [Lib.cell_of_heap hbk];rfl
 have c1 : w1.cell? ⟨b,1,none⟩ = some v:=by rw [Lib.cell_of_heap hbk];rfl
 go_wp2_with (at_builtin;refine Lib.wpList_append_own_stringF _ rfl _ _ 22 9 rfl B 5 i0 Try.underlying22 Try.underlying9 hi hz0 hz1 hz2 _ _ _ rfl hown s rfl ?c3 ?c4 ?c5 ?_)
 case c3=>unfold maxLen;omega
 case c4=>omega
 case c5=>have:=hb1.size;omega
 intro v' w2 hown' hgrow _
 have hlt : b < w1.heap.size:=by
  rcases Nat.lt_or_ge b w1.heap.size with h' | h'
  ·exact h'
  ·simp [Array.getElem?_eq_none h'] at hbk
 have hb2 : w2.heap[b]? = some (.cells #[.pointer (some ⟨b,0,none⟩),v] 137 (0,0)):=by
  rw [hgrow.block b hlt (fun e=>hne e.symm)]
  exact hbk
 have d0 : w2.cell? ⟨b,0,none⟩ = some (.pointer (some ⟨b,0,none⟩)):=by rw [Lib.cell_of_heap hb2];rfl
 have d1 : w2.cell? ⟨b,1,none⟩ = some v:=by rw [Lib.cell_of_heap hb2];rfl
 have f1 : w2.frozen? ⟨b,1,none⟩ = false:=Lib.frozen_of_heap hb2 1
 obtain ⟨ao,n',cap,rfl⟩ : ∃ ao n' cap,v' = .slice ao n' cap:=by
  rcases hown'.2 with ⟨hv,_⟩ | ⟨g,cap,cur,fz,hv,_⟩
  ·exact ⟨_,_,_,hv⟩
  ·exact ⟨_,_,_,hv⟩
 go_wp2
 go_ret2
 refine ⟨rfl,?_,?_,(hk1.grown hgrow (Lib.ownsRowF_kind hown)).setCell ⟨b,1,none⟩ rfl _⟩
 ·exact Lib.BuilderAtF.put (T:=137) (e:=5) hB hb2 (bs':=bs ++ Lib.strCells s) (by simpa [Lib.strCells_length] using hown') (by decide)
 ·exact (hb1.grown hgrow (by have:=hb1.size;omega) (fun k hk=>(hown.lt k hk).1)).setCell (p:=⟨b,1,none⟩) hB _
end Go.Proofs.Ytacgehaipacehaa.P
namespace Go.Proofs.Ytacgehaipacehaa.P
open Go.RowKit Go.Proofs.YtacgehaipacehaaW.PrintWords Go.Proofs.YtacgehaipacehaaW.PrintLast Go.Proofs.YtacgehaipacehaaW.PrintMore
attribute [local go_sem] max2_int min2_int max_two min_two max_three min_three max_four min_four
set_option linter.unusedVariables false
set_option linter.unusedSimpArgs false
set_option maxHeartbeats 2000000 in
set_option maxRecDepth 100000 in
theorem sb_WriteByte (B b : Nat) (bs : List Value) (c : Int) (w : World) (h : Lib.IsBuilderF 137 5 B b bs w) (hlen : bs.length + 1 ≤ 140737488355328) (hBw : B ≤ w.heap.size) :
  Calls Try.prog 105 #[.pointer (some ⟨b,0,none⟩),.int .u8 c] w fun e w'=>e = .returned .nilIface ∧ (Lib.BuilderAtF 137 5 B b (.pointer (some ⟨b,0,none⟩)) (bs ++ [.int .u8 c]) w' ∧ Below B w w' ∧ Lib.OthersKept 5 (some b) w w'):=by
 obtain ⟨i0,hi,hz0,hz1,hz2⟩:=info_parts sb_byte
 go_enter Try.func105,Try.ntmps105
 go_wp2_with (go_at_call 148;refine (sb_check B b bs _ h).mono ?_)
 rintro e w1 ⟨rfl,h1,hb1,hk1⟩
 obtain ⟨hB,v,hbk,hown,hne⟩:=h1
 have c0 : w1.cell? ⟨b,0,none⟩ = some (.pointer (some ⟨b,0,none⟩)):=by rw [Lib.cell_of_heap hbk];rfl
 have c1 : w1.cell? ⟨b,1,none⟩ = some v:=by rw [Lib.cell_of_heap hbk];rfl
 go_wp2_with (at_builtin;refine wpList_append_ownF _ rfl _ _ 22 rfl B 5 i0 (.int .u8 0) 1 1 Try.underlying22 hi hz0 hz1 hz2 rfl (by decide) _ _ _ rfl (hown.alloc _) ⟨w1.heap.size,0,none⟩ 1 1 [.int .u8 c] rfl rfl ?c1 ?c2 ?c3 ?c4 ?c5 ?_)
 case c1 =>
  intro j u hj
  match j,hj with
  | 0,hj=>simp at hj;subst hj;simp [Addr.add]
 case c2=>intro u hu;simp at hu;subst hu;rfl
 case c3=>unfold maxLen;omega
 case c4=>omega
 case c5=>have:=hb1.size;simp;omega
 intro v' w2 hown' hgrow _
 have hlt : b < w1.heap.size:=by
  rcases Nat.lt_or_ge b w1.heap.size with h' | h'
  ·exact h'
  ·simp [Array.getElem?_eq_none h'] at hbk
 have hb2 : w2.heap[b]? = some (.cells #[.pointer (some ⟨b,0,none⟩),v] 137 (0,0)):=by
  rw [hgrow.block b (by simp;omega) (fun e=>hne e.symm),Lib.alloc_old w1 _ b hlt]
  exact hbk
 have d0 : w2.cell? ⟨b,0,none⟩ = some (.pointer (some ⟨b,0,none⟩)):=by rw [Lib.cell_of_heap hb2];rfl
 have d1 : w2.cell? ⟨b,1,none⟩ = some v:=by rw [Lib.cell_of_heap hb2];rfl
 have f1 : w2.frozen? ⟨b,1,none⟩ = false:=Lib.frozen_of_heap hb2 1
 obtain ⟨g,cap,rfl⟩ : ∃ g cap,v' = .slice (some ⟨g,0,none⟩) (bs.length + 1) cap:=by
  rcases hown'.2 with ⟨_,h0⟩ | ⟨g,cap,cur,fz,hv,_⟩
  ·omega
  ·exact ⟨g,cap,hv⟩
 go_wp2
 go_ret
 refine ⟨rfl,?_,?_,((hk1.alloc _).grown hgrow (Lib.ownsRowF_kind (hown.alloc _))).setCell ⟨b,1,none⟩ rfl _⟩
 ·exact Lib.BuilderAtF.put (T:=137) (e:=5) hB hb2 (bs':=bs ++ [.int .u8 c]) (by simpa using hown') (by decide)
 ·exact ((hb1.alloc (by have:=hb1.size;omega) _).grown hgrow (by have:=hb1.size;simp;omega) (fun k hk=>(hown.lt k hk).1)).setCell (p:=⟨b,1,none⟩) hB _
end Go.Proofs.Ytacgehaipacehaa.P
namespace Go.Proofs.Ytacgehaipacehaa.P
open Go.RowKit Go.Proofs.YtacgehaipacehaaW.PrintWords Go.Proofs.YtacgehaipacehaaW.PrintLast Go.Proofs.YtacgehaipacehaaW.PrintMore
attribute [local go_sem] max2_int min2_int max_two min_two max_three min_three max_four min_four
set_option linter.unusedVariables false
set_option linter.unusedSimpArgs false
theorem sb_ws (B b : Nat) (l : List UInt8) (s : ByteArray) (w : World) (h : Lib.IsBuilderF 137 5 B b (Lib.byteCells l) w) (hlen : l.length + s.size ≤ 140737488355328) (hBw : B ≤ w.heap.size) :
  Calls Try.prog 104 #[.pointer (some ⟨b,0,none⟩),.string s] w fun e w'=>e = .returned (.tuple #[.int .i64 s.size,.nilIface]) ∧ (Lib.IsBuilderF 137 5 B b (Lib.byteCells (l ++ ofB s)) w' ∧ Below B w w' ∧ Lib.OthersKept 5 (some b) w w'):=by
 refine (sb_WriteString B b _ s w h (by rw [Lib.byteCells_length];exact hlen) hBw).mono ?_
 rintro e w' ⟨rfl,h1,h2,h3⟩
 exact ⟨rfl,by rw [Lib.byteCells_append];exact Or.inr h1,h2,h3⟩
theorem sb_wb (B b : Nat) (l : List UInt8) (w : World) (h : Lib.IsBuilderF 137 5 B b (Lib.byteCells l) w) (hlen : l.length + 1 ≤ 140737488355328) (hBw : B ≤ w.heap.size) :
  Calls Try.prog 105 #[.pointer (some ⟨b,0,none⟩),.int .u8 10] w fun e w'=>e = .returned .nilIface ∧ (Lib.IsBuilderF 137 5 B b (Lib.byteCells (l ++ [10])) w' ∧ Below B w w' ∧ Lib.OthersKept 5 (some b) w w'):=by
 refine (sb_WriteByte B b _ 10 w h (by rw [Lib.byteCells_length];exact hlen) hBw).mono ?_
 rintro e w' ⟨rfl,h1,h2,h3⟩
 exact ⟨rfl,by rw [Lib.byteCells_append];exact Or.inr h1,h2,h3⟩
theorem ofB_line (s : ByteArray) : ofB ((⟨#[32]⟩ : ByteArray) ++ s) = 32 :: ofB s:=by
 unfold ofB
 simp
theorem cells_ne {cs : Array Value} {t : TypeId} {fr : Nat × Nat} (h : t ≠ 5) : ∀ c fz,Obj.cells cs t fr ≠ .cells c 5 fz:=fun c fz e=>by injection e with _ h2 _;exact h h2
def impl_TreeText.f (l0_0 : List (S125)) : Option ByteArray:=if smT l0_0 = true then some (textP l0_0) else none
set_option maxHeartbeats 4000000 in
set_option maxRecDepth 100000 in
theorem impl_TreeText.calls (A0_0 : Option Addr) (c0_0 : Nat) (l0_0 : List (S125)) (r : ByteArray) (w : World) (hr0_0 : Kd.C k125 w A0_0 l0_0.length l0_0) (hc0_0 : l0_0.length ≤ c0_0) (h : impl_TreeText.f l0_0 = some r) :
  Calls Try.prog 49 #[.agg #[.slice A0_0 l0_0.length c0_0]] w fun e w'=>e = .returned (.string r) ∧ Below w.heap.size w w':=by
 have hu31:=Try.underlying25
 have hu37:=Try.underlying125
 have hu38:=Try.underlying137
 have hsm : smT l0_0 = true:=by
  apply Classical.byContradiction
  intro hn
  rw [impl_TreeText.f,if_neg hn] at h
  cases h
 rw [impl_TreeText.f,if_pos hsm] at h
 have hR:=Option.some.inj h
 clear h
 have HV:=a0_ (fun (W : World) (hb : Below w.heap.size w W)=>impl_ValidTree.calls A0_0 c0_0 l0_0 (vT l0_0) W (Kd.C_below hr0_0 hb) hc0_0 (by rw [impl_ValidTree.f,if_pos hsm]))
 have HR:=a0_ hr0_0
 have BK:=a0_ (heap_new1 w (.cells #[.slice A0_0 l0_0.length c0_0] 25))
 have HB:=a0_ (below1 w (.cells #[.slice A0_0 l0_0.length c0_0] 25))
 have hcell:=(blk_cell BK.out 0).trans rfl
 unfold textP at hR
 clear hr0_0
 cases hv : vT l0_0 with
 | false =>
  rw [hv] at HV hR
  rw [if_neg (by simp)] at hR
  subst hR
  clear hv
  go_enter Try.func49,Try.ntmps49
  go_wp2_with (go_at_call 54;refine (HV.out _ HB.out).mono ?_;rintro e w' ⟨rfl,hb'⟩;replace HB:=a0_ (below_step HB.out hb');clear hb')
  go_ret
  exact ⟨rfl,HB.out⟩
 | true =>
  have hlen8:=(vT_len hv).2
  rw [hv] at HV hR
  rw [if_pos rfl] at hR
  have HVT:=a0_ hv
  clear hv hsm
  go_enter Try.func49,Try.ntmps49
  go_upto_region 4 with (go_at_call 54;refine (HV.out _ HB.out).mono ?_;rintro e w2 ⟨rfl,hb'⟩;replace BK:=a0_ (blk_keptB BK.out hb');replace HB:=a0_ (below_step HB.out hb');clear hb' hcell)
  have HS:=a0_ (blk_lt BK.out)
  have HI:=a0_ (Lib.IsBuilderF.of (Lib.fresh_isBuilder 137 5 w2))
  replace BK:=a0_ (blk_alloc BK.out (.cells #[.pointer none,.slice none 0 0] 137))
  replace HB:=a0_ (below_alloc HB.out (.cells #[.pointer none,.slice none 0 0] 137))
  have HZ:=a0_ (show w2.heap.size ≤ (w2.alloc (.cells #[.pointer none,.slice none 0 0] 137)).heap.size by simp)
  generalize w2.alloc (.cells #[.pointer none,.slice none 0 0] 137) = w3 at HI BK HB HZ ⊢
  generalize w2.heap.size = gb at HI HZ HS ⊢
  have hcell : w3.cell? ⟨w.heap.size,0,none⟩ = some (.slice A0_0 l0_0.length c0_0):=(blk_cell BK.out 0).trans rfl
  go_wp2
  go_loopg [12] l0_0.length (fun gg s12 wr=>∃ kk : Nat,kk ≤ l0_0.length ∧ l0_0.length - kk ≤ gg ∧ s12 = .int .i64 kk ∧ Aside0 (Lib.IsBuilderF 137 5 gb gb (Lib.byteCells (linesL l0_0 (l0_0.take kk))) wr) ∧ Aside0 (Below w.heap.size w wr) ∧ Aside0 (gb ≤ wr.heap.size) ∧ Aside0 (wr.heap[w.heap.size]? = some (.cells #[.slice A0_0 l0_0.length c0_0] 25 (0,0))))
  case atStart=>exact ⟨0,Nat.zero_le _,by omega,rfl,HI,HB,HZ,BK⟩
  case round =>
   clear HB BK HI HZ hcell
   obtain ⟨kk,hkk,hg,rfl,HI,HB,HZ,BK⟩:=hrel
   have hcell : wr.cell? ⟨w.heap.size,0,none⟩ = some (.slice A0_0 l0_0.length c0_0):=(blk_cell BK.out 0).trans rfl
   have hll:=(linesL_len HVT.out kk hkk).1
   by_cases hlt : kk < l0_0.length
   ·have hltz : (kk : Int) < (l0_0.length : Int):=by omega
    have hln:=okName_len (vT_name HVT.out kk hlt).1
    have hp:=vT_parent HVT.out kk hlt
    have hst : linesL l0_0 (l0_0.take (kk + 1)) = linesL l0_0 (l0_0.take kk) ++ lineL l0_0 (l0_0.getD kk z125):=by
     rw [← take_snoc kk hlt]
     unfold linesL
     rw [List.flatMap_append,List.flatMap_singleton]
    obtain ⟨ad,ea,hx0,hx1⟩:=at_T125 HR.out (kk : Int) (by omega) (by omega)
    cases ea
    have hrd : rd_T125 l0_0 (kk : Int) = l0_0.getD kk z125:=by simp [rd_T125]
    rw [hrd] at hx0 hx1
    rw [Int.toNat_natCast] at hx0 hx1
    replace hx0:=(HB.out.cell (World.block_lt_of_cell? w _ hx0)).trans hx0
    replace hx1:=(HB.out.cell (World.block_lt_of_cell? w _ hx1)).trans hx1
    generalize hy : l0_0.getD kk z125 = y at hx0 hx1 hst hln hp
    obtain ⟨y0,y1⟩:=y
    simp only at hx0 hx1 hst hln hp
    clear hrd hy
    go_upto_region 7 with (fail)
    have HB1:=a0_ (below_alloc HB.out (.cells #[.string y0,.int .i64 y1] 125))
    have BK1:=a0_ (blk_alloc BK.out (.cells #[.string y0,.int .i64 y1] 125))
    have BY:=a0_ (heap_new1 wr (.cells #[.string y0,.int .i64 y1] 125))
    have HI1:=a0_ (Lib.IsBuilderF.alloc HI.out (.cells #[.string y0,.int .i64 y1] 125))
    have HZ1:=a0_ (show gb ≤ (wr.alloc (.cells #[.string y0,.int .i64 y1] 125)).heap.size by have:=HZ.out;simp;omega)
    have NY:=a0_ (show some wr.heap.size ≠ some gb by
     have:=(show gb < wr.heap.size by rcases HI.out with h_ | h_ <;> exact h_.lt)
     intro e;injection e with e;omega)
    have NK:=a0_ (show some w.heap.size ≠ some gb by
     have:=blk_lt BK.out
     intro e;injection e with e;have:=HS.out;omega)
    clear HB BK HI HZ hx0 hx1 hcell
    generalize wr.alloc (.cells #[.string y0,.int .i64 y1] 125) = W1 at HB1 BK1 BY HI1 HZ1 ⊢
    generalize wr.heap.size = gy at BY NY ⊢
    have hcell : W1.cell? ⟨w.heap.size,0,none⟩ = some (.slice (some ad) l0_0.length c0_0):=(blk_cell BK1.out 0).trans rfl
    have hz0 : W1.cell? ⟨gy,0,none⟩ = some (.string y0):=(blk_cell BY.out 0).trans rfl
    have hz1 : W1.cell? ⟨gy,1,none⟩ = some (.int .i64 y1):=(blk_cell BY.out 1).trans rfl
    by_cases h0 : 0 ≤ y1
    ·have h0b:=eq_true h0
     have h1:=hp.2 (by have:=hp.1;omega)
     have h1b : (y1 < (l0_0.length : Int)) = True:=eq_true (by omega)
     obtain ⟨ad2,ea2,hq0,_⟩:=at_T125 HR.out y1 h0 (by omega)
     obtain rfl : ad = ad2:=by injection ea2
     obtain ⟨p0,hp0⟩ : ∃ p0,p0 = (l0_0.getD y1.toNat z125).f0:=⟨_,rfl⟩
     have hps:=okName_len (vT_name HVT.out y1.toNat (by omega)).1
     rw [← hp0] at hps
     have hrd2 : (rd_T125 l0_0 y1).f0 = p0:=by rw [hp0];rfl
     rw [hrd2] at hq0
     have HQ:=a0_ hq0
     replace hq0:=(HB1.out.cell (World.block_lt_of_cell? w _ hq0)).trans hq0
     have HST:=a0_ (show linesL l0_0 (l0_0.take (kk + 1)) = ((linesL l0_0 (l0_0.take kk) ++ ofB y0) ++ ofB ((⟨#[32]⟩ : ByteArray) ++ p0)) ++ [10] by
      rw [hst,ofB_line]
      unfold lineL
      rw [if_pos h0,← hp0]
      simp)
     clear hp0 hrd2 hst hp
     go_wp2_with (first
      | (go_at_call 104;refine (sb_ws gb gb _ _ _ HI1.out ?hl HZ1.out).mono ?_;(case hl=>(try simp only [List.length_append,ofB_len,List.length_cons,List.length_nil,ByteArray.size_append]);first | omega | (have : (⟨#[32]⟩ : ByteArray).size = 1:=rfl;omega));rintro e w5 ⟨rfl,hi5,hb5,hk5⟩;replace HI1:=a0_ hi5;replace BK1:=a0_ (hk5 _ _ BK1.out NK.out (cells_ne (by decide)));replace BY:=a0_ (hk5 _ _ BY.out NY.out (cells_ne (by decide)));replace HZ1:=a0_ (Nat.le_trans HZ1.out hb5.size);replace HB1:=a0_ (HB1.out.trans (hb5.mono (Nat.le_of_lt HS.out)));clear hi5 hb5 hk5 hz0 hz1 hcell hq0;have hcell : w5.cell? ⟨w.heap.size,0,none⟩ = some (.slice (some ad) l0_0.length c0_0):=(blk_cell BK1.out 0).trans rfl;have hz0 : w5.cell? ⟨gy,0,none⟩ = some (.string y0):=(blk_cell BY.out 0).trans rfl;have hz1 : w5.cell? ⟨gy,1,none⟩ = some (.int .i64 y1):=(blk_cell BY.out 1).trans rfl;have hq0:=(HB1.out.cell (World.block_lt_of_cell? w _ HQ.out)).trans HQ.out)
      | (go_at_call 105;refine (sb_wb gb gb _ _ HI1.out ?hl HZ1.out).mono ?_;(case hl=>(try simp only [List.length_append,ofB_len,List.length_cons,List.length_nil,ByteArray.size_append]);first | omega | (have : (⟨#[32]⟩ : ByteArray).size = 1:=rfl;omega));rintro e w5 ⟨rfl,hi5,hb5,hk5⟩;replace HI1:=a0_ hi5;replace BK1:=a0_ (hk5 _ _ BK1.out NK.out (cells_ne (by decide)));replace BY:=a0_ (hk5 _ _ BY.out NY.out (cells_ne (by decide)));replace HZ1:=a0_ (Nat.le_trans HZ1.out hb5.size);replace HB1:=a0_ (HB1.out.trans (hb5.mono (Nat.le_of_lt HS.out)));clear hi5 hb5 hk5 hz0 hz1 hcell hq0;have hcell : w5.cell? ⟨w.heap.size,0,none⟩ = some (.slice (some ad) l0_0.length c0_0):=(blk_cell BK1.out 0).trans rfl;have hz0 : w5.cell? ⟨gy,0,none⟩ = some (.string y0):=(blk_cell BY.out 0).trans rfl;have hz1 : w5.cell? ⟨gy,1,none⟩ = some (.int .i64 y1):=(blk_cell BY.out 1).trans rfl;have hq0:=(HB1.out.cell (World.block_lt_of_cell? w _ HQ.out)).trans HQ.out))
     go_roundg (l0_0.length - (kk + 1))
     case measure=>omega
     case rel=>exact ⟨kk + 1,by omega,by omega,by go_num,⟨by rw [HST.out];exact HI1.out⟩,HB1,HZ1,BK1⟩
    ·have h0b : (0 ≤ y1) = False:=eq_false h0
     have HST:=a0_ (show linesL l0_0 (l0_0.take (kk + 1)) = (linesL l0_0 (l0_0.take kk) ++ ofB y0) ++ [10] by
      rw [hst]
      unfold lineL
      rw [if_neg h0]
      simp)
     clear hst hp
     go_wp2_with (first
      | (go_at_call 104;refine (sb_ws gb gb _ _ _ HI1.out ?hl HZ1.out).mono ?_;(case hl=>(try simp only [List.length_append,ofB_len,List.length_cons,List.length_nil,ByteArray.size_append]);first | omega | (have : (⟨#[32]⟩ : ByteArray).size = 1:=rfl;omega));rintro e w5 ⟨rfl,hi5,hb5,hk5⟩;replace HI1:=a0_ hi5;replace BK1:=a0_ (hk5 _ _ BK1.out NK.out (cells_ne (by decide)));replace BY:=a0_ (hk5 _ _ BY.out NY.out (cells_ne (by decide)));replace HZ1:=a0_ (Nat.le_trans HZ1.out hb5.size);replace HB1:=a0_ (HB1.out.trans (hb5.mono (Nat.le_of_lt HS.out)));clear hi5 hb5 hk5 hz0 hz1 hcell;have hcell : w5.cell? ⟨w.heap.size,0,none⟩ = some (.slice (some ad) l0_0.length c0_0):=(blk_cell BK1.out 0).trans rfl;have hz0 : w5.cell? ⟨gy,0,none⟩ = some (.string y0):=(blk_cell BY.out 0).trans rfl;have hz1 : w5.cell? ⟨gy,1,none⟩ = some (.int .i64 y1):=(blk_cell BY.out 1).trans rfl)
      | (go_at_call 105;refine (sb_wb gb gb _ _ HI1.out ?hl HZ1.out).mono ?_;(case hl=>(try simp only [List.length_append,ofB_len,List.length_cons,List.length_nil,ByteArray.size_append]);first | omega | (have : (⟨#[32]⟩ : ByteArray).size = 1:=rfl;omega));rintro e w5 ⟨rfl,hi5,hb5,hk5⟩;replace HI1:=a0_ hi5;replace BK1:=a0_ (hk5 _ _ BK1.out NK.out (cells_ne (by decide)));replace BY:=a0_ (hk5 _ _ BY.out NY.out (cells_ne (by decide)));replace HZ1:=a0_ (Nat.le_trans HZ1.out hb5.size);replace HB1:=a0_ (HB1.out.trans (hb5.mono (Nat.le_of_lt HS.out)));clear hi5 hb5 hk5 hz0 hz1 hcell;have hcell : w5.cell? ⟨w.heap.size,0,none⟩ = some (.slice (some ad) l0_0.length c0_0):=(blk_cell BK1.out 0).trans rfl;have hz0 : w5.cell? ⟨gy,0,none⟩ = some (.string y0):=(blk_cell BY.out 0).trans rfl;have hz1 : w5.cell? ⟨gy,1,none⟩ = some (.int .i64 y1):=(blk_cell BY.out 1).trans rfl))
     go_roundg (l0_0.length - (kk + 1))
     case measure=>omega
     case rel=>exact ⟨kk + 1,by omega,by omega,by go_num,⟨by rw [HST.out];exact HI1.out⟩,HB1,HZ1,BK1⟩
   ·have hltz : ¬ (kk : Int) < (l0_0.length : Int):=by omega
    have : kk = l0_0.length:=by omega
    subst this
    rw [List.take_of_length_le (Nat.le_refl _)] at HI
    go_wp2_with (go_at_call 106;refine (Try.Builder_String_any_k gb gb _ _ HI.out HZ.out).mono ?_;rintro e w5 ⟨rfl,_,hb5,_⟩)
    go_ret
    exact ⟨by rw [← hR];rfl,HB.out.trans (hb5.mono (Nat.le_of_lt HS.out))⟩
theorem impl_TreeText_ev (t : List Cls) (hs : smT t = true) : impl_TreeText.f t = some (textP t):=by rw [impl_TreeText.f,if_pos hs]
end Go.Proofs.Ytacgehaipacehaa.P
namespace Go.Proofs.Ytacgehaipacehaa.P
open Go.RowKit Go.Proofs.YtacgehaipacehaaW.PrintWords Go.Proofs.YtacgehaipacehaaW.PrintLast Go.Proofs.YtacgehaipacehaaW.PrintMore
attribute [local go_sem] max2_int min2_int max_two min_two max_three min_three max_four min_four
set_option linter.unusedVariables false
set_option linter.unusedSimpArgs false
theorem cuL_none (c : UInt8) : ∀ l : List UInt8,Lib.indexByte l c = -1 → cuL c l = (l,[],false):=by
 intro l
 induction l with
 | nil=>intro _;rfl
 | cons x l ih =>
  intro h
  unfold Lib.indexByte at h
  split at h
  ·omega
  ·rename_i hx
   rw [cuL,if_neg (fun e=>hx (beq_iff_eq.2 e))]
   split at h
   ·rename_i h2
    rw [ih (beq_iff_eq.1 h2)]
   ·have:=Lib.indexByte_ge l c
    omega
theorem cuL_some (c : UInt8) : ∀ (l : List UInt8) (o : Nat),Lib.indexByte l c = (o : Int) → cuL c l = (l.take o,l.drop (o + 1),true) ∧ o + 1 ≤ l.length:=by
 intro l
 induction l with
 | nil=>intro o h;simp [Lib.indexByte] at h
 | cons x l ih =>
  intro o h
  unfold Lib.indexByte at h
  split at h
  ·rename_i hx
   obtain rfl : o = 0:=by omega
   rw [cuL,if_pos (beq_iff_eq.1 hx)]
   exact ⟨by simp,by simp⟩
  ·rename_i hx
   split at h
   ·omega
   ·rename_i h2
    have hge:=Lib.indexByte_ge l c
    have hne : Lib.indexByte l c ≠ -1:=fun e=>h2 (beq_iff_eq.2 e)
    obtain ⟨o',rfl⟩ : ∃ o',o = o' + 1:=⟨o - 1,by omega⟩
    have h3:=ih o' (by omega)
    rw [cuL,if_neg (fun e=>hx (beq_iff_eq.2 e)),h3.1]
    exact ⟨by simp,by simp;omega⟩
theorem cutB_some (c : UInt8) (s : ByteArray) (o : Nat) (h : Lib.indexByte s.data.toList c = (o : Int)) : (cutB c s).1 = s.extract 0 o ∧ (cutB c s).2.1 = s.extract (o + 1) s.size ∧ (cutB c s).2.2 = true ∧ o + 1 ≤ s.size:=by
 obtain ⟨h1,h2⟩:=cuL_some c _ o h
 rw [show s.data.toList.length = s.size from toL_len s] at h2
 unfold cutB
 rw [h1]
 refine ⟨?_,?_,rfl,h2⟩
 ·rw [Lib.extract_eq];simp
 ·have ht : List.take (s.size - (o + 1)) (List.drop (o + 1) s.data.toList) = List.drop (o + 1) s.data.toList :=
   List.take_of_length_le (by rw [List.length_drop,toL_len];exact Nat.le_refl _)
  rw [Lib.extract_eq,ht]
theorem cutB_none (c : UInt8) (s : ByteArray) (h : Lib.indexByte s.data.toList c = -1) : cutB c s = (s,ByteArray.empty,false):=by
 unfold cutB
 rw [cuL_none c _ h]
 rfl
set_option maxHeartbeats 2000000 in
set_option maxRecDepth 100000 in
theorem sl_Cut (s : ByteArray) (c : UInt8) (w : World) (hs : s.size ≤ 9223372036854775807) :
  Calls Try.prog 136 #[.string s,.string ⟨#[c]⟩] w fun e w'=>e = .returned (.tuple #[.string (cutB c s).1,.string (cutB c s).2.1,.bool (cutB c s).2.2]) ∧ Drawn0 w w':=by
 have hge:=Lib.indexByte_ge s.data.toList c
 have HI:=a0_ (Try.stringslite_Index_one s c)
 by_cases hix : Lib.indexByte s.data.toList c = -1
 ·rw [cutB_none c s hix]
  rw [hix] at HI
  clear hix hge
  go_enter Try.func136,Try.ntmps136
  go_wp2_with (go_at_call 156;refine (HI.out _).mono ?_;rintro e w' ⟨rfl,rfl⟩)
  go_ret3
  exact ⟨rfl,Drawn0.refl _⟩
 ·obtain ⟨o,ho⟩ : ∃ o : Nat,Lib.indexByte s.data.toList c = o:=⟨(Lib.indexByte s.data.toList c).toNat,by omega⟩
  obtain ⟨e1,e2,e3,hr⟩:=cutB_some c s o ho
  rw [e1,e2,e3]
  rw [ho] at HI
  have c1 : (0 : Int) ≤ ↑o:=by omega
  have c2 : (↑o : Int) ≤ ↑s.size:=by omega
  have c3 : (0 : Int) ≤ ↑o + 1:=by omega
  have c4 : (↑o + 1 : Int) ≤ ↑s.size:=by omega
  have c5 : wrap64 ((o : Int) + 1) = (o : Int) + 1:=wrap_in (by omega) (by omega)
  have c6 : IntKind.i64.wrap ((o : Int) + 1) = (o : Int) + 1:=by rw [IntKind.wrap_i64];omega
  have c7 : ((o : Int) + 1).toNat = o + 1:=by omega
  clear e1 e2 e3 ho hix hge
  go_enter Try.func136,Try.ntmps136
  go_wp2_with (go_at_call 156;refine (HI.out _).mono ?_;rintro e w' ⟨rfl,rfl⟩)
  go_region
  go_wp2
  go_ret3
  exact ⟨by simp,(Drawn0.refl _).step 1⟩
end Go.Proofs.Ytacgehaipacehaa.P
namespace Go.Proofs.Ytacgehaipacehaa.P
open Go.RowKit Go.Proofs.YtacgehaipacehaaW.PrintWords Go.Proofs.YtacgehaipacehaaW.PrintLast Go.Proofs.YtacgehaipacehaaW.PrintMore
attribute [local go_sem] max2_int min2_int max_two min_two max_three min_three max_four min_four
set_option linter.unusedVariables false
set_option linter.unusedSimpArgs false
def strings_Cut.f (a0 : ByteArray) (a1 : ByteArray) : Option (ByteArray × ByteArray × Bool):=if a1.size = 1 ∧ a0.size ≤ 9223372036854775807 then some (cutB (a1.data.toList.getD 0 0) a0) else none
set_option maxHeartbeats 2000000 in
set_option maxRecDepth 100000 in
theorem strings_Cut.calls (a0 : ByteArray) (a1 : ByteArray) (r1 : ByteArray) (r2 : ByteArray) (r3 : Bool) (w : World) (h : strings_Cut.f a0 a1 = some (r1,r2,r3)) :
  Calls Try.prog 91 #[.string a0,.string a1] w fun e w'=>e = .returned (.tuple #[.string r1,.string r2,.bool r3]) ∧ Drawn0 w w':=by
 have h1 : a1.size = 1 ∧ a0.size ≤ 9223372036854775807:=by
  apply Classical.byContradiction
  intro hn
  rw [strings_Cut.f,if_neg hn] at h
  cases h
 rw [strings_Cut.f,if_pos h1] at h
 obtain ⟨c,rfl⟩ : ∃ c,a1 = ⟨#[c]⟩:=by
  obtain ⟨⟨l⟩⟩:=a1
  match l,h1.1 with
  | [c],_=>exact ⟨c,rfl⟩
 have h2 : cutB c a0 = (r1,r2,r3):=Option.some.inj h
 have HC:=a0_ (fun W=>sl_Cut a0 c W h1.2)
 rw [h2] at HC
 clear h h1 h2
 go_enter Try.func91,Try.ntmps91
 go_wp2_with (go_at_call 136;refine (HC.out _).mono ?_;rintro e w' ⟨rfl,hd⟩)
 go_ret3
 exact ⟨rfl,hd⟩
end Go.Proofs.Ytacgehaipacehaa.P
namespace Go.Proofs.Ytacgehaipacehaa.P
open Go.RowKit Go.Proofs.YtacgehaipacehaaW.PrintWords Go.Proofs.YtacgehaipacehaaW.PrintLast Go.Proofs.YtacgehaipacehaaW.PrintMore
attribute [local go_sem] max2_int min2_int max_two min_two max_three min_three max_four min_four
set_option linter.unusedVariables false
set_option linter.unusedSimpArgs false
def slices_Clip_Class.f (l0 : List (S125)) : Option ((List (S125))):=if 0 ≤ (l0.length : Int) then (if (l0.length : Int) ≤ (l0.length : Int) then (some (l0.take ((l0.length : Int) : Int).toNat)) else (none)) else (none)
set_option maxHeartbeats 8000000 in
set_option maxRecDepth 100000 in
theorem slices_Clip_Class.calls (P0_ : Nat → Prop) (u9000_ : Value) (l0 : List (S125)) (r : List (S125)) (w0 w : World) (hB : Below w0.heap.size w0 w) (ho0 : Kd.R k125 125 w w0.heap.size P0_ u9000_ l0) (h : slices_Clip_Class.f l0 = some r) :
  Calls Try.prog 93 #[u9000_] w fun e w'=>∃ v0_ : Value,e = .returned (v0_) ∧ Kd.R k125 125 w' w0.heap.size (fun k_=>(P0_ k_ ∨ w.heap.size ≤ k_)) v0_ r ∧ Below w0.heap.size w0 w' ∧ Kept w w' (fun k_=>P0_ k_):=by
 have HO0:=a0_ (show Kd.R k125 125 w w0.heap.size (fun k_=>(P0_ k_ ∨ w.heap.size ≤ k_)) u9000_ l0 from Kd.R_mono ho0 (fun k_ hk=>(.inl hk)))
 have HK:=a0_ (Kept.refl w (fun k_=>P0_ k_))
 have HW0:=a0_ hB.size
 have HB:=a0_ hB
 clear hB
 have H : (if 0 ≤ (l0.length : Int) then (if (l0.length : Int) ≤ (l0.length : Int) then (some (l0.take ((l0.length : Int) : Int).toNat)) else (none)) else (none)) = some r:=h
 clear h
 by_cases c2 : 0 ≤ (l0.length : Int)
 ·rw [if_pos c2] at H
  have c2b0:=eq_true c2
  have c2b1 : decide (0 ≤ (l0.length : Int)) = true:=decide_eq_true c2
  clear c2
  by_cases c3 : (l0.length : Int) ≤ (l0.length : Int)
  ·rw [if_pos c3] at H
   have c3b0:=eq_true c3
   have c3b1 : decide ((l0.length : Int) ≤ (l0.length : Int)) = true:=decide_eq_true c3
   clear c3
   obtain ⟨y1,hy1⟩ : ∃ y_ : List (S125),y_ = (l0.take ((l0.length : Int) : Int).toNat):=⟨_,rfl⟩
   replace H : (some y1) = some r:=by first | (rw [hy1];with_reducible exact H) | (have H2_:=(Option.bind_some _ _).symm.trans H;rw [hy1];with_reducible exact H2_) | (have H2_:=(Option.bind_some _ _).symm.trans H;with_reducible exact H2_) | with_reducible exact H | (rw [hy1];exact H) | exact H
   have Ny1:=a0_ hy1
   clear hy1
   obtain rfl:=Option.some.inj H
   obtain ⟨Ao4,co4,eo4⟩:=Kd.R_slice HO0.out
   subst eo4
   have q5 : l0.length ≤ co4:=(Kd.R_reads' HO0.out).2.1
   have hr5:=Kd.R_clip2 HO0.out (((l0.length : Int) : Int).toNat) (by omega)
   rw [← Ny1.out] at hr5
   clear HO0
   have HO3:=a0_ hr5
   clear hr5
   go_enter Try.func93,Try.ntmps93
   go_wp2
   go_ret
   exact ⟨_,by first | rfl | (simp [errW_none,errW_some] <;> rfl) | (simp [*,errW_none,errW_some] <;> rfl),by (with_reducible repeat (first | apply Kd.R_alloc | apply Kd.R_drewN | apply Kd.R_drew));exact HO3.out,hbw_,by repeat (first | (with_reducible first | exact HK.out | apply Kept.alloc | apply Kept.drewN | apply Kept.drew) | exact HK.out)⟩
  ·rw [if_neg c3] at H
   exact absurd H (by simp)
 ·rw [if_neg c2] at H
  exact absurd H (by simp)
theorem slices_Clip_Class_ev (l : List Cls) : slices_Clip_Class.f l = some l:=by
 unfold slices_Clip_Class.f
 rw [if_pos (by omega),if_pos (by omega)]
 simp
end Go.Proofs.Ytacgehaipacehaa.P
