/- Texts under the proof of FnValidProgram: helper words, the functions' contracts and the plain laws. No condition. -/
import Derived.Test.YtacgehaipacehaaProg
import Derived.Below
import Derived.Deep.Draws
import Derived.Deep.AppendLies
import Derived.Maps.AppendAt
import Derived.OwnWalk
import Derived.Laws.BytesArg
import Derived.Laws.MakeOwn
import Derived.Laws.OwnMore
import Derived.Deep.OwnRows
import Derived.Tactics
import Derived.Lib.ConvBytes
import Derived.Laws.Slices
import Derived.WalkKit
import Derived.KernelRfl
import Derived.RowKit3
import Derived.Deep.LoopGhost
import Derived.Deep.QuietTactic
import Derived.BigQuiet
import Derived.WideLaws
import Derived.Deep.DeepCutAuto
import Derived.Deep.CutBlock
import Derived.Deep.RegionHeld3
import Derived.Laws.Rows
import Derived.Lib.AppendStr
import Derived.ArgAppend
import Derived.Laws.IdiomCopy
import Derived.OrdersHeld
import Derived.Laws.BitsLemmas
import Derived.RowKit
import Derived.Shelf.Abstract
import Derived.Test.YtacgehaipacehaaQFnValidProgramwWords
import Derived.Test.YtacgehaipacehaaQFnValidProgramwLast
import Derived.Test.YtacgehaipacehaaQFnValidProgramwTab
import Derived.Test.YtacgehaipacehaaQFnValidProgramwFour
import Derived.Test.YtacgehaipacehaaQFnValidProgramwQPut
import Derived.Test.YtacgehaipacehaaQFnValidProgramwApart
import Derived.Test.YtacgehaipacehaaQFnValidProgramwArr
import Derived.Test.YtacgehaipacehaaQFnValidProgramwZeros
import Derived.Test.YtacgehaipacehaaQFnValidProgramwFoot
import Derived.Test.YtacgehaipacehaaQFnValidProgramwKept
import Derived.Test.YtacgehaipacehaaQFnValidProgramwShare
import Derived.Test.YtacgehaipacehaaQFnValidProgramwN
import Derived.Test.YtacgehaipacehaaQFnValidProgramwFootNe
import Derived.Test.YtacgehaipacehaaQFnValidProgramwAt
import Derived.Test.YtacgehaipacehaaQFnValidProgramwEqStruct
import Derived.Test.YtacgehaipacehaaQFnValidProgramwRepsOne
import Derived.Test.YtacgehaipacehaaQFnValidProgramwInv
import Derived.Test.YtacgehaipacehaaQFnValidProgramwInvWords
import Derived.Test.YtacgehaipacehaaQFnValidProgramwGuard
import Derived.Test.YtacgehaipacehaaQFnValidProgramwNEv
import Derived.Test.YtacgehaipacehaaQFnValidProgramwMore
import Derived.Test.YtacgehaipacehaaQFnValidProgramwMine
namespace Go.Proofs.Ytacgehaipacehaa.P
open Go.RowKit Go.Proofs.YtacgehaipacehaaW.PrintWords Go.Proofs.YtacgehaipacehaaW.PrintLast Go.Proofs.YtacgehaipacehaaW.PrintMore
theorem s1_ {α : Type} (l : List α) (i : Nat) (a : α) : l.toArray.setIfInBounds i a = (l.set i a).toArray := List.setIfInBounds_toArray l i a
theorem s2_ {α : Type} (a b : α) (l : List α) : (a :: l).set 0 b = b :: l := rfl
theorem s3_ {α : Type} (a b : α) (l : List α) (n : Nat) : (a :: l).set (n + 1) b = a :: l.set n b := rfl
theorem a0_ {P : Prop} (h : P) : Aside0 P := Aside0.mk h
theorem hbw_ {n : Nat} {w w' : World} (h : Below n w w' := by repeat (first | (with_reducible first | exact HB.out | apply below_alloc | apply pw_below_drewN | apply below_drew1 | refine below_set ?_ (Aside0.out (by assumption))) | exact HB.out)) : Below n w w' := h
theorem lm_ {P : Prop} (h : P := by (try simp only [List.map_toArray, List.map_cons, List.map_nil]); first | done | rfl | (simp only [List.length_drop, List.length_take]; rfl)) : P := h
theorem rr_ {P Q : Prop} (x : P) (h : P → Q := by intro x_; (with_reducible repeat (first | apply Kd.R_alloc | apply Kd.R_drewN | apply Kd.R_drew)); exact x_) : Q := h x
theorem rm_ {α : Type} {d : Kd α} {e : Nat} {w w' : World} {base : Nat} {ok ok' : Nat → Prop} {v : Value} {xs : List α} (x : d.R e w base ok v xs) (f : ∀ k, ok k → ok' k) (h : d.R e w base ok' v xs → d.R e w' base ok' v xs := by intro x_; (with_reducible repeat (first | apply Kd.R_alloc | apply Kd.R_drewN | apply Kd.R_drew)); exact x_) : d.R e w' base ok' v xs := h (Kd.R_mono x f)
theorem bb_ {P Q : Prop} (x : P) (h : P → Q := by intro x_; (with_reducible repeat (first | refine blk_drewN ?_ _ | refine blk_drew ?_ | refine blk_alloc ?_ _)); exact x_) : Q := h x
theorem cc_ {P Q : Prop} (x : P) (h : P → Q := by intro x_; repeat (first | exact x_ | (with_reducible refine Kd.C_alloc ?_ _) | (with_reducible refine Kd.C_drewN ?_ _) | (with_reducible refine Kd.C_drew ?_))) : Q := h x
theorem kb_ {w0 w w1 : World} {g : Nat} {o : Obj} (x : Aside0 (w0.heap[g]? = some o)) (hb : Below w.heap.size w w1) (h : w0.heap[g]? = some o → w.heap[g]? = some o := by intro x_; (with_reducible repeat (first | refine blk_drewN ?_ _ | refine blk_drew ?_ | refine blk_alloc ?_ _)); exact x_) : Aside0 (w1.heap[g]? = some o) := ⟨blk_below (h x.1) hb⟩
theorem kf_ {w0 w w1 : World} {g b : Nat} {t : TypeId} {cs : Array Value} (x : Aside0 (w0.heap[g]? = some (.cells cs t (0, 0)))) (ne : Aside0 (g ≠ b)) (hb : Below w.heap.size w w1) (h : w0.heap[g]? = some (.cells cs t (0, 0)) → g ≠ b → w.heap[g]? = some (.cells cs t (0, 0)) := by intro x_ n_; (with_reducible repeat (first | refine blk_drewN ?_ _ | refine blk_drew ?_ | refine blk_alloc ?_ _)); refine blk_far ?_ n_ _; (with_reducible repeat (first | refine blk_drewN ?_ _ | refine blk_drew ?_ | refine blk_alloc ?_ _)); exact x_) : Aside0 (w1.heap[g]? = some (.cells cs t (0, 0))) := ⟨blk_below (h x.1 ne.1) hb⟩
theorem rb_ {α : Type} {d : Kd α} {e : Nat} {w0 w w1 : World} {base : Nat} {ok : Nat → Prop} {v : Value} {xs : List α} (x : Aside0 (d.R e w0 base ok v xs)) (hb : Below w.heap.size w w1) (h : d.R e w0 base ok v xs → d.R e w base ok v xs := by intro x_; (with_reducible repeat (first | apply Kd.R_alloc | apply Kd.R_drewN | apply Kd.R_drew)); exact x_) : Aside0 (d.R e w1 base ok v xs) := ⟨Kd.R_below (h x.1) hb⟩
theorem hk_ {w W : World} {g : Nat} {row : Option Nat} (h : KeepBut w W g row := by repeat (first | (with_reducible first | exact HK.out | apply KeepBut.set_ | apply keep_drewN | apply keep_drew | apply keep_alloc | refine keep_far ?_ (Aside0.out (by assumption)) _) | exact HK.out)) : KeepBut w W g row := h
theorem bff_ {P Q : Prop} (x : P) (h : P → Q := by intro x_; repeat (first | (with_reducible first | exact x_ | refine blk_drewN ?_ _ | refine blk_drew ?_ | refine blk_alloc ?_ _ | refine blk_far ?_ (Aside0.out (by assumption)) _) | exact x_)) : Q := h x
theorem kk_ {w0 w w1 : World} {g g' : Nat} {row : Option Nat} {o : Obj} (hk : KeepBut w w1 g row) (x : Aside0 (w0.heap[g']? = some o)) (ne : Aside0 (g' ≠ g)) (hr : some g' ≠ row := by simp) (h : w0.heap[g']? = some o → w.heap[g']? = some o := by intro x_; repeat (first | (with_reducible first | exact x_ | refine blk_drewN ?_ _ | refine blk_drew ?_ | refine blk_alloc ?_ _ | refine blk_far ?_ (Aside0.out (by assumption)) _) | exact x_)) : Aside0 (w1.heap[g']? = some o) := ⟨KeepBut.blk hk (h x.1) ne.1 hr⟩
theorem rf_ {α : Type} {d : Kd α} {e : Nat} {w W : World} {base : Nat} {ok : Nat → Prop} {v : Value} {xs : List α} {g t : Nat} {cells : Array Value} (x : d.R e w base ok v xs) (b : w.heap[g]? = some (.cells cells t (0, 0))) (u : Value) (ht : ∀ q, q ∈ e :: d.E → q ≠ t := by decide) (h : d.R e (w.setCell ⟨g, 0, none⟩ u) base ok v xs → d.R e W base ok v xs := by intro x_; (with_reducible repeat (first | apply Kd.R_alloc | apply Kd.R_drewN | apply Kd.R_drew)); exact x_) : d.R e W base ok v xs := h (Kd.R_mono (Kd.R_far (p := ⟨g, 0, none⟩) (Kd.R_types x b ht) (fun _ hk => hk.2) u) (fun _ h_ => h_.1))
theorem nl_ {w : World} {n : Nat} {o : Obj} (g : Nat) (hg : n = w.heap.size) (x : w.heap[g]? = some o) : Aside0 (g ≠ n) := ⟨by rw [hg]; exact Nat.ne_of_lt (blk_lt x)⟩
theorem ng_ {w : World} {n : Nat} {o : Obj} (g : Nat) (hg : n = w.heap.size) (x : w.heap[g]? = some o) : Aside0 (n ≠ g) := ⟨by rw [hg]; exact Nat.ne_of_gt (blk_lt x)⟩
end Go.Proofs.Ytacgehaipacehaa.P
namespace Go.Proofs.Ytacgehaipacehaa.P
open Go.RowKit Go.Proofs.YtacgehaipacehaaW.PrintWords Go.Proofs.YtacgehaipacehaaW.PrintLast Go.Proofs.YtacgehaipacehaaW.PrintMore
theorem od_ {p : Prop} [Decidable p] (h : decide p = true := by first | (with_reducible assumption) | assumption) : p := of_decide_eq_true h
theorem cl_ {w W : World} {p : Addr} {v : Value} (hb : Below w.heap.size w W) (h : w.cell? p = some v) : W.cell? p = some v := (hb.cell (World.block_lt_of_cell? w _ h)).trans h
theorem pu_ {P : Program} {ops : Array Oper} {Q : Exit → Act → World → Prop} {md : Region.Mode} {S : World → Prop} {ds : List Nat} {T : Bool × List (List Nat × List Nat)} (i : Nat) (N : Option Tmp) {oi : Oper} (v : Value) {fuel : Nat} {l : Array Bool} {a : Act} {w : World} (l' : Array Bool) (hi : ops[i]? = some oi) (hN : oi.dst = N) (hT : rtab md ops = T) (hy : Yields P ops oi v a) (a' : Act) (ha : a.put N v = a') (h : wpAnyLast P md ops Q S ds fuel l' a' w) (hc : anyT T l.toList l'.toList i = true := by kernel_rfl) (hQ : ∀ c a w, Q (.panic c) (a.put oi.dst v) w → Q (.panic c) a w := by exact fun _ _ _ h => h) : wpAnyLast P md ops Q S ds (fuel + 1) l a w := pure_ l' hi hN (any_of hT hc) hQ hy ha h
theorem tu_ {P : Program} {ops : Array Oper} {Q : Exit → Act → World → Prop} {md : Region.Mode} {S : World → Prop} {ds B : List Nat} {T : Bool × List (List Nat × List Nat)} (i : Nat) (N : Option Tmp) {oi : Oper} (v : Value) {fuel : Nat} {l : Array Bool} {a : Act} {w : World} (l' : Array Bool) (hi : ops[i]? = some oi) (hN : oi.dst = N) (hT : rtab md ops = T) (hB : waitsOk T.2 B = true) (hy : YieldsIf P ops S oi v a) (hS : S w) (a' : Act) (ha : a.put N v = a') (h : wpAnyLast P md ops Q S ds fuel l' a' w) (hc : takeW T B ds l.toList l'.toList i = true := by kernel_rfl) (hQ : ∀ c a w, Q (.panic c) (a.put oi.dst v) w → Q (.panic c) a w := by exact fun _ _ _ h => h) : wpAnyLast P md ops Q S ds (fuel + 1) l a w := take_ l' hi hN (take_ofW hT hB hc) hQ hy hS ha h
end Go.Proofs.Ytacgehaipacehaa.P
namespace Go.Proofs.Ytacgehaipacehaa.P
open Go.RowKit Go.Proofs.YtacgehaipacehaaW.PrintWords Go.Proofs.YtacgehaipacehaaW.PrintLast Go.Proofs.YtacgehaipacehaaW.PrintMore
attribute [local go_sem] max2_int min2_int max_two min_two max_three min_three max_four min_four
set_option linter.unusedVariables false
set_option linter.unusedSimpArgs false
def errW : Option Int → Value
 | none=>.nilIface
 | some c=>.iface 0 (.int .i64 c)
theorem errW_none : errW none = .nilIface:=rfl
theorem errW_some (c : Int) : errW (some c) = .iface 0 (.int .i64 c):=rfl
theorem info3 : (Try.prog.info? 3).map (fun i=>(i.zero,i.size,i.bytes)) = some (some (.int .i64 0),1,8):=by kernel_rfl
theorem info5 : (Try.prog.info? 5).map (fun i=>(i.zero,i.size,i.bytes)) = some (some (.int .u8 0),1,1):=by kernel_rfl
theorem info9 : (Try.prog.info? 9).map (fun i=>(i.zero,i.size,i.bytes)) = some (some (.string ⟨#[]⟩),1,16):=by kernel_rfl
theorem info75 : (Try.prog.info? 75).map (fun i=>(i.zero,i.size,i.bytes)) = some (some (.agg #[(.int .i64 0),(.int .i64 0),(.int .i64 0),(.int .i64 0)]),4,32):=by kernel_rfl
theorem info95 : (Try.prog.info? 95).map (fun i=>(i.zero,i.size,i.bytes)) = some (some (.agg #[(.int .i64 0),(.int .i64 0),(.int .i64 0),(.int .i64 0)]),4,32):=by kernel_rfl
theorem info113 : (Try.prog.info? 113).map (fun i=>(i.zero,i.size,i.bytes)) = some (some (.agg #[(.string ⟨#[]⟩),(.int .i64 0)]),2,24):=by kernel_rfl
theorem info115 : (Try.prog.info? 115).map (fun i=>(i.zero,i.size,i.bytes)) = some (some (.agg #[(.string ⟨#[]⟩),(.int .i64 0),(.int .i64 0)]),3,32):=by kernel_rfl
theorem info125 : (Try.prog.info? 125).map (fun i=>(i.zero,i.size,i.bytes)) = some (some (.agg #[(.string ⟨#[]⟩),(.int .i64 0)]),2,24):=by kernel_rfl
structure S125 where
 f0 : ByteArray
 f1 : Int
def z125 : S125:=⟨(⟨#[]⟩ : ByteArray),(0 : Int)⟩
def k125 : Kd S125:=Kd.iso (Kd.pair Kd.string (Kd.int .i64)) (fun x : S125=>(x.f0,x.f1))
theorem k125_open {w : World} {x : S125} {cs : List Value} (h : k125.K w x cs) : cs = [.string x.f0,.int .i64 x.f1]:=by
 obtain ⟨_,_,rfl,rfl,rfl⟩:=h
 exact rfl
theorem k125_openM {w : World} {base : Nat} {ok : Nat → Prop} {x : S125} {cs : List Value} (h : k125.M w base ok x cs) : cs = [.string x.f0,.int .i64 x.f1]:=by
 obtain ⟨_,_,rfl,rfl,rfl⟩:=h
 exact rfl
theorem k125_mk (w : World) (x : S125)  : k125.K w x [.string x.f0,.int .i64 x.f1]:=⟨[.string x.f0],[.int .i64 x.f1],rfl,rfl,rfl⟩
theorem k125_mkM (w : World) (base : Nat) (ok : Nat → Prop) (x : S125)  : k125.M w base ok x [.string x.f0,.int .i64 x.f1]:=⟨[.string x.f0],[.int .i64 x.f1],rfl,rfl,rfl⟩
def rd_T125 (xs : List S125) (i : Int) : S125:=xs.getD i.toNat z125
theorem at_T125 {w : World} {A : Option Addr} {n : Nat} {xs : List S125} (h : Kd.C k125 w A n xs) (i : Int) (h0 : 0 ≤ i) (h1 : i < n) : ∃ ad ,A = some ad ∧ w.cell? (ad.add (i.toNat * 2)) = some (.string (rd_T125 xs i).f0) ∧ w.cell? ⟨(ad.add (i.toNat * 2)).block,(ad.add (i.toNat * 2)).off + 1,none⟩ = some (.int .i64 (rd_T125 xs i).f1):=by
 obtain ⟨ad,c,e,_,hK,hc0⟩:=Kd.C_get h z125 i h0 h1
 have hc : ∀ j u,c[j]? = some u → w.cell? (ad.add (i.toNat * 2 + j)) = some u:=hc0
 obtain rfl:=k125_open hK
 exact ⟨ad,e,hc 0 _ rfl,by rw [← add_field _ _ 1 (by omega)];exact hc 1 _ rfl⟩
def rd_L4 (xs : List (List S125)) (i : Int) : (List S125):=xs.getD i.toNat ([] : List S125)
theorem at_L4 {w : World} {A : Option Addr} {n : Nat} {xs : List (List S125)} (h : Kd.C (Kd.slice 125 k125) w A n xs) (i : Int) (h0 : 0 ≤ i) (h1 : i < n) : ∃ ad A0 c0,A = some ad ∧ w.cell? (ad.add i.toNat) = some (.slice A0 (rd_L4 xs i).length c0) ∧ (rd_L4 xs i).length ≤ c0 ∧ k125.C w A0 (rd_L4 xs i).length (rd_L4 xs i):=by
 obtain ⟨ad,c,e,_,hK,hc0⟩:=Kd.C_get h ([] : List S125) i h0 h1
 have hc : ∀ j u,c[j]? = some u → w.cell? (ad.add (i.toNat * 1 + j)) = some u:=hc0
 obtain ⟨A0,c0,rfl,l0,g0⟩:=hK
 exact ⟨ad,A0,c0,e,by have hq:=hc 0 _ rfl;rwa [Nat.mul_one,Nat.add_zero] at hq,l0,g0⟩
structure S25 where
 f0 : (List S125)
def z25 : S25:=⟨([] : List S125)⟩
def k25 : Kd S25:=Kd.iso (Kd.slice 125 k125) (fun x : S25=>x.f0)
theorem k25_open {w : World} {x : S25} {cs : List Value} (h : k25.K w x cs) : ∃ A0 c0,cs = [.slice A0 x.f0.length c0] ∧ x.f0.length ≤ c0 ∧ k125.C w A0 x.f0.length x.f0:=by
 obtain ⟨A0,c0,rfl,l0,g0⟩:=h
 exact ⟨A0,c0,rfl,l0,g0⟩
theorem k25_openM {w : World} {base : Nat} {ok : Nat → Prop} {x : S25} {cs : List Value} (h : k25.M w base ok x cs) : ∃ v0,cs = [v0] ∧ k125.R 125 w base ok v0 x.f0:=by
 obtain ⟨v0,rfl,g0⟩:=h
 exact ⟨v0,rfl,g0⟩
theorem k25_mk (w : World) (x : S25) {A0 : Option Addr} {c0 : Nat} (l0 : x.f0.length ≤ c0) (g0 : k125.C w A0 x.f0.length x.f0) : k25.K w x [.slice A0 x.f0.length c0]:=⟨A0,c0,rfl,l0,g0⟩
theorem k25_mkM (w : World) (base : Nat) (ok : Nat → Prop) (x : S25) {v0 : Value} (g0 : k125.R 125 w base ok v0 x.f0) : k25.M w base ok x [v0]:=⟨v0,rfl,g0⟩
def rd_T25 (xs : List S25) (i : Int) : S25:=xs.getD i.toNat z25
theorem at_T25 {w : World} {A : Option Addr} {n : Nat} {xs : List S25} (h : Kd.C k25 w A n xs) (i : Int) (h0 : 0 ≤ i) (h1 : i < n) : ∃ ad A0 c0,A = some ad ∧ w.cell? (ad.add i.toNat) = some (.slice A0 (rd_T25 xs i).f0.length c0) ∧ (rd_T25 xs i).f0.length ≤ c0 ∧ k125.C w A0 (rd_T25 xs i).f0.length (rd_T25 xs i).f0:=by
 obtain ⟨ad,c,e,_,hK,hc0⟩:=Kd.C_get h z25 i h0 h1
 have hc : ∀ j u,c[j]? = some u → w.cell? (ad.add (i.toNat * 1 + j)) = some u:=hc0
 obtain ⟨A0,c0,rfl,l0,g0⟩:=k25_open hK
 exact ⟨ad,A0,c0,e,by have hq:=hc 0 _ rfl;rwa [Nat.mul_one,Nat.add_zero] at hq,l0,g0⟩
def rd_L7 (xs : List (List Int)) (i : Int) : (List Int):=xs.getD i.toNat ([] : List Int)
theorem at_L7 {w : World} {A : Option Addr} {n : Nat} {xs : List (List Int)} (h : Kd.C (Kd.slice 3 (Kd.int .i64)) w A n xs) (i : Int) (h0 : 0 ≤ i) (h1 : i < n) : ∃ ad A0 c0,A = some ad ∧ w.cell? (ad.add i.toNat) = some (.slice A0 (rd_L7 xs i).length c0) ∧ (rd_L7 xs i).length ≤ c0 ∧ (Kd.int .i64).C w A0 (rd_L7 xs i).length (rd_L7 xs i):=by
 obtain ⟨ad,c,e,_,hK,hc0⟩:=Kd.C_get h ([] : List Int) i h0 h1
 have hc : ∀ j u,c[j]? = some u → w.cell? (ad.add (i.toNat * 1 + j)) = some u:=hc0
 obtain ⟨A0,c0,rfl,l0,g0⟩:=hK
 exact ⟨ad,A0,c0,e,by have hq:=hc 0 _ rfl;rwa [Nat.mul_one,Nat.add_zero] at hq,l0,g0⟩
structure S153 where
 f0 : ByteArray
 f1 : Int
def z153 : S153:=⟨(⟨#[]⟩ : ByteArray),(0 : Int)⟩
def k153 : Kd S153:=Kd.iso (Kd.pair Kd.string (Kd.int .i64)) (fun x : S153=>(x.f0,x.f1))
theorem k153_open {w : World} {x : S153} {cs : List Value} (h : k153.K w x cs) : cs = [.string x.f0,.int .i64 x.f1]:=by
 obtain ⟨_,_,rfl,rfl,rfl⟩:=h
 exact rfl
theorem k153_openM {w : World} {base : Nat} {ok : Nat → Prop} {x : S153} {cs : List Value} (h : k153.M w base ok x cs) : cs = [.string x.f0,.int .i64 x.f1]:=by
 obtain ⟨_,_,rfl,rfl,rfl⟩:=h
 exact rfl
theorem k153_mk (w : World) (x : S153)  : k153.K w x [.string x.f0,.int .i64 x.f1]:=⟨[.string x.f0],[.int .i64 x.f1],rfl,rfl,rfl⟩
theorem k153_mkM (w : World) (base : Nat) (ok : Nat → Prop) (x : S153)  : k153.M w base ok x [.string x.f0,.int .i64 x.f1]:=⟨[.string x.f0],[.int .i64 x.f1],rfl,rfl,rfl⟩
def rd_T153 (xs : List S153) (i : Int) : S153:=xs.getD i.toNat z153
theorem at_T153 {w : World} {A : Option Addr} {n : Nat} {xs : List S153} (h : Kd.C k153 w A n xs) (i : Int) (h0 : 0 ≤ i) (h1 : i < n) : ∃ ad ,A = some ad ∧ w.cell? (ad.add (i.toNat * 2)) = some (.string (rd_T153 xs i).f0) ∧ w.cell? ⟨(ad.add (i.toNat * 2)).block,(ad.add (i.toNat * 2)).off + 1,none⟩ = some (.int .i64 (rd_T153 xs i).f1):=by
 obtain ⟨ad,c,e,_,hK,hc0⟩:=Kd.C_get h z153 i h0 h1
 have hc : ∀ j u,c[j]? = some u → w.cell? (ad.add (i.toNat * 2 + j)) = some u:=hc0
 obtain rfl:=k153_open hK
 exact ⟨ad,e,hc 0 _ rfl,by rw [← add_field _ _ 1 (by omega)];exact hc 1 _ rfl⟩
structure S99 where
 f0 : Int
 f1 : Int
 f2 : Int
 f3 : Int
def z99 : S99:=⟨(0 : Int),(0 : Int),(0 : Int),(0 : Int)⟩
def k99 : Kd S99:=Kd.iso (Kd.pair (Kd.int .i64) (Kd.pair (Kd.int .i64) (Kd.pair (Kd.int .i64) (Kd.int .i64)))) (fun x : S99=>(x.f0,x.f1,x.f2,x.f3))
theorem k99_open {w : World} {x : S99} {cs : List Value} (h : k99.K w x cs) : cs = [.int .i64 x.f0,.int .i64 x.f1,.int .i64 x.f2,.int .i64 x.f3]:=by
 obtain ⟨_,_,rfl,rfl,⟨_,_,rfl,rfl,⟨_,_,rfl,rfl,rfl⟩⟩⟩:=h
 exact rfl
theorem k99_openM {w : World} {base : Nat} {ok : Nat → Prop} {x : S99} {cs : List Value} (h : k99.M w base ok x cs) : cs = [.int .i64 x.f0,.int .i64 x.f1,.int .i64 x.f2,.int .i64 x.f3]:=by
 obtain ⟨_,_,rfl,rfl,⟨_,_,rfl,rfl,⟨_,_,rfl,rfl,rfl⟩⟩⟩:=h
 exact rfl
theorem k99_mk (w : World) (x : S99)  : k99.K w x [.int .i64 x.f0,.int .i64 x.f1,.int .i64 x.f2,.int .i64 x.f3]:=⟨[.int .i64 x.f0],[.int .i64 x.f1,.int .i64 x.f2,.int .i64 x.f3],rfl,rfl,⟨[.int .i64 x.f1],[.int .i64 x.f2,.int .i64 x.f3],rfl,rfl,⟨[.int .i64 x.f2],[.int .i64 x.f3],rfl,rfl,rfl⟩⟩⟩
theorem k99_mkM (w : World) (base : Nat) (ok : Nat → Prop) (x : S99)  : k99.M w base ok x [.int .i64 x.f0,.int .i64 x.f1,.int .i64 x.f2,.int .i64 x.f3]:=⟨[.int .i64 x.f0],[.int .i64 x.f1,.int .i64 x.f2,.int .i64 x.f3],rfl,rfl,⟨[.int .i64 x.f1],[.int .i64 x.f2,.int .i64 x.f3],rfl,rfl,⟨[.int .i64 x.f2],[.int .i64 x.f3],rfl,rfl,rfl⟩⟩⟩
def rd_T99 (xs : List S99) (i : Int) : S99:=xs.getD i.toNat z99
theorem at_T99 {w : World} {A : Option Addr} {n : Nat} {xs : List S99} (h : Kd.C k99 w A n xs) (i : Int) (h0 : 0 ≤ i) (h1 : i < n) : ∃ ad ,A = some ad ∧ w.cell? (ad.add (i.toNat * 4)) = some (.int .i64 (rd_T99 xs i).f0) ∧ w.cell? ⟨(ad.add (i.toNat * 4)).block,(ad.add (i.toNat * 4)).off + 1,none⟩ = some (.int .i64 (rd_T99 xs i).f1) ∧ w.cell? ⟨(ad.add (i.toNat * 4)).block,(ad.add (i.toNat * 4)).off + 2,none⟩ = some (.int .i64 (rd_T99 xs i).f2) ∧ w.cell? ⟨(ad.add (i.toNat * 4)).block,(ad.add (i.toNat * 4)).off + 3,none⟩ = some (.int .i64 (rd_T99 xs i).f3):=by
 obtain ⟨ad,c,e,_,hK,hc0⟩:=Kd.C_get h z99 i h0 h1
 have hc : ∀ j u,c[j]? = some u → w.cell? (ad.add (i.toNat * 4 + j)) = some u:=hc0
 obtain rfl:=k99_open hK
 exact ⟨ad,e,hc 0 _ rfl,by rw [← add_field _ _ 1 (by omega)];exact hc 1 _ rfl,by rw [← add_field _ _ 2 (by omega)];exact hc 2 _ rfl,by rw [← add_field _ _ 3 (by omega)];exact hc 3 _ rfl⟩
structure S95 where
 f0 : Int
 f1 : Int
 f2 : Int
 f3 : Int
def z95 : S95:=⟨(0 : Int),(0 : Int),(0 : Int),(0 : Int)⟩
def k95 : Kd S95:=Kd.iso (Kd.pair (Kd.int .i64) (Kd.pair (Kd.int .i64) (Kd.pair (Kd.int .i64) (Kd.int .i64)))) (fun x : S95=>(x.f0,x.f1,x.f2,x.f3))
theorem k95_open {w : World} {x : S95} {cs : List Value} (h : k95.K w x cs) : cs = [.int .i64 x.f0,.int .i64 x.f1,.int .i64 x.f2,.int .i64 x.f3]:=by
 obtain ⟨_,_,rfl,rfl,⟨_,_,rfl,rfl,⟨_,_,rfl,rfl,rfl⟩⟩⟩:=h
 exact rfl
theorem k95_openM {w : World} {base : Nat} {ok : Nat → Prop} {x : S95} {cs : List Value} (h : k95.M w base ok x cs) : cs = [.int .i64 x.f0,.int .i64 x.f1,.int .i64 x.f2,.int .i64 x.f3]:=by
 obtain ⟨_,_,rfl,rfl,⟨_,_,rfl,rfl,⟨_,_,rfl,rfl,rfl⟩⟩⟩:=h
 exact rfl
theorem k95_mk (w : World) (x : S95)  : k95.K w x [.int .i64 x.f0,.int .i64 x.f1,.int .i64 x.f2,.int .i64 x.f3]:=⟨[.int .i64 x.f0],[.int .i64 x.f1,.int .i64 x.f2,.int .i64 x.f3],rfl,rfl,⟨[.int .i64 x.f1],[.int .i64 x.f2,.int .i64 x.f3],rfl,rfl,⟨[.int .i64 x.f2],[.int .i64 x.f3],rfl,rfl,rfl⟩⟩⟩
theorem k95_mkM (w : World) (base : Nat) (ok : Nat → Prop) (x : S95)  : k95.M w base ok x [.int .i64 x.f0,.int .i64 x.f1,.int .i64 x.f2,.int .i64 x.f3]:=⟨[.int .i64 x.f0],[.int .i64 x.f1,.int .i64 x.f2,.int .i64 x.f3],rfl,rfl,⟨[.int .i64 x.f1],[.int .i64 x.f2,.int .i64 x.f3],rfl,rfl,⟨[.int .i64 x.f2],[.int .i64 x.f3],rfl,rfl,rfl⟩⟩⟩
def rd_T95 (xs : List S95) (i : Int) : S95:=xs.getD i.toNat z95
theorem at_T95 {w : World} {A : Option Addr} {n : Nat} {xs : List S95} (h : Kd.C k95 w A n xs) (i : Int) (h0 : 0 ≤ i) (h1 : i < n) : ∃ ad ,A = some ad ∧ w.cell? (ad.add (i.toNat * 4)) = some (.int .i64 (rd_T95 xs i).f0) ∧ w.cell? ⟨(ad.add (i.toNat * 4)).block,(ad.add (i.toNat * 4)).off + 1,none⟩ = some (.int .i64 (rd_T95 xs i).f1) ∧ w.cell? ⟨(ad.add (i.toNat * 4)).block,(ad.add (i.toNat * 4)).off + 2,none⟩ = some (.int .i64 (rd_T95 xs i).f2) ∧ w.cell? ⟨(ad.add (i.toNat * 4)).block,(ad.add (i.toNat * 4)).off + 3,none⟩ = some (.int .i64 (rd_T95 xs i).f3):=by
 obtain ⟨ad,c,e,_,hK,hc0⟩:=Kd.C_get h z95 i h0 h1
 have hc : ∀ j u,c[j]? = some u → w.cell? (ad.add (i.toNat * 4 + j)) = some u:=hc0
 obtain rfl:=k95_open hK
 exact ⟨ad,e,hc 0 _ rfl,by rw [← add_field _ _ 1 (by omega)];exact hc 1 _ rfl,by rw [← add_field _ _ 2 (by omega)];exact hc 2 _ rfl,by rw [← add_field _ _ 3 (by omega)];exact hc 3 _ rfl⟩
def rd_L11 (xs : List (List S95)) (i : Int) : (List S95):=xs.getD i.toNat ([] : List S95)
theorem at_L11 {w : World} {A : Option Addr} {n : Nat} {xs : List (List S95)} (h : Kd.C (Kd.slice 95 k95) w A n xs) (i : Int) (h0 : 0 ≤ i) (h1 : i < n) : ∃ ad A0 c0,A = some ad ∧ w.cell? (ad.add i.toNat) = some (.slice A0 (rd_L11 xs i).length c0) ∧ (rd_L11 xs i).length ≤ c0 ∧ k95.C w A0 (rd_L11 xs i).length (rd_L11 xs i):=by
 obtain ⟨ad,c,e,_,hK,hc0⟩:=Kd.C_get h ([] : List S95) i h0 h1
 have hc : ∀ j u,c[j]? = some u → w.cell? (ad.add (i.toNat * 1 + j)) = some u:=hc0
 obtain ⟨A0,c0,rfl,l0,g0⟩:=hK
 exact ⟨ad,A0,c0,e,by have hq:=hc 0 _ rfl;rwa [Nat.mul_one,Nat.add_zero] at hq,l0,g0⟩
structure S107 where
 f0 : ByteArray
 f1 : Int
def z107 : S107:=⟨(⟨#[]⟩ : ByteArray),(0 : Int)⟩
def k107 : Kd S107:=Kd.iso (Kd.pair Kd.string (Kd.int .i64)) (fun x : S107=>(x.f0,x.f1))
theorem k107_open {w : World} {x : S107} {cs : List Value} (h : k107.K w x cs) : cs = [.string x.f0,.int .i64 x.f1]:=by
 obtain ⟨_,_,rfl,rfl,rfl⟩:=h
 exact rfl
theorem k107_openM {w : World} {base : Nat} {ok : Nat → Prop} {x : S107} {cs : List Value} (h : k107.M w base ok x cs) : cs = [.string x.f0,.int .i64 x.f1]:=by
 obtain ⟨_,_,rfl,rfl,rfl⟩:=h
 exact rfl
theorem k107_mk (w : World) (x : S107)  : k107.K w x [.string x.f0,.int .i64 x.f1]:=⟨[.string x.f0],[.int .i64 x.f1],rfl,rfl,rfl⟩
theorem k107_mkM (w : World) (base : Nat) (ok : Nat → Prop) (x : S107)  : k107.M w base ok x [.string x.f0,.int .i64 x.f1]:=⟨[.string x.f0],[.int .i64 x.f1],rfl,rfl,rfl⟩
def rd_T107 (xs : List S107) (i : Int) : S107:=xs.getD i.toNat z107
theorem at_T107 {w : World} {A : Option Addr} {n : Nat} {xs : List S107} (h : Kd.C k107 w A n xs) (i : Int) (h0 : 0 ≤ i) (h1 : i < n) : ∃ ad ,A = some ad ∧ w.cell? (ad.add (i.toNat * 2)) = some (.string (rd_T107 xs i).f0) ∧ w.cell? ⟨(ad.add (i.toNat * 2)).block,(ad.add (i.toNat * 2)).off + 1,none⟩ = some (.int .i64 (rd_T107 xs i).f1):=by
 obtain ⟨ad,c,e,_,hK,hc0⟩:=Kd.C_get h z107 i h0 h1
 have hc : ∀ j u,c[j]? = some u → w.cell? (ad.add (i.toNat * 2 + j)) = some u:=hc0
 obtain rfl:=k107_open hK
 exact ⟨ad,e,hc 0 _ rfl,by rw [← add_field _ _ 1 (by omega)];exact hc 1 _ rfl⟩
structure S109 where
 f0 : S107
 f1 : Int
def z109 : S109:=⟨z107,(0 : Int)⟩
def k109 : Kd S109:=Kd.iso (Kd.pair k107 (Kd.int .i64)) (fun x : S109=>(x.f0,x.f1))
theorem k109_open {w : World} {x : S109} {cs : List Value} (h : k109.K w x cs) : cs = [.string x.f0.f0,.int .i64 x.f0.f1,.int .i64 x.f1]:=by
 obtain ⟨_,_,rfl,s0,rfl⟩:=h
 obtain rfl:=k107_open s0
 exact rfl
theorem k109_openM {w : World} {base : Nat} {ok : Nat → Prop} {x : S109} {cs : List Value} (h : k109.M w base ok x cs) : cs = [.string x.f0.f0,.int .i64 x.f0.f1,.int .i64 x.f1]:=by
 obtain ⟨_,_,rfl,s0,rfl⟩:=h
 obtain rfl:=k107_openM s0
 exact rfl
theorem k109_mk (w : World) (x : S109)  : k109.K w x [.string x.f0.f0,.int .i64 x.f0.f1,.int .i64 x.f1]:=⟨[.string x.f0.f0,.int .i64 x.f0.f1],[.int .i64 x.f1],rfl,(k107_mk w x.f0 ),rfl⟩
theorem k109_mkM (w : World) (base : Nat) (ok : Nat → Prop) (x : S109)  : k109.M w base ok x [.string x.f0.f0,.int .i64 x.f0.f1,.int .i64 x.f1]:=⟨[.string x.f0.f0,.int .i64 x.f0.f1],[.int .i64 x.f1],rfl,(k107_mkM w base ok x.f0 ),rfl⟩
def rd_T109 (xs : List S109) (i : Int) : S109:=xs.getD i.toNat z109
theorem at_T109 {w : World} {A : Option Addr} {n : Nat} {xs : List S109} (h : Kd.C k109 w A n xs) (i : Int) (h0 : 0 ≤ i) (h1 : i < n) : ∃ ad ,A = some ad ∧ w.cell? (ad.add (i.toNat * 3)) = some (.string (rd_T109 xs i).f0.f0) ∧ w.cell? ⟨(ad.add (i.toNat * 3)).block,(ad.add (i.toNat * 3)).off + 1,none⟩ = some (.int .i64 (rd_T109 xs i).f0.f1) ∧ w.cell? ⟨(ad.add (i.toNat * 3)).block,(ad.add (i.toNat * 3)).off + 2,none⟩ = some (.int .i64 (rd_T109 xs i).f1):=by
 obtain ⟨ad,c,e,_,hK,hc0⟩:=Kd.C_get h z109 i h0 h1
 have hc : ∀ j u,c[j]? = some u → w.cell? (ad.add (i.toNat * 3 + j)) = some u:=hc0
 obtain rfl:=k109_open hK
 exact ⟨ad,e,hc 0 _ rfl,by rw [← add_field _ _ 1 (by omega)];exact hc 1 _ rfl,by rw [← add_field _ _ 2 (by omega)];exact hc 2 _ rfl⟩
structure S113 where
 f0 : ByteArray
 f1 : Int
def z113 : S113:=⟨(⟨#[]⟩ : ByteArray),(0 : Int)⟩
def k113 : Kd S113:=Kd.iso (Kd.pair Kd.string (Kd.int .i64)) (fun x : S113=>(x.f0,x.f1))
theorem k113_open {w : World} {x : S113} {cs : List Value} (h : k113.K w x cs) : cs = [.string x.f0,.int .i64 x.f1]:=by
 obtain ⟨_,_,rfl,rfl,rfl⟩:=h
 exact rfl
theorem k113_openM {w : World} {base : Nat} {ok : Nat → Prop} {x : S113} {cs : List Value} (h : k113.M w base ok x cs) : cs = [.string x.f0,.int .i64 x.f1]:=by
 obtain ⟨_,_,rfl,rfl,rfl⟩:=h
 exact rfl
theorem k113_mk (w : World) (x : S113)  : k113.K w x [.string x.f0,.int .i64 x.f1]:=⟨[.string x.f0],[.int .i64 x.f1],rfl,rfl,rfl⟩
theorem k113_mkM (w : World) (base : Nat) (ok : Nat → Prop) (x : S113)  : k113.M w base ok x [.string x.f0,.int .i64 x.f1]:=⟨[.string x.f0],[.int .i64 x.f1],rfl,rfl,rfl⟩
def rd_T113 (xs : List S113) (i : Int) : S113:=xs.getD i.toNat z113
theorem at_T113 {w : World} {A : Option Addr} {n : Nat} {xs : List S113} (h : Kd.C k113 w A n xs) (i : Int) (h0 : 0 ≤ i) (h1 : i < n) : ∃ ad ,A = some ad ∧ w.cell? (ad.add (i.toNat * 2)) = some (.string (rd_T113 xs i).f0) ∧ w.cell? ⟨(ad.add (i.toNat * 2)).block,(ad.add (i.toNat * 2)).off + 1,none⟩ = some (.int .i64 (rd_T113 xs i).f1):=by
 obtain ⟨ad,c,e,_,hK,hc0⟩:=Kd.C_get h z113 i h0 h1
 have hc : ∀ j u,c[j]? = some u → w.cell? (ad.add (i.toNat * 2 + j)) = some u:=hc0
 obtain rfl:=k113_open hK
 exact ⟨ad,e,hc 0 _ rfl,by rw [← add_field _ _ 1 (by omega)];exact hc 1 _ rfl⟩
structure S115 where
 f0 : S113
 f1 : Int
def z115 : S115:=⟨z113,(0 : Int)⟩
def k115 : Kd S115:=Kd.iso (Kd.pair k113 (Kd.int .i64)) (fun x : S115=>(x.f0,x.f1))
theorem k115_open {w : World} {x : S115} {cs : List Value} (h : k115.K w x cs) : cs = [.string x.f0.f0,.int .i64 x.f0.f1,.int .i64 x.f1]:=by
 obtain ⟨_,_,rfl,s0,rfl⟩:=h
 obtain rfl:=k113_open s0
 exact rfl
theorem k115_openM {w : World} {base : Nat} {ok : Nat → Prop} {x : S115} {cs : List Value} (h : k115.M w base ok x cs) : cs = [.string x.f0.f0,.int .i64 x.f0.f1,.int .i64 x.f1]:=by
 obtain ⟨_,_,rfl,s0,rfl⟩:=h
 obtain rfl:=k113_openM s0
 exact rfl
theorem k115_mk (w : World) (x : S115)  : k115.K w x [.string x.f0.f0,.int .i64 x.f0.f1,.int .i64 x.f1]:=⟨[.string x.f0.f0,.int .i64 x.f0.f1],[.int .i64 x.f1],rfl,(k113_mk w x.f0 ),rfl⟩
theorem k115_mkM (w : World) (base : Nat) (ok : Nat → Prop) (x : S115)  : k115.M w base ok x [.string x.f0.f0,.int .i64 x.f0.f1,.int .i64 x.f1]:=⟨[.string x.f0.f0,.int .i64 x.f0.f1],[.int .i64 x.f1],rfl,(k113_mkM w base ok x.f0 ),rfl⟩
def rd_T115 (xs : List S115) (i : Int) : S115:=xs.getD i.toNat z115
theorem at_T115 {w : World} {A : Option Addr} {n : Nat} {xs : List S115} (h : Kd.C k115 w A n xs) (i : Int) (h0 : 0 ≤ i) (h1 : i < n) : ∃ ad ,A = some ad ∧ w.cell? (ad.add (i.toNat * 3)) = some (.string (rd_T115 xs i).f0.f0) ∧ w.cell? ⟨(ad.add (i.toNat * 3)).block,(ad.add (i.toNat * 3)).off + 1,none⟩ = some (.int .i64 (rd_T115 xs i).f0.f1) ∧ w.cell? ⟨(ad.add (i.toNat * 3)).block,(ad.add (i.toNat * 3)).off + 2,none⟩ = some (.int .i64 (rd_T115 xs i).f1):=by
 obtain ⟨ad,c,e,_,hK,hc0⟩:=Kd.C_get h z115 i h0 h1
 have hc : ∀ j u,c[j]? = some u → w.cell? (ad.add (i.toNat * 3 + j)) = some u:=hc0
 obtain rfl:=k115_open hK
 exact ⟨ad,e,hc 0 _ rfl,by rw [← add_field _ _ 1 (by omega)];exact hc 1 _ rfl,by rw [← add_field _ _ 2 (by omega)];exact hc 2 _ rfl⟩
def rd_L16 (xs : List (List S113)) (i : Int) : (List S113):=xs.getD i.toNat ([] : List S113)
theorem at_L16 {w : World} {A : Option Addr} {n : Nat} {xs : List (List S113)} (h : Kd.C (Kd.slice 113 k113) w A n xs) (i : Int) (h0 : 0 ≤ i) (h1 : i < n) : ∃ ad A0 c0,A = some ad ∧ w.cell? (ad.add i.toNat) = some (.slice A0 (rd_L16 xs i).length c0) ∧ (rd_L16 xs i).length ≤ c0 ∧ k113.C w A0 (rd_L16 xs i).length (rd_L16 xs i):=by
 obtain ⟨ad,c,e,_,hK,hc0⟩:=Kd.C_get h ([] : List S113) i h0 h1
 have hc : ∀ j u,c[j]? = some u → w.cell? (ad.add (i.toNat * 1 + j)) = some u:=hc0
 obtain ⟨A0,c0,rfl,l0,g0⟩:=hK
 exact ⟨ad,A0,c0,e,by have hq:=hc 0 _ rfl;rwa [Nat.mul_one,Nat.add_zero] at hq,l0,g0⟩
def rd_L17 (xs : List (List S115)) (i : Int) : (List S115):=xs.getD i.toNat ([] : List S115)
theorem at_L17 {w : World} {A : Option Addr} {n : Nat} {xs : List (List S115)} (h : Kd.C (Kd.slice 115 k115) w A n xs) (i : Int) (h0 : 0 ≤ i) (h1 : i < n) : ∃ ad A0 c0,A = some ad ∧ w.cell? (ad.add i.toNat) = some (.slice A0 (rd_L17 xs i).length c0) ∧ (rd_L17 xs i).length ≤ c0 ∧ k115.C w A0 (rd_L17 xs i).length (rd_L17 xs i):=by
 obtain ⟨ad,c,e,_,hK,hc0⟩:=Kd.C_get h ([] : List S115) i h0 h1
 have hc : ∀ j u,c[j]? = some u → w.cell? (ad.add (i.toNat * 1 + j)) = some u:=hc0
 obtain ⟨A0,c0,rfl,l0,g0⟩:=hK
 exact ⟨ad,A0,c0,e,by have hq:=hc 0 _ rfl;rwa [Nat.mul_one,Nat.add_zero] at hq,l0,g0⟩
structure S129 where
 f0 : Int
 f1 : Int
 f2 : Int
 f3 : Int
def z129 : S129:=⟨(0 : Int),(0 : Int),(0 : Int),(0 : Int)⟩
def k129 : Kd S129:=Kd.iso (Kd.pair (Kd.int .i64) (Kd.pair (Kd.int .i64) (Kd.pair (Kd.int .i64) (Kd.int .i64)))) (fun x : S129=>(x.f0,x.f1,x.f2,x.f3))
theorem k129_open {w : World} {x : S129} {cs : List Value} (h : k129.K w x cs) : cs = [.int .i64 x.f0,.int .i64 x.f1,.int .i64 x.f2,.int .i64 x.f3]:=by
 obtain ⟨_,_,rfl,rfl,⟨_,_,rfl,rfl,⟨_,_,rfl,rfl,rfl⟩⟩⟩:=h
 exact rfl
theorem k129_openM {w : World} {base : Nat} {ok : Nat → Prop} {x : S129} {cs : List Value} (h : k129.M w base ok x cs) : cs = [.int .i64 x.f0,.int .i64 x.f1,.int .i64 x.f2,.int .i64 x.f3]:=by
 obtain ⟨_,_,rfl,rfl,⟨_,_,rfl,rfl,⟨_,_,rfl,rfl,rfl⟩⟩⟩:=h
 exact rfl
theorem k129_mk (w : World) (x : S129)  : k129.K w x [.int .i64 x.f0,.int .i64 x.f1,.int .i64 x.f2,.int .i64 x.f3]:=⟨[.int .i64 x.f0],[.int .i64 x.f1,.int .i64 x.f2,.int .i64 x.f3],rfl,rfl,⟨[.int .i64 x.f1],[.int .i64 x.f2,.int .i64 x.f3],rfl,rfl,⟨[.int .i64 x.f2],[.int .i64 x.f3],rfl,rfl,rfl⟩⟩⟩
theorem k129_mkM (w : World) (base : Nat) (ok : Nat → Prop) (x : S129)  : k129.M w base ok x [.int .i64 x.f0,.int .i64 x.f1,.int .i64 x.f2,.int .i64 x.f3]:=⟨[.int .i64 x.f0],[.int .i64 x.f1,.int .i64 x.f2,.int .i64 x.f3],rfl,rfl,⟨[.int .i64 x.f1],[.int .i64 x.f2,.int .i64 x.f3],rfl,rfl,⟨[.int .i64 x.f2],[.int .i64 x.f3],rfl,rfl,rfl⟩⟩⟩
def rd_T129 (xs : List S129) (i : Int) : S129:=xs.getD i.toNat z129
theorem at_T129 {w : World} {A : Option Addr} {n : Nat} {xs : List S129} (h : Kd.C k129 w A n xs) (i : Int) (h0 : 0 ≤ i) (h1 : i < n) : ∃ ad ,A = some ad ∧ w.cell? (ad.add (i.toNat * 4)) = some (.int .i64 (rd_T129 xs i).f0) ∧ w.cell? ⟨(ad.add (i.toNat * 4)).block,(ad.add (i.toNat * 4)).off + 1,none⟩ = some (.int .i64 (rd_T129 xs i).f1) ∧ w.cell? ⟨(ad.add (i.toNat * 4)).block,(ad.add (i.toNat * 4)).off + 2,none⟩ = some (.int .i64 (rd_T129 xs i).f2) ∧ w.cell? ⟨(ad.add (i.toNat * 4)).block,(ad.add (i.toNat * 4)).off + 3,none⟩ = some (.int .i64 (rd_T129 xs i).f3):=by
 obtain ⟨ad,c,e,_,hK,hc0⟩:=Kd.C_get h z129 i h0 h1
 have hc : ∀ j u,c[j]? = some u → w.cell? (ad.add (i.toNat * 4 + j)) = some u:=hc0
 obtain rfl:=k129_open hK
 exact ⟨ad,e,hc 0 _ rfl,by rw [← add_field _ _ 1 (by omega)];exact hc 1 _ rfl,by rw [← add_field _ _ 2 (by omega)];exact hc 2 _ rfl,by rw [← add_field _ _ 3 (by omega)];exact hc 3 _ rfl⟩
structure S75 where
 f0 : Int
 f1 : Int
 f2 : Int
 f3 : Int
def z75 : S75:=⟨(0 : Int),(0 : Int),(0 : Int),(0 : Int)⟩
def k75 : Kd S75:=Kd.iso (Kd.pair (Kd.int .i64) (Kd.pair (Kd.int .i64) (Kd.pair (Kd.int .i64) (Kd.int .i64)))) (fun x : S75=>(x.f0,x.f1,x.f2,x.f3))
theorem k75_open {w : World} {x : S75} {cs : List Value} (h : k75.K w x cs) : cs = [.int .i64 x.f0,.int .i64 x.f1,.int .i64 x.f2,.int .i64 x.f3]:=by
 obtain ⟨_,_,rfl,rfl,⟨_,_,rfl,rfl,⟨_,_,rfl,rfl,rfl⟩⟩⟩:=h
 exact rfl
theorem k75_openM {w : World} {base : Nat} {ok : Nat → Prop} {x : S75} {cs : List Value} (h : k75.M w base ok x cs) : cs = [.int .i64 x.f0,.int .i64 x.f1,.int .i64 x.f2,.int .i64 x.f3]:=by
 obtain ⟨_,_,rfl,rfl,⟨_,_,rfl,rfl,⟨_,_,rfl,rfl,rfl⟩⟩⟩:=h
 exact rfl
theorem k75_mk (w : World) (x : S75)  : k75.K w x [.int .i64 x.f0,.int .i64 x.f1,.int .i64 x.f2,.int .i64 x.f3]:=⟨[.int .i64 x.f0],[.int .i64 x.f1,.int .i64 x.f2,.int .i64 x.f3],rfl,rfl,⟨[.int .i64 x.f1],[.int .i64 x.f2,.int .i64 x.f3],rfl,rfl,⟨[.int .i64 x.f2],[.int .i64 x.f3],rfl,rfl,rfl⟩⟩⟩
theorem k75_mkM (w : World) (base : Nat) (ok : Nat → Prop) (x : S75)  : k75.M w base ok x [.int .i64 x.f0,.int .i64 x.f1,.int .i64 x.f2,.int .i64 x.f3]:=⟨[.int .i64 x.f0],[.int .i64 x.f1,.int .i64 x.f2,.int .i64 x.f3],rfl,rfl,⟨[.int .i64 x.f1],[.int .i64 x.f2,.int .i64 x.f3],rfl,rfl,⟨[.int .i64 x.f2],[.int .i64 x.f3],rfl,rfl,rfl⟩⟩⟩
def rd_T75 (xs : List S75) (i : Int) : S75:=xs.getD i.toNat z75
theorem at_T75 {w : World} {A : Option Addr} {n : Nat} {xs : List S75} (h : Kd.C k75 w A n xs) (i : Int) (h0 : 0 ≤ i) (h1 : i < n) : ∃ ad ,A = some ad ∧ w.cell? (ad.add (i.toNat * 4)) = some (.int .i64 (rd_T75 xs i).f0) ∧ w.cell? ⟨(ad.add (i.toNat * 4)).block,(ad.add (i.toNat * 4)).off + 1,none⟩ = some (.int .i64 (rd_T75 xs i).f1) ∧ w.cell? ⟨(ad.add (i.toNat * 4)).block,(ad.add (i.toNat * 4)).off + 2,none⟩ = some (.int .i64 (rd_T75 xs i).f2) ∧ w.cell? ⟨(ad.add (i.toNat * 4)).block,(ad.add (i.toNat * 4)).off + 3,none⟩ = some (.int .i64 (rd_T75 xs i).f3):=by
 obtain ⟨ad,c,e,_,hK,hc0⟩:=Kd.C_get h z75 i h0 h1
 have hc : ∀ j u,c[j]? = some u → w.cell? (ad.add (i.toNat * 4 + j)) = some u:=hc0
 obtain rfl:=k75_open hK
 exact ⟨ad,e,hc 0 _ rfl,by rw [← add_field _ _ 1 (by omega)];exact hc 1 _ rfl,by rw [← add_field _ _ 2 (by omega)];exact hc 2 _ rfl,by rw [← add_field _ _ 3 (by omega)];exact hc 3 _ rfl⟩
end Go.Proofs.Ytacgehaipacehaa.P
section
namespace Go.Proofs.Ytacgehaipacehaa.P
open Go.RowKit Go.Proofs.YtacgehaipacehaaW.PrintWords Go.Proofs.YtacgehaipacehaaW.PrintLast Go.Proofs.YtacgehaipacehaaW.PrintMore
attribute [local go_sem] max2_int min2_int max_two min_two max_three min_three max_four min_four
set_option linter.unusedVariables false
set_option linter.unusedSimpArgs false
def Ev {α : Type} (F : Nat → Option α) (x : α) : Prop:=∃ K,∀ k,K ≤ k → F k = some x
namespace Ev
variable {α β : Type}
theorem of_mono {F : Nat → Option α} {x : α} (hm : ∀ k,LeO (F k) (F (k + 1))) {K : Nat} (h : F K = some x) : Ev F x:=⟨K,fun _ hk=>at_rounds hm hk h⟩
theorem const {a : Option α} {x : α} (h : a = some x) : Ev (fun _=>a) x:=⟨0,fun _ _=>h⟩
theorem bind {F : Nat → Option α} {G : Nat → α → Option β} {x : α} {y : β} (h : Ev F x) (h2 : Ev (fun k=>G k x) y) : Ev (fun k=>(F k).bind (G k)) y:=by
 obtain ⟨K,hK⟩:=h
 obtain ⟨K2,hK2⟩:=h2
 refine ⟨max K K2,fun k hk=>?_⟩
 show (F k).bind (G k) = some y
 rw [hK k (Nat.le_trans (Nat.le_max_left _ _) hk)]
 exact hK2 k (Nat.le_trans (Nat.le_max_right _ _) hk)
theorem pos {F G : Nat → Option α} {x : α} {c : Prop} [Decidable c] (hc : c) (h : Ev F x) : Ev (fun k=>if c then F k else G k) x:=by
 obtain ⟨K,hK⟩:=h
 exact ⟨K,fun k hk=>by show (if c then F k else G k) = some x;rw [if_pos hc];exact hK k hk⟩
theorem neg {F G : Nat → Option α} {x : α} {c : Prop} [Decidable c] (hc : ¬ c) (h : Ev G x) : Ev (fun k=>if c then F k else G k) x:=by
 obtain ⟨K,hK⟩:=h
 exact ⟨K,fun k hk=>by show (if c then F k else G k) = some x;rw [if_neg hc];exact hK k hk⟩
theorem succ {F : Nat → Option α} {x : α} (h : Ev (fun k=>F (k + 1)) x) : Ev F x:=by
 obtain ⟨K,hK⟩:=h
 refine ⟨K + 1,fun k hk=>?_⟩
 obtain ⟨j,rfl⟩ : ∃ j,k = j + 1:=⟨k - 1,by omega⟩
 exact hK j (by omega)
theorem out {F : Nat → Option α} {x : α} (h : Ev F x) : ∃ k,F k = some x:=by
 obtain ⟨K,hK⟩:=h
 exact ⟨K,hK K (Nat.le_refl _)⟩
theorem congr {F G : Nat → Option α} {x : α} (h : Ev F x) (e : ∀ k,G k = F k) : Ev G x:=by
 obtain ⟨K,hK⟩:=h
 exact ⟨K,fun k hk=>(e k).trans (hK k hk)⟩
end Ev
theorem st_loop {σ ρ : Type} (L : Nat → σ → Int → Option ρ) (n : Nat) (S : Nat → σ) (v : ρ) (hstep : ∀ k i,i < n → L (k + 1) (S i) (i : Int) = L k (S (i + 1)) ((i + 1 : Nat) : Int)) (hend : ∀ k,L (k + 1) (S n) (n : Int) = some v) : L (n + 1) (S 0) 0 = some v:=by
 have key : ∀ d i k,i + d = n → L (d + 1 + k) (S i) (i : Int) = some v:=by
  intro d
  induction d with
  | zero =>
   intro i k hi
   obtain rfl : i = n:=by omega
   rw [show 0 + 1 + k = k + 1 by omega]
   exact hend k
  | succ d ih =>
   intro i k hi
   rw [show d + 1 + 1 + k = (d + 1 + k) + 1 by omega,hstep _ i (by omega)]
   exact ih (i + 1) k (by omega)
 have:=key n 0 0 (by omega)
 simpa using this
theorem fill_at {α β : Type} (xs : List α) (c : α → β) (z : α) (y : β) (i : Nat) (hi : i < xs.length) : (((xs.take i).map c) ++ List.replicate (xs.length - i) y).set i (c (xs.getD i z)) = ((xs.take (i + 1)).map c) ++ List.replicate (xs.length - (i + 1)) y:=by
 have h1 : xs.take (i + 1) = xs.take i ++ [xs.getD i z]:=by
  rw [List.take_succ_eq_append_getElem hi,List.getD_eq_getElem?_getD,List.getElem?_eq_getElem hi]
  rfl
 rw [h1,List.set_append_right _ _ (by simp;omega)]
 have h2 : i - ((xs.take i).map c).length = 0:=by simp;omega
 rw [h2,show xs.length - i = (xs.length - (i + 1)) + 1 by omega,List.replicate_succ,s2_,List.map_append,List.append_assoc]
 rfl
theorem fill_len {α β : Type} (xs : List α) (c : α → β) (y : β) (i : Nat) (hi : i ≤ xs.length) : (((xs.take i).map c) ++ List.replicate (xs.length - i) y).length = xs.length:=by
 simp
 omega
theorem rd_nat (l : List Int) (i : Nat) (hi : i < l.length) : rd l (i : Int) = l.getD i 0:=by simp [rd]
def marks (a : Int) (n : Nat) : List Int:=(List.range n).map (fun i : Nat=>a + (i : Int))
theorem marks_len (a : Int) (n : Nat) : (marks a n).length = n:=by simp [marks]
end Go.Proofs.Ytacgehaipacehaa.P
end
namespace Go.Proofs.Ytacgehaipacehaa.P
open Go.RowKit Go.Proofs.YtacgehaipacehaaW.PrintWords Go.Proofs.YtacgehaipacehaaW.PrintLast Go.Proofs.YtacgehaipacehaaW.PrintMore
attribute [local go_sem] max2_int min2_int max_two min_two max_three min_three max_four min_four
set_option linter.unusedVariables false
set_option linter.unusedSimpArgs false
abbrev Cls:=S125
def okName (s : ByteArray) : Bool:=s.data.toList.all (fun c=>decide (97 ≤ c.toNat) && decide (c.toNat ≤ 122)) && (decide (1 ≤ s.size) && decide (s.size ≤ 6))
def named (t : List Cls) (n : ByteArray) : Int:=idxP (fun x : Cls=>x.f0.toList == n.toList) t
def okCls (t : List Cls) (i : Nat) (x : Cls) : Bool:=okName x.f0 && (decide (named t x.f0 = (i : Int)) && (if i = 0 then decide (x.f1 = -1) else decide (0 ≤ x.f1) && decide (x.f1 ≤ (i : Int) - 1)))
def vT (t : List Cls) : Bool:=(List.range t.length).all (fun i=>okCls t i (t.getD i z125)) && (decide (1 ≤ t.length) && decide (t.length ≤ 8))
def smT (t : List Cls) : Bool:=t.all fun x=>decide (x.f0.size < 9223372036854775807)
def hasC (t : List Cls) (a : Int) : Bool:=decide (0 ≤ a) && decide (a < (t.length : Int))
def upF (t : List Cls) : Nat → Int → List Int
 | 0,_=>[]
 | n + 1,a=>if 0 ≤ a then a :: upF t n (rd_T125 t a).f1 else []
def abv (t : List Cls) (a : Int) : List Int:=upF t (a.toNat + 1) a
def isA (t : List Cls) (a b : Int) : Bool:=(abv t a).contains b
theorem vT_len {t : List Cls} (h : vT t = true) : 1 ≤ t.length ∧ t.length ≤ 8:=by
 unfold vT at h
 simp only [Bool.and_eq_true,decide_eq_true_eq] at h
 exact h.2
theorem vT_at {t : List Cls} (h : vT t = true) (i : Nat) (hi : i < t.length) : okCls t i (t.getD i z125) = true:=by
 unfold vT at h
 simp only [Bool.and_eq_true,List.all_eq_true,List.mem_range] at h
 exact h.1 i hi
theorem vT_name {t : List Cls} (h : vT t = true) (i : Nat) (hi : i < t.length) : okName (t.getD i z125).f0 = true ∧ named t (t.getD i z125).f0 = i:=by
 have:=vT_at h i hi
 unfold okCls at this
 simp only [Bool.and_eq_true,decide_eq_true_eq] at this
 exact ⟨this.1,this.2.1⟩
theorem vT_root {t : List Cls} (h : vT t = true) : (t.getD 0 z125).f1 = -1:=by
 have:=vT_at h 0 (by have:=vT_len h;omega)
 unfold okCls at this
 simp only [Bool.and_eq_true,decide_eq_true_eq,if_pos] at this
 exact this.2.2
theorem vT_par {t : List Cls} (h : vT t = true) (i : Nat) (h0 : 0 < i) (hi : i < t.length) : 0 ≤ (t.getD i z125).f1 ∧ (t.getD i z125).f1 ≤ (i : Int) - 1:=by
 have:=vT_at h i hi
 unfold okCls at this
 rw [if_neg (by omega)] at this
 simp only [Bool.and_eq_true,decide_eq_true_eq] at this
 exact this.2.2
theorem vT_par' {t : List Cls} (h : vT t = true) (a : Int) (h0 : 0 ≤ a) (ha : a < (t.length : Int)) : -1 ≤ (rd_T125 t a).f1 ∧ (rd_T125 t a).f1 < a:=by
 unfold rd_T125
 by_cases e : a = 0
 ·subst e
  have:=vT_root h
  simp only [Int.toNat_zero]
  omega
 ·have:=vT_par h a.toNat (by omega) (by omega)
  omega
theorem upF_more {t : List Cls} (h : vT t = true) : ∀ (n m : Nat) (a : Int),a < (t.length : Int) → a < (n : Int) → a < (m : Int) → upF t n a = upF t m a:=by
 intro n
 induction n with
 | zero=>intro m a ha hn hm;cases m with
  | zero=>rfl
  | succ m=>simp only [upF];rw [if_neg (by omega)]
 | succ n ih =>
  intro m a ha hn hm
  cases m with
  | zero=>simp only [upF];rw [if_neg (by omega)]
  | succ m =>
   simp only [upF]
   by_cases h0 : 0 ≤ a
   ·rw [if_pos h0,if_pos h0]
    have:=vT_par' h a h0 ha
    rw [ih m _ (by omega) (by omega) (by omega)]
   ·rw [if_neg h0,if_neg h0]
theorem abv_step {t : List Cls} (h : vT t = true) (a : Int) (h0 : 0 ≤ a) (ha : a < (t.length : Int)) : abv t a = a :: abv t (rd_T125 t a).f1:=by
 have:=vT_par' h a h0 ha
 unfold abv
 rw [upF,if_pos h0,upF_more h a.toNat ((rd_T125 t a).f1.toNat + 1) _ (by omega) (by omega) (by omega)]
theorem abv_neg (t : List Cls) (a : Int) (h0 : a < 0) : abv t a = []:=by
 unfold abv
 rw [upF,if_neg (by omega)]
theorem upF_len (t : List Cls) : ∀ (n : Nat) (a : Int),(upF t n a).length ≤ n:=by
 intro n
 induction n with
 | zero=>intro a;simp [upF]
 | succ n ih =>
  intro a
  simp only [upF]
  split
  ·have:=ih (rd_T125 t a).f1
   simp only [List.length_cons];omega
  ·simp
theorem vT_small {t : List Cls} (h : vT t = true) : smT t = true:=by
 unfold smT
 rw [List.all_eq_true]
 intro x hx
 obtain ⟨i,hi,rfl⟩:=List.getElem_of_mem hx
 have:=(vT_name h i hi).1
 unfold okName at this
 simp only [Bool.and_eq_true,decide_eq_true_eq] at this
 have h2 : (t.getD i z125) = t[i]:=by simp [hi]
 rw [h2] at this
 simp only [decide_eq_true_eq]
 omega
theorem smT_at {t : List Cls} (h : smT t = true) (i : Nat) (hi : i < t.length) : t[i].f0.size ≤ 9223372036854775806:=by
 unfold smT at h
 rw [List.all_eq_true] at h
 have:=h t[i] (List.getElem_mem hi)
 simp only [decide_eq_true_eq] at this
 omega
theorem hasC_iff {t : List Cls} {a : Int} : hasC t a = true ↔ 0 ≤ a ∧ a < (t.length : Int):=by
 unfold hasC;simp
theorem abv_len {t : List Cls} (h : vT t = true) (a : Int) (ha : a < (t.length : Int)) : (abv t a).length ≤ 8:=by
 have h1:=upF_len t (a.toNat + 1) a
 have h2:=vT_len h
 unfold abv
 by_cases h0 : 0 ≤ a
 ·omega
 ·rw [upF,if_neg h0];simp
end Go.Proofs.Ytacgehaipacehaa.P
namespace Go.Proofs.Ytacgehaipacehaa.P
open Go.RowKit Go.Proofs.YtacgehaipacehaaW.PrintWords Go.Proofs.YtacgehaipacehaaW.PrintLast Go.Proofs.YtacgehaipacehaaW.PrintMore
attribute [local go_sem] max2_int min2_int max_two min_two max_three min_three max_four min_four
set_option linter.unusedVariables false
set_option linter.unusedSimpArgs false
def ld (l : List S75) (i : Nat) : Int:=(l.getD i z75).f0
def lk (l : List S75) (i : Nat) : Int:=(l.getD i z75).f1
def scanN (l : List S75) (d : Int) : Nat → Nat → Nat
 | 0,k=>k
 | f + 1,k=>if d < ld l k then scanN l d f (k + 1) else k
theorem scanN_ge (l : List S75) (d : Int) : ∀ f k,k ≤ scanN l d f k
 | 0,k=>Nat.le_refl _
 | f + 1,k=>by
  rw [scanN]
  split
  ·have:=scanN_ge l d f (k + 1);omega
  ·exact Nat.le_refl _
theorem scanN_le (l : List S75) (d : Int) : ∀ f k,scanN l d f k ≤ k + f
 | 0,k=>Nat.le_refl _
 | f + 1,k=>by
  rw [scanN]
  split
  ·have:=scanN_le l d f (k + 1);omega
  ·omega
theorem scanN_in (l : List S75) (d : Int) : ∀ f k j,k ≤ j → j < scanN l d f k → d < ld l j
 | 0,k,j,h,h2=>by rw [scanN] at h2;omega
 | f + 1,k,j,h,h2=>by
  rw [scanN] at h2
  split at h2
  ·rename_i hc
   by_cases e : j = k
   ·rw [e];exact hc
   ·exact scanN_in l d f (k + 1) j (by omega) h2
  ·omega
theorem scanN_at (l : List S75) (d : Int) : ∀ f k,scanN l d f k < k + f → ld l (scanN l d f k) ≤ d
 | 0,k,h=>by rw [scanN] at h;omega
 | f + 1,k,h=>by
  rw [scanN] at h ⊢
  split at h
  ·rename_i hc
   rw [if_pos hc]
   exact scanN_at l d f (k + 1) (by omega)
  ·rename_i hc
   rw [if_neg hc]
   omega
def endN (l : List S75) (i : Nat) : Nat:=scanN l (ld l i) (l.length - (i + 1)) (i + 1)
theorem endN_gt (l : List S75) (i : Nat) : i < endN l i:=scanN_ge l (ld l i) (l.length - (i + 1)) (i + 1)
theorem endN_le {l : List S75} {i : Nat} (h : i < l.length) : endN l i ≤ l.length:=by
 have:=scanN_le l (ld l i) (l.length - (i + 1)) (i + 1)
 unfold endN
 omega
theorem endN_in {l : List S75} {i j : Nat} (h : i < j) (h2 : j < endN l i) : ld l i < ld l j:=scanN_in l (ld l i) _ _ j h h2
theorem endN_at {l : List S75} {i : Nat} (hi : i < l.length) (h : endN l i < l.length) : ld l (endN l i) ≤ ld l i:=scanN_at l (ld l i) _ _ (by unfold endN at h;omega)
def nI (L : List Nat) : List Int:=L.map (fun j : Nat=>(j : Int))
theorem nI_len (L : List Nat) : (nI L).length = L.length:=by simp [nI]
theorem rd_nI (L : List Nat) (m : Nat) : rd (nI L) (m : Int) = ((L.getD m 0 : Nat) : Int):=by
 simp only [rd,nI,List.getD_eq_getElem?_getD,List.getElem?_map,Int.toNat_natCast]
 cases L[m]? <;> rfl
theorem drop_cons_ {R : List Nat} {c : Nat} {R2 : List Nat} {m : Nat} (h : c :: R2 = R.drop m) : m < R.length ∧ R.getD m 0 = c ∧ R2 = R.drop (m + 1):=by
 have hlt : m < R.length:=by
  refine Nat.lt_of_not_le (fun hge=>?_)
  rw [List.drop_eq_nil_of_le hge] at h
  simp at h
 rw [List.drop_eq_getElem_cons hlt] at h
 injection h with h1 h2
 exact ⟨hlt,by simp [List.getD,hlt,h1],h2⟩
def chR (l : List S75) : Nat → Nat → List Nat
 | 0,_=>[]
 | f + 1,c=>if endN l c < l.length ∧ ld l (endN l c) = ld l c ∧ 8 ≤ lk l (endN l c) ∧ lk l (endN l c) ≤ 10 then endN l c :: chR l f (endN l c) else []
theorem chR_mem (l : List S75) : ∀ f c,∀ x ∈ chR l f c,x < l.length ∧ 8 ≤ lk l x ∧ lk l x ≤ 10
 | 0,_,x,h=>by simp [chR] at h
 | f + 1,c,x,h=>by
  rw [chR] at h
  split at h
  ·rename_i hc
   rcases List.mem_cons.1 h with rfl | h
   ·exact ⟨hc.1,hc.2.2⟩
   ·exact chR_mem l f _ x h
  ·simp at h
theorem chR_len (l : List S75) : ∀ f c,(chR l f c).length ≤ f
 | 0,_=>by simp [chR]
 | f + 1,c=>by
  rw [chR]
  split
  ·have:=chR_len l f (endN l c);rw [List.length_cons];omega
  ·simp
def okR (l : List S75) : List Nat → Int → Int → Bool
 | [],ex,_=>decide (ex ≤ 6)
 | c :: R,ex,last=>if lk l c = 8 ∧ last ≤ 8 then okR l R (ex + 1) (lk l c) else if (lk l c = 9 ∧ last = 8) ∨ (lk l c = 10 ∧ last < 10) then okR l R ex (lk l c) else false
def chOk (l : List S75) (i : Nat) : Bool:=decide (1 ≤ (chR l l.length i).length) && okR l (chR l l.length i) 0 7
def inL (l : List S75) : Nat → Int → Bool
 | 0,_=>false
 | k + 1,d=>if ld l k < d then (if lk l k = 12 then true else inL l k (ld l k)) else inL l k d
def hdL (l : List S75) : Nat → Int → Int
 | 0,_=>-1
 | k + 1,d=>if ld l k < d then -1 else if ld l k = d then (k : Int) else hdL l k d
theorem hdL_lt (l : List S75) : ∀ k d,hdL l k d < (k : Int) ∧ -1 ≤ hdL l k d
 | 0,d=>by simp [hdL]
 | k + 1,d=>by
  have:=hdL_lt l k d
  rw [hdL]
  split
  ·omega
  ·split
   ·omega
   ·omega
def lineOk (l : List S75) (i : Nat) : Prop:=(lk l i = 7 → chOk l i = true) ∧ (lk l i = 5 ∨ lk l i = 6 → inL l i (ld l i) = true) ∧ (8 ≤ lk l i → lk l i ≤ 10 → ∃ h : Nat,hdL l i (ld l i) = (h : Int) ∧ 7 ≤ lk l h ∧ lk l h ≤ 10)
theorem inL_skip (l : List S75) (d : Int) (c : Nat) : ∀ e,c ≤ e → (∀ j,c ≤ j → j < e → d ≤ ld l j) → inL l e d = inL l c d
 | 0,h,_=>by
  obtain rfl : c = 0:=by omega
  rfl
 | e + 1,h,h2=>by
  by_cases hc : c = e + 1
  ·rw [hc]
  ·have h3:=h2 e (by omega) (by omega)
   rw [inL,if_neg (by omega)]
   exact inL_skip l d c e (by omega) (fun j hj hj2=>h2 j hj (by omega))
theorem hdL_skip (l : List S75) (d : Int) (c : Nat) : ∀ e,c ≤ e → (∀ j,c ≤ j → j < e → d < ld l j) → hdL l e d = hdL l c d
 | 0,h,_=>by
  obtain rfl : c = 0:=by omega
  rfl
 | e + 1,h,h2=>by
  by_cases hc : c = e + 1
  ·rw [hc]
  ·have h3:=h2 e (by omega) (by omega)
   rw [hdL,if_neg (by omega),if_neg (by omega)]
   exact hdL_skip l d c e (by omega) (fun j hj hj2=>h2 j hj (by omega))
theorem hdL_end (l : List S75) (d : Int) (c : Nat) (hd : ld l c = d) : hdL l (endN l c) d = (c : Int):=by
 rw [hdL_skip l d (c + 1) (endN l c) (endN_gt l c) (fun j hj hj2=>by have:=endN_in (l:=l) (i:=c) (j:=j) (by omega) hj2;omega),hdL,if_neg (by omega),if_pos hd]
def sibN (l : List S75) (t : Nat) : Nat → Nat → List Nat
 | 0,_=>[]
 | f + 1,i=>if i < t then i :: sibN l t f (endN l i) else []
theorem sibN_enough (l : List S75) (t : Nat) : ∀ f g i,t - i ≤ f → t - i ≤ g → sibN l t f i = sibN l t g i
 | 0,0,i,_,_=>rfl
 | 0,g + 1,i,h,_=>by rw [sibN,sibN,if_neg (by omega)]
 | f + 1,0,i,_,h=>by rw [sibN,sibN,if_neg (by omega)]
 | f + 1,g + 1,i,h,h2=>by
  have:=endN_gt l i
  rw [sibN,sibN]
  split
  ·rw [sibN_enough l t f g _ (by omega) (by omega)]
  ·rfl
def sib (l : List S75) (t i : Nat) : List Nat:=sibN l t (t - i) i
theorem sib_pos {l : List S75} {t i : Nat} (h : i < t) : sib l t i = i :: sib l t (endN l i):=by
 have:=endN_gt l i
 unfold sib
 rw [sibN_enough l t (t - i) (t - i - 1 + 1) i (by omega) (by omega),sibN,if_pos h,sibN_enough l t (t - i - 1) (t - endN l i) _ (by omega) (by omega)]
theorem sib_neg {l : List S75} {t i : Nat} (h : ¬ i < t) : sib l t i = []:=by
 unfold sib
 rw [show t - i = 0 by omega,sibN]
theorem sibN_len (l : List S75) (t : Nat) : ∀ f i,(sibN l t f i).length ≤ f
 | 0,_=>by simp [sibN]
 | f + 1,i=>by
  rw [sibN]
  split
  ·have:=sibN_len l t f (endN l i);rw [List.length_cons];omega
  ·simp
structure StL (l : List S75) : Prop where
 op : ∀ i,i < l.length → 7 ≤ lk l i → lk l i ≤ 12 → i + 1 < l.length ∧ ld l (i + 1) = ld l i + 1
 no : ∀ i,i + 1 < l.length → ¬ (7 ≤ lk l i ∧ lk l i ≤ 12) → ld l (i + 1) ≤ ld l i
theorem endN_no {l : List S75} (hS : StL l) {i : Nat} (hi : i < l.length) (h : ¬ (7 ≤ lk l i ∧ lk l i ≤ 12)) : endN l i = i + 1:=by
 have h1:=endN_gt l i
 have h2:=endN_le hi
 by_cases hn : i + 1 < endN l i
 ·have h3:=endN_in (l:=l) (i:=i) (j:=i + 1) (by omega) hn
  have h4:=hS.no i (by omega) h
  omega
 ·omega
theorem chain_walk {l : List S75} {a t : Nat} {d : Int} (ht : t ≤ l.length) (hge : ∀ j,a ≤ j → j < t → d ≤ ld l j) (hend : t < l.length → ld l t < d) : ∀ f c,l.length - c ≤ f → a ≤ c → c < t → ld l c = d → 7 ≤ lk l c → lk l c ≤ 10 →
  ∃ i',sib l t (endN l c) = chR l f c ++ sib l t i' ∧ c < i' ∧ i' ≤ t ∧ (i' < t → ld l i' = d ∧ ¬ (8 ≤ lk l i' ∧ lk l i' ≤ 10)) ∧ (∀ x ∈ chR l f c,c < x ∧ x < t ∧ ld l x = d ∧ 8 ≤ lk l x ∧ lk l x ≤ 10 ∧ ∃ h : Nat,hdL l x d = (h : Int) ∧ 7 ≤ lk l h ∧ lk l h ≤ 10) ∧ (∀ x ∈ c :: chR l f c,endN l x ≤ i') ∧ (∀ j,c ≤ j → j < i' → j ∈ c :: chR l f c ∨ ∃ x ∈ c :: chR l f c,x < j ∧ j < endN l x)
 | 0,c,h1,_,h2,_,_,_=>by omega
 | f + 1,c,h1,ha,h2,h3,h4,h5=>by
  have hg:=endN_gt l c
  have hle:=endN_le (l:=l) (i:=c) (by omega)
  have het : endN l c ≤ t:=by
   refine Nat.le_of_not_lt (fun hlt=>?_)
   have:=endN_in (l:=l) (i:=c) (j:=t) h2 hlt
   have:=hend (by omega)
   omega
  rw [chR]
  by_cases hc : endN l c < l.length ∧ ld l (endN l c) = ld l c ∧ 8 ≤ lk l (endN l c) ∧ lk l (endN l c) ≤ 10
  ·rw [if_pos hc]
   obtain ⟨he,hd,hk⟩:=hc
   have hlt : endN l c < t:=by
    refine Nat.lt_of_le_of_ne het (fun e=>?_)
    have h8:=hend (by omega)
    rw [← e] at h8
    omega
   obtain ⟨i',q1,q2,q3,q4,q5,q6,q7⟩:=chain_walk (a:=a) ht hge hend f (endN l c) (by omega) (by omega) hlt (by omega) (by omega) hk.2
   refine ⟨i',?_,by omega,q3,q4,?_,?_,?_⟩
   ·rw [sib_pos hlt,q1,List.cons_append]
   ·intro x hx
    rcases List.mem_cons.1 hx with rfl | hx
    ·exact ⟨hg,hlt,by omega,hk.1,hk.2,c,hdL_end l d c h3,h4,h5⟩
    ·obtain ⟨r1,r2⟩:=q5 x hx
     exact ⟨by omega,r2⟩
   ·intro x hx
    rcases List.mem_cons.1 hx with rfl | hx
    ·omega
    ·exact q6 x hx
   ·intro j hj hj2
    by_cases hje : j < endN l c
    ·by_cases e : j = c
     ·exact .inl (by rw [e];exact List.mem_cons_self)
     ·exact .inr ⟨c,List.mem_cons_self,by omega,hje⟩
    ·rcases q7 j (by omega) hj2 with hm | ⟨x,hx,hx2⟩
     ·exact .inl (List.mem_cons_of_mem _ hm)
     ·exact .inr ⟨x,List.mem_cons_of_mem _ hx,hx2⟩
  ·rw [if_neg hc]
   refine ⟨endN l c,by rw [List.nil_append],hg,het,?_,by intro x hx;simp at hx,?_,?_⟩
   ·intro hlt
    have h7 : ld l (endN l c) ≤ ld l c:=endN_at (by omega) (by omega)
    have h8:=hge (endN l c) (by omega) hlt
    exact ⟨by omega,fun hk=>hc ⟨by omega,by omega,hk⟩⟩
   ·intro x hx
    rcases List.mem_cons.1 hx with rfl | hx
    ·exact Nat.le_refl _
    ·simp at hx
   ·intro j hj hj2
    by_cases e : j = c
    ·exact .inl (by rw [e];exact List.mem_cons_self)
    ·exact .inr ⟨c,List.mem_cons_self,by omega,hj2⟩
end Go.Proofs.Ytacgehaipacehaa.P
namespace Go.Proofs.Ytacgehaipacehaa.P
open Go.RowKit Go.Proofs.YtacgehaipacehaaW.PrintWords Go.Proofs.YtacgehaipacehaaW.PrintLast Go.Proofs.YtacgehaipacehaaW.PrintMore
attribute [local go_sem] max2_int min2_int max_two min_two max_three min_three max_four min_four
set_option linter.unusedVariables false
set_option linter.unusedSimpArgs false
def numOk (t : List Cls) (x : S75) : Bool :=
 if x.f1 = 1 ∨ x.f1 = 4 then decide (0 ≤ x.f2) && decide (x.f2 ≤ 99) && (x.f3 == 0)
 else if x.f1 = 2 then hasC t x.f2 && (decide (0 ≤ x.f3) && decide (x.f3 ≤ 99))
 else if x.f1 = 8 then hasC t x.f2 && (x.f3 == 0)
 else if x.f1 = 11 then (decide (0 ≤ x.f2) && decide (x.f2 ≤ 9)) && (decide (0 ≤ x.f3) && decide (x.f3 ≤ 1))
 else if x.f1 = 12 then (decide (0 ≤ x.f2) && decide (x.f2 ≤ 3)) && (x.f3 == 0)
 else (decide (0 ≤ x.f1) && decide (x.f1 ≤ 10)) && ((x.f2 == 0) && (x.f3 == 0))
def pd (l : List S75) : Nat → Int
 | 0=>-1
 | j + 1=>ld l j
def pk (l : List S75) : Nat → Int
 | 0=>7
 | j + 1=>lk l j
def lnA (t : List Cls) (l : List S75) (j : Nat) : Prop:=numOk t (l.getD j z75) = true ∧ 0 ≤ ld l j ∧ ld l j ≤ 5 ∧ (7 ≤ pk l j ∧ pk l j ≤ 12 → ld l j = pd l j + 1) ∧ (¬ (7 ≤ pk l j ∧ pk l j ≤ 12) → ld l j ≤ pd l j)
def lastL (l : List S75) : Prop:=0 < l.length → ¬ (7 ≤ pk l l.length ∧ pk l l.length ≤ 12)
def vP (t : List Cls) (l : List S75) : Prop:=vT t = true ∧ l.length ≤ 24 ∧ (∀ j,j < l.length → lnA t l j) ∧ lastL l ∧ ∀ j,j < l.length → lineOk l j
theorem stl_of {t : List Cls} {l : List S75} (h : ∀ j,j < l.length → lnA t l j) (hl : lastL l) : StL l:=by
 refine ⟨fun i hi h1 h2=>?_,fun i hi h1=>(h (i + 1) hi).2.2.2.2 h1⟩
 have hlt : i + 1 < l.length:=by
  refine Nat.lt_of_le_of_ne hi (fun e=>?_)
  have:=hl (by omega)
  rw [← e] at this
  exact this ⟨h1,h2⟩
 exact ⟨hlt,(h (i + 1) hlt).2.2.2.1 ⟨h1,h2⟩⟩
theorem pd_in {t : List Cls} {l : List S75} {i : Nat} (h : ∀ j,j < i → lnA t l j) : -1 ≤ pd l i ∧ pd l i ≤ 5:=by
 cases i with
 | zero=>exact ⟨by rw [pd];omega,by rw [pd];omega⟩
 | succ i =>
  obtain ⟨_,h1,h2,_⟩:=h i (by omega)
  exact ⟨by rw [pd];omega,h2⟩
end Go.Proofs.Ytacgehaipacehaa.P
namespace Go.Proofs.Ytacgehaipacehaa.P
open Go.RowKit Go.Proofs.YtacgehaipacehaaW.PrintWords Go.Proofs.YtacgehaipacehaaW.PrintLast Go.Proofs.YtacgehaipacehaaW.PrintMore
attribute [local go_sem] max2_int min2_int max_two min_two max_three min_three max_four min_four
set_option linter.unusedVariables false
set_option linter.unusedSimpArgs false
def spec_inRange.f (a0 : Int) (a1 : Int) (a2 : Int) : Option (Bool):=if a1 ≤ a0 then (some (decide (a0 ≤ a2))) else (some false)
set_option maxHeartbeats 8000000 in
set_option maxRecDepth 100000 in
theorem spec_inRange.calls (a0 : Int) (a1 : Int) (a2 : Int) (r : Bool) (w : World) (h : spec_inRange.f a0 a1 a2 = some r) :
  Calls Try.prog 70 #[.int .i64 a0,.int .i64 a1,.int .i64 a2] w fun e w'=>e = .returned (.bool r) ∧ Drawn0 w w':=by
 have H : (if a1 ≤ a0 then (some (decide (a0 ≤ a2))) else (some false)) = some r:=h;clear h;by_cases c4 : a1 ≤ a0
 ·rw [if_pos c4] at H
  have c4b0 : decide (a1 ≤ a0) = true:=decide_eq_true c4;clear c4;obtain rfl:=Option.some.inj H;go_enter Try.func70,Try.ntmps70;go_wp2;go_ret;exact ⟨by first | rfl | (simp;done) | (simp [*];done),by repeat (first | exact Drawn0.refl _ | apply Drawn0.step)⟩
 ·rw [if_neg c4] at H
  have c4b0 : decide (a1 ≤ a0) = false:=decide_eq_false c4;clear c4;obtain rfl:=Option.some.inj H;go_enter Try.func70,Try.ntmps70;go_wp2;go_ret;exact ⟨by first | rfl | (simp;done) | (simp [*];done),by repeat (first | exact Drawn0.refl _ | apply Drawn0.step)⟩
theorem spec_inRange_ev (a b c : Int) : spec_inRange.f a b c = some (decide (b ≤ a) && decide (a ≤ c)):=by
 unfold spec_inRange.f
 by_cases h : b ≤ a
 ·rw [if_pos h];simp [h]
 ·rw [if_neg h];simp [h]
end Go.Proofs.Ytacgehaipacehaa.P
namespace Go.Proofs.Ytacgehaipacehaa.P
open Go.RowKit Go.Proofs.YtacgehaipacehaaW.PrintWords Go.Proofs.YtacgehaipacehaaW.PrintLast Go.Proofs.YtacgehaipacehaaW.PrintMore
attribute [local go_sem] max2_int min2_int max_two min_two max_three min_three max_four min_four
set_option linter.unusedVariables false
set_option linter.unusedSimpArgs false
def spec_classNamed.l0 : Nat → List (S125) → ByteArray → Int → Option (Int)
 | 0,_,_,_=>none
 | k + 1,x0,x1,x5=>if x5 < (x0.length : Int) then (if 0 ≤ x5 then (if ((rd_T125 x0 x5).f0).toList = x1.toList then (some x5) else (spec_classNamed.l0 k x0 x1 (wrap64 (x5 + 1)))) else (none)) else (some (-1))
def spec_classNamed.f (k : Nat) (l0 : List (S125)) (a1 : ByteArray) : Option (Int):=spec_classNamed.l0 k l0 a1 0
theorem spec_classNamed.mono_l : ∀ k,(∀ y0 y1 y2,LeO (spec_classNamed.l0 k y0 y1 y2) (spec_classNamed.l0 (k + 1) y0 y1 y2))
 | 0=>fun _ _ _ r h=>by simp [spec_classNamed.l0] at h
 | k + 1=>by
  have ih0:=spec_classNamed.mono_l k
  ·intro y0 y1 y2
   unfold spec_classNamed.l0
   repeat' first
   | (with_reducible exact ih0 _ _ _)
   | (with_reducible exact LeO.refl _)
   | (with_reducible exact LeO.none _)
   | (with_reducible refine LeO.ite ?_ ?_)
   | (with_reducible refine LeO.bind ?_ (fun _=>?_))
theorem spec_classNamed.mono : ∀ a0 a1 k,LeO (spec_classNamed.f k a0 a1) (spec_classNamed.f (k + 1) a0 a1):=by
 intro a0 a1 k
 have ih0:=spec_classNamed.mono_l k
 unfold spec_classNamed.f
 repeat' first
   | (with_reducible exact ih0 _ _ _)
   | (with_reducible exact LeO.refl _)
   | (with_reducible exact LeO.none _)
   | (with_reducible refine LeO.ite ?_ ?_)
   | (with_reducible refine LeO.bind ?_ (fun _=>?_))
set_option maxHeartbeats 8000000 in
set_option maxRecDepth 100000 in
theorem spec_classNamed.calls (k : Nat) (A0 : Option Addr) (c0 : Nat) (l0 : List (S125)) (a1 : ByteArray) (r : Int) (w : World) (hr0 : Kd.C k125 w A0 l0.length l0) (hc0 : l0.length ≤ c0) (h : spec_classNamed.f k l0 a1 = some r) :
  Calls Try.prog 135 #[.slice A0 l0.length c0,.string a1] w fun e w'=>e = .returned (.int .i64 r) ∧ Drawn0 w w':=by
 have HR0:=a0_ hr0;have HC0:=a0_ hc0;clear hr0 hc0;have H : (spec_classNamed.l0 k l0 a1 0) = some r:=h;clear h;have H':=a0_ H;clear H;go_enter Try.func135,Try.ntmps135;go_wp2;go_loopg [5] k (fun kq v5 w'=>∃ (x5_1 : Int),v5 = .int .i64 x5_1 ∧ Aside0 (spec_classNamed.l0 kq l0 a1 x5_1 = some r) ∧ Aside0 (kq ≤ k) ∧ Drawn0 w w')
 case atStart=>exact ⟨(0),(by first | rfl | (simp;done) | (simp [*];done)),H',⟨Nat.le_refl _⟩,by repeat (first | exact Drawn0.refl _ | apply Drawn0.step)⟩
 case round =>
  clear H';(try clear c1);(try clear p2);obtain ⟨x5_1,rfl,HA,HK1,⟨m1,rfl⟩⟩:=hrel
  cases gk with
  | zero=>exact absurd HA.out (by simp [spec_classNamed.l0])
  | succ k1 =>
   have H:=HA.out;clear HA;simp only [spec_classNamed.l0] at H;by_cases c3 : x5_1 < (l0.length : Int)
   ·rw [if_pos c3] at H
    have c3b0 : decide (x5_1 < (l0.length : Int)) = true:=decide_eq_true c3;clear c3;by_cases c4 : 0 ≤ x5_1
    ·rw [if_pos c4] at H
     have c4b0 : decide (0 ≤ x5_1) = true:=decide_eq_true c4;clear c4;by_cases c5 : ((rd_T125 l0 x5_1).f0).toList = a1.toList
     ·rw [if_pos c5] at H
      have c5b0 : (((rd_T125 l0 x5_1).f0).toList == a1.toList) = true:=beq_iff_eq.mpr c5;have c5b1 : (((rd_T125 l0 x5_1).f0).toList != a1.toList) = false:=bne_eq_false_iff_eq.mpr c5;clear c5;obtain rfl:=Option.some.inj H;have p1 : 0 ≤ (x5_1 : Int):=od_;have q1 : x5_1 < (l0.length : Int):=od_;obtain ⟨ad1,e1,hx1_0,hx1_1⟩:=at_T125 HR0.out x5_1 p1 q1;cases e1;replace p1:=eq_true p1;replace q1:=eq_true q1;go_wp2;go_ret;exact ⟨by first | rfl | (simp;done) | (simp [*];done),by repeat (first | exact Drawn0.refl _ | apply Drawn0.step)⟩
     ·rw [if_neg c5] at H
      have c5b0 : (((rd_T125 l0 x5_1).f0).toList == a1.toList) = false:=beq_eq_false_iff_ne.mpr c5;have c5b1 : (((rd_T125 l0 x5_1).f0).toList != a1.toList) = true:=bne_iff_ne.mpr c5;have H':=a0_ H;clear H;have p1 : 0 ≤ (x5_1 : Int):=od_;have q1 : x5_1 < (l0.length : Int):=od_;obtain ⟨ad1,e1,hx1_0,hx1_1⟩:=at_T125 HR0.out x5_1 p1 q1;cases e1;replace p1:=eq_true p1;replace q1:=eq_true q1;go_wp2;go_roundg k1
      case measure=>have:=HK1.out;omega
      case rel=>exact ⟨(wrap64 (x5_1 + 1)),(by first | rfl | (simp;done) | (simp [*];done)),H',⟨by have:=HK1.out;omega⟩,by repeat (first | exact Drawn0.refl _ | apply Drawn0.step)⟩
    ·rw [if_neg c4] at H
     exact absurd H (by simp)
   ·rw [if_neg c3] at H
    have c3b0 : decide (x5_1 < (l0.length : Int)) = false:=decide_eq_false c3;clear c3;obtain rfl:=Option.some.inj H;go_wp2;go_ret;exact ⟨by first | rfl | (simp;done) | (simp [*];done),by repeat (first | exact Drawn0.refl _ | apply Drawn0.step)⟩
theorem spec_classNamed_l0 (t : List Cls) (n : ByteArray) (hs : t.length ≤ 9223372036854775807) (d : Nat) : ∀ (k : Nat) (i : Nat),i ≤ t.length → t.length - i = d → d < k → (∀ j (hj : j < t.length),j < i → (t[j].f0.toList == n.toList) = false) → spec_classNamed.l0 k t n (i : Int) = some (named t n):=by
 induction d with
 | zero =>
  intro k i hi hd hk hA
  obtain ⟨k,rfl⟩ : ∃ m,k = m + 1:=⟨k - 1,by omega⟩
  simp only [spec_classNamed.l0]
  rw [if_neg (show ¬ (i : Int) < (t.length : Int) by omega)]
  unfold named
  rw [idxP_miss _ t (fun j hj=>hA j hj (by omega))]
 | succ d ih =>
  intro k i hi hd hk hA
  obtain ⟨k,rfl⟩ : ∃ m,k = m + 1:=⟨k - 1,by omega⟩
  have hlt : i < t.length:=by omega
  simp only [spec_classNamed.l0]
  have hrd : rd_T125 t (i : Int) = t[i]:=by simp [rd_T125,hlt]
  rw [if_pos (show (i : Int) < (t.length : Int) by omega),if_pos (show (0 : Int) ≤ (i : Int) by omega),hrd]
  by_cases h1 : t[i].f0.toList = n.toList
  ·rw [if_pos h1]
   unfold named
   rw [idxP_hit (fun x : Cls=>x.f0.toList == n.toList) t i hlt (beq_iff_eq.2 h1) hA]
  ·rw [if_neg h1,wrap_succ (n:=t.length) (by omega) (by omega) (by omega)]
   rw [show ((i : Int) + 1) = ((i + 1 : Nat) : Int) by omega]
   refine ih k (i + 1) (by omega) (by omega) (by omega) (fun j hj hji=>?_)
   by_cases e : j = i
   ·subst e;exact beq_eq_false_iff_ne.2 h1
   ·exact hA j hj (by omega)
theorem spec_classNamed_ev (t : List Cls) (n : ByteArray) (hs : t.length ≤ 9223372036854775807) : spec_classNamed.f (t.length + 1) t n = some (named t n):=by
 unfold spec_classNamed.f
 exact spec_classNamed_l0 t n hs t.length (t.length + 1) 0 (by omega) (by omega) (by omega) (fun j _ hj=>absurd hj (Nat.not_lt_zero _))
end Go.Proofs.Ytacgehaipacehaa.P
namespace Go.Proofs.Ytacgehaipacehaa.P
open Go.RowKit Go.Proofs.YtacgehaipacehaaW.PrintWords Go.Proofs.YtacgehaipacehaaW.PrintLast Go.Proofs.YtacgehaipacehaaW.PrintMore
attribute [local go_sem] max2_int min2_int max_two min_two max_three min_three max_four min_four
set_option linter.unusedVariables false
set_option linter.unusedSimpArgs false
def spec_validName.l0 : Nat → ByteArray → Int → Option (Bool)
 | 0,_,_=>none
 | k + 1,x0,x3=>if x3 < (x0.size : Int) then (if 0 ≤ x3 then (if (bt x0 x3) < 97 then (some false) else (if (bt x0 x3) > 122 then (some false) else (spec_validName.l0 k x0 (wrap64 (x3 + 1))))) else (none)) else ((spec_inRange.f (x0.size : Int) 1 6).bind fun t1=>(some t1))
def spec_validName.f (k : Nat) (a0 : ByteArray) : Option (Bool):=spec_validName.l0 k a0 0
theorem spec_validName.mono_l : ∀ k,(∀ y0 y1,LeO (spec_validName.l0 k y0 y1) (spec_validName.l0 (k + 1) y0 y1))
 | 0=>fun _ _ r h=>by simp [spec_validName.l0] at h
 | k + 1=>by
  have ih0:=spec_validName.mono_l k
  ·intro y0 y1
   unfold spec_validName.l0
   repeat' first
   | (with_reducible exact ih0 _ _)
   | (with_reducible exact LeO.refl _)
   | (with_reducible exact LeO.none _)
   | (with_reducible refine LeO.ite ?_ ?_)
   | (with_reducible refine LeO.bind ?_ (fun _=>?_))
theorem spec_validName.mono : ∀ a0 k,LeO (spec_validName.f k a0) (spec_validName.f (k + 1) a0):=by
 intro a0 k
 have ih0:=spec_validName.mono_l k
 unfold spec_validName.f
 repeat' first
   | (with_reducible exact ih0 _ _)
   | (with_reducible exact LeO.refl _)
   | (with_reducible exact LeO.none _)
   | (with_reducible refine LeO.ite ?_ ?_)
   | (with_reducible refine LeO.bind ?_ (fun _=>?_))
set_option maxHeartbeats 8000000 in
set_option maxRecDepth 100000 in
theorem spec_validName.calls (k : Nat) (a0 : ByteArray) (r : Bool) (w : World) (h : spec_validName.f k a0 = some r) :
  Calls Try.prog 149 #[.string a0] w fun e w'=>e = .returned (.bool r) ∧ Drawn0 w w':=by
 have H : (spec_validName.l0 k a0 0) = some r:=h;clear h;have H':=a0_ H;clear H;go_enter Try.func149,Try.ntmps149;go_wp2;go_loopg [3] k (fun kq v3 w'=>∃ (x3_1 : Int),v3 = .int .i64 x3_1 ∧ Aside0 (spec_validName.l0 kq a0 x3_1 = some r) ∧ Aside0 (kq ≤ k) ∧ Drawn0 w w')
 case atStart=>exact ⟨(0),(by first | rfl | (simp;done) | (simp [*];done)),H',⟨Nat.le_refl _⟩,by repeat (first | exact Drawn0.refl _ | apply Drawn0.step)⟩
 case round =>
  clear H';(try clear c1);obtain ⟨x3_1,rfl,HA,HK1,⟨m1,rfl⟩⟩:=hrel
  cases gk with
  | zero=>exact absurd HA.out (by simp [spec_validName.l0])
  | succ k1 =>
   have H:=HA.out;clear HA;simp only [spec_validName.l0] at H;by_cases c2 : x3_1 < (a0.size : Int)
   ·rw [if_pos c2] at H
    have c2b0 : decide (x3_1 < (a0.size : Int)) = true:=decide_eq_true c2;clear c2;by_cases c3 : 0 ≤ x3_1
    ·rw [if_pos c3] at H
     have c3b0 : decide (0 ≤ x3_1) = true:=decide_eq_true c3;clear c3;by_cases c5 : (bt a0 x3_1) < 97
     ·rw [if_pos c5] at H
      have c5b0 : decide ((bt a0 x3_1) < 97) = true:=decide_eq_true c5;clear c5;obtain rfl:=Option.some.inj H;have p4 : 0 ≤ (x3_1 : Int):=od_;have q4 : x3_1 < (a0.size : Int):=od_;have hx4:=bt_at a0 x3_1;replace p4:=eq_true p4;replace q4:=eq_true q4;go_wp2;go_ret;exact ⟨by first | rfl | (simp;done) | (simp [*];done),by repeat (first | exact Drawn0.refl _ | apply Drawn0.step)⟩
     ·rw [if_neg c5] at H
      have c5b0 : decide ((bt a0 x3_1) < 97) = false:=decide_eq_false c5;clear c5;by_cases c7 : (bt a0 x3_1) > 122
      ·rw [if_pos c7] at H
       have c7b0 : decide (122 < (bt a0 x3_1)) = true:=decide_eq_true c7;clear c7;obtain rfl:=Option.some.inj H;have p4 : 0 ≤ (x3_1 : Int):=od_;have q4 : x3_1 < (a0.size : Int):=od_;have hx4:=bt_at a0 x3_1;replace p4:=eq_true p4;replace q4:=eq_true q4;have p6 : 0 ≤ (x3_1 : Int):=od_;have q6 : x3_1 < (a0.size : Int):=od_;have hx6:=bt_at a0 x3_1;replace p6:=eq_true p6;replace q6:=eq_true q6;go_wp2;go_ret;exact ⟨by first | rfl | (simp;done) | (simp [*];done),by repeat (first | exact Drawn0.refl _ | apply Drawn0.step)⟩
      ·rw [if_neg c7] at H
       have c7b0 : decide (122 < (bt a0 x3_1)) = false:=decide_eq_false c7;clear c7;have H':=a0_ H;clear H;have p4 : 0 ≤ (x3_1 : Int):=od_;have q4 : x3_1 < (a0.size : Int):=od_;have hx4:=bt_at a0 x3_1;replace p4:=eq_true p4;replace q4:=eq_true q4;have p6 : 0 ≤ (x3_1 : Int):=od_;have q6 : x3_1 < (a0.size : Int):=od_;have hx6:=bt_at a0 x3_1;replace p6:=eq_true p6;replace q6:=eq_true q6;go_wp2;go_roundg k1
       case measure=>have:=HK1.out;omega
       case rel=>exact ⟨(wrap64 (x3_1 + 1)),(by first | rfl | (simp;done) | (simp [*];done)),H',⟨by have:=HK1.out;omega⟩,by repeat (first | exact Drawn0.refl _ | apply Drawn0.step)⟩
    ·rw [if_neg c3] at H
     exact absurd H (by simp)
   ·rw [if_neg c2] at H
    have c2b0 : decide (x3_1 < (a0.size : Int)) = false:=decide_eq_false c2;clear c2;replace H:=Option.bind_eq_some_iff.mp H;obtain ⟨t1,A80,H⟩:=H;replace H : (some t1) = some r:=H;have A8:=a0_ A80;clear A80;obtain rfl:=Option.some.inj H;go_wp2_with (first | ((with_reducible refine gate_callee (f:=70) rfl ?_);refine goesL_ (some 22) rfl rfl Try.func70 (by kernel_rfl) rfl #[.int .i64 (a0.size : Int),.int .i64 1,.int .i64 6] rfl lm_ ?_;(with_reducible refine (spec_inRange.calls (a0.size : Int) 1 6 t1 _ A8.out).mono ?_);rintro e w' ⟨rfl,⟨nd,rfl⟩⟩;refine ⟨_,rfl,?_⟩));go_ret;exact ⟨by first | rfl | (simp;done) | (simp [*];done),by repeat (first | exact Drawn0.refl _ | apply Drawn0.step)⟩
theorem spec_validName_l0 (s : ByteArray) (hs : s.size ≤ 9223372036854775807) (d : Nat) : ∀ (k : Nat) (i : Nat),i ≤ s.size → s.size - i = d → d < k → spec_validName.l0 k s (i : Int) = some ((s.data.toList.drop i).all (fun c=>decide (97 ≤ c.toNat) && decide (c.toNat ≤ 122)) && (decide (1 ≤ s.size) && decide (s.size ≤ 6))):=by
 induction d with
 | zero =>
  intro k i hi hd hk
  obtain ⟨k,rfl⟩ : ∃ m,k = m + 1:=⟨k - 1,by omega⟩
  simp only [spec_validName.l0]
  rw [if_neg (by omega)]
  have : s.data.toList.drop i = []:=by
   apply List.drop_eq_nil_of_le
   have : s.data.toList.length = s.size:=toL_len s
   omega
  rw [this]
  simp only [spec_inRange.f,List.all_nil,Bool.true_and]
  by_cases h1 : 1 ≤ s.size
  ·rw [if_pos (show (s.size : Int) ≥ 1 by omega)]
   by_cases h2 : s.size ≤ 6
   ·simp [h1,h2];omega
   ·simp [h2];omega
  ·rw [if_neg (show ¬ (1 : Int) ≤ s.size by omega)];simp [h1]
 | succ d ih =>
  intro k i hi hd hk
  obtain ⟨k,rfl⟩ : ∃ m,k = m + 1:=⟨k - 1,by omega⟩
  have hlt : i < s.size:=by omega
  have hl : s.data.toList.length = s.size:=toL_len s
  simp only [spec_validName.l0]
  rw [if_pos (show (i : Int) < (s.size : Int) by omega),if_pos (show (0 : Int) ≤ (i : Int) by omega),bt_getElem s i hlt]
  have hd2 : s.data.toList.drop i = s[i] :: s.data.toList.drop (i + 1):=by
   rw [List.drop_eq_getElem_cons (by omega)]
   congr 1
  rw [hd2,List.all_cons]
  by_cases h1 : (s[i].toNat : Int) < 97
  ·rw [if_pos h1];have : ¬ 97 ≤ s[i].toNat:=by omega
   simp [this]
  ·rw [if_neg h1]
   by_cases h2 : (s[i].toNat : Int) > 122
   ·rw [if_pos h2];have : ¬ s[i].toNat ≤ 122:=by omega
    simp [this]
   ·rw [if_neg h2,wrap_succ (n:=s.size) (by omega) (by omega) (by omega)]
    have:=ih k (i + 1) (by omega) (by omega) (by omega)
    rw [show ((i : Int) + 1) = ((i + 1 : Nat) : Int) by omega,this]
    have a : 97 ≤ s[i].toNat:=by omega
    have b : s[i].toNat ≤ 122:=by omega
    simp [a,b]
theorem spec_validName_ev (s : ByteArray) (hs : s.size ≤ 9223372036854775807) : spec_validName.f (s.size + 1) s = some (okName s):=by
 unfold spec_validName.f okName
 have:=spec_validName_l0 s hs s.size (s.size + 1) 0 (by omega) (by omega) (by omega)
 simpa using this
end Go.Proofs.Ytacgehaipacehaa.P
namespace Go.Proofs.Ytacgehaipacehaa.P
open Go.RowKit Go.Proofs.YtacgehaipacehaaW.PrintWords Go.Proofs.YtacgehaipacehaaW.PrintLast Go.Proofs.YtacgehaipacehaaW.PrintMore
attribute [local go_sem] max2_int min2_int max_two min_two max_three min_three max_four min_four
set_option linter.unusedVariables false
set_option linter.unusedSimpArgs false
theorem named_ahead (t : List Cls) (i : Nat) (hi : i < t.length) : (named (t.take i) t[i].f0 ≥ 0) ↔ ¬ named t t[i].f0 = (i : Int):=by
 have hself : (t[i].f0.toList == t[i].f0.toList) = true:=beq_self_eq_true _
 have hd:=idxP_nonneg (fun x : Cls=>x.f0.toList == t[i].f0.toList) (t.take i)
 unfold named
 by_cases hA : ∀ j (hj : j < t.length),j < i → (t[j].f0.toList == t[i].f0.toList) = false
 ·have h1 : idxP (fun x : Cls=>x.f0.toList == t[i].f0.toList) t = (i : Int):=idxP_hit _ t i hi hself hA
  have h2 : (t.take i).any (fun x : Cls=>x.f0.toList == t[i].f0.toList) = false:=by
   rw [List.any_eq_false]
   intro x hx
   obtain ⟨j,hj,rfl⟩:=List.getElem_of_mem hx
   have hj2 : j < i ∧ j < t.length:=by simp at hj;omega
   rw [List.getElem_take]
   simp [hA j hj2.2 hj2.1]
  rw [h2,decide_eq_false_iff_not] at hd
  constructor
  ·intro h;exact absurd h hd
  ·intro h;exact absurd h1 h
 ·have hex : ∃ j,∃ hj : j < t.length,j < i ∧ (t[j].f0.toList == t[i].f0.toList) = true:=by
   apply Classical.byContradiction
   intro hn
   apply hA
   intro j hj hji
   cases hb : (t[j].f0.toList == t[i].f0.toList) with
   | false=>rfl
   | true=>exact absurd ⟨j,hj,hji,hb⟩ hn
  obtain ⟨j,hj,hji,hb⟩:=hex
  have h2 : (t.take i).any (fun x : Cls=>x.f0.toList == t[i].f0.toList) = true:=by
   rw [List.any_eq_true]
   exact ⟨t[j],List.mem_take_iff_getElem.2 ⟨j,by omega,rfl⟩,hb⟩
  rw [h2,decide_eq_true_eq] at hd
  constructor
  ·intro _ h
   unfold idxP at h
   cases hf : t.findIdx? (fun x : Cls=>x.f0.toList == t[i].f0.toList) with
   | none=>rw [hf] at h;simp at h
   | some m =>
    rw [hf] at h
    have hm : m = i:=by have h' : (m : Int) = (i : Int):=h;omega
    subst hm
    rw [List.findIdx?_eq_some_iff_getElem] at hf
    obtain ⟨_,_,hf⟩:=hf
    exact absurd hb (by simpa using hf j hji)
  ·intro _;exact hd
def spec_validTree.f (l0_0 : List (S125)) : Option Bool:=if smT l0_0 = true then some (vT l0_0) else none
set_option maxHeartbeats 4000000 in
set_option maxRecDepth 100000 in
theorem spec_validTree.calls (A0_0 : Option Addr) (c0_0 : Nat) (l0_0 : List (S125)) (r : Bool) (w : World) (hr0_0 : Kd.C k125 w A0_0 l0_0.length l0_0) (hc0_0 : l0_0.length ≤ c0_0) (h : spec_validTree.f l0_0 = some r) :
  Calls Try.prog 107 #[.agg #[.slice A0_0 l0_0.length c0_0]] w fun e w'=>e = .returned (.bool r) ∧ Below w.heap.size w w':=by
 have hu31:=Try.underlying25
 have hsm : smT l0_0 = true:=by
  apply Classical.byContradiction;intro hn;rw [spec_validTree.f,if_neg hn] at h;cases h
 rw [spec_validTree.f,if_pos hsm] at h;have HRr:=a0_ (Option.some.inj h);have HSM:=a0_ hsm;have HR:=a0_ hr0_0;have hmax : l0_0.length ≤ 9223372036854775807:=hr0_0.2.1;clear h hsm hr0_0;go_enter Try.func107,Try.ntmps107;go_wp2;go_loopg [3] l0_0.length (fun gg s3 wr=>∃ kk : Nat,kk ≤ l0_0.length ∧ l0_0.length - kk ≤ gg ∧ s3 = .int .i64 kk ∧ Aside0 (Below w.heap.size w wr) ∧ Aside0 (wr.heap[w.heap.size]? = some (.cells #[.slice A0_0 l0_0.length c0_0] 25 (0,0))) ∧ Aside0 (∀ j,j < kk → okCls l0_0 j (l0_0.getD j z125) = true))
 case atStart=>exact ⟨0,Nat.zero_le _,by omega,rfl,⟨below1 w _⟩,⟨heap_new1 w _⟩,⟨fun j hj=>absurd hj (Nat.not_lt_zero _)⟩⟩
 case round =>
  obtain ⟨kk,hkk,hg,rfl,BW,BK,HA⟩:=hrel;have hcz : wr.cell? ⟨w.heap.size,0,none⟩ = some (.slice A0_0 l0_0.length c0_0):=(blk_cell BK.out 0).trans rfl;by_cases hlt : kk < l0_0.length
  ·have hltz : (kk : Int) < (l0_0.length : Int):=by omega
   obtain ⟨ad,ea,hx0,hx1⟩:=at_T125 HR.out (kk : Int) (by omega) (by omega);cases ea
   have hrd : rd_T125 l0_0 (kk : Int) = l0_0[kk]:=by simp [rd_T125,hlt]
   rw [hrd] at hx0 hx1;rw [Int.toNat_natCast] at hx0 hx1;replace hx0:=(BW.out.cell (World.block_lt_of_cell? w _ hx0)).trans hx0;replace hx1:=(BW.out.cell (World.block_lt_of_cell? w _ hx1)).trans hx1;clear hrd;generalize hy : l0_0[kk] = y at hx0 hx1;have B:=a0_ hy;clear hy;go_upto_region 5 with (fail);have hW1:=a0_ (below_alloc BW.out (.cells #[.string y.f0,.int .i64 y.f1] 125));have hW2:=a0_ (blk_alloc BK.out (.cells #[.string y.f0,.int .i64 y.f1] 125));have hW3:=(blk_cell hW2.out 0).trans rfl;have hW4:=(blk_cell (heap_new1 wr (.cells #[.string y.f0,.int .i64 y.f1] 125)) 0).trans rfl;have hW5:=(blk_cell (heap_new1 wr (.cells #[.string y.f0,.int .i64 y.f1] 125)) 1).trans rfl;clear hcz hx0 hx1 BW BK;generalize wr.alloc (.cells #[.string y.f0,.int .i64 y.f1] 125) = W1 at hW1 hW2 hW3 hW4 hW5 ⊢;generalize wr.heap.size = gb at hW4 hW5 ⊢
   have hy1 : y.f0.size ≤ 9223372036854775806:=by rw [← B.out];exact smT_at HSM.out kk hlt
   have A1:=a0_ (spec_validName_ev y.f0 (by omega))
   have hlen : (l0_0.take kk).length = kk:=by simp;omega
   have hcn0:=fun (W : World) (hW : Below w.heap.size w W)=>spec_classNamed.calls _ (some ad) c0_0 (l0_0.take kk) y.f0 _ W (by
    have h1:=Kd.C_take (Kd.C_below HR.out hW) (show kk ≤ l0_0.length by omega)
    exact h1) (by rw [hlen];omega) (spec_classNamed_ev (l0_0.take kk) y.f0 (by rw [hlen];omega))
   rw [hlen] at hcn0;have hahead:=named_ahead l0_0 kk hlt;rw [B.out] at hahead
   have hok : okCls l0_0 kk (l0_0.getD kk z125) = okCls l0_0 kk y:=by
    rw [← B.out];simp [List.getD,hlt]
   have hdef : okCls l0_0 kk y = (okName y.f0 && (decide (named l0_0 y.f0 = (kk : Int)) && (if kk = 0 then decide (y.f1 = -1) else decide (0 ≤ y.f1) && decide (y.f1 ≤ (kk : Int) - 1)))):=rfl;generalize hnn : named (l0_0.take kk) y.f0 = nn at hcn0 hahead;have HCN:=a0_ hcn0;have HAH:=a0_ hahead;have HOK:=a0_ hok;have HDF:=a0_ hdef;clear hcn0 hahead hok hdef hnn hlen hy1
   have hcut : ∀ W : World,(Instr.slice 23 (.slice (some ad) l0_0.length c0_0) none (some (.int .i64 (kk : Int))) none).run Try.prog W = .ok (.slice (some ad) kk c0_0) W:=by
    obtain ⟨i0,hi0,_,hsz,_⟩:=info_parts info125;have h1:=cut_to (P:=Try.prog) 23 125 .i64 Try.underlying23 hi0 (some ad) l0_0.length c0_0 (kk : Int) (by omega) (by omega) hc0_0;rw [Int.toNat_natCast] at h1;exact h1
   go_cut [51] (fun v51 wc=>v51 = .bool (!okCls l0_0 kk y) ∧ Aside0 (Below w.heap.size w wc) ∧ Aside0 (wc.heap[w.heap.size]? = some (.cells #[.slice (some ad) l0_0.length c0_0] 25 (0,0))))
   case first =>
    have hw1 : IntKind.i64.wrap ((kk : Int) - 1) = (kk : Int) - 1:=by rw [IntKind.wrap_i64];omega
    have A2:=a0_ (show spec_inRange.f y.f1 0 ((kk : Int) - 1) = some (decide (0 ≤ y.f1) && decide (y.f1 ≤ (kk : Int) - 1)) by
     unfold spec_inRange.f;by_cases h0 : 0 ≤ y.f1
     ·rw [if_pos h0];simp [h0]
     ·rw [if_neg h0];simp [h0])
    cases hb1 : okName y.f0 with
    | false =>
     rw [hb1] at A1
     have BV : okCls l0_0 kk y = false:=by rw [HDF.out,hb1];rfl
     clear HDF HAH HOK
     go_quiet (first
     | (go_at_call 149;(with_reducible refine (spec_validName.calls _ y.f0 _ _ A1.out).mono ?_);rintro e w' ⟨rfl,⟨nd,rfl⟩⟩;exact ⟨rfl,_,World.drewN_drewN _ _ _⟩)
     | (go_at_call 135;(with_reducible refine (HCN.out _ (pw_below_drewN hW1.out _)).mono ?_);rintro e w' ⟨rfl,⟨nd,rfl⟩⟩;exact ⟨rfl,_,World.drewN_drewN _ _ _⟩)
     | (go_at_call 70;(with_reducible refine (spec_inRange.calls y.f1 0 ((kk : Int) - 1) _ _ A2.out).mono ?_);rintro e w' ⟨rfl,⟨nd,rfl⟩⟩;exact ⟨rfl,_,World.drewN_drewN _ _ _⟩))
     go_wp2;go_meet
     case rel=>exact ⟨by (rw [BV]);first | rfl | (simp [*];done),⟨pw_below_drewN hW1.out _⟩,⟨blk_drewN hW2.out _⟩⟩
    | true =>
     rw [hb1] at A1;by_cases hb2 : nn ≥ 0
     ·have BV : okCls l0_0 kk y = false:=by rw [HDF.out,hb1,decide_eq_false (HAH.out.1 hb2)];rfl
      have d2 : decide (0 ≤ nn) = true:=decide_eq_true hb2;clear HDF HAH HOK hb2
      go_quiet (first
     | (go_at_call 149;(with_reducible refine (spec_validName.calls _ y.f0 _ _ A1.out).mono ?_);rintro e w' ⟨rfl,⟨nd,rfl⟩⟩;exact ⟨rfl,_,World.drewN_drewN _ _ _⟩)
     | (go_at_call 135;(with_reducible refine (HCN.out _ (pw_below_drewN hW1.out _)).mono ?_);rintro e w' ⟨rfl,⟨nd,rfl⟩⟩;exact ⟨rfl,_,World.drewN_drewN _ _ _⟩)
     | (go_at_call 70;(with_reducible refine (spec_inRange.calls y.f1 0 ((kk : Int) - 1) _ _ A2.out).mono ?_);rintro e w' ⟨rfl,⟨nd,rfl⟩⟩;exact ⟨rfl,_,World.drewN_drewN _ _ _⟩))
      go_wp2;go_meet
      case rel=>exact ⟨by (rw [BV]);first | rfl | (simp [*];done),⟨pw_below_drewN hW1.out _⟩,⟨blk_drewN hW2.out _⟩⟩
     ·have hnm : named l0_0 y.f0 = (kk : Int):=Classical.byContradiction fun hn=>hb2 (HAH.out.2 hn)
      have d2 : decide (0 ≤ nn) = false:=decide_eq_false hb2
      have BV0 : okCls l0_0 kk y = (if kk = 0 then decide (y.f1 = -1) else decide (0 ≤ y.f1) && decide (y.f1 ≤ (kk : Int) - 1)):=by rw [HDF.out,hb1,decide_eq_true hnm];rfl
      clear HDF HAH HOK hb2 hnm;by_cases hk0 : kk = 0
      ·have BV : okCls l0_0 kk y = decide (y.f1 = -1):=by rw [BV0,if_pos hk0]
       have e0 : ((kk : Int) == 0) = true:=beq_iff_eq.2 (by omega);have e1 : decide (0 < (kk : Int)) = false:=decide_eq_false (by omega);have e1n : decide (0 < kk) = false:=decide_eq_false (by omega);clear BV0;by_cases hp : y.f1 = -1
       ·have e2 : (y.f1 != -1) = false:=by rw [hp];rfl
        have e3 : (y.f1 == -1) = true:=by rw [hp];rfl
        rw [decide_eq_true hp] at BV;clear hp hk0
        go_quiet (first
     | (go_at_call 149;(with_reducible refine (spec_validName.calls _ y.f0 _ _ A1.out).mono ?_);rintro e w' ⟨rfl,⟨nd,rfl⟩⟩;exact ⟨rfl,_,World.drewN_drewN _ _ _⟩)
     | (go_at_call 135;(with_reducible refine (HCN.out _ (pw_below_drewN hW1.out _)).mono ?_);rintro e w' ⟨rfl,⟨nd,rfl⟩⟩;exact ⟨rfl,_,World.drewN_drewN _ _ _⟩)
     | (go_at_call 70;(with_reducible refine (spec_inRange.calls y.f1 0 ((kk : Int) - 1) _ _ A2.out).mono ?_);rintro e w' ⟨rfl,⟨nd,rfl⟩⟩;exact ⟨rfl,_,World.drewN_drewN _ _ _⟩))
        go_wp2;go_meet
        case rel=>exact ⟨by (rw [BV]);first | rfl | (simp [*];done),⟨pw_below_drewN hW1.out _⟩,⟨blk_drewN hW2.out _⟩⟩
       ·have e2 : (y.f1 != -1) = true:=bne_iff_ne.2 hp
        have e3 : (y.f1 == -1) = false:=beq_eq_false_iff_ne.2 hp;rw [decide_eq_false hp] at BV;clear hp hk0
        go_quiet (first
     | (go_at_call 149;(with_reducible refine (spec_validName.calls _ y.f0 _ _ A1.out).mono ?_);rintro e w' ⟨rfl,⟨nd,rfl⟩⟩;exact ⟨rfl,_,World.drewN_drewN _ _ _⟩)
     | (go_at_call 135;(with_reducible refine (HCN.out _ (pw_below_drewN hW1.out _)).mono ?_);rintro e w' ⟨rfl,⟨nd,rfl⟩⟩;exact ⟨rfl,_,World.drewN_drewN _ _ _⟩)
     | (go_at_call 70;(with_reducible refine (spec_inRange.calls y.f1 0 ((kk : Int) - 1) _ _ A2.out).mono ?_);rintro e w' ⟨rfl,⟨nd,rfl⟩⟩;exact ⟨rfl,_,World.drewN_drewN _ _ _⟩))
        go_wp2;go_meet
        case rel=>exact ⟨by (rw [BV]);first | rfl | (simp [*];done),⟨pw_below_drewN hW1.out _⟩,⟨blk_drewN hW2.out _⟩⟩
      ·have BV : okCls l0_0 kk y = (decide (0 ≤ y.f1) && decide (y.f1 ≤ (kk : Int) - 1)):=by rw [BV0,if_neg hk0]
       have e0 : ((kk : Int) == 0) = false:=beq_eq_false_iff_ne.2 (by omega);have e1 : decide (0 < (kk : Int)) = true:=decide_eq_true (by omega);have e1n : decide (0 < kk) = true:=decide_eq_true (by omega);rw [← BV] at A2;clear BV BV0 hk0
       cases BV : okCls l0_0 kk y with
       | false =>
        rw [BV] at A2
        go_quiet (first
     | (go_at_call 149;(with_reducible refine (spec_validName.calls _ y.f0 _ _ A1.out).mono ?_);rintro e w' ⟨rfl,⟨nd,rfl⟩⟩;exact ⟨rfl,_,World.drewN_drewN _ _ _⟩)
     | (go_at_call 135;(with_reducible refine (HCN.out _ (pw_below_drewN hW1.out _)).mono ?_);rintro e w' ⟨rfl,⟨nd,rfl⟩⟩;exact ⟨rfl,_,World.drewN_drewN _ _ _⟩)
     | (go_at_call 70;(with_reducible refine (spec_inRange.calls y.f1 0 ((kk : Int) - 1) _ _ A2.out).mono ?_);rintro e w' ⟨rfl,⟨nd,rfl⟩⟩;exact ⟨rfl,_,World.drewN_drewN _ _ _⟩))
        go_wp2;go_meet
        case rel=>exact ⟨by (rw [BV]);first | rfl | (simp [*];done),⟨pw_below_drewN hW1.out _⟩,⟨blk_drewN hW2.out _⟩⟩
       | true =>
        rw [BV] at A2
        go_quiet (first
     | (go_at_call 149;(with_reducible refine (spec_validName.calls _ y.f0 _ _ A1.out).mono ?_);rintro e w' ⟨rfl,⟨nd,rfl⟩⟩;exact ⟨rfl,_,World.drewN_drewN _ _ _⟩)
     | (go_at_call 135;(with_reducible refine (HCN.out _ (pw_below_drewN hW1.out _)).mono ?_);rintro e w' ⟨rfl,⟨nd,rfl⟩⟩;exact ⟨rfl,_,World.drewN_drewN _ _ _⟩)
     | (go_at_call 70;(with_reducible refine (spec_inRange.calls y.f1 0 ((kk : Int) - 1) _ _ A2.out).mono ?_);rintro e w' ⟨rfl,⟨nd,rfl⟩⟩;exact ⟨rfl,_,World.drewN_drewN _ _ _⟩))
        go_wp2;go_meet
        case rel=>exact ⟨by (rw [BV]);first | rfl | (simp [*];done),⟨pw_below_drewN hW1.out _⟩,⟨blk_drewN hW2.out _⟩⟩
   case rest =>
    obtain ⟨rfl,hW,hK⟩:=hcut;have hb:=HOK.out
    cases BV : okCls l0_0 kk y with
    | false =>
     go_wp2;go_ret;refine ⟨?_,hW.out⟩;rw [← HRr.out]
     have : vT l0_0 = false:=by
      cases hv : vT l0_0 with
      | false=>rfl
      | true=>have:=vT_at hv kk hlt;rw [HOK.out,BV] at this;cases this
     rw [this];rfl
    | true =>
     go_wp2;go_roundg (l0_0.length - (kk + 1))
     case measure=>omega
     case rel =>
      refine ⟨kk + 1,by omega,by omega,by go_num,⟨hW.out⟩,⟨hK.out⟩,⟨fun j hj=>?_⟩⟩;by_cases e : j = kk
      ·subst e;rw [HOK.out,BV]
      ·exact HA.out j (by omega)
  ·have hltz : ¬ (kk : Int) < (l0_0.length : Int):=by omega
   have : kk = l0_0.length:=by omega
   subst this
   have A3:=a0_ (show spec_inRange.f (l0_0.length : Int) 1 8 = some (vT l0_0) by
    have hall : (List.range l0_0.length).all (fun i=>okCls l0_0 i (l0_0.getD i z125)) = true:=by
     rw [List.all_eq_true];intro i hi;exact HA.out i (by simpa using hi)
    unfold spec_inRange.f vT;rw [hall];by_cases h1 : (1 : Int) ≤ l0_0.length
    ·rw [if_pos h1]
     have h1' : 1 ≤ l0_0.length:=by omega
     by_cases h8 : l0_0.length ≤ 8
     ·simp [h1',h8];omega
     ·simp [h8];omega
    ·rw [if_neg h1]
     have h1' : ¬ 1 ≤ l0_0.length:=by omega
     simp [h1'])
   rw [HRr.out] at A3;go_wp2_with (go_at_call 70;(with_reducible refine (spec_inRange.calls (l0_0.length : Int) 1 8 _ _ A3.out).mono ?_);rintro e w' ⟨rfl,⟨nd,rfl⟩⟩);go_ret;exact ⟨rfl,pw_below_drewN BW.out _⟩
end Go.Proofs.Ytacgehaipacehaa.P
namespace Go.Proofs.Ytacgehaipacehaa.P
open Go.RowKit Go.Proofs.YtacgehaipacehaaW.PrintWords Go.Proofs.YtacgehaipacehaaW.PrintLast Go.Proofs.YtacgehaipacehaaW.PrintMore
attribute [local go_sem] max2_int min2_int max_two min_two max_three min_three max_four min_four
set_option linter.unusedVariables false
set_option linter.unusedSimpArgs false
def spec_blockEnd.l0 : Nat → List (S75) → Int → Int → Option (Int)
 | 0,_,_,_=>none
 | k + 1,x0,x1,x5=>if x5 < (x0.length : Int) then (if 0 ≤ x5 then (if 0 ≤ x1 then (if x1 < (x0.length : Int) then (if ((rd_T75 x0 x5).f0) > ((rd_T75 x0 x1).f0) then (spec_blockEnd.l0 k x0 x1 (wrap64 (x5 + 1))) else (some x5)) else (none)) else (none)) else (none)) else (some x5)
def spec_blockEnd.f (k : Nat) (l0 : List (S75)) (a1 : Int) : Option (Int):=spec_blockEnd.l0 k l0 a1 (wrap64 (a1 + 1))
theorem spec_blockEnd.mono_l : ∀ k,(∀ y0 y1 y2,LeO (spec_blockEnd.l0 k y0 y1 y2) (spec_blockEnd.l0 (k + 1) y0 y1 y2))
 | 0=>fun _ _ _ r h=>by simp [spec_blockEnd.l0] at h
 | k + 1=>by
  have ih0:=spec_blockEnd.mono_l k
  ·intro y0 y1 y2
   unfold spec_blockEnd.l0
   repeat' first
   | (with_reducible exact ih0 _ _ _)
   | (with_reducible exact LeO.refl _)
   | (with_reducible exact LeO.none _)
   | (with_reducible refine LeO.ite ?_ ?_)
   | (with_reducible refine LeO.bind ?_ (fun _=>?_))
theorem spec_blockEnd.mono : ∀ a0 a1 k,LeO (spec_blockEnd.f k a0 a1) (spec_blockEnd.f (k + 1) a0 a1):=by
 intro a0 a1 k
 have ih0:=spec_blockEnd.mono_l k
 unfold spec_blockEnd.f
 repeat' first
   | (with_reducible exact ih0 _ _ _)
   | (with_reducible exact LeO.refl _)
   | (with_reducible exact LeO.none _)
   | (with_reducible refine LeO.ite ?_ ?_)
   | (with_reducible refine LeO.bind ?_ (fun _=>?_))
set_option maxHeartbeats 8000000 in
set_option maxRecDepth 100000 in
theorem spec_blockEnd.calls (k : Nat) (A0 : Option Addr) (c0 : Nat) (l0 : List (S75)) (a1 : Int) (r : Int) (w : World) (hr0 : Kd.C k75 w A0 l0.length l0) (hc0 : l0.length ≤ c0) (h : spec_blockEnd.f k l0 a1 = some r) :
  Calls Try.prog 176 #[.slice A0 l0.length c0,.int .i64 a1] w fun e w'=>e = .returned (.int .i64 r) ∧ Drawn0 w w':=by
 have HR0:=a0_ hr0;have HC0:=a0_ hc0;clear hr0 hc0;have H : (spec_blockEnd.l0 k l0 a1 (wrap64 (a1 + 1))) = some r:=h;clear h;have H':=a0_ H;clear H;go_enter Try.func176,Try.ntmps176;go_wp2
 repeat (go_quiet (fail);try go_wp2)
 go_loopg [5] k (fun kq v5 w'=>∃ (x5_1 : Int),v5 = .int .i64 x5_1 ∧ Aside0 (spec_blockEnd.l0 kq l0 a1 x5_1 = some r) ∧ Aside0 (kq ≤ k) ∧ Drawn0 w w')
 case atStart=>exact ⟨(wrap64 (a1 + 1)),(by first | rfl | (simp;done) | (simp [*];done)),H',⟨Nat.le_refl _⟩,by repeat (first | exact Drawn0.refl _ | apply Drawn0.step)⟩
 case round =>
  clear H';(try clear c1);(try clear p2);obtain ⟨x5_1,rfl,HA,HK1,⟨m1,rfl⟩⟩:=hrel
  cases gk with
  | zero=>exact absurd HA.out (by simp [spec_blockEnd.l0])
  | succ k1 =>
   have H:=HA.out;clear HA;simp only [spec_blockEnd.l0] at H;by_cases c3 : x5_1 < (l0.length : Int)
   ·rw [if_pos c3] at H
    have c3b0 : decide (x5_1 < (l0.length : Int)) = true:=decide_eq_true c3;clear c3;by_cases c4 : 0 ≤ x5_1
    ·rw [if_pos c4] at H
     have c4b0 : decide (0 ≤ x5_1) = true:=decide_eq_true c4;clear c4;by_cases c5 : 0 ≤ a1
     ·rw [if_pos c5] at H
      have c5b0 : decide (0 ≤ a1) = true:=decide_eq_true c5;clear c5;by_cases c6 : a1 < (l0.length : Int)
      ·rw [if_pos c6] at H
       have c6b0 : decide (a1 < (l0.length : Int)) = true:=decide_eq_true c6;clear c6;by_cases c7 : ((rd_T75 l0 x5_1).f0) > ((rd_T75 l0 a1).f0)
       ·rw [if_pos c7] at H
        have c7b0 : decide (((rd_T75 l0 a1).f0) < ((rd_T75 l0 x5_1).f0)) = true:=decide_eq_true c7;clear c7;have H':=a0_ H;clear H;have p1 : 0 ≤ (x5_1 : Int):=od_;have q1 : x5_1 < (l0.length : Int):=od_;obtain ⟨ad1,e1,hx1_0,hx1_1,hx1_2,hx1_3⟩:=at_T75 HR0.out x5_1 p1 q1;cases e1;replace p1:=eq_true p1;replace q1:=eq_true q1;have p2 : 0 ≤ (a1 : Int):=od_;have q2 : a1 < (l0.length : Int):=od_;obtain ⟨ad2,e2,hx2_0,hx2_1,hx2_2,hx2_3⟩:=at_T75 HR0.out a1 p2 q2;obtain rfl : ad1 = ad2:=(by injection e2);replace p2:=eq_true p2;replace q2:=eq_true q2;go_wp2
        repeat (go_quiet (fail);try go_wp2)
        go_roundg k1
        case measure=>have:=HK1.out;omega
        case rel=>exact ⟨(wrap64 (x5_1 + 1)),(by first | rfl | (simp;done) | (simp [*];done)),H',⟨by have:=HK1.out;omega⟩,by repeat (first | exact Drawn0.refl _ | apply Drawn0.step)⟩
       ·rw [if_neg c7] at H
        have c7b0 : decide (((rd_T75 l0 a1).f0) < ((rd_T75 l0 x5_1).f0)) = false:=decide_eq_false c7;clear c7;obtain rfl:=Option.some.inj H;have p1 : 0 ≤ (x5_1 : Int):=od_;have q1 : x5_1 < (l0.length : Int):=od_;obtain ⟨ad1,e1,hx1_0,hx1_1,hx1_2,hx1_3⟩:=at_T75 HR0.out x5_1 p1 q1;cases e1;replace p1:=eq_true p1;replace q1:=eq_true q1;have p2 : 0 ≤ (a1 : Int):=od_;have q2 : a1 < (l0.length : Int):=od_;obtain ⟨ad2,e2,hx2_0,hx2_1,hx2_2,hx2_3⟩:=at_T75 HR0.out a1 p2 q2;obtain rfl : ad1 = ad2:=(by injection e2);replace p2:=eq_true p2;replace q2:=eq_true q2;go_wp2
        repeat (go_quiet (fail);try go_wp2)
        go_ret;exact ⟨by first | rfl | (simp;done) | (simp [*];done),by repeat (first | exact Drawn0.refl _ | apply Drawn0.step)⟩
      ·rw [if_neg c6] at H
       exact absurd H (by simp)
     ·rw [if_neg c5] at H
      exact absurd H (by simp)
    ·rw [if_neg c4] at H
     exact absurd H (by simp)
   ·rw [if_neg c3] at H
    have c3b0 : decide (x5_1 < (l0.length : Int)) = false:=decide_eq_false c3;clear c3;obtain rfl:=Option.some.inj H;go_wp2
    repeat (go_quiet (fail);try go_wp2)
    go_ret;exact ⟨by first | rfl | (simp;done) | (simp [*];done),by repeat (first | exact Drawn0.refl _ | apply Drawn0.step)⟩
theorem rd_ldS (l : List S75) (j : Nat) : (rd_T75 l (j : Int)).f0 = ld l j:=rfl
theorem rd_lkS (l : List S75) (j : Nat) : (rd_T75 l (j : Int)).f1 = lk l j:=rfl
theorem wrap_natS {i n : Nat} (h : i < n) (hn : n ≤ 1099511627776) : wrap64 ((i : Int) + 1) = ((i + 1 : Nat) : Int):=by
 rw [wrap_succ (i:=(i : Int)) (n:=n) (by omega) (by omega) (by omega)]
 rfl
theorem spec_blockEnd_ev (l : List S75) (i : Nat) (hi : i < l.length) (hl : l.length ≤ 1099511627776) : Ev (fun k=>spec_blockEnd.f k l (i : Int)) ((endN l i : Nat) : Int):=by
 have key : ∀ d j,j + d = endN l i → i < j → Ev (fun k=>spec_blockEnd.l0 k l (i : Int) (j : Int)) ((endN l i : Nat) : Int):=by
  intro d
  induction d with
  | zero =>
   intro j hj hij
   obtain rfl : j = endN l i:=by omega
   refine Ev.succ ?_
   simp only [spec_blockEnd.l0,rd_ldS]
   by_cases hn : endN l i < l.length
   ·have:=endN_at hi hn
    exact Ev.pos (by omega) (Ev.pos (by omega) (Ev.pos (by omega) (Ev.pos (by omega) (Ev.neg (by omega) (Ev.const rfl)))))
   ·exact Ev.neg (by omega) (Ev.const rfl)
  | succ d ih =>
   intro j hj hij
   have hle:=endN_le hi
   have hin:=endN_in (l:=l) (i:=i) (j:=j) hij (by omega)
   refine Ev.succ ?_
   simp only [spec_blockEnd.l0,rd_ldS]
   rw [wrap_natS (n:=l.length) (by omega) hl]
   exact Ev.pos (by omega) (Ev.pos (by omega) (Ev.pos (by omega) (Ev.pos (by omega) (Ev.pos (by omega) (ih (j + 1) (by omega) (by omega))))))
 have hg:=endN_gt l i
 unfold spec_blockEnd.f
 rw [wrap_natS hi hl]
 exact key (endN l i - (i + 1)) (i + 1) (by omega) (by omega)
end Go.Proofs.Ytacgehaipacehaa.P
namespace Go.Proofs.Ytacgehaipacehaa.P
open Go.RowKit Go.Proofs.YtacgehaipacehaaW.PrintWords Go.Proofs.YtacgehaipacehaaW.PrintLast Go.Proofs.YtacgehaipacehaaW.PrintMore
attribute [local go_sem] max2_int min2_int max_two min_two max_three min_three max_four min_four
set_option linter.unusedVariables false
set_option linter.unusedSimpArgs false
def spec_hasClass.f (l0_0 : List (S125)) (a1 : Int) : Option (Bool):=(spec_inRange.f a1 0 (wrap64 ((l0_0.length : Int) - 1))).bind fun t2=>(some t2)
set_option maxHeartbeats 8000000 in
set_option maxRecDepth 100000 in
theorem spec_hasClass.calls (A0_0 : Option Addr) (c0_0 : Nat) (l0_0 : List (S125)) (a1 : Int) (r : Bool) (w : World) (hr0_0 : Kd.C k125 w A0_0 l0_0.length l0_0) (hc0_0 : l0_0.length ≤ c0_0) (h : spec_hasClass.f l0_0 a1 = some r) :
  Calls Try.prog 69 #[.agg #[.slice A0_0 l0_0.length c0_0],.int .i64 a1] w fun e w'=>e = .returned (.bool r) ∧ Below w.heap.size w w':=by
 have hu25:=Try.underlying25;have HR0_0:=a0_ hr0_0;have HC0_0:=a0_ hc0_0;clear hr0_0 hc0_0;have HB:=a0_ (Below.refl w.heap.size w);have H : ((spec_inRange.f a1 0 (wrap64 ((l0_0.length : Int) - 1))).bind fun t2=>(some t2)) = some r:=h;clear h;replace H:=Option.bind_eq_some_iff.mp H;obtain ⟨t2,A30,H⟩:=H;replace H : (some t2) = some r:=H;have A3:=a0_ A30;clear A30;obtain rfl:=Option.some.inj H;go_enter Try.func69,Try.ntmps69;go_wp2_with (first | ((with_reducible refine gate_dst (N:=2) rfl ?_);refine box_event ?hg (N:=2) ?hd (cs:=#[.slice A0_0 l0_0.length c0_0]) (t:=25) ?hr ?_;(case hd=>rfl);(case hg=>rfl);(case hr=>first | (go_simp;done) | (go_simp;rfl));intro gb1 hg w4 hbox hb;have BK1:=a0_ (hbox);have GW1:=a0_ ((by rw [hg];exact (below_size hbw_) : w.heap.size ≤ gb1));have GE1:=a0_ ((by rw [hg];exact (below_size hbw_) : w.heap.size ≤ gb1));replace HB:=a0_ (below_step hbw_ hb);clear hb hbox hg;have hcz5_0 : w4.cell? ⟨gb1,0,none⟩ = some (.slice A0_0 l0_0.length c0_0):=(blk_cell BK1.out 0).trans rfl;have hfz5_0:=blk_frozen BK1.out 0) | ((with_reducible refine gate_callee (f:=70) rfl ?_);refine goesL_ (some 10) rfl rfl Try.func70 (by kernel_rfl) rfl #[.int .i64 a1,.int .i64 0,.int .i64 (wrap64 ((l0_0.length : Int) - 1))] rfl lm_ ?_;(with_reducible refine (spec_inRange.calls a1 0 (wrap64 ((l0_0.length : Int) - 1)) t2 _ A3.out).mono ?_);rintro e w' ⟨rfl,⟨nd,rfl⟩⟩;refine ⟨_,rfl,?_⟩));go_ret;exact ⟨by first | rfl | (simp [errW_none,errW_some] <;> rfl) | (simp [*,errW_none,errW_some] <;> rfl),hbw_⟩
theorem spec_hasClass_ev (t : List Cls) (a : Int) (hl : t.length ≤ 9223372036854775807) : spec_hasClass.f t a = some (hasC t a):=by
 unfold spec_hasClass.f spec_inRange.f hasC
 rw [wrap_pred (by omega) (by omega)]
 by_cases h0 : 0 ≤ a
 ·rw [if_pos h0]
  simp only [Option.bind_some,Option.some.injEq,decide_eq_true h0,Bool.true_and]
  by_cases h1 : a < (t.length : Int)
  ·rw [decide_eq_true h1,decide_eq_true (by omega)]
  ·rw [decide_eq_false h1,decide_eq_false (by omega)]
 ·rw [if_neg h0]
  simp [decide_eq_false h0]
end Go.Proofs.Ytacgehaipacehaa.P
namespace Go.Proofs.Ytacgehaipacehaa.P
open Go.RowKit Go.Proofs.YtacgehaipacehaaW.PrintWords Go.Proofs.YtacgehaipacehaaW.PrintLast Go.Proofs.YtacgehaipacehaaW.PrintMore
attribute [local go_sem] max2_int min2_int max_two min_two max_three min_three max_four min_four
set_option linter.unusedVariables false
set_option linter.unusedSimpArgs false
def spec_validNumbers.j0 : Nat → Int → Bool → List (S125) → Int → Int → Int → Int → Option (Bool)
 | 0,_,_,_,_,_,_,_=>none
 | k + 1,x6,x7,x2000,x3000,x3001,x3002,x3003=>if x7 = true then ((spec_inRange.f x3002 0 99).bind fun t3=>(if t3 = true then (some (x3003 == 0)) else (some false))) else (if x6 = 2 then ((spec_hasClass.f x2000 x3002).bind fun t4=>(if t4 = true then ((spec_inRange.f x3003 0 99).bind fun t5=>(some t5)) else (some false))) else (if x6 = 8 then ((spec_hasClass.f x2000 x3002).bind fun t6=>(if t6 = true then (some (x3003 == 0)) else (some false))) else (if x6 = 11 then ((spec_inRange.f x3002 0 9).bind fun t7=>(if t7 = true then ((spec_inRange.f x3003 0 1).bind fun t8=>(some t8)) else (some false))) else (if x6 = 12 then ((spec_inRange.f x3002 0 3).bind fun t9=>(if t9 = true then (some (x3003 == 0)) else (some false))) else ((spec_inRange.f x3001 0 10).bind fun t10=>(if t10 = true then (if x3002 = 0 then (some (x3003 == 0)) else (some false)) else (some false)))))))
def spec_validNumbers.f (k : Nat) (l0_0 : List (S125)) (a1_0 : Int) (a1_1 : Int) (a1_2 : Int) (a1_3 : Int) : Option (Bool):=if a1_1 = 1 then (spec_validNumbers.j0 k a1_1 (a1_1 == 1) l0_0 a1_0 a1_1 a1_2 a1_3) else (spec_validNumbers.j0 k a1_1 (a1_1 == 4) l0_0 a1_0 a1_1 a1_2 a1_3)
theorem spec_validNumbers.mono_l : ∀ k,(∀ y0 y1 y2 y3 y4 y5 y6,LeO (spec_validNumbers.j0 k y0 y1 y2 y3 y4 y5 y6) (spec_validNumbers.j0 (k + 1) y0 y1 y2 y3 y4 y5 y6))
 | 0=>fun _ _ _ _ _ _ _ r h=>by simp [spec_validNumbers.j0] at h
 | k + 1=>by
  have ih0:=spec_validNumbers.mono_l k
  ·intro y0 y1 y2 y3 y4 y5 y6
   unfold spec_validNumbers.j0
   repeat' first
   | (with_reducible exact ih0 _ _ _ _ _ _ _)
   | (with_reducible exact LeO.refl _)
   | (with_reducible exact LeO.none _)
   | (with_reducible refine LeO.ite ?_ ?_)
   | (with_reducible refine LeO.bind ?_ (fun _=>?_))
theorem spec_validNumbers.mono : ∀ a0 a1 a2 a3 a4 k,LeO (spec_validNumbers.f k a0 a1 a2 a3 a4) (spec_validNumbers.f (k + 1) a0 a1 a2 a3 a4):=by
 intro a0 a1 a2 a3 a4 k
 have ih0:=spec_validNumbers.mono_l k
 unfold spec_validNumbers.f
 repeat' first
   | (with_reducible exact ih0 _ _ _ _ _ _ _)
   | (with_reducible exact LeO.refl _)
   | (with_reducible exact LeO.none _)
   | (with_reducible refine LeO.ite ?_ ?_)
   | (with_reducible refine LeO.bind ?_ (fun _=>?_))
set_option maxHeartbeats 8000000 in
set_option maxRecDepth 100000 in
theorem spec_validNumbers.calls (k : Nat) (A0_0 : Option Addr) (c0_0 : Nat) (l0_0 : List (S125)) (a1_0 : Int) (a1_1 : Int) (a1_2 : Int) (a1_3 : Int) (r : Bool) (w : World) (hr0_0 : Kd.C k125 w A0_0 l0_0.length l0_0) (hc0_0 : l0_0.length ≤ c0_0) (h : spec_validNumbers.f k l0_0 a1_0 a1_1 a1_2 a1_3 = some r) :
  Calls Try.prog 157 #[.agg #[.slice A0_0 l0_0.length c0_0],.agg #[.int .i64 a1_0,.int .i64 a1_1,.int .i64 a1_2,.int .i64 a1_3]] w fun e w'=>e = .returned (.bool r) ∧ Below w.heap.size w w':=by
 have hu25:=Try.underlying25;have hu75:=Try.underlying75;have HR0_0:=a0_ hr0_0;have HC0_0:=a0_ hc0_0;clear hr0_0 hc0_0;have HB:=a0_ (Below.refl w.heap.size w);have H : (if a1_1 = 1 then (spec_validNumbers.j0 k a1_1 (a1_1 == 1) l0_0 a1_0 a1_1 a1_2 a1_3) else (spec_validNumbers.j0 k a1_1 (a1_1 == 4) l0_0 a1_0 a1_1 a1_2 a1_3)) = some r:=h;clear h;have HC3:=a0_ H;clear H;go_enter Try.func157,Try.ntmps157;go_upto_if 7 with (first | ((with_reducible refine gate_dst (N:=2) rfl ?_);refine box_event ?hg (N:=2) ?hd (cs:=#[.slice A0_0 l0_0.length c0_0]) (t:=25) ?hr ?_;(case hd=>rfl);(case hg=>rfl);(case hr=>first | (go_simp;done) | (go_simp;rfl));intro gb1 hg w4 hbox hb;have BK1:=a0_ (hbox);have GW1:=a0_ ((by rw [hg];exact (below_size hbw_) : w.heap.size ≤ gb1));have GE1:=a0_ ((by rw [hg];exact (below_size hbw_) : w.heap.size ≤ gb1));replace HB:=a0_ (below_step hbw_ hb);clear hb hbox hg) | ((with_reducible refine gate_dst (N:=3) rfl ?_);refine box_event ?hg (N:=3) ?hd (cs:=#[.int .i64 a1_0,.int .i64 a1_1,.int .i64 a1_2,.int .i64 a1_3]) (t:=75) ?hr ?_;(case hd=>rfl);(case hg=>rfl);(case hr=>first | (go_simp;done) | (go_simp;rfl));intro gb2 hg w5 hbox hb;have n0_:=kb_ BK1 hb;have n1_:=a0_ (below_step hbw_ hb);have n2_:=a0_ (hbox);have n3_:=a0_ ((by rw [hg];exact (below_size hbw_) : w.heap.size ≤ gb2));have n4_:=a0_ ((by rw [hg];exact (below_size hbw_) : w.heap.size ≤ gb2));have n5_:=a0_ ((by rw [hg];exact Nat.ne_of_lt (blk_lt (bb_ BK1.out)) : gb1 ≠ gb2));have n6_:=a0_ ((by rw [hg];exact Nat.ne_of_gt (blk_lt (bb_ BK1.out)) : gb2 ≠ gb1));clear BK1 HB;have BK1:=n0_;have HB:=n1_;have BK2:=n2_;have GW2:=n3_;have GE2:=n4_;have NB1_2:=n5_;have NB2_1:=n6_;clear n0_ n1_ n2_ n3_ n4_ n5_ n6_;clear hb hbox hg;have hnb6:=NB2_1.out;have hnc6:=NB1_2.out;have hcz7_0 : w5.cell? ⟨gb2,0,none⟩ = some (.int .i64 a1_0):=(blk_cell BK2.out 0).trans rfl;have hcz7_1 : w5.cell? ⟨gb2,1,none⟩ = some (.int .i64 a1_1):=(blk_cell BK2.out 1).trans rfl;have hcz7_2 : w5.cell? ⟨gb2,2,none⟩ = some (.int .i64 a1_2):=(blk_cell BK2.out 2).trans rfl;have hcz7_3 : w5.cell? ⟨gb2,3,none⟩ = some (.int .i64 a1_3):=(blk_cell BK2.out 3).trans rfl;have hfz7_0:=blk_frozen BK2.out 0;have hfz7_1:=blk_frozen BK2.out 1;have hfz7_2:=blk_frozen BK2.out 2;have hfz7_3:=blk_frozen BK2.out 3));(try simp only [Act.put,s1_,s2_,s3_]);go_cut [7] (fun v7 wc=>∃ (kq : Nat) (x7_2 : Bool),v7 = .bool x7_2 ∧ Aside0 (spec_validNumbers.j0 kq a1_1 x7_2 l0_0 a1_0 a1_1 a1_2 a1_3 = some r) ∧ Aside0 (kq ≤ k) ∧ Aside0 (wc.heap[gb1]? = some (.cells #[(.slice A0_0 l0_0.length c0_0)] 25 (0,0))) ∧ Aside0 (wc.heap[gb2]? = some (.cells #[.int .i64 a1_0,.int .i64 a1_1,.int .i64 a1_2,.int .i64 a1_3] 75 (0,0))) ∧ Aside0 (Below w.heap.size w wc))
 case first =>
  have H:=HC3.out;clear HC3;by_cases c8 : a1_1 = 1
  ·rw [if_pos c8] at H
   have c8b0 : (a1_1 == 1) = true:=beq_iff_eq.mpr c8;have c8b1 : (a1_1 != 1) = false:=bne_eq_false_iff_eq.mpr c8;clear c8;(first | rw [c8b0] | (simp only [i64_w,i32_w];rw [c8b0]) | skip);have H':=a0_ H;clear H;go_wp2;go_meet
   case rel=>exact ⟨_,((a1_1 == 1)),(by first | rfl | (simp;done) | (simp [*];done)),H',⟨by first | omega | exact Nat.le_refl _⟩,⟨by (with_reducible repeat (first | refine blk_drewN ?_ _ | refine blk_drew ?_ | refine blk_alloc ?_ _));exact BK1.out⟩,⟨by (with_reducible repeat (first | refine blk_drewN ?_ _ | refine blk_drew ?_ | refine blk_alloc ?_ _));exact BK2.out⟩,⟨hbw_⟩⟩
  ·rw [if_neg c8] at H
   have c8b0 : (a1_1 == 1) = false:=beq_eq_false_iff_ne.mpr c8;have c8b1 : (a1_1 != 1) = true:=bne_iff_ne.mpr c8;(first | rw [c8b0] | (simp only [i64_w,i32_w];rw [c8b0]) | skip);have H':=a0_ H;clear H;go_wp2;go_meet
   case rel=>exact ⟨_,((a1_1 == 4)),(by first | rfl | (simp;done) | (simp [*];done)),H',⟨by first | omega | exact Nat.le_refl _⟩,⟨by (with_reducible repeat (first | refine blk_drewN ?_ _ | refine blk_drew ?_ | refine blk_alloc ?_ _));exact BK1.out⟩,⟨by (with_reducible repeat (first | refine blk_drewN ?_ _ | refine blk_drew ?_ | refine blk_alloc ?_ _));exact BK2.out⟩,⟨hbw_⟩⟩
 case rest =>
  clear HC3;(try clear c1);(try clear p2);(try clear c6);(try clear c8);(try clear c8b0);(try clear c8b1);(try clear hcz7_0);(try clear hcz7_1);(try clear hcz7_2);(try clear hcz7_3);(try clear hfz7_0);(try clear hfz7_1);(try clear hfz7_2);(try clear hfz7_3);obtain ⟨kq,x7_2,rfl,HA,HJ2,BK1,BK2,HB⟩:=hcut
  cases kq with
  | zero=>exact absurd HA.out (by simp [spec_validNumbers.j0])
  | succ kj2 =>
   have H:=HA.out;clear HA;simp only [spec_validNumbers.j0] at H;by_cases c9 : x7_2 = true
   ·subst c9
    have H1 : ((spec_inRange.f a1_2 0 99).bind fun t3=>(if t3 = true then (some (a1_3 == 0)) else (some false))) = some r:=by rw [if_pos rfl] at H;exact H
    clear H;have H:=H1;clear H1;replace H:=Option.bind_eq_some_iff.mp H;obtain ⟨t3,A100,H⟩:=H;(try dsimp only at H);have A10:=a0_ A100;clear A100;by_cases c11 : t3 = true
    ·subst c11
     have H1 : (some (a1_3 == 0)) = some r:=by rw [if_pos rfl] at H;exact H
     clear H;have H:=H1;clear H1;obtain rfl:=Option.some.inj H;have hnb12:=NB2_1.out;have hnc12:=NB1_2.out;have hcz13_0 : wc.cell? ⟨gb2,0,none⟩ = some (.int .i64 a1_0):=(blk_cell BK2.out 0).trans rfl;have hcz13_1 : wc.cell? ⟨gb2,1,none⟩ = some (.int .i64 a1_1):=(blk_cell BK2.out 1).trans rfl;have hcz13_2 : wc.cell? ⟨gb2,2,none⟩ = some (.int .i64 a1_2):=(blk_cell BK2.out 2).trans rfl;have hcz13_3 : wc.cell? ⟨gb2,3,none⟩ = some (.int .i64 a1_3):=(blk_cell BK2.out 3).trans rfl;have hfz13_0:=blk_frozen BK2.out 0;have hfz13_1:=blk_frozen BK2.out 1;have hfz13_2:=blk_frozen BK2.out 2;have hfz13_3:=blk_frozen BK2.out 3;go_wp2_with (first | ((with_reducible refine gate_callee (f:=70) rfl ?_);refine goesL_ (some 12) rfl rfl Try.func70 (by kernel_rfl) rfl #[.int .i64 a1_2,.int .i64 0,.int .i64 99] rfl lm_ ?_;(with_reducible refine (spec_inRange.calls a1_2 0 99 true _ A10.out).mono ?_);rintro e w' ⟨rfl,⟨nd,rfl⟩⟩;refine ⟨_,rfl,?_⟩));go_ret;exact ⟨by first | rfl | (simp [errW_none,errW_some] <;> rfl) | (simp [*,errW_none,errW_some] <;> rfl),hbw_⟩
    ·replace c11:=Bool.eq_false_iff.mpr c11
     subst c11
     have H1 : (some false) = some r:=by rw [if_neg (show ¬ (false = true) by decide)] at H;exact H
     clear H;have H:=H1;clear H1;obtain rfl:=Option.some.inj H;have hnb14:=NB2_1.out;have hnc14:=NB1_2.out;have hcz15_0 : wc.cell? ⟨gb2,0,none⟩ = some (.int .i64 a1_0):=(blk_cell BK2.out 0).trans rfl;have hcz15_1 : wc.cell? ⟨gb2,1,none⟩ = some (.int .i64 a1_1):=(blk_cell BK2.out 1).trans rfl;have hcz15_2 : wc.cell? ⟨gb2,2,none⟩ = some (.int .i64 a1_2):=(blk_cell BK2.out 2).trans rfl;have hcz15_3 : wc.cell? ⟨gb2,3,none⟩ = some (.int .i64 a1_3):=(blk_cell BK2.out 3).trans rfl;have hfz15_0:=blk_frozen BK2.out 0;have hfz15_1:=blk_frozen BK2.out 1;have hfz15_2:=blk_frozen BK2.out 2;have hfz15_3:=blk_frozen BK2.out 3;go_wp2_with (first | ((with_reducible refine gate_callee (f:=70) rfl ?_);refine goesL_ (some 12) rfl rfl Try.func70 (by kernel_rfl) rfl #[.int .i64 a1_2,.int .i64 0,.int .i64 99] rfl lm_ ?_;(with_reducible refine (spec_inRange.calls a1_2 0 99 false _ A10.out).mono ?_);rintro e w' ⟨rfl,⟨nd,rfl⟩⟩;refine ⟨_,rfl,?_⟩));go_ret;exact ⟨by first | rfl | (simp [errW_none,errW_some] <;> rfl) | (simp [*,errW_none,errW_some] <;> rfl),hbw_⟩
   ·replace c9:=Bool.eq_false_iff.mpr c9
    subst c9
    have H1 : (if a1_1 = 2 then ((spec_hasClass.f l0_0 a1_2).bind fun t4=>(if t4 = true then ((spec_inRange.f a1_3 0 99).bind fun t5=>(some t5)) else (some false))) else (if a1_1 = 8 then ((spec_hasClass.f l0_0 a1_2).bind fun t6=>(if t6 = true then (some (a1_3 == 0)) else (some false))) else (if a1_1 = 11 then ((spec_inRange.f a1_2 0 9).bind fun t7=>(if t7 = true then ((spec_inRange.f a1_3 0 1).bind fun t8=>(some t8)) else (some false))) else (if a1_1 = 12 then ((spec_inRange.f a1_2 0 3).bind fun t9=>(if t9 = true then (some (a1_3 == 0)) else (some false))) else ((spec_inRange.f a1_1 0 10).bind fun t10=>(if t10 = true then (if a1_2 = 0 then (some (a1_3 == 0)) else (some false)) else (some false))))))) = some r:=by rw [if_neg (show ¬ (false = true) by decide)] at H;exact H
    clear H;have H:=H1;clear H1;by_cases c16 : a1_1 = 2
    ·rw [if_pos c16] at H
     have c16b0 : (a1_1 == 2) = true:=beq_iff_eq.mpr c16;have c16b1 : (a1_1 != 2) = false:=bne_eq_false_iff_eq.mpr c16;clear c16;replace H:=Option.bind_eq_some_iff.mp H;obtain ⟨t4,A170,H⟩:=H;(try dsimp only at H);have A17:=a0_ A170;clear A170;by_cases c18 : t4 = true
     ·subst c18
      have H1 : ((spec_inRange.f a1_3 0 99).bind fun t5=>(some t5)) = some r:=by rw [if_pos rfl] at H;exact H
      clear H;have H:=H1;clear H1;replace H:=Option.bind_eq_some_iff.mp H;obtain ⟨t5,A190,H⟩:=H;replace H : (some t5) = some r:=H;have A19:=a0_ A190;clear A190;obtain rfl:=Option.some.inj H;have hnb20:=NB1_2.out;have hnc20:=NB2_1.out;have hcz21_0 : wc.cell? ⟨gb1,0,none⟩ = some (.slice A0_0 l0_0.length c0_0):=(blk_cell BK1.out 0).trans rfl;have hfz21_0:=blk_frozen BK1.out 0;have hcz22_0 : wc.cell? ⟨gb2,0,none⟩ = some (.int .i64 a1_0):=(blk_cell BK2.out 0).trans rfl;have hcz22_1 : wc.cell? ⟨gb2,1,none⟩ = some (.int .i64 a1_1):=(blk_cell BK2.out 1).trans rfl;have hcz22_2 : wc.cell? ⟨gb2,2,none⟩ = some (.int .i64 a1_2):=(blk_cell BK2.out 2).trans rfl;have hcz22_3 : wc.cell? ⟨gb2,3,none⟩ = some (.int .i64 a1_3):=(blk_cell BK2.out 3).trans rfl;have hfz22_0:=blk_frozen BK2.out 0;have hfz22_1:=blk_frozen BK2.out 1;have hfz22_2:=blk_frozen BK2.out 2;have hfz22_3:=blk_frozen BK2.out 3;go_wp2_with (first | ((with_reducible refine gate_callee (f:=69) rfl ?_);refine goesL_ (some 23) rfl rfl Try.func69 (by kernel_rfl) rfl #[.agg #[.slice A0_0 l0_0.length c0_0],.int .i64 a1_2] rfl lm_ ?_;(with_reducible refine (spec_hasClass.calls _ _ l0_0 a1_2 true _ ?side1 ?side2 A17.out).mono ?_);(case side1=>exact cc_ (Kd.C_below HR0_0.out HB.out));(case side2=>exact HC0_0.out);rintro e w23 ⟨rfl,hb⟩;refine ⟨_,rfl,?_⟩;replace BK1:=kb_ BK1 hb;replace BK2:=kb_ BK2 hb;replace HB:=a0_ (below_step hbw_ hb);(try clear hb);have hcz24_0 : w23.cell? ⟨gb2,0,none⟩ = some (.int .i64 a1_0):=(blk_cell BK2.out 0).trans rfl;have hcz24_1 : w23.cell? ⟨gb2,1,none⟩ = some (.int .i64 a1_1):=(blk_cell BK2.out 1).trans rfl;have hcz24_2 : w23.cell? ⟨gb2,2,none⟩ = some (.int .i64 a1_2):=(blk_cell BK2.out 2).trans rfl;have hcz24_3 : w23.cell? ⟨gb2,3,none⟩ = some (.int .i64 a1_3):=(blk_cell BK2.out 3).trans rfl;have hfz24_0:=blk_frozen BK2.out 0;have hfz24_1:=blk_frozen BK2.out 1;have hfz24_2:=blk_frozen BK2.out 2;have hfz24_3:=blk_frozen BK2.out 3) | (go_at_call 70;(with_reducible refine (spec_inRange.calls a1_3 0 99 t5 _ A19.out).mono ?_);rintro e w' ⟨rfl,⟨nd,rfl⟩⟩));go_ret;exact ⟨by first | rfl | (simp [errW_none,errW_some] <;> rfl) | (simp [*,errW_none,errW_some] <;> rfl),hbw_⟩
     ·replace c18:=Bool.eq_false_iff.mpr c18
      subst c18
      have H1 : (some false) = some r:=by rw [if_neg (show ¬ (false = true) by decide)] at H;exact H
      clear H;have H:=H1;clear H1;obtain rfl:=Option.some.inj H;have hnb25:=NB1_2.out;have hnc25:=NB2_1.out;have hcz26_0 : wc.cell? ⟨gb1,0,none⟩ = some (.slice A0_0 l0_0.length c0_0):=(blk_cell BK1.out 0).trans rfl;have hfz26_0:=blk_frozen BK1.out 0;have hcz27_0 : wc.cell? ⟨gb2,0,none⟩ = some (.int .i64 a1_0):=(blk_cell BK2.out 0).trans rfl;have hcz27_1 : wc.cell? ⟨gb2,1,none⟩ = some (.int .i64 a1_1):=(blk_cell BK2.out 1).trans rfl;have hcz27_2 : wc.cell? ⟨gb2,2,none⟩ = some (.int .i64 a1_2):=(blk_cell BK2.out 2).trans rfl;have hcz27_3 : wc.cell? ⟨gb2,3,none⟩ = some (.int .i64 a1_3):=(blk_cell BK2.out 3).trans rfl;have hfz27_0:=blk_frozen BK2.out 0;have hfz27_1:=blk_frozen BK2.out 1;have hfz27_2:=blk_frozen BK2.out 2;have hfz27_3:=blk_frozen BK2.out 3;go_wp2_with (first | ((with_reducible refine gate_callee (f:=69) rfl ?_);refine goesL_ (some 23) rfl rfl Try.func69 (by kernel_rfl) rfl #[.agg #[.slice A0_0 l0_0.length c0_0],.int .i64 a1_2] rfl lm_ ?_;(with_reducible refine (spec_hasClass.calls _ _ l0_0 a1_2 false _ ?side1 ?side2 A17.out).mono ?_);(case side1=>exact cc_ (Kd.C_below HR0_0.out HB.out));(case side2=>exact HC0_0.out);rintro e w28 ⟨rfl,hb⟩;refine ⟨_,rfl,?_⟩;replace BK1:=kb_ BK1 hb;replace BK2:=kb_ BK2 hb;replace HB:=a0_ (below_step hbw_ hb);(try clear hb);(try clear hb2);(try clear hk);(try clear hi)));go_ret;exact ⟨by first | rfl | (simp [errW_none,errW_some] <;> rfl) | (simp [*,errW_none,errW_some] <;> rfl),hbw_⟩
    ·rw [if_neg c16] at H
     have c16b0 : (a1_1 == 2) = false:=beq_eq_false_iff_ne.mpr c16;have c16b1 : (a1_1 != 2) = true:=bne_iff_ne.mpr c16;by_cases c29 : a1_1 = 8
     ·rw [if_pos c29] at H
      have c29b0 : (a1_1 == 8) = true:=beq_iff_eq.mpr c29;have c29b1 : (a1_1 != 8) = false:=bne_eq_false_iff_eq.mpr c29;clear c29;replace H:=Option.bind_eq_some_iff.mp H;obtain ⟨t6,A300,H⟩:=H;(try dsimp only at H);have A30:=a0_ A300;clear A300;by_cases c31 : t6 = true
      ·subst c31
       have H1 : (some (a1_3 == 0)) = some r:=by rw [if_pos rfl] at H;exact H
       clear H;have H:=H1;clear H1;obtain rfl:=Option.some.inj H;have hnb32:=NB1_2.out;have hnc32:=NB2_1.out;have hcz33_0 : wc.cell? ⟨gb1,0,none⟩ = some (.slice A0_0 l0_0.length c0_0):=(blk_cell BK1.out 0).trans rfl;have hfz33_0:=blk_frozen BK1.out 0;have hcz34_0 : wc.cell? ⟨gb2,0,none⟩ = some (.int .i64 a1_0):=(blk_cell BK2.out 0).trans rfl;have hcz34_1 : wc.cell? ⟨gb2,1,none⟩ = some (.int .i64 a1_1):=(blk_cell BK2.out 1).trans rfl;have hcz34_2 : wc.cell? ⟨gb2,2,none⟩ = some (.int .i64 a1_2):=(blk_cell BK2.out 2).trans rfl;have hcz34_3 : wc.cell? ⟨gb2,3,none⟩ = some (.int .i64 a1_3):=(blk_cell BK2.out 3).trans rfl;have hfz34_0:=blk_frozen BK2.out 0;have hfz34_1:=blk_frozen BK2.out 1;have hfz34_2:=blk_frozen BK2.out 2;have hfz34_3:=blk_frozen BK2.out 3;go_wp2_with (first | ((with_reducible refine gate_callee (f:=69) rfl ?_);refine goesL_ (some 34) rfl rfl Try.func69 (by kernel_rfl) rfl #[.agg #[.slice A0_0 l0_0.length c0_0],.int .i64 a1_2] rfl lm_ ?_;(with_reducible refine (spec_hasClass.calls _ _ l0_0 a1_2 true _ ?side1 ?side2 A30.out).mono ?_);(case side1=>exact cc_ (Kd.C_below HR0_0.out HB.out));(case side2=>exact HC0_0.out);rintro e w35 ⟨rfl,hb⟩;refine ⟨_,rfl,?_⟩;replace BK1:=kb_ BK1 hb;replace BK2:=kb_ BK2 hb;replace HB:=a0_ (below_step hbw_ hb);(try clear hb);have hcz36_0 : w35.cell? ⟨gb2,0,none⟩ = some (.int .i64 a1_0):=(blk_cell BK2.out 0).trans rfl;have hcz36_1 : w35.cell? ⟨gb2,1,none⟩ = some (.int .i64 a1_1):=(blk_cell BK2.out 1).trans rfl;have hcz36_2 : w35.cell? ⟨gb2,2,none⟩ = some (.int .i64 a1_2):=(blk_cell BK2.out 2).trans rfl;have hcz36_3 : w35.cell? ⟨gb2,3,none⟩ = some (.int .i64 a1_3):=(blk_cell BK2.out 3).trans rfl;have hfz36_0:=blk_frozen BK2.out 0;have hfz36_1:=blk_frozen BK2.out 1;have hfz36_2:=blk_frozen BK2.out 2;have hfz36_3:=blk_frozen BK2.out 3));go_ret;exact ⟨by first | rfl | (simp [errW_none,errW_some] <;> rfl) | (simp [*,errW_none,errW_some] <;> rfl),hbw_⟩
      ·replace c31:=Bool.eq_false_iff.mpr c31
       subst c31
       have H1 : (some false) = some r:=by rw [if_neg (show ¬ (false = true) by decide)] at H;exact H
       clear H;have H:=H1;clear H1;obtain rfl:=Option.some.inj H;have hnb37:=NB1_2.out;have hnc37:=NB2_1.out;have hcz38_0 : wc.cell? ⟨gb1,0,none⟩ = some (.slice A0_0 l0_0.length c0_0):=(blk_cell BK1.out 0).trans rfl;have hfz38_0:=blk_frozen BK1.out 0;have hcz39_0 : wc.cell? ⟨gb2,0,none⟩ = some (.int .i64 a1_0):=(blk_cell BK2.out 0).trans rfl;have hcz39_1 : wc.cell? ⟨gb2,1,none⟩ = some (.int .i64 a1_1):=(blk_cell BK2.out 1).trans rfl;have hcz39_2 : wc.cell? ⟨gb2,2,none⟩ = some (.int .i64 a1_2):=(blk_cell BK2.out 2).trans rfl;have hcz39_3 : wc.cell? ⟨gb2,3,none⟩ = some (.int .i64 a1_3):=(blk_cell BK2.out 3).trans rfl;have hfz39_0:=blk_frozen BK2.out 0;have hfz39_1:=blk_frozen BK2.out 1;have hfz39_2:=blk_frozen BK2.out 2;have hfz39_3:=blk_frozen BK2.out 3;go_wp2_with (first | ((with_reducible refine gate_callee (f:=69) rfl ?_);refine goesL_ (some 34) rfl rfl Try.func69 (by kernel_rfl) rfl #[.agg #[.slice A0_0 l0_0.length c0_0],.int .i64 a1_2] rfl lm_ ?_;(with_reducible refine (spec_hasClass.calls _ _ l0_0 a1_2 false _ ?side1 ?side2 A30.out).mono ?_);(case side1=>exact cc_ (Kd.C_below HR0_0.out HB.out));(case side2=>exact HC0_0.out);rintro e w40 ⟨rfl,hb⟩;refine ⟨_,rfl,?_⟩;replace BK1:=kb_ BK1 hb;replace BK2:=kb_ BK2 hb;replace HB:=a0_ (below_step hbw_ hb);(try clear hb);(try clear hb2);(try clear hk);(try clear hi)));go_ret;exact ⟨by first | rfl | (simp [errW_none,errW_some] <;> rfl) | (simp [*,errW_none,errW_some] <;> rfl),hbw_⟩
     ·rw [if_neg c29] at H
      have c29b0 : (a1_1 == 8) = false:=beq_eq_false_iff_ne.mpr c29;have c29b1 : (a1_1 != 8) = true:=bne_iff_ne.mpr c29;by_cases c41 : a1_1 = 11
      ·rw [if_pos c41] at H
       have c41b0 : (a1_1 == 11) = true:=beq_iff_eq.mpr c41;have c41b1 : (a1_1 != 11) = false:=bne_eq_false_iff_eq.mpr c41;clear c41;replace H:=Option.bind_eq_some_iff.mp H;obtain ⟨t7,A420,H⟩:=H;(try dsimp only at H);have A42:=a0_ A420;clear A420;by_cases c43 : t7 = true
       ·subst c43
        have H1 : ((spec_inRange.f a1_3 0 1).bind fun t8=>(some t8)) = some r:=by rw [if_pos rfl] at H;exact H
        clear H;have H:=H1;clear H1;replace H:=Option.bind_eq_some_iff.mp H;obtain ⟨t8,A440,H⟩:=H;replace H : (some t8) = some r:=H;have A44:=a0_ A440;clear A440;obtain rfl:=Option.some.inj H;have hnb45:=NB2_1.out;have hnc45:=NB1_2.out;have hcz46_0 : wc.cell? ⟨gb2,0,none⟩ = some (.int .i64 a1_0):=(blk_cell BK2.out 0).trans rfl;have hcz46_1 : wc.cell? ⟨gb2,1,none⟩ = some (.int .i64 a1_1):=(blk_cell BK2.out 1).trans rfl;have hcz46_2 : wc.cell? ⟨gb2,2,none⟩ = some (.int .i64 a1_2):=(blk_cell BK2.out 2).trans rfl;have hcz46_3 : wc.cell? ⟨gb2,3,none⟩ = some (.int .i64 a1_3):=(blk_cell BK2.out 3).trans rfl;have hfz46_0:=blk_frozen BK2.out 0;have hfz46_1:=blk_frozen BK2.out 1;have hfz46_2:=blk_frozen BK2.out 2;have hfz46_3:=blk_frozen BK2.out 3;go_wp2_with (first | ((with_reducible refine gate_callee (f:=70) rfl ?_);refine goesL_ (some 44) rfl rfl Try.func70 (by kernel_rfl) rfl #[.int .i64 a1_2,.int .i64 0,.int .i64 9] rfl lm_ ?_;(with_reducible refine (spec_inRange.calls a1_2 0 9 true _ A42.out).mono ?_);rintro e w' ⟨rfl,⟨nd,rfl⟩⟩;refine ⟨_,rfl,?_⟩) | (go_at_call 70;(with_reducible refine (spec_inRange.calls a1_3 0 1 t8 _ A44.out).mono ?_);rintro e w' ⟨rfl,⟨nd,rfl⟩⟩));go_ret;exact ⟨by first | rfl | (simp [errW_none,errW_some] <;> rfl) | (simp [*,errW_none,errW_some] <;> rfl),hbw_⟩
       ·replace c43:=Bool.eq_false_iff.mpr c43
        subst c43
        have H1 : (some false) = some r:=by rw [if_neg (show ¬ (false = true) by decide)] at H;exact H
        clear H;have H:=H1;clear H1;obtain rfl:=Option.some.inj H;have hnb47:=NB2_1.out;have hnc47:=NB1_2.out;have hcz48_0 : wc.cell? ⟨gb2,0,none⟩ = some (.int .i64 a1_0):=(blk_cell BK2.out 0).trans rfl;have hcz48_1 : wc.cell? ⟨gb2,1,none⟩ = some (.int .i64 a1_1):=(blk_cell BK2.out 1).trans rfl;have hcz48_2 : wc.cell? ⟨gb2,2,none⟩ = some (.int .i64 a1_2):=(blk_cell BK2.out 2).trans rfl;have hcz48_3 : wc.cell? ⟨gb2,3,none⟩ = some (.int .i64 a1_3):=(blk_cell BK2.out 3).trans rfl;have hfz48_0:=blk_frozen BK2.out 0;have hfz48_1:=blk_frozen BK2.out 1;have hfz48_2:=blk_frozen BK2.out 2;have hfz48_3:=blk_frozen BK2.out 3;go_wp2_with (first | ((with_reducible refine gate_callee (f:=70) rfl ?_);refine goesL_ (some 44) rfl rfl Try.func70 (by kernel_rfl) rfl #[.int .i64 a1_2,.int .i64 0,.int .i64 9] rfl lm_ ?_;(with_reducible refine (spec_inRange.calls a1_2 0 9 false _ A42.out).mono ?_);rintro e w' ⟨rfl,⟨nd,rfl⟩⟩;refine ⟨_,rfl,?_⟩));go_ret;exact ⟨by first | rfl | (simp [errW_none,errW_some] <;> rfl) | (simp [*,errW_none,errW_some] <;> rfl),hbw_⟩
      ·rw [if_neg c41] at H
       have c41b0 : (a1_1 == 11) = false:=beq_eq_false_iff_ne.mpr c41;have c41b1 : (a1_1 != 11) = true:=bne_iff_ne.mpr c41;by_cases c49 : a1_1 = 12
       ·rw [if_pos c49] at H
        have c49b0 : (a1_1 == 12) = true:=beq_iff_eq.mpr c49;have c49b1 : (a1_1 != 12) = false:=bne_eq_false_iff_eq.mpr c49;clear c49;replace H:=Option.bind_eq_some_iff.mp H;obtain ⟨t9,A500,H⟩:=H;(try dsimp only at H);have A50:=a0_ A500;clear A500;by_cases c51 : t9 = true
        ·subst c51
         have H1 : (some (a1_3 == 0)) = some r:=by rw [if_pos rfl] at H;exact H
         clear H;have H:=H1;clear H1;obtain rfl:=Option.some.inj H;have hnb52:=NB2_1.out;have hnc52:=NB1_2.out;have hcz53_0 : wc.cell? ⟨gb2,0,none⟩ = some (.int .i64 a1_0):=(blk_cell BK2.out 0).trans rfl;have hcz53_1 : wc.cell? ⟨gb2,1,none⟩ = some (.int .i64 a1_1):=(blk_cell BK2.out 1).trans rfl;have hcz53_2 : wc.cell? ⟨gb2,2,none⟩ = some (.int .i64 a1_2):=(blk_cell BK2.out 2).trans rfl;have hcz53_3 : wc.cell? ⟨gb2,3,none⟩ = some (.int .i64 a1_3):=(blk_cell BK2.out 3).trans rfl;have hfz53_0:=blk_frozen BK2.out 0;have hfz53_1:=blk_frozen BK2.out 1;have hfz53_2:=blk_frozen BK2.out 2;have hfz53_3:=blk_frozen BK2.out 3;go_wp2_with (first | ((with_reducible refine gate_callee (f:=70) rfl ?_);refine goesL_ (some 54) rfl rfl Try.func70 (by kernel_rfl) rfl #[.int .i64 a1_2,.int .i64 0,.int .i64 3] rfl lm_ ?_;(with_reducible refine (spec_inRange.calls a1_2 0 3 true _ A50.out).mono ?_);rintro e w' ⟨rfl,⟨nd,rfl⟩⟩;refine ⟨_,rfl,?_⟩));go_ret;exact ⟨by first | rfl | (simp [errW_none,errW_some] <;> rfl) | (simp [*,errW_none,errW_some] <;> rfl),hbw_⟩
        ·replace c51:=Bool.eq_false_iff.mpr c51
         subst c51
         have H1 : (some false) = some r:=by rw [if_neg (show ¬ (false = true) by decide)] at H;exact H
         clear H;have H:=H1;clear H1;obtain rfl:=Option.some.inj H;have hnb54:=NB2_1.out;have hnc54:=NB1_2.out;have hcz55_0 : wc.cell? ⟨gb2,0,none⟩ = some (.int .i64 a1_0):=(blk_cell BK2.out 0).trans rfl;have hcz55_1 : wc.cell? ⟨gb2,1,none⟩ = some (.int .i64 a1_1):=(blk_cell BK2.out 1).trans rfl;have hcz55_2 : wc.cell? ⟨gb2,2,none⟩ = some (.int .i64 a1_2):=(blk_cell BK2.out 2).trans rfl;have hcz55_3 : wc.cell? ⟨gb2,3,none⟩ = some (.int .i64 a1_3):=(blk_cell BK2.out 3).trans rfl;have hfz55_0:=blk_frozen BK2.out 0;have hfz55_1:=blk_frozen BK2.out 1;have hfz55_2:=blk_frozen BK2.out 2;have hfz55_3:=blk_frozen BK2.out 3;go_wp2_with (first | ((with_reducible refine gate_callee (f:=70) rfl ?_);refine goesL_ (some 54) rfl rfl Try.func70 (by kernel_rfl) rfl #[.int .i64 a1_2,.int .i64 0,.int .i64 3] rfl lm_ ?_;(with_reducible refine (spec_inRange.calls a1_2 0 3 false _ A50.out).mono ?_);rintro e w' ⟨rfl,⟨nd,rfl⟩⟩;refine ⟨_,rfl,?_⟩));go_ret;exact ⟨by first | rfl | (simp [errW_none,errW_some] <;> rfl) | (simp [*,errW_none,errW_some] <;> rfl),hbw_⟩
       ·rw [if_neg c49] at H
        have c49b0 : (a1_1 == 12) = false:=beq_eq_false_iff_ne.mpr c49;have c49b1 : (a1_1 != 12) = true:=bne_iff_ne.mpr c49;replace H:=Option.bind_eq_some_iff.mp H;obtain ⟨t10,A560,H⟩:=H;(try dsimp only at H);have A56:=a0_ A560;clear A560;by_cases c57 : t10 = true
        ·subst c57
         have H1 : (if a1_2 = 0 then (some (a1_3 == 0)) else (some false)) = some r:=by rw [if_pos rfl] at H;exact H
         clear H;have H:=H1;clear H1;by_cases c58 : a1_2 = 0
         ·rw [if_pos c58] at H
          have c58b0 : (a1_2 == 0) = true:=beq_iff_eq.mpr c58;have c58b1 : (a1_2 != 0) = false:=bne_eq_false_iff_eq.mpr c58;clear c58;obtain rfl:=Option.some.inj H;have hnb59:=NB2_1.out;have hnc59:=NB1_2.out;have hcz60_0 : wc.cell? ⟨gb2,0,none⟩ = some (.int .i64 a1_0):=(blk_cell BK2.out 0).trans rfl;have hcz60_1 : wc.cell? ⟨gb2,1,none⟩ = some (.int .i64 a1_1):=(blk_cell BK2.out 1).trans rfl;have hcz60_2 : wc.cell? ⟨gb2,2,none⟩ = some (.int .i64 a1_2):=(blk_cell BK2.out 2).trans rfl;have hcz60_3 : wc.cell? ⟨gb2,3,none⟩ = some (.int .i64 a1_3):=(blk_cell BK2.out 3).trans rfl;have hfz60_0:=blk_frozen BK2.out 0;have hfz60_1:=blk_frozen BK2.out 1;have hfz60_2:=blk_frozen BK2.out 2;have hfz60_3:=blk_frozen BK2.out 3;go_wp2_with (first | ((with_reducible refine gate_callee (f:=70) rfl ?_);refine goesL_ (some 62) rfl rfl Try.func70 (by kernel_rfl) rfl #[.int .i64 a1_1,.int .i64 0,.int .i64 10] rfl lm_ ?_;(with_reducible refine (spec_inRange.calls a1_1 0 10 true _ A56.out).mono ?_);rintro e w' ⟨rfl,⟨nd,rfl⟩⟩;refine ⟨_,rfl,?_⟩));go_ret;exact ⟨by first | rfl | (simp [errW_none,errW_some] <;> rfl) | (simp [*,errW_none,errW_some] <;> rfl),hbw_⟩
         ·rw [if_neg c58] at H
          have c58b0 : (a1_2 == 0) = false:=beq_eq_false_iff_ne.mpr c58;have c58b1 : (a1_2 != 0) = true:=bne_iff_ne.mpr c58;obtain rfl:=Option.some.inj H;have hnb61:=NB2_1.out;have hnc61:=NB1_2.out;have hcz62_0 : wc.cell? ⟨gb2,0,none⟩ = some (.int .i64 a1_0):=(blk_cell BK2.out 0).trans rfl;have hcz62_1 : wc.cell? ⟨gb2,1,none⟩ = some (.int .i64 a1_1):=(blk_cell BK2.out 1).trans rfl;have hcz62_2 : wc.cell? ⟨gb2,2,none⟩ = some (.int .i64 a1_2):=(blk_cell BK2.out 2).trans rfl;have hcz62_3 : wc.cell? ⟨gb2,3,none⟩ = some (.int .i64 a1_3):=(blk_cell BK2.out 3).trans rfl;have hfz62_0:=blk_frozen BK2.out 0;have hfz62_1:=blk_frozen BK2.out 1;have hfz62_2:=blk_frozen BK2.out 2;have hfz62_3:=blk_frozen BK2.out 3;go_wp2_with (first | ((with_reducible refine gate_callee (f:=70) rfl ?_);refine goesL_ (some 62) rfl rfl Try.func70 (by kernel_rfl) rfl #[.int .i64 a1_1,.int .i64 0,.int .i64 10] rfl lm_ ?_;(with_reducible refine (spec_inRange.calls a1_1 0 10 true _ A56.out).mono ?_);rintro e w' ⟨rfl,⟨nd,rfl⟩⟩;refine ⟨_,rfl,?_⟩));go_ret;exact ⟨by first | rfl | (simp [errW_none,errW_some] <;> rfl) | (simp [*,errW_none,errW_some] <;> rfl),hbw_⟩
        ·replace c57:=Bool.eq_false_iff.mpr c57
         subst c57
         have H1 : (some false) = some r:=by rw [if_neg (show ¬ (false = true) by decide)] at H;exact H
         clear H;have H:=H1;clear H1;obtain rfl:=Option.some.inj H;have hnb63:=NB2_1.out;have hnc63:=NB1_2.out;have hcz64_0 : wc.cell? ⟨gb2,0,none⟩ = some (.int .i64 a1_0):=(blk_cell BK2.out 0).trans rfl;have hcz64_1 : wc.cell? ⟨gb2,1,none⟩ = some (.int .i64 a1_1):=(blk_cell BK2.out 1).trans rfl;have hcz64_2 : wc.cell? ⟨gb2,2,none⟩ = some (.int .i64 a1_2):=(blk_cell BK2.out 2).trans rfl;have hcz64_3 : wc.cell? ⟨gb2,3,none⟩ = some (.int .i64 a1_3):=(blk_cell BK2.out 3).trans rfl;have hfz64_0:=blk_frozen BK2.out 0;have hfz64_1:=blk_frozen BK2.out 1;have hfz64_2:=blk_frozen BK2.out 2;have hfz64_3:=blk_frozen BK2.out 3;go_wp2_with (first | ((with_reducible refine gate_callee (f:=70) rfl ?_);refine goesL_ (some 62) rfl rfl Try.func70 (by kernel_rfl) rfl #[.int .i64 a1_1,.int .i64 0,.int .i64 10] rfl lm_ ?_;(with_reducible refine (spec_inRange.calls a1_1 0 10 false _ A56.out).mono ?_);rintro e w' ⟨rfl,⟨nd,rfl⟩⟩;refine ⟨_,rfl,?_⟩));go_ret;exact ⟨by first | rfl | (simp [errW_none,errW_some] <;> rfl) | (simp [*,errW_none,errW_some] <;> rfl),hbw_⟩
theorem spec_validNumbers_ev (t : List Cls) (x : S75) (ht : t.length ≤ 9223372036854775807) : Ev (fun k=>spec_validNumbers.f k t x.f0 x.f1 x.f2 x.f3) (numOk t x):=by
 have j0 : Ev (fun k=>spec_validNumbers.j0 k x.f1 (decide (x.f1 = 1 ∨ x.f1 = 4)) t x.f0 x.f1 x.f2 x.f3) (numOk t x):=by
  refine Ev.succ ?_
  simp only [spec_validNumbers.j0]
  by_cases h0 : x.f1 = 1 ∨ x.f1 = 4
  ·rw [show numOk t x = (decide (0 ≤ x.f2) && decide (x.f2 ≤ 99) && (x.f3 == 0)) by rw [numOk,if_pos h0]]
   refine Ev.pos (by simp [h0]) (Ev.bind (Ev.const (spec_inRange_ev _ _ _)) ?_)
   cases hb : (decide (0 ≤ x.f2) && decide (x.f2 ≤ 99))
   ·exact Ev.neg (by simp) (Ev.const (by simp))
   ·exact Ev.pos rfl (Ev.const (by simp))
  refine Ev.neg (by simp [h0]) ?_
  by_cases h1 : x.f1 = 2
  ·rw [show numOk t x = (hasC t x.f2 && (decide (0 ≤ x.f3) && decide (x.f3 ≤ 99))) by rw [numOk,if_neg h0,if_pos h1]]
   refine Ev.pos (by simp [h1]) (Ev.bind (Ev.const (spec_hasClass_ev t _ ht)) ?_)
   cases hb : hasC t x.f2
   ·exact Ev.neg (by simp) (Ev.const (by simp))
   ·exact Ev.pos rfl (Ev.bind (Ev.const (spec_inRange_ev _ _ _)) (Ev.const (by simp)))
  refine Ev.neg (by simp [h1]) ?_
  by_cases h2 : x.f1 = 8
  ·rw [show numOk t x = (hasC t x.f2 && (x.f3 == 0)) by rw [numOk,if_neg h0,if_neg h1,if_pos h2]]
   refine Ev.pos (by simp [h2]) (Ev.bind (Ev.const (spec_hasClass_ev t _ ht)) ?_)
   cases hb : hasC t x.f2
   ·exact Ev.neg (by simp) (Ev.const (by simp))
   ·exact Ev.pos rfl (Ev.const (by simp))
  refine Ev.neg (by simp [h2]) ?_
  by_cases h3 : x.f1 = 11
  ·rw [show numOk t x = ((decide (0 ≤ x.f2) && decide (x.f2 ≤ 9)) && (decide (0 ≤ x.f3) && decide (x.f3 ≤ 1))) by rw [numOk,if_neg h0,if_neg h1,if_neg h2,if_pos h3]]
   refine Ev.pos (by simp [h3]) (Ev.bind (Ev.const (spec_inRange_ev _ _ _)) ?_)
   cases hb : (decide (0 ≤ x.f2) && decide (x.f2 ≤ 9))
   ·exact Ev.neg (by simp) (Ev.const (by simp))
   ·exact Ev.pos rfl (Ev.bind (Ev.const (spec_inRange_ev _ _ _)) (Ev.const (by simp)))
  refine Ev.neg (by simp [h3]) ?_
  by_cases h4 : x.f1 = 12
  ·rw [show numOk t x = ((decide (0 ≤ x.f2) && decide (x.f2 ≤ 3)) && (x.f3 == 0)) by rw [numOk,if_neg h0,if_neg h1,if_neg h2,if_neg h3,if_pos h4]]
   refine Ev.pos (by simp [h4]) (Ev.bind (Ev.const (spec_inRange_ev _ _ _)) ?_)
   cases hb : (decide (0 ≤ x.f2) && decide (x.f2 ≤ 3))
   ·exact Ev.neg (by simp) (Ev.const (by simp))
   ·exact Ev.pos rfl (Ev.const (by simp))
  refine Ev.neg (by simp [h4]) ?_
  rw [show numOk t x = ((decide (0 ≤ x.f1) && decide (x.f1 ≤ 10)) && ((x.f2 == 0) && (x.f3 == 0))) by rw [numOk,if_neg h0,if_neg h1,if_neg h2,if_neg h3,if_neg h4]]
  refine Ev.bind (Ev.const (spec_inRange_ev _ _ _)) ?_
  cases hb : (decide (0 ≤ x.f1) && decide (x.f1 ≤ 10))
  ·exact Ev.neg (by simp) (Ev.const (by simp))
  ·refine Ev.pos rfl ?_
   by_cases h6 : x.f2 = 0
   ·exact Ev.pos h6 (Ev.const (by simp [h6]))
   ·exact Ev.neg h6 (Ev.const (by simp [h6]))
 unfold spec_validNumbers.f
 by_cases h1 : x.f1 = 1
 ·refine Ev.pos h1 ?_
  rw [show decide (x.f1 = 1 ∨ x.f1 = 4) = (x.f1 == 1) by simp [h1]] at j0
  exact j0
 ·refine Ev.neg h1 ?_
  rw [show decide (x.f1 = 1 ∨ x.f1 = 4) = (x.f1 == 4) by by_cases h4 : x.f1 = 4 <;> simp [h1,h4]] at j0
  exact j0
end Go.Proofs.Ytacgehaipacehaa.P
namespace Go.Proofs.Ytacgehaipacehaa.P
open Go.RowKit Go.Proofs.YtacgehaipacehaaW.PrintWords Go.Proofs.YtacgehaipacehaaW.PrintLast Go.Proofs.YtacgehaipacehaaW.PrintMore
attribute [local go_sem] max2_int min2_int max_two min_two max_three min_three max_four min_four
set_option linter.unusedVariables false
set_option linter.unusedSimpArgs false
def spec_opens.f (a0 : Int) : Option (Bool):=(spec_inRange.f a0 7 12).bind fun t1=>(some t1)
set_option maxHeartbeats 8000000 in
set_option maxRecDepth 100000 in
theorem spec_opens.calls (a0 : Int) (r : Bool) (w : World) (h : spec_opens.f a0 = some r) :
  Calls Try.prog 158 #[.int .i64 a0] w fun e w'=>e = .returned (.bool r) ∧ Drawn0 w w':=by
 have H : ((spec_inRange.f a0 7 12).bind fun t1=>(some t1)) = some r:=h;clear h;replace H:=Option.bind_eq_some_iff.mp H;obtain ⟨t1,A20,H⟩:=H;replace H : (some t1) = some r:=H;have A2:=a0_ A20;clear A20;obtain rfl:=Option.some.inj H;go_enter Try.func158,Try.ntmps158;go_wp2_with (first | ((with_reducible refine gate_callee (f:=70) rfl ?_);refine goesL_ (some 4) rfl rfl Try.func70 (by kernel_rfl) rfl #[.int .i64 a0,.int .i64 7,.int .i64 12] rfl lm_ ?_;(with_reducible refine (spec_inRange.calls a0 7 12 t1 _ A2.out).mono ?_);rintro e w' ⟨rfl,⟨nd,rfl⟩⟩;refine ⟨_,rfl,?_⟩));go_ret;exact ⟨by first | rfl | (simp;done) | (simp [*];done),by repeat (first | exact Drawn0.refl _ | apply Drawn0.step)⟩
theorem spec_opens_ev (a : Int) : spec_opens.f a = some (decide (7 ≤ a) && decide (a ≤ 12)):=by
 unfold spec_opens.f
 rw [spec_inRange_ev]
 rfl
end Go.Proofs.Ytacgehaipacehaa.P
namespace Go.Proofs.Ytacgehaipacehaa.P
open Go.RowKit Go.Proofs.YtacgehaipacehaaW.PrintWords Go.Proofs.YtacgehaipacehaaW.PrintLast Go.Proofs.YtacgehaipacehaaW.PrintMore
attribute [local go_sem] max2_int min2_int max_two min_two max_three min_three max_four min_four
set_option linter.unusedVariables false
set_option linter.unusedSimpArgs false
def spec_follows.f (a0 : Int) : Option (Bool):=(spec_inRange.f a0 8 10).bind fun t1=>(some t1)
set_option maxHeartbeats 8000000 in
set_option maxRecDepth 100000 in
theorem spec_follows.calls (a0 : Int) (r : Bool) (w : World) (h : spec_follows.f a0 = some r) :
  Calls Try.prog 161 #[.int .i64 a0] w fun e w'=>e = .returned (.bool r) ∧ Drawn0 w w':=by
 have H : ((spec_inRange.f a0 8 10).bind fun t1=>(some t1)) = some r:=h;clear h;replace H:=Option.bind_eq_some_iff.mp H;obtain ⟨t1,A20,H⟩:=H;replace H : (some t1) = some r:=H;have A2:=a0_ A20;clear A20;obtain rfl:=Option.some.inj H;go_enter Try.func161,Try.ntmps161;go_wp2_with (first | ((with_reducible refine gate_callee (f:=70) rfl ?_);refine goesL_ (some 4) rfl rfl Try.func70 (by kernel_rfl) rfl #[.int .i64 a0,.int .i64 8,.int .i64 10] rfl lm_ ?_;(with_reducible refine (spec_inRange.calls a0 8 10 t1 _ A2.out).mono ?_);rintro e w' ⟨rfl,⟨nd,rfl⟩⟩;refine ⟨_,rfl,?_⟩));go_ret;exact ⟨by first | rfl | (simp;done) | (simp [*];done),by repeat (first | exact Drawn0.refl _ | apply Drawn0.step)⟩
theorem spec_follows_ev (a : Int) : spec_follows.f a = some (decide (8 ≤ a) && decide (a ≤ 10)):=by
 unfold spec_follows.f
 rw [spec_inRange_ev]
 rfl
end Go.Proofs.Ytacgehaipacehaa.P
namespace Go.Proofs.Ytacgehaipacehaa.P
open Go.RowKit Go.Proofs.YtacgehaipacehaaW.PrintWords Go.Proofs.YtacgehaipacehaaW.PrintLast Go.Proofs.YtacgehaipacehaaW.PrintMore
attribute [local go_sem] max2_int min2_int max_two min_two max_three min_three max_four min_four
set_option linter.unusedVariables false
set_option linter.unusedSimpArgs false
def spec_sameNext.f (k : Nat) (l0 : List (S75)) (a1 : Int) : Option (Int):=(spec_blockEnd.f k l0 a1).bind fun t1=>(if t1 < (l0.length : Int) then (if 0 ≤ t1 then (if 0 ≤ a1 then (if a1 < (l0.length : Int) then (if ((rd_T75 l0 t1).f0) = ((rd_T75 l0 a1).f0) then (some t1) else (some (l0.length : Int))) else (none)) else (none)) else (none)) else (some (l0.length : Int)))
theorem spec_sameNext.mono : ∀ a0 a1 k,LeO (spec_sameNext.f k a0 a1) (spec_sameNext.f (k + 1) a0 a1):=by
 intro a0 a1 k
 unfold spec_sameNext.f
 repeat' first
   | (with_reducible exact spec_blockEnd.mono _ _ _)
   | (with_reducible exact LeO.refl _)
   | (with_reducible exact LeO.none _)
   | (with_reducible refine LeO.ite ?_ ?_)
   | (with_reducible refine LeO.bind ?_ (fun _=>?_))
set_option maxHeartbeats 8000000 in
set_option maxRecDepth 100000 in
theorem spec_sameNext.calls (k : Nat) (A0 : Option Addr) (c0 : Nat) (l0 : List (S75)) (a1 : Int) (r : Int) (w : World) (hr0 : Kd.C k75 w A0 l0.length l0) (hc0 : l0.length ≤ c0) (h : spec_sameNext.f k l0 a1 = some r) :
  Calls Try.prog 175 #[.slice A0 l0.length c0,.int .i64 a1] w fun e w'=>e = .returned (.int .i64 r) ∧ Drawn0 w w':=by
 have HR0:=a0_ hr0;have HC0:=a0_ hc0;clear hr0 hc0;have H : ((spec_blockEnd.f k l0 a1).bind fun t1=>(if t1 < (l0.length : Int) then (if 0 ≤ t1 then (if 0 ≤ a1 then (if a1 < (l0.length : Int) then (if ((rd_T75 l0 t1).f0) = ((rd_T75 l0 a1).f0) then (some t1) else (some (l0.length : Int))) else (none)) else (none)) else (none)) else (some (l0.length : Int)))) = some r:=h;clear h;replace H:=Option.bind_eq_some_iff.mp H;obtain ⟨t1,A30,H⟩:=H;(try dsimp only at H);have A3:=a0_ A30;clear A30;by_cases c4 : t1 < (l0.length : Int)
 ·rw [if_pos c4] at H
  have c4b0 : decide (t1 < (l0.length : Int)) = true:=decide_eq_true c4;clear c4;by_cases c5 : 0 ≤ t1
  ·rw [if_pos c5] at H
   have c5b0 : decide (0 ≤ t1) = true:=decide_eq_true c5;clear c5;by_cases c6 : 0 ≤ a1
   ·rw [if_pos c6] at H
    have c6b0 : decide (0 ≤ a1) = true:=decide_eq_true c6;clear c6;by_cases c7 : a1 < (l0.length : Int)
    ·rw [if_pos c7] at H
     have c7b0 : decide (a1 < (l0.length : Int)) = true:=decide_eq_true c7;clear c7;by_cases c8 : ((rd_T75 l0 t1).f0) = ((rd_T75 l0 a1).f0)
     ·rw [if_pos c8] at H
      have c8b0 : (((rd_T75 l0 t1).f0) == ((rd_T75 l0 a1).f0)) = true:=beq_iff_eq.mpr c8;have c8b1 : (((rd_T75 l0 t1).f0) != ((rd_T75 l0 a1).f0)) = false:=bne_eq_false_iff_eq.mpr c8;clear c8;obtain rfl:=Option.some.inj H;go_enter Try.func175,Try.ntmps175;go_wp2_with (first | (go_at_call 176;(with_reducible refine (spec_blockEnd.calls k _ _ l0 a1 t1 _ ?side1 ?side2 A3.out).mono ?_);(case side1=>repeat (first | exact HR0.out | (with_reducible refine Kd.C_alloc ?_ _) | (with_reducible refine Kd.C_drewN ?_ _) | (with_reducible refine Kd.C_drew ?_)));(case side2=>exact HC0.out);rintro e w' ⟨rfl,⟨nd,rfl⟩⟩;(try first | exact ⟨rfl,_,World.drewN_drewN _ _ _⟩ | exact ⟨rfl,_,Eq.trans (World.drewN_drewN _ _ _) (congrArg (World.drewN _) (Nat.add_assoc _ _ _))⟩);have p2 : 0 ≤ (t1 : Int):=od_;have q2 : t1 < (l0.length : Int):=od_;obtain ⟨ad2,e2,hx2_0,hx2_1,hx2_2,hx2_3⟩:=at_T75 HR0.out t1 p2 q2;cases e2;replace p2:=eq_true p2;replace q2:=eq_true q2;have p3 : 0 ≤ (a1 : Int):=od_;have q3 : a1 < (l0.length : Int):=od_;obtain ⟨ad3,e3,hx3_0,hx3_1,hx3_2,hx3_3⟩:=at_T75 HR0.out a1 p3 q3;obtain rfl : ad2 = ad3:=(by injection e3);replace p3:=eq_true p3;replace q3:=eq_true q3))
      repeat (go_quiet (first | (go_at_call 176;(with_reducible refine (spec_blockEnd.calls k _ _ l0 a1 t1 _ ?side1 ?side2 A3.out).mono ?_);(case side1=>repeat (first | exact HR0.out | (with_reducible refine Kd.C_alloc ?_ _) | (with_reducible refine Kd.C_drewN ?_ _) | (with_reducible refine Kd.C_drew ?_)));(case side2=>exact HC0.out);rintro e w' ⟨rfl,⟨nd,rfl⟩⟩;(try first | exact ⟨rfl,_,World.drewN_drewN _ _ _⟩ | exact ⟨rfl,_,Eq.trans (World.drewN_drewN _ _ _) (congrArg (World.drewN _) (Nat.add_assoc _ _ _))⟩);have p2 : 0 ≤ (t1 : Int):=od_;have q2 : t1 < (l0.length : Int):=od_;obtain ⟨ad2,e2,hx2_0,hx2_1,hx2_2,hx2_3⟩:=at_T75 HR0.out t1 p2 q2;cases e2;replace p2:=eq_true p2;replace q2:=eq_true q2;have p3 : 0 ≤ (a1 : Int):=od_;have q3 : a1 < (l0.length : Int):=od_;obtain ⟨ad3,e3,hx3_0,hx3_1,hx3_2,hx3_3⟩:=at_T75 HR0.out a1 p3 q3;obtain rfl : ad2 = ad3:=(by injection e3);replace p3:=eq_true p3;replace q3:=eq_true q3));try go_wp2_with (first | (go_at_call 176;(with_reducible refine (spec_blockEnd.calls k _ _ l0 a1 t1 _ ?side1 ?side2 A3.out).mono ?_);(case side1=>repeat (first | exact HR0.out | (with_reducible refine Kd.C_alloc ?_ _) | (with_reducible refine Kd.C_drewN ?_ _) | (with_reducible refine Kd.C_drew ?_)));(case side2=>exact HC0.out);rintro e w' ⟨rfl,⟨nd,rfl⟩⟩;(try first | exact ⟨rfl,_,World.drewN_drewN _ _ _⟩ | exact ⟨rfl,_,Eq.trans (World.drewN_drewN _ _ _) (congrArg (World.drewN _) (Nat.add_assoc _ _ _))⟩);have p2 : 0 ≤ (t1 : Int):=od_;have q2 : t1 < (l0.length : Int):=od_;obtain ⟨ad2,e2,hx2_0,hx2_1,hx2_2,hx2_3⟩:=at_T75 HR0.out t1 p2 q2;cases e2;replace p2:=eq_true p2;replace q2:=eq_true q2;have p3 : 0 ≤ (a1 : Int):=od_;have q3 : a1 < (l0.length : Int):=od_;obtain ⟨ad3,e3,hx3_0,hx3_1,hx3_2,hx3_3⟩:=at_T75 HR0.out a1 p3 q3;obtain rfl : ad2 = ad3:=(by injection e3);replace p3:=eq_true p3;replace q3:=eq_true q3)))
      go_ret;exact ⟨by first | rfl | (simp;done) | (simp [*];done),by repeat (first | exact Drawn0.refl _ | apply Drawn0.step)⟩
     ·rw [if_neg c8] at H
      have c8b0 : (((rd_T75 l0 t1).f0) == ((rd_T75 l0 a1).f0)) = false:=beq_eq_false_iff_ne.mpr c8;have c8b1 : (((rd_T75 l0 t1).f0) != ((rd_T75 l0 a1).f0)) = true:=bne_iff_ne.mpr c8;obtain rfl:=Option.some.inj H;go_enter Try.func175,Try.ntmps175;go_wp2_with (first | (go_at_call 176;(with_reducible refine (spec_blockEnd.calls k _ _ l0 a1 t1 _ ?side1 ?side2 A3.out).mono ?_);(case side1=>repeat (first | exact HR0.out | (with_reducible refine Kd.C_alloc ?_ _) | (with_reducible refine Kd.C_drewN ?_ _) | (with_reducible refine Kd.C_drew ?_)));(case side2=>exact HC0.out);rintro e w' ⟨rfl,⟨nd,rfl⟩⟩;(try first | exact ⟨rfl,_,World.drewN_drewN _ _ _⟩ | exact ⟨rfl,_,Eq.trans (World.drewN_drewN _ _ _) (congrArg (World.drewN _) (Nat.add_assoc _ _ _))⟩);have p2 : 0 ≤ (t1 : Int):=od_;have q2 : t1 < (l0.length : Int):=od_;obtain ⟨ad2,e2,hx2_0,hx2_1,hx2_2,hx2_3⟩:=at_T75 HR0.out t1 p2 q2;cases e2;replace p2:=eq_true p2;replace q2:=eq_true q2;have p3 : 0 ≤ (a1 : Int):=od_;have q3 : a1 < (l0.length : Int):=od_;obtain ⟨ad3,e3,hx3_0,hx3_1,hx3_2,hx3_3⟩:=at_T75 HR0.out a1 p3 q3;obtain rfl : ad2 = ad3:=(by injection e3);replace p3:=eq_true p3;replace q3:=eq_true q3))
      repeat (go_quiet (first | (go_at_call 176;(with_reducible refine (spec_blockEnd.calls k _ _ l0 a1 t1 _ ?side1 ?side2 A3.out).mono ?_);(case side1=>repeat (first | exact HR0.out | (with_reducible refine Kd.C_alloc ?_ _) | (with_reducible refine Kd.C_drewN ?_ _) | (with_reducible refine Kd.C_drew ?_)));(case side2=>exact HC0.out);rintro e w' ⟨rfl,⟨nd,rfl⟩⟩;(try first | exact ⟨rfl,_,World.drewN_drewN _ _ _⟩ | exact ⟨rfl,_,Eq.trans (World.drewN_drewN _ _ _) (congrArg (World.drewN _) (Nat.add_assoc _ _ _))⟩);have p2 : 0 ≤ (t1 : Int):=od_;have q2 : t1 < (l0.length : Int):=od_;obtain ⟨ad2,e2,hx2_0,hx2_1,hx2_2,hx2_3⟩:=at_T75 HR0.out t1 p2 q2;cases e2;replace p2:=eq_true p2;replace q2:=eq_true q2;have p3 : 0 ≤ (a1 : Int):=od_;have q3 : a1 < (l0.length : Int):=od_;obtain ⟨ad3,e3,hx3_0,hx3_1,hx3_2,hx3_3⟩:=at_T75 HR0.out a1 p3 q3;obtain rfl : ad2 = ad3:=(by injection e3);replace p3:=eq_true p3;replace q3:=eq_true q3));try go_wp2_with (first | (go_at_call 176;(with_reducible refine (spec_blockEnd.calls k _ _ l0 a1 t1 _ ?side1 ?side2 A3.out).mono ?_);(case side1=>repeat (first | exact HR0.out | (with_reducible refine Kd.C_alloc ?_ _) | (with_reducible refine Kd.C_drewN ?_ _) | (with_reducible refine Kd.C_drew ?_)));(case side2=>exact HC0.out);rintro e w' ⟨rfl,⟨nd,rfl⟩⟩;(try first | exact ⟨rfl,_,World.drewN_drewN _ _ _⟩ | exact ⟨rfl,_,Eq.trans (World.drewN_drewN _ _ _) (congrArg (World.drewN _) (Nat.add_assoc _ _ _))⟩);have p2 : 0 ≤ (t1 : Int):=od_;have q2 : t1 < (l0.length : Int):=od_;obtain ⟨ad2,e2,hx2_0,hx2_1,hx2_2,hx2_3⟩:=at_T75 HR0.out t1 p2 q2;cases e2;replace p2:=eq_true p2;replace q2:=eq_true q2;have p3 : 0 ≤ (a1 : Int):=od_;have q3 : a1 < (l0.length : Int):=od_;obtain ⟨ad3,e3,hx3_0,hx3_1,hx3_2,hx3_3⟩:=at_T75 HR0.out a1 p3 q3;obtain rfl : ad2 = ad3:=(by injection e3);replace p3:=eq_true p3;replace q3:=eq_true q3)))
      go_ret;exact ⟨by first | rfl | (simp;done) | (simp [*];done),by repeat (first | exact Drawn0.refl _ | apply Drawn0.step)⟩
    ·rw [if_neg c7] at H
     exact absurd H (by simp)
   ·rw [if_neg c6] at H
    exact absurd H (by simp)
  ·rw [if_neg c5] at H
   exact absurd H (by simp)
 ·rw [if_neg c4] at H
  have c4b0 : decide (t1 < (l0.length : Int)) = false:=decide_eq_false c4;clear c4;obtain rfl:=Option.some.inj H;go_enter Try.func175,Try.ntmps175;go_wp2_with (first | (go_at_call 176;(with_reducible refine (spec_blockEnd.calls k _ _ l0 a1 t1 _ ?side1 ?side2 A3.out).mono ?_);(case side1=>repeat (first | exact HR0.out | (with_reducible refine Kd.C_alloc ?_ _) | (with_reducible refine Kd.C_drewN ?_ _) | (with_reducible refine Kd.C_drew ?_)));(case side2=>exact HC0.out);rintro e w' ⟨rfl,⟨nd,rfl⟩⟩;(try first | exact ⟨rfl,_,World.drewN_drewN _ _ _⟩ | exact ⟨rfl,_,Eq.trans (World.drewN_drewN _ _ _) (congrArg (World.drewN _) (Nat.add_assoc _ _ _))⟩)))
  repeat (go_quiet (first | (go_at_call 176;(with_reducible refine (spec_blockEnd.calls k _ _ l0 a1 t1 _ ?side1 ?side2 A3.out).mono ?_);(case side1=>repeat (first | exact HR0.out | (with_reducible refine Kd.C_alloc ?_ _) | (with_reducible refine Kd.C_drewN ?_ _) | (with_reducible refine Kd.C_drew ?_)));(case side2=>exact HC0.out);rintro e w' ⟨rfl,⟨nd,rfl⟩⟩;(try first | exact ⟨rfl,_,World.drewN_drewN _ _ _⟩ | exact ⟨rfl,_,Eq.trans (World.drewN_drewN _ _ _) (congrArg (World.drewN _) (Nat.add_assoc _ _ _))⟩)));try go_wp2_with (first | (go_at_call 176;(with_reducible refine (spec_blockEnd.calls k _ _ l0 a1 t1 _ ?side1 ?side2 A3.out).mono ?_);(case side1=>repeat (first | exact HR0.out | (with_reducible refine Kd.C_alloc ?_ _) | (with_reducible refine Kd.C_drewN ?_ _) | (with_reducible refine Kd.C_drew ?_)));(case side2=>exact HC0.out);rintro e w' ⟨rfl,⟨nd,rfl⟩⟩;(try first | exact ⟨rfl,_,World.drewN_drewN _ _ _⟩ | exact ⟨rfl,_,Eq.trans (World.drewN_drewN _ _ _) (congrArg (World.drewN _) (Nat.add_assoc _ _ _))⟩))))
  go_ret;exact ⟨by first | rfl | (simp;done) | (simp [*];done),by repeat (first | exact Drawn0.refl _ | apply Drawn0.step)⟩
def sameN (l : List S75) (i : Nat) : Nat:=if endN l i < l.length ∧ ld l (endN l i) = ld l i then endN l i else l.length
theorem spec_sameNext_ev (l : List S75) (i : Nat) (hi : i < l.length) (hl : l.length ≤ 1099511627776) : Ev (fun k=>spec_sameNext.f k l (i : Int)) ((sameN l i : Nat) : Int):=by
 unfold spec_sameNext.f
 refine Ev.bind (spec_blockEnd_ev l i hi hl) ?_
 simp only [rd_ldS]
 by_cases he : endN l i < l.length
 ·refine Ev.pos (by omega) (Ev.pos (by omega) (Ev.pos (by omega) (Ev.pos (by omega) ?_)))
  by_cases hd : ld l (endN l i) = ld l i
  ·have es : sameN l i = endN l i:=by rw [sameN,if_pos ⟨he,hd⟩]
   rw [es]
   exact Ev.pos hd (Ev.const rfl)
  ·have es : sameN l i = l.length:=by rw [sameN,if_neg (fun h=>hd h.2)]
   rw [es]
   exact Ev.neg hd (Ev.const rfl)
 ·have es : sameN l i = l.length:=by rw [sameN,if_neg (fun h=>he h.1)]
  rw [es]
  exact Ev.neg (by omega) (Ev.const rfl)
end Go.Proofs.Ytacgehaipacehaa.P
namespace Go.Proofs.Ytacgehaipacehaa.P
open Go.RowKit Go.Proofs.YtacgehaipacehaaW.PrintWords Go.Proofs.YtacgehaipacehaaW.PrintLast Go.Proofs.YtacgehaipacehaaW.PrintMore
attribute [local go_sem] max2_int min2_int max_two min_two max_three min_three max_four min_four
set_option linter.unusedVariables false
set_option linter.unusedSimpArgs false
def spec_chainOf.l0 : Nat → List (S75) → List Int → Int → Option (List Int)
 | 0,_,_,_=>none
 | k + 1,x0,x5,x6=>if x6 < (x0.length : Int) then (if 0 ≤ x6 then ((spec_follows.f ((rd_T75 x0 x6).f1)).bind fun t6=>(if t6 = true then (if x5.length < 17592186044416 then ((spec_sameNext.f k x0 x6).bind fun t10=>(spec_chainOf.l0 k x0 (x5 ++ [x6]) t10)) else (none)) else (some x5))) else (none)) else (some x5)
def spec_chainOf.f (k : Nat) (l0 : List (S75)) (a1 : Int) : Option (List Int):=(spec_sameNext.f k l0 a1).bind fun t4=>(spec_chainOf.l0 k l0 (([a1] : List Int)) t4)
theorem spec_chainOf.mono_l : ∀ k,(∀ y0 y1 y2,LeO (spec_chainOf.l0 k y0 y1 y2) (spec_chainOf.l0 (k + 1) y0 y1 y2))
 | 0=>fun _ _ _ r h=>by simp [spec_chainOf.l0] at h
 | k + 1=>by
  have ih0:=spec_chainOf.mono_l k
  ·intro y0 y1 y2
   unfold spec_chainOf.l0
   repeat' first
   | (with_reducible exact ih0 _ _ _)
   | (with_reducible exact spec_sameNext.mono _ _ _)
   | (with_reducible exact LeO.refl _)
   | (with_reducible exact LeO.none _)
   | (with_reducible refine LeO.ite ?_ ?_)
   | (with_reducible refine LeO.bind ?_ (fun _=>?_))
theorem spec_chainOf.mono : ∀ a0 a1 k,LeO (spec_chainOf.f k a0 a1) (spec_chainOf.f (k + 1) a0 a1):=by
 intro a0 a1 k
 have ih0:=spec_chainOf.mono_l k
 unfold spec_chainOf.f
 repeat' first
   | (with_reducible exact ih0 _ _ _)
   | (with_reducible exact spec_sameNext.mono _ _ _)
   | (with_reducible exact LeO.refl _)
   | (with_reducible exact LeO.none _)
   | (with_reducible refine LeO.ite ?_ ?_)
   | (with_reducible refine LeO.bind ?_ (fun _=>?_))
set_option maxHeartbeats 8000000 in
set_option maxRecDepth 100000 in
theorem spec_chainOf.calls (k : Nat) (A0 : Option Addr) (c0 : Nat) (l0 : List (S75)) (a1 : Int) (r : List Int) (w : World) (hr0 : Kd.C k75 w A0 l0.length l0) (hc0 : l0.length ≤ c0) (h : spec_chainOf.f k l0 a1 = some r) :
  Calls Try.prog 171 #[.slice A0 l0.length c0,.int .i64 a1] w fun e w'=>∃ v0_ : Value,e = .returned (v0_) ∧ Kd.R (Kd.int .i64) 3 w' w.heap.size (fun _=>True) v0_ r ∧ Below w.heap.size w w':=by
 have HR0:=a0_ hr0;have HC0:=a0_ hc0;clear hr0 hc0;have HB:=a0_ (Below.refl w.heap.size w);have H : ((spec_sameNext.f k l0 a1).bind fun t4=>(spec_chainOf.l0 k l0 (([a1] : List Int)) t4)) = some r:=h;clear h;obtain ⟨y1,hy1⟩ : ∃ y_ : List Int,y_ = (([a1] : List Int)):=⟨_,rfl⟩
 replace H : ((spec_sameNext.f k l0 a1).bind fun t4=>(spec_chainOf.l0 k l0 y1 t4)) = some r:=by first | (rw [hy1];with_reducible exact H) | (have H2_:=(Option.bind_some _ _).symm.trans H;rw [hy1];with_reducible exact H2_) | (have H2_:=(Option.bind_some _ _).symm.trans H;with_reducible exact H2_) | with_reducible exact H | (rw [hy1];exact H) | exact H
 have Ny1:=a0_ hy1;clear hy1;replace H:=Option.bind_eq_some_iff.mp H;obtain ⟨t4,A30,H⟩:=H;replace H : (spec_chainOf.l0 k l0 y1 t4) = some r:=H;have A3:=a0_ A30;clear A30;have H':=a0_ H;clear H;go_enter Try.func171,Try.ntmps171;go_wp2_with (first | ((with_reducible refine gate_dst (N:=8) rfl ?_);refine Kd.R_lit (Kd.int .i64) _ 3 ?hg (N:=8) ?hd (xs:=([a1] : List Int)) (inner:=[.int .i64 a1]) (ok:=fun _=>True) (okp:=fun _=>True) ?hr ?hp (fun _ hk=>hk) trivial (Below.refl _ _) (Nat.le_refl _) (by simp) ?_;(case hd=>rfl);(case hg=>rfl);(case hr=>first | (go_simp;done) | (go_simp;rfl));(case hp=>exact (Reps.one (show Kd.M (Kd.int .i64) _ _ _ a1 [.int .i64 a1] from rfl) (Reps.none _ _)));intro v2 w4 ho5 hb hg_ hnew_;clear hg_ hnew_;(first | rw [← Ny1.out] at ho5 | (simp only [Int.reduceToNat] at ho5;rw [← Ny1.out] at ho5));have HO3:=a0_ (Kd.R_lower ho5 (below_size hbw_));replace HB:=a0_ (below_step hbw_ hb);clear hb ho5) | ((with_reducible refine gate_callee (f:=175) rfl ?_);refine goesL_ (some 11) rfl rfl Try.func175 (by kernel_rfl) rfl #[.slice A0 l0.length c0,.int .i64 a1] rfl lm_ ?_;(with_reducible refine (spec_sameNext.calls k _ _ l0 a1 t4 _ ?side1 ?side2 A3.out).mono ?_);(case side1=>exact cc_ (Kd.C_below HR0.out HB.out));(case side2=>exact HC0.out);rintro e w' ⟨rfl,⟨nd,rfl⟩⟩;refine ⟨_,rfl,?_⟩));go_loopg [5,6] k (fun kq v5 v6 w'=>∃ (x5_1 : List Int) (x6_1 : Int),v6 = .int .i64 x6_1 ∧ Aside0 (spec_chainOf.l0 kq l0 x5_1 x6_1 = some r) ∧ Aside0 (kq ≤ k) ∧ Aside0 (Kd.R (Kd.int .i64) 3 w' w.heap.size (fun _=>True) v5 x5_1) ∧ Aside0 (Below w.heap.size w w'))
 case atStart=>exact ⟨(y1),(t4),(by first | rfl | (simp;done) | (simp [*];done)),H',⟨Nat.le_refl _⟩,⟨by (with_reducible repeat (first | apply Kd.R_alloc | apply Kd.R_drewN | apply Kd.R_drew));exact HO3.out⟩,⟨hbw_⟩⟩
 case round =>
  clear H';(try clear c1);(try clear p2);obtain ⟨x5_1,x6_1,rfl,HA,HK1,HO_5,HB⟩:=hrel
  cases gk with
  | zero=>exact absurd HA.out (by simp [spec_chainOf.l0])
  | succ k1 =>
   have H:=HA.out;clear HA;simp only [spec_chainOf.l0] at H;by_cases c6 : x6_1 < (l0.length : Int)
   ·rw [if_pos c6] at H
    have c6b0 : decide (x6_1 < (l0.length : Int)) = true:=decide_eq_true c6;clear c6;by_cases c7 : 0 ≤ x6_1
    ·rw [if_pos c7] at H
     have c7b0 : decide (0 ≤ x6_1) = true:=decide_eq_true c7;clear c7;replace H:=Option.bind_eq_some_iff.mp H;obtain ⟨t6,A80,H⟩:=H;(try dsimp only at H);have A8:=a0_ A80;clear A80;by_cases c9 : t6 = true
     ·subst c9
      have H1 : (if x5_1.length < 17592186044416 then ((spec_sameNext.f k1 l0 x6_1).bind fun t10=>(spec_chainOf.l0 k1 l0 (x5_1 ++ [x6_1]) t10)) else (none)) = some r:=by rw [if_pos rfl] at H;exact H
      clear H;have H:=H1;clear H1;by_cases c10 : x5_1.length < 17592186044416
      ·rw [if_pos c10] at H
       have LMc10:=a0_ c10;clear c10;obtain ⟨y7,hy7⟩ : ∃ y_ : List Int,y_ = (x5_1 ++ [x6_1]):=⟨_,rfl⟩
       replace H : ((spec_sameNext.f k1 l0 x6_1).bind fun t10=>(spec_chainOf.l0 k1 l0 y7 t10)) = some r:=by first | (rw [hy7];with_reducible exact H) | (have H2_:=(Option.bind_some _ _).symm.trans H;rw [hy7];with_reducible exact H2_) | (have H2_:=(Option.bind_some _ _).symm.trans H;with_reducible exact H2_) | with_reducible exact H | (rw [hy7];exact H) | exact H
       have Ny7:=a0_ hy7;clear hy7;replace H:=Option.bind_eq_some_iff.mp H;obtain ⟨t10,A110,H⟩:=H;replace H : (spec_chainOf.l0 k1 l0 y7 t10) = some r:=H;have A11:=a0_ A110;clear A110;have H':=a0_ H;clear H;have p5 : 0 ≤ (x6_1 : Int):=od_;have q5 : x6_1 < (l0.length : Int):=od_;obtain ⟨ad5,e5,hx5_0,hx5_1,hx5_2,hx5_3⟩:=at_T75 HR0.out x6_1 p5 q5;cases e5;replace hx5_0:=cl_ HB.out hx5_0;replace hx5_1:=cl_ HB.out hx5_1;replace hx5_2:=cl_ HB.out hx5_2;replace hx5_3:=cl_ HB.out hx5_3;replace p5:=eq_true p5;replace q5:=eq_true q5;go_wp2_with (first | (go_at_call 161;(with_reducible refine (spec_follows.calls ((rd_T75 l0 x6_1).f1) true _ A8.out).mono ?_);rintro e w' ⟨rfl,⟨nd,rfl⟩⟩) | ((with_reducible refine gate_builtin (b:=.append) (xs:=#[.tmp 27,.tmp 29]) rfl ?_);at_builtin;refine Kd.R_append (Kd.int .i64) (w0:=w) w.heap.size rfl (.tmp 27) (.tmp 29) 26 3 (.int .i64 0) 8 rfl Try.underlying26 info3 rfl (by decide) (by omega) u5 x5_1 x6_1 [.int .i64 x6_1] (fun _=>True) (fun _=>False) rfl rfl ?aP (fun _ hk=>hk.elim) ?aF ?aO ?aB ?aS ?aL ?_;(case aP=>exact rfl);(case aB=>exact hbw_);(case aF=>exact (fun _ _=>trivial));(case aO=>exact (rr_ HO_5.out));(case aS=>exact (below_size hbw_));(case aL=>have:=LMc10.out;omega);intro v8 w12 ho hb hg hat;rw [← Ny7.out] at ho;have HO9:=a0_ (ho);replace HB:=a0_ (hb);clear HO_5;clear ho hb hg hat) | ((with_reducible refine gate_callee (f:=175) rfl ?_);refine goesL_ (some 26) rfl rfl Try.func175 (by kernel_rfl) rfl #[.slice (some ad5) l0.length c0,.int .i64 x6_1] rfl lm_ ?_;(with_reducible refine (spec_sameNext.calls k1 _ _ l0 x6_1 t10 _ ?side1 ?side2 A11.out).mono ?_);(case side1=>exact cc_ (Kd.C_below HR0.out HB.out));(case side2=>exact HC0.out);rintro e w' ⟨rfl,⟨nd,rfl⟩⟩;refine ⟨_,rfl,?_⟩));go_roundg k1
       case measure=>have:=HK1.out;omega
       case rel=>exact ⟨(y7),(t10),(by first | rfl | (simp;done) | (simp [*];done)),H',⟨by have:=HK1.out;omega⟩,⟨by (with_reducible repeat (first | apply Kd.R_alloc | apply Kd.R_drewN | apply Kd.R_drew));exact HO9.out⟩,⟨hbw_⟩⟩
      ·rw [if_neg c10] at H
       exact absurd H (by simp)
     ·replace c9:=Bool.eq_false_iff.mpr c9
      subst c9
      have H1 : (some x5_1) = some r:=by rw [if_neg (show ¬ (false = true) by decide)] at H;exact H
      clear H;have H:=H1;clear H1;obtain rfl:=Option.some.inj H;have p5 : 0 ≤ (x6_1 : Int):=od_;have q5 : x6_1 < (l0.length : Int):=od_;obtain ⟨ad5,e5,hx5_0,hx5_1,hx5_2,hx5_3⟩:=at_T75 HR0.out x6_1 p5 q5;cases e5;replace hx5_0:=cl_ HB.out hx5_0;replace hx5_1:=cl_ HB.out hx5_1;replace hx5_2:=cl_ HB.out hx5_2;replace hx5_3:=cl_ HB.out hx5_3;replace p5:=eq_true p5;replace q5:=eq_true q5;go_wp2_with (first | (go_at_call 161;(with_reducible refine (spec_follows.calls ((rd_T75 l0 x6_1).f1) false _ A8.out).mono ?_);rintro e w' ⟨rfl,⟨nd,rfl⟩⟩));go_ret;exact ⟨_,by first | rfl | (simp [errW_none,errW_some] <;> rfl) | (simp [*,errW_none,errW_some] <;> rfl),by (with_reducible repeat (first | apply Kd.R_alloc | apply Kd.R_drewN | apply Kd.R_drew));exact HO_5.out,hbw_⟩
    ·rw [if_neg c7] at H
     exact absurd H (by simp)
   ·rw [if_neg c6] at H
    have c6b0 : decide (x6_1 < (l0.length : Int)) = false:=decide_eq_false c6;clear c6;obtain rfl:=Option.some.inj H;go_wp2;go_ret;exact ⟨_,by first | rfl | (simp [errW_none,errW_some] <;> rfl) | (simp [*,errW_none,errW_some] <;> rfl),by (with_reducible repeat (first | apply Kd.R_alloc | apply Kd.R_drewN | apply Kd.R_drew));exact HO_5.out,hbw_⟩
theorem spec_chainOf_ev (l : List S75) (i : Nat) (hi : i < l.length) (hl : l.length ≤ 1099511627776) : Ev (fun k=>spec_chainOf.f k l (i : Int)) (nI (i :: chR l l.length i)):=by
 have key : ∀ f (c : Nat) (acc : List Int),l.length - c ≤ f → c < l.length → acc.length ≤ c + 1 → Ev (fun k=>spec_chainOf.l0 k l acc ((sameN l c : Nat) : Int)) (acc ++ nI (chR l f c)):=by
  intro f
  induction f with
  | zero=>intro c acc h1 h2;omega
  | succ f ih =>
   intro c acc h1 h2 h4
   have hg:=endN_gt l c
   have hle:=endN_le h2
   rw [chR]
   refine Ev.succ ?_
   simp only [spec_chainOf.l0,rd_lkS]
   by_cases he : endN l c < l.length ∧ ld l (endN l c) = ld l c
   ·have es : sameN l c = endN l c:=by rw [sameN,if_pos he]
    rw [es]
    refine Ev.pos (by omega) (Ev.pos (by omega) (Ev.bind (Ev.const (spec_follows_ev _)) ?_))
    by_cases hk : 8 ≤ lk l (endN l c) ∧ lk l (endN l c) ≤ 10
    ·rw [if_pos ⟨he.1,he.2,hk⟩]
     have:=ih (endN l c) (acc ++ [((endN l c : Nat) : Int)]) (by omega) he.1 (by rw [List.length_append];simp;omega)
     refine Ev.pos (by simp [hk]) (Ev.pos (by omega) (Ev.bind (spec_sameNext_ev l _ he.1 hl) ?_))
     simpa [nI] using this
    ·rw [if_neg (fun h=>hk h.2.2)]
     refine Ev.neg (fun h=>hk ?_) (Ev.const (by simp [nI]))
     simpa using h
   ·have es : sameN l c = l.length:=by rw [sameN,if_neg he]
    rw [es,if_neg (fun h=>he ⟨h.1,h.2.1⟩)]
    exact Ev.neg (by omega) (Ev.const (by simp [nI]))
 unfold spec_chainOf.f
 refine Ev.bind (spec_sameNext_ev l i hi hl) ?_
 exact key l.length i [(i : Int)] (by omega) hi (by simp)
end Go.Proofs.Ytacgehaipacehaa.P
namespace Go.Proofs.Ytacgehaipacehaa.P
open Go.RowKit Go.Proofs.YtacgehaipacehaaW.PrintWords Go.Proofs.YtacgehaipacehaaW.PrintLast Go.Proofs.YtacgehaipacehaaW.PrintMore
attribute [local go_sem] max2_int min2_int max_two min_two max_three min_three max_four min_four
set_option linter.unusedVariables false
set_option linter.unusedSimpArgs false
def spec_validChain.l0 : Nat → List (S75) → List Int → Int → Int → Option (Bool)
 | 0,_,_,_,_=>none
 | k + 1,x0,x5,x6,x7=>if x7 < (x5.length : Int) then (if 0 ≤ x7 then (if 0 ≤ (rd x5 x7) then (if (rd x5 x7) < (x0.length : Int) then (if ((rd_T75 x0 (rd x5 x7)).f1) = 8 then (if x7 > 1 then (if 0 ≤ (wrap64 (x7 - 1)) then (if (wrap64 (x7 - 1)) < (x5.length : Int) then (if 0 ≤ (rd x5 (wrap64 (x7 - 1))) then (if (rd x5 (wrap64 (x7 - 1))) < (x0.length : Int) then (if ((rd_T75 x0 (rd x5 x7)).f1) < ((rd_T75 x0 (rd x5 (wrap64 (x7 - 1)))).f1) then (some false) else (if ((rd_T75 x0 (rd x5 x7)).f1) = ((rd_T75 x0 (rd x5 (wrap64 (x7 - 1)))).f1) then (if ((rd_T75 x0 (rd x5 x7)).f1) = 9 then (if (wrap64 (x6 + 1)) = 0 then (some false) else (spec_validChain.l0 k x0 x5 (wrap64 (x6 + 1)) (wrap64 (x7 + 1)))) else (spec_validChain.l0 k x0 x5 (wrap64 (x6 + 1)) (wrap64 (x7 + 1)))) else (if ((rd_T75 x0 (rd x5 x7)).f1) = 9 then (if (wrap64 (x6 + 1)) = 0 then (some false) else (spec_validChain.l0 k x0 x5 (wrap64 (x6 + 1)) (wrap64 (x7 + 1)))) else (spec_validChain.l0 k x0 x5 (wrap64 (x6 + 1)) (wrap64 (x7 + 1)))))) else (none)) else (none)) else (none)) else (none)) else (if ((rd_T75 x0 (rd x5 x7)).f1) = 9 then (if (wrap64 (x6 + 1)) = 0 then (some false) else (spec_validChain.l0 k x0 x5 (wrap64 (x6 + 1)) (wrap64 (x7 + 1)))) else (spec_validChain.l0 k x0 x5 (wrap64 (x6 + 1)) (wrap64 (x7 + 1))))) else (if x7 > 1 then (if 0 ≤ (wrap64 (x7 - 1)) then (if (wrap64 (x7 - 1)) < (x5.length : Int) then (if 0 ≤ (rd x5 (wrap64 (x7 - 1))) then (if (rd x5 (wrap64 (x7 - 1))) < (x0.length : Int) then (if ((rd_T75 x0 (rd x5 x7)).f1) < ((rd_T75 x0 (rd x5 (wrap64 (x7 - 1)))).f1) then (some false) else (if ((rd_T75 x0 (rd x5 x7)).f1) = ((rd_T75 x0 (rd x5 (wrap64 (x7 - 1)))).f1) then (some false) else (if ((rd_T75 x0 (rd x5 x7)).f1) = 9 then (if x6 = 0 then (some false) else (spec_validChain.l0 k x0 x5 x6 (wrap64 (x7 + 1)))) else (spec_validChain.l0 k x0 x5 x6 (wrap64 (x7 + 1)))))) else (none)) else (none)) else (none)) else (none)) else (if ((rd_T75 x0 (rd x5 x7)).f1) = 9 then (if x6 = 0 then (some false) else (spec_validChain.l0 k x0 x5 x6 (wrap64 (x7 + 1)))) else (spec_validChain.l0 k x0 x5 x6 (wrap64 (x7 + 1)))))) else (none)) else (none)) else (none)) else (if (x5.length : Int) > 1 then (some (decide (x6 ≤ 6))) else (some false))
def spec_validChain.f (k : Nat) (l0 : List (S75)) (a1 : Int) : Option (Bool):=(spec_chainOf.f k l0 a1).bind fun t1=>(spec_validChain.l0 k l0 t1 0 1)
theorem spec_validChain.mono_l : ∀ k,(∀ y0 y1 y2 y3,LeO (spec_validChain.l0 k y0 y1 y2 y3) (spec_validChain.l0 (k + 1) y0 y1 y2 y3))
 | 0=>fun _ _ _ _ r h=>by simp [spec_validChain.l0] at h
 | k + 1=>by
  have ih0:=spec_validChain.mono_l k
  ·intro y0 y1 y2 y3
   unfold spec_validChain.l0
   repeat' first
   | (with_reducible exact ih0 _ _ _ _)
   | (with_reducible exact spec_chainOf.mono _ _ _)
   | (with_reducible exact LeO.refl _)
   | (with_reducible exact LeO.none _)
   | (with_reducible refine LeO.ite ?_ ?_)
   | (with_reducible refine LeO.bind ?_ (fun _=>?_))
theorem spec_validChain.mono : ∀ a0 a1 k,LeO (spec_validChain.f k a0 a1) (spec_validChain.f (k + 1) a0 a1):=by
 intro a0 a1 k
 have ih0:=spec_validChain.mono_l k
 unfold spec_validChain.f
 repeat' first
   | (with_reducible exact ih0 _ _ _ _)
   | (with_reducible exact spec_chainOf.mono _ _ _)
   | (with_reducible exact LeO.refl _)
   | (with_reducible exact LeO.none _)
   | (with_reducible refine LeO.ite ?_ ?_)
   | (with_reducible refine LeO.bind ?_ (fun _=>?_))
set_option maxHeartbeats 8000000 in
set_option maxRecDepth 100000 in
theorem spec_validChain.calls (k : Nat) (A0 : Option Addr) (c0 : Nat) (l0 : List (S75)) (a1 : Int) (r : Bool) (w : World) (hr0 : Kd.C k75 w A0 l0.length l0) (hc0 : l0.length ≤ c0) (h : spec_validChain.f k l0 a1 = some r) :
  Calls Try.prog 159 #[.slice A0 l0.length c0,.int .i64 a1] w fun e w'=>e = .returned (.bool r) ∧ Below w.heap.size w w':=by
 have HR0:=a0_ hr0;have HC0:=a0_ hc0;clear hr0 hc0;have HB:=a0_ (Below.refl w.heap.size w);have H : ((spec_chainOf.f k l0 a1).bind fun t1=>(spec_validChain.l0 k l0 t1 0 1)) = some r:=h;clear h;replace H:=Option.bind_eq_some_iff.mp H;obtain ⟨t1,A30,H⟩:=H;replace H : (spec_validChain.l0 k l0 t1 0 1) = some r:=H;have A3:=a0_ A30;clear A30;have H':=a0_ H;clear H;go_enter Try.func159,Try.ntmps159;go_wp2_with (first | ((with_reducible refine gate_callee (f:=171) rfl ?_);refine goesL_ (some 11) rfl rfl Try.func171 (by kernel_rfl) rfl #[.slice A0 l0.length c0,.int .i64 a1] rfl lm_ ?_;(with_reducible refine (spec_chainOf.calls k _ _ l0 a1 t1 _ ?side1 ?side2 A3.out).mono ?_);(case side1=>repeat (first | exact HR0.out | (with_reducible refine Kd.C_alloc ?_ _) | (with_reducible refine Kd.C_drewN ?_ _) | (with_reducible refine Kd.C_drew ?_)));(case side2=>exact HC0.out);rintro e w4 ⟨v2,rfl,ho0,hb⟩;refine ⟨_,rfl,?_⟩;have HO3:=a0_ (Kd.R_lower ho0 (below_size hbw_));replace HB:=a0_ (below_step hbw_ hb);(try clear hb);(try clear ho0)));go_loopg [6,7] k (fun kq v6 v7 w'=>∃ (x6_1 : Int) (x7_1 : Int),v6 = .int .i64 x6_1 ∧ v7 = .int .i64 x7_1 ∧ Aside0 (spec_validChain.l0 kq l0 t1 x6_1 x7_1 = some r) ∧ Aside0 (kq ≤ k) ∧ Aside0 (Kd.R (Kd.int .i64) 3 w' w.heap.size (fun _=>True) v2 t1) ∧ Aside0 (Below w.heap.size w w'))
 case atStart=>exact ⟨(0),(1),(by first | rfl | (simp;done) | (simp [*];done)),(by first | rfl | (simp;done) | (simp [*];done)),H',⟨Nat.le_refl _⟩,⟨by (with_reducible repeat (first | apply Kd.R_alloc | apply Kd.R_drewN | apply Kd.R_drew));exact HO3.out⟩,⟨hbw_⟩⟩
 case round =>
  clear H';(try clear c1);(try clear p2);obtain ⟨x6_1,x7_1,rfl,rfl,HA,HK1,HO_5,HB⟩:=hrel
  cases gk with
  | zero=>exact absurd HA.out (by simp [spec_validChain.l0])
  | succ k1 =>
   have H:=HA.out;clear HA;simp only [spec_validChain.l0] at H;by_cases c5 : x7_1 < (t1.length : Int)
   ·rw [if_pos c5] at H
    have c5b0 : decide (x7_1 < (t1.length : Int)) = true:=decide_eq_true c5;clear c5;by_cases c6 : 0 ≤ x7_1
    ·rw [if_pos c6] at H
     have c6b0 : decide (0 ≤ x7_1) = true:=decide_eq_true c6;clear c6;by_cases c7 : 0 ≤ (rd t1 x7_1)
     ·rw [if_pos c7] at H
      have c7b0 : decide (0 ≤ (rd t1 x7_1)) = true:=decide_eq_true c7;clear c7;by_cases c8 : (rd t1 x7_1) < (l0.length : Int)
      ·rw [if_pos c8] at H
       have c8b0 : decide ((rd t1 x7_1) < (l0.length : Int)) = true:=decide_eq_true c8;clear c8;by_cases c9 : ((rd_T75 l0 (rd t1 x7_1)).f1) = 8
       ·rw [if_pos c9] at H
        have c9b0 : (((rd_T75 l0 (rd t1 x7_1)).f1) == 8) = true:=beq_iff_eq.mpr c9;have c9b1 : (((rd_T75 l0 (rd t1 x7_1)).f1) != 8) = false:=bne_eq_false_iff_eq.mpr c9;clear c9;by_cases c10 : x7_1 > 1
        ·rw [if_pos c10] at H
         have c10b0 : decide (1 < x7_1) = true:=decide_eq_true c10;clear c10;obtain ⟨ji11,hji11⟩ : ∃ j_ : Int,(wrap64 (x7_1 - 1)) = j_:=⟨_,rfl⟩
         replace H : (if 0 ≤ (ji11) then (if (ji11) < (t1.length : Int) then (if 0 ≤ (rd t1 (ji11)) then (if (rd t1 (ji11)) < (l0.length : Int) then (if ((rd_T75 l0 (rd t1 x7_1)).f1) < ((rd_T75 l0 (rd t1 (ji11))).f1) then (some false) else (if ((rd_T75 l0 (rd t1 x7_1)).f1) = ((rd_T75 l0 (rd t1 (ji11))).f1) then (if ((rd_T75 l0 (rd t1 x7_1)).f1) = 9 then (if (wrap64 (x6_1 + 1)) = 0 then (some false) else (spec_validChain.l0 k1 l0 t1 (wrap64 (x6_1 + 1)) (wrap64 (x7_1 + 1)))) else (spec_validChain.l0 k1 l0 t1 (wrap64 (x6_1 + 1)) (wrap64 (x7_1 + 1)))) else (if ((rd_T75 l0 (rd t1 x7_1)).f1) = 9 then (if (wrap64 (x6_1 + 1)) = 0 then (some false) else (spec_validChain.l0 k1 l0 t1 (wrap64 (x6_1 + 1)) (wrap64 (x7_1 + 1)))) else (spec_validChain.l0 k1 l0 t1 (wrap64 (x6_1 + 1)) (wrap64 (x7_1 + 1)))))) else (none)) else (none)) else (none)) else (none)) = some r:=by first | (rw [hji11] at H;exact H) | (simp only [hji11] at H ⊢;exact H)
         have hji11w : (IntKind.i64.wrap (x7_1 - 1)) = ji11:=(i64_w _).trans hji11;by_cases c12 : 0 ≤ (ji11)
         ·rw [if_pos c12] at H
          have c12b0 : decide (0 ≤ (ji11)) = true:=decide_eq_true c12;clear c12;by_cases c13 : (ji11) < (t1.length : Int)
          ·rw [if_pos c13] at H
           have c13b0 : decide ((ji11) < (t1.length : Int)) = true:=decide_eq_true c13;clear c13;by_cases c14 : 0 ≤ (rd t1 (ji11))
           ·rw [if_pos c14] at H
            have c14b0 : decide (0 ≤ (rd t1 (ji11))) = true:=decide_eq_true c14;clear c14;by_cases c15 : (rd t1 (ji11)) < (l0.length : Int)
            ·rw [if_pos c15] at H
             have c15b0 : decide ((rd t1 (ji11)) < (l0.length : Int)) = true:=decide_eq_true c15;clear c15;by_cases c16 : ((rd_T75 l0 (rd t1 x7_1)).f1) < ((rd_T75 l0 (rd t1 (ji11))).f1)
             ·rw [if_pos c16] at H
              have c16b0 : decide (((rd_T75 l0 (rd t1 x7_1)).f1) < ((rd_T75 l0 (rd t1 (ji11))).f1)) = true:=decide_eq_true c16;clear c16;obtain rfl:=Option.some.inj H;obtain ⟨Ao17,co17,eo17⟩:=Kd.R_slice HO_5.out;subst eo17;have p4 : 0 ≤ (x7_1 : Int):=od_;have q4 : x7_1 < (t1.length : Int):=od_;obtain ⟨ad4,e4,hx4_0⟩:=Kd.at_int (Kd.R_reads' HO_5.out).2.2 x7_1 p4 q4;cases e4;replace p4:=eq_true p4;replace q4:=eq_true q4;have p5 : 0 ≤ ((rd t1 x7_1) : Int):=od_;have q5 : (rd t1 x7_1) < (l0.length : Int):=od_;obtain ⟨ad5,e5,hx5_0,hx5_1,hx5_2,hx5_3⟩:=at_T75 HR0.out (rd t1 x7_1) p5 q5;cases e5;replace hx5_0:=cl_ HB.out hx5_0;replace hx5_1:=cl_ HB.out hx5_1;replace hx5_2:=cl_ HB.out hx5_2;replace hx5_3:=cl_ HB.out hx5_3;replace p5:=eq_true p5;replace q5:=eq_true q5;have p6 : 0 ≤ ((ji11) : Int):=od_;have q6 : (ji11) < (t1.length : Int):=od_;obtain ⟨ad6,e6,hx6_0⟩:=Kd.at_int (Kd.R_reads' HO_5.out).2.2 (ji11) p6 q6;obtain rfl : ad4 = ad6:=(by injection e6);replace p6:=eq_true p6;replace q6:=eq_true q6;have p7 : 0 ≤ ((rd t1 (ji11)) : Int):=od_;have q7 : (rd t1 (ji11)) < (l0.length : Int):=od_;obtain ⟨ad7,e7,hx7_0,hx7_1,hx7_2,hx7_3⟩:=at_T75 HR0.out (rd t1 (ji11)) p7 q7;obtain rfl : ad5 = ad7:=(by injection e7);replace hx7_0:=cl_ HB.out hx7_0;replace hx7_1:=cl_ HB.out hx7_1;replace hx7_2:=cl_ HB.out hx7_2;replace hx7_3:=cl_ HB.out hx7_3;replace p7:=eq_true p7;replace q7:=eq_true q7;go_wp2;go_ret;exact ⟨by first | rfl | (simp [errW_none,errW_some] <;> rfl) | (simp only [← hji11];first | rfl | (simp [errW_none,errW_some] <;> rfl)) | (simp [*,errW_none,errW_some] <;> rfl),hbw_⟩
             ·rw [if_neg c16] at H
              have c16b0 : decide (((rd_T75 l0 (rd t1 x7_1)).f1) < ((rd_T75 l0 (rd t1 (ji11))).f1)) = false:=decide_eq_false c16;clear c16;by_cases c18 : ((rd_T75 l0 (rd t1 x7_1)).f1) = ((rd_T75 l0 (rd t1 (ji11))).f1)
              ·rw [if_pos c18] at H
               have c18b0 : (((rd_T75 l0 (rd t1 x7_1)).f1) == ((rd_T75 l0 (rd t1 (ji11))).f1)) = true:=beq_iff_eq.mpr c18;have c18b1 : (((rd_T75 l0 (rd t1 x7_1)).f1) != ((rd_T75 l0 (rd t1 (ji11))).f1)) = false:=bne_eq_false_iff_eq.mpr c18;clear c18;by_cases c19 : ((rd_T75 l0 (rd t1 x7_1)).f1) = 9
               ·rw [if_pos c19] at H
                have c19b0 : (((rd_T75 l0 (rd t1 x7_1)).f1) == 9) = true:=beq_iff_eq.mpr c19;have c19b1 : (((rd_T75 l0 (rd t1 x7_1)).f1) != 9) = false:=bne_eq_false_iff_eq.mpr c19;clear c19;by_cases c20 : (wrap64 (x6_1 + 1)) = 0
                ·rw [if_pos c20] at H
                 have c20b0 : ((wrap64 (x6_1 + 1)) == 0) = true:=beq_iff_eq.mpr c20;have c20b1 : ((wrap64 (x6_1 + 1)) != 0) = false:=bne_eq_false_iff_eq.mpr c20;clear c20;obtain rfl:=Option.some.inj H;obtain ⟨Ao21,co21,eo21⟩:=Kd.R_slice HO_5.out;subst eo21;have p4 : 0 ≤ (x7_1 : Int):=od_;have q4 : x7_1 < (t1.length : Int):=od_;obtain ⟨ad4,e4,hx4_0⟩:=Kd.at_int (Kd.R_reads' HO_5.out).2.2 x7_1 p4 q4;cases e4;replace p4:=eq_true p4;replace q4:=eq_true q4;have p5 : 0 ≤ ((rd t1 x7_1) : Int):=od_;have q5 : (rd t1 x7_1) < (l0.length : Int):=od_;obtain ⟨ad5,e5,hx5_0,hx5_1,hx5_2,hx5_3⟩:=at_T75 HR0.out (rd t1 x7_1) p5 q5;cases e5;replace hx5_0:=cl_ HB.out hx5_0;replace hx5_1:=cl_ HB.out hx5_1;replace hx5_2:=cl_ HB.out hx5_2;replace hx5_3:=cl_ HB.out hx5_3;replace p5:=eq_true p5;replace q5:=eq_true q5;have p6 : 0 ≤ ((ji11) : Int):=od_;have q6 : (ji11) < (t1.length : Int):=od_;obtain ⟨ad6,e6,hx6_0⟩:=Kd.at_int (Kd.R_reads' HO_5.out).2.2 (ji11) p6 q6;obtain rfl : ad4 = ad6:=(by injection e6);replace p6:=eq_true p6;replace q6:=eq_true q6;have p7 : 0 ≤ ((rd t1 (ji11)) : Int):=od_;have q7 : (rd t1 (ji11)) < (l0.length : Int):=od_;obtain ⟨ad7,e7,hx7_0,hx7_1,hx7_2,hx7_3⟩:=at_T75 HR0.out (rd t1 (ji11)) p7 q7;obtain rfl : ad5 = ad7:=(by injection e7);replace hx7_0:=cl_ HB.out hx7_0;replace hx7_1:=cl_ HB.out hx7_1;replace hx7_2:=cl_ HB.out hx7_2;replace hx7_3:=cl_ HB.out hx7_3;replace p7:=eq_true p7;replace q7:=eq_true q7;have p8 : 0 ≤ ((ji11) : Int):=od_;have q8 : (ji11) < (t1.length : Int):=od_;obtain ⟨ad8,e8,hx8_0⟩:=Kd.at_int (Kd.R_reads' HO_5.out).2.2 (ji11) p8 q8;obtain rfl : ad4 = ad8:=(by injection e8);replace p8:=eq_true p8;replace q8:=eq_true q8;have p9 : 0 ≤ ((rd t1 (ji11)) : Int):=od_;have q9 : (rd t1 (ji11)) < (l0.length : Int):=od_;obtain ⟨ad9,e9,hx9_0,hx9_1,hx9_2,hx9_3⟩:=at_T75 HR0.out (rd t1 (ji11)) p9 q9;obtain rfl : ad5 = ad9:=(by injection e9);replace hx9_0:=cl_ HB.out hx9_0;replace hx9_1:=cl_ HB.out hx9_1;replace hx9_2:=cl_ HB.out hx9_2;replace hx9_3:=cl_ HB.out hx9_3;replace p9:=eq_true p9;replace q9:=eq_true q9;go_wp2;go_ret;exact ⟨by first | rfl | (simp [errW_none,errW_some] <;> rfl) | (simp only [← hji11];first | rfl | (simp [errW_none,errW_some] <;> rfl)) | (simp [*,errW_none,errW_some] <;> rfl),hbw_⟩
                ·rw [if_neg c20] at H
                 have c20b0 : ((wrap64 (x6_1 + 1)) == 0) = false:=beq_eq_false_iff_ne.mpr c20;have c20b1 : ((wrap64 (x6_1 + 1)) != 0) = true:=bne_iff_ne.mpr c20;have H':=a0_ H;clear H;obtain ⟨Ao22,co22,eo22⟩:=Kd.R_slice HO_5.out;subst eo22;have p4 : 0 ≤ (x7_1 : Int):=od_;have q4 : x7_1 < (t1.length : Int):=od_;obtain ⟨ad4,e4,hx4_0⟩:=Kd.at_int (Kd.R_reads' HO_5.out).2.2 x7_1 p4 q4;cases e4;replace p4:=eq_true p4;replace q4:=eq_true q4;have p5 : 0 ≤ ((rd t1 x7_1) : Int):=od_;have q5 : (rd t1 x7_1) < (l0.length : Int):=od_;obtain ⟨ad5,e5,hx5_0,hx5_1,hx5_2,hx5_3⟩:=at_T75 HR0.out (rd t1 x7_1) p5 q5;cases e5;replace hx5_0:=cl_ HB.out hx5_0;replace hx5_1:=cl_ HB.out hx5_1;replace hx5_2:=cl_ HB.out hx5_2;replace hx5_3:=cl_ HB.out hx5_3;replace p5:=eq_true p5;replace q5:=eq_true q5;have p6 : 0 ≤ ((ji11) : Int):=od_;have q6 : (ji11) < (t1.length : Int):=od_;obtain ⟨ad6,e6,hx6_0⟩:=Kd.at_int (Kd.R_reads' HO_5.out).2.2 (ji11) p6 q6;obtain rfl : ad4 = ad6:=(by injection e6);replace p6:=eq_true p6;replace q6:=eq_true q6;have p7 : 0 ≤ ((rd t1 (ji11)) : Int):=od_;have q7 : (rd t1 (ji11)) < (l0.length : Int):=od_;obtain ⟨ad7,e7,hx7_0,hx7_1,hx7_2,hx7_3⟩:=at_T75 HR0.out (rd t1 (ji11)) p7 q7;obtain rfl : ad5 = ad7:=(by injection e7);replace hx7_0:=cl_ HB.out hx7_0;replace hx7_1:=cl_ HB.out hx7_1;replace hx7_2:=cl_ HB.out hx7_2;replace hx7_3:=cl_ HB.out hx7_3;replace p7:=eq_true p7;replace q7:=eq_true q7;have p8 : 0 ≤ ((ji11) : Int):=od_;have q8 : (ji11) < (t1.length : Int):=od_;obtain ⟨ad8,e8,hx8_0⟩:=Kd.at_int (Kd.R_reads' HO_5.out).2.2 (ji11) p8 q8;obtain rfl : ad4 = ad8:=(by injection e8);replace p8:=eq_true p8;replace q8:=eq_true q8;have p9 : 0 ≤ ((rd t1 (ji11)) : Int):=od_;have q9 : (rd t1 (ji11)) < (l0.length : Int):=od_;obtain ⟨ad9,e9,hx9_0,hx9_1,hx9_2,hx9_3⟩:=at_T75 HR0.out (rd t1 (ji11)) p9 q9;obtain rfl : ad5 = ad9:=(by injection e9);replace hx9_0:=cl_ HB.out hx9_0;replace hx9_1:=cl_ HB.out hx9_1;replace hx9_2:=cl_ HB.out hx9_2;replace hx9_3:=cl_ HB.out hx9_3;replace p9:=eq_true p9;replace q9:=eq_true q9;go_wp2;go_roundg k1
                 case measure=>have:=HK1.out;omega
                 case rel=>exact ⟨(wrap64 (x6_1 + 1)),(wrap64 (x7_1 + 1)),(by first | rfl | (simp;done) | (simp [*];done)),(by first | rfl | (simp;done) | (simp [*];done)),H',⟨by have:=HK1.out;omega⟩,⟨by (with_reducible repeat (first | apply Kd.R_alloc | apply Kd.R_drewN | apply Kd.R_drew));exact HO_5.out⟩,⟨hbw_⟩⟩
               ·rw [if_neg c19] at H
                have c19b0 : (((rd_T75 l0 (rd t1 x7_1)).f1) == 9) = false:=beq_eq_false_iff_ne.mpr c19;have c19b1 : (((rd_T75 l0 (rd t1 x7_1)).f1) != 9) = true:=bne_iff_ne.mpr c19;have H':=a0_ H;clear H;obtain ⟨Ao23,co23,eo23⟩:=Kd.R_slice HO_5.out;subst eo23;have p4 : 0 ≤ (x7_1 : Int):=od_;have q4 : x7_1 < (t1.length : Int):=od_;obtain ⟨ad4,e4,hx4_0⟩:=Kd.at_int (Kd.R_reads' HO_5.out).2.2 x7_1 p4 q4;cases e4;replace p4:=eq_true p4;replace q4:=eq_true q4;have p5 : 0 ≤ ((rd t1 x7_1) : Int):=od_;have q5 : (rd t1 x7_1) < (l0.length : Int):=od_;obtain ⟨ad5,e5,hx5_0,hx5_1,hx5_2,hx5_3⟩:=at_T75 HR0.out (rd t1 x7_1) p5 q5;cases e5;replace hx5_0:=cl_ HB.out hx5_0;replace hx5_1:=cl_ HB.out hx5_1;replace hx5_2:=cl_ HB.out hx5_2;replace hx5_3:=cl_ HB.out hx5_3;replace p5:=eq_true p5;replace q5:=eq_true q5;have p6 : 0 ≤ ((ji11) : Int):=od_;have q6 : (ji11) < (t1.length : Int):=od_;obtain ⟨ad6,e6,hx6_0⟩:=Kd.at_int (Kd.R_reads' HO_5.out).2.2 (ji11) p6 q6;obtain rfl : ad4 = ad6:=(by injection e6);replace p6:=eq_true p6;replace q6:=eq_true q6;have p7 : 0 ≤ ((rd t1 (ji11)) : Int):=od_;have q7 : (rd t1 (ji11)) < (l0.length : Int):=od_;obtain ⟨ad7,e7,hx7_0,hx7_1,hx7_2,hx7_3⟩:=at_T75 HR0.out (rd t1 (ji11)) p7 q7;obtain rfl : ad5 = ad7:=(by injection e7);replace hx7_0:=cl_ HB.out hx7_0;replace hx7_1:=cl_ HB.out hx7_1;replace hx7_2:=cl_ HB.out hx7_2;replace hx7_3:=cl_ HB.out hx7_3;replace p7:=eq_true p7;replace q7:=eq_true q7;have p8 : 0 ≤ ((ji11) : Int):=od_;have q8 : (ji11) < (t1.length : Int):=od_;obtain ⟨ad8,e8,hx8_0⟩:=Kd.at_int (Kd.R_reads' HO_5.out).2.2 (ji11) p8 q8;obtain rfl : ad4 = ad8:=(by injection e8);replace p8:=eq_true p8;replace q8:=eq_true q8;have p9 : 0 ≤ ((rd t1 (ji11)) : Int):=od_;have q9 : (rd t1 (ji11)) < (l0.length : Int):=od_;obtain ⟨ad9,e9,hx9_0,hx9_1,hx9_2,hx9_3⟩:=at_T75 HR0.out (rd t1 (ji11)) p9 q9;obtain rfl : ad5 = ad9:=(by injection e9);replace hx9_0:=cl_ HB.out hx9_0;replace hx9_1:=cl_ HB.out hx9_1;replace hx9_2:=cl_ HB.out hx9_2;replace hx9_3:=cl_ HB.out hx9_3;replace p9:=eq_true p9;replace q9:=eq_true q9;go_wp2;go_roundg k1
                case measure=>have:=HK1.out;omega
                case rel=>exact ⟨(wrap64 (x6_1 + 1)),(wrap64 (x7_1 + 1)),(by first | rfl | (simp;done) | (simp [*];done)),(by first | rfl | (simp;done) | (simp [*];done)),H',⟨by have:=HK1.out;omega⟩,⟨by (with_reducible repeat (first | apply Kd.R_alloc | apply Kd.R_drewN | apply Kd.R_drew));exact HO_5.out⟩,⟨hbw_⟩⟩
              ·rw [if_neg c18] at H
               have c18b0 : (((rd_T75 l0 (rd t1 x7_1)).f1) == ((rd_T75 l0 (rd t1 (ji11))).f1)) = false:=beq_eq_false_iff_ne.mpr c18;have c18b1 : (((rd_T75 l0 (rd t1 x7_1)).f1) != ((rd_T75 l0 (rd t1 (ji11))).f1)) = true:=bne_iff_ne.mpr c18;by_cases c24 : ((rd_T75 l0 (rd t1 x7_1)).f1) = 9
               ·rw [if_pos c24] at H
                have c24b0 : (((rd_T75 l0 (rd t1 x7_1)).f1) == 9) = true:=beq_iff_eq.mpr c24;have c24b1 : (((rd_T75 l0 (rd t1 x7_1)).f1) != 9) = false:=bne_eq_false_iff_eq.mpr c24;clear c24;by_cases c25 : (wrap64 (x6_1 + 1)) = 0
                ·rw [if_pos c25] at H
                 have c25b0 : ((wrap64 (x6_1 + 1)) == 0) = true:=beq_iff_eq.mpr c25;have c25b1 : ((wrap64 (x6_1 + 1)) != 0) = false:=bne_eq_false_iff_eq.mpr c25;clear c25;obtain rfl:=Option.some.inj H;obtain ⟨Ao26,co26,eo26⟩:=Kd.R_slice HO_5.out;subst eo26;have p4 : 0 ≤ (x7_1 : Int):=od_;have q4 : x7_1 < (t1.length : Int):=od_;obtain ⟨ad4,e4,hx4_0⟩:=Kd.at_int (Kd.R_reads' HO_5.out).2.2 x7_1 p4 q4;cases e4;replace p4:=eq_true p4;replace q4:=eq_true q4;have p5 : 0 ≤ ((rd t1 x7_1) : Int):=od_;have q5 : (rd t1 x7_1) < (l0.length : Int):=od_;obtain ⟨ad5,e5,hx5_0,hx5_1,hx5_2,hx5_3⟩:=at_T75 HR0.out (rd t1 x7_1) p5 q5;cases e5;replace hx5_0:=cl_ HB.out hx5_0;replace hx5_1:=cl_ HB.out hx5_1;replace hx5_2:=cl_ HB.out hx5_2;replace hx5_3:=cl_ HB.out hx5_3;replace p5:=eq_true p5;replace q5:=eq_true q5;have p6 : 0 ≤ ((ji11) : Int):=od_;have q6 : (ji11) < (t1.length : Int):=od_;obtain ⟨ad6,e6,hx6_0⟩:=Kd.at_int (Kd.R_reads' HO_5.out).2.2 (ji11) p6 q6;obtain rfl : ad4 = ad6:=(by injection e6);replace p6:=eq_true p6;replace q6:=eq_true q6;have p7 : 0 ≤ ((rd t1 (ji11)) : Int):=od_;have q7 : (rd t1 (ji11)) < (l0.length : Int):=od_;obtain ⟨ad7,e7,hx7_0,hx7_1,hx7_2,hx7_3⟩:=at_T75 HR0.out (rd t1 (ji11)) p7 q7;obtain rfl : ad5 = ad7:=(by injection e7);replace hx7_0:=cl_ HB.out hx7_0;replace hx7_1:=cl_ HB.out hx7_1;replace hx7_2:=cl_ HB.out hx7_2;replace hx7_3:=cl_ HB.out hx7_3;replace p7:=eq_true p7;replace q7:=eq_true q7;have p8 : 0 ≤ ((ji11) : Int):=od_;have q8 : (ji11) < (t1.length : Int):=od_;obtain ⟨ad8,e8,hx8_0⟩:=Kd.at_int (Kd.R_reads' HO_5.out).2.2 (ji11) p8 q8;obtain rfl : ad4 = ad8:=(by injection e8);replace p8:=eq_true p8;replace q8:=eq_true q8;have p9 : 0 ≤ ((rd t1 (ji11)) : Int):=od_;have q9 : (rd t1 (ji11)) < (l0.length : Int):=od_;obtain ⟨ad9,e9,hx9_0,hx9_1,hx9_2,hx9_3⟩:=at_T75 HR0.out (rd t1 (ji11)) p9 q9;obtain rfl : ad5 = ad9:=(by injection e9);replace hx9_0:=cl_ HB.out hx9_0;replace hx9_1:=cl_ HB.out hx9_1;replace hx9_2:=cl_ HB.out hx9_2;replace hx9_3:=cl_ HB.out hx9_3;replace p9:=eq_true p9;replace q9:=eq_true q9;go_wp2;go_ret;exact ⟨by first | rfl | (simp [errW_none,errW_some] <;> rfl) | (simp only [← hji11];first | rfl | (simp [errW_none,errW_some] <;> rfl)) | (simp [*,errW_none,errW_some] <;> rfl),hbw_⟩
                ·rw [if_neg c25] at H
                 have c25b0 : ((wrap64 (x6_1 + 1)) == 0) = false:=beq_eq_false_iff_ne.mpr c25;have c25b1 : ((wrap64 (x6_1 + 1)) != 0) = true:=bne_iff_ne.mpr c25;have H':=a0_ H;clear H;obtain ⟨Ao27,co27,eo27⟩:=Kd.R_slice HO_5.out;subst eo27;have p4 : 0 ≤ (x7_1 : Int):=od_;have q4 : x7_1 < (t1.length : Int):=od_;obtain ⟨ad4,e4,hx4_0⟩:=Kd.at_int (Kd.R_reads' HO_5.out).2.2 x7_1 p4 q4;cases e4;replace p4:=eq_true p4;replace q4:=eq_true q4;have p5 : 0 ≤ ((rd t1 x7_1) : Int):=od_;have q5 : (rd t1 x7_1) < (l0.length : Int):=od_;obtain ⟨ad5,e5,hx5_0,hx5_1,hx5_2,hx5_3⟩:=at_T75 HR0.out (rd t1 x7_1) p5 q5;cases e5;replace hx5_0:=cl_ HB.out hx5_0;replace hx5_1:=cl_ HB.out hx5_1;replace hx5_2:=cl_ HB.out hx5_2;replace hx5_3:=cl_ HB.out hx5_3;replace p5:=eq_true p5;replace q5:=eq_true q5;have p6 : 0 ≤ ((ji11) : Int):=od_;have q6 : (ji11) < (t1.length : Int):=od_;obtain ⟨ad6,e6,hx6_0⟩:=Kd.at_int (Kd.R_reads' HO_5.out).2.2 (ji11) p6 q6;obtain rfl : ad4 = ad6:=(by injection e6);replace p6:=eq_true p6;replace q6:=eq_true q6;have p7 : 0 ≤ ((rd t1 (ji11)) : Int):=od_;have q7 : (rd t1 (ji11)) < (l0.length : Int):=od_;obtain ⟨ad7,e7,hx7_0,hx7_1,hx7_2,hx7_3⟩:=at_T75 HR0.out (rd t1 (ji11)) p7 q7;obtain rfl : ad5 = ad7:=(by injection e7);replace hx7_0:=cl_ HB.out hx7_0;replace hx7_1:=cl_ HB.out hx7_1;replace hx7_2:=cl_ HB.out hx7_2;replace hx7_3:=cl_ HB.out hx7_3;replace p7:=eq_true p7;replace q7:=eq_true q7;have p8 : 0 ≤ ((ji11) : Int):=od_;have q8 : (ji11) < (t1.length : Int):=od_;obtain ⟨ad8,e8,hx8_0⟩:=Kd.at_int (Kd.R_reads' HO_5.out).2.2 (ji11) p8 q8;obtain rfl : ad4 = ad8:=(by injection e8);replace p8:=eq_true p8;replace q8:=eq_true q8;have p9 : 0 ≤ ((rd t1 (ji11)) : Int):=od_;have q9 : (rd t1 (ji11)) < (l0.length : Int):=od_;obtain ⟨ad9,e9,hx9_0,hx9_1,hx9_2,hx9_3⟩:=at_T75 HR0.out (rd t1 (ji11)) p9 q9;obtain rfl : ad5 = ad9:=(by injection e9);replace hx9_0:=cl_ HB.out hx9_0;replace hx9_1:=cl_ HB.out hx9_1;replace hx9_2:=cl_ HB.out hx9_2;replace hx9_3:=cl_ HB.out hx9_3;replace p9:=eq_true p9;replace q9:=eq_true q9;go_wp2;go_roundg k1
                 case measure=>have:=HK1.out;omega
                 case rel=>exact ⟨(wrap64 (x6_1 + 1)),(wrap64 (x7_1 + 1)),(by first | rfl | (simp;done) | (simp [*];done)),(by first | rfl | (simp;done) | (simp [*];done)),H',⟨by have:=HK1.out;omega⟩,⟨by (with_reducible repeat (first | apply Kd.R_alloc | apply Kd.R_drewN | apply Kd.R_drew));exact HO_5.out⟩,⟨hbw_⟩⟩
               ·rw [if_neg c24] at H
                have c24b0 : (((rd_T75 l0 (rd t1 x7_1)).f1) == 9) = false:=beq_eq_false_iff_ne.mpr c24;have c24b1 : (((rd_T75 l0 (rd t1 x7_1)).f1) != 9) = true:=bne_iff_ne.mpr c24;have H':=a0_ H;clear H;obtain ⟨Ao28,co28,eo28⟩:=Kd.R_slice HO_5.out;subst eo28;have p4 : 0 ≤ (x7_1 : Int):=od_;have q4 : x7_1 < (t1.length : Int):=od_;obtain ⟨ad4,e4,hx4_0⟩:=Kd.at_int (Kd.R_reads' HO_5.out).2.2 x7_1 p4 q4;cases e4;replace p4:=eq_true p4;replace q4:=eq_true q4;have p5 : 0 ≤ ((rd t1 x7_1) : Int):=od_;have q5 : (rd t1 x7_1) < (l0.length : Int):=od_;obtain ⟨ad5,e5,hx5_0,hx5_1,hx5_2,hx5_3⟩:=at_T75 HR0.out (rd t1 x7_1) p5 q5;cases e5;replace hx5_0:=cl_ HB.out hx5_0;replace hx5_1:=cl_ HB.out hx5_1;replace hx5_2:=cl_ HB.out hx5_2;replace hx5_3:=cl_ HB.out hx5_3;replace p5:=eq_true p5;replace q5:=eq_true q5;have p6 : 0 ≤ ((ji11) : Int):=od_;have q6 : (ji11) < (t1.length : Int):=od_;obtain ⟨ad6,e6,hx6_0⟩:=Kd.at_int (Kd.R_reads' HO_5.out).2.2 (ji11) p6 q6;obtain rfl : ad4 = ad6:=(by injection e6);replace p6:=eq_true p6;replace q6:=eq_true q6;have p7 : 0 ≤ ((rd t1 (ji11)) : Int):=od_;have q7 : (rd t1 (ji11)) < (l0.length : Int):=od_;obtain ⟨ad7,e7,hx7_0,hx7_1,hx7_2,hx7_3⟩:=at_T75 HR0.out (rd t1 (ji11)) p7 q7;obtain rfl : ad5 = ad7:=(by injection e7);replace hx7_0:=cl_ HB.out hx7_0;replace hx7_1:=cl_ HB.out hx7_1;replace hx7_2:=cl_ HB.out hx7_2;replace hx7_3:=cl_ HB.out hx7_3;replace p7:=eq_true p7;replace q7:=eq_true q7;have p8 : 0 ≤ ((ji11) : Int):=od_;have q8 : (ji11) < (t1.length : Int):=od_;obtain ⟨ad8,e8,hx8_0⟩:=Kd.at_int (Kd.R_reads' HO_5.out).2.2 (ji11) p8 q8;obtain rfl : ad4 = ad8:=(by injection e8);replace p8:=eq_true p8;replace q8:=eq_true q8;have p9 : 0 ≤ ((rd t1 (ji11)) : Int):=od_;have q9 : (rd t1 (ji11)) < (l0.length : Int):=od_;obtain ⟨ad9,e9,hx9_0,hx9_1,hx9_2,hx9_3⟩:=at_T75 HR0.out (rd t1 (ji11)) p9 q9;obtain rfl : ad5 = ad9:=(by injection e9);replace hx9_0:=cl_ HB.out hx9_0;replace hx9_1:=cl_ HB.out hx9_1;replace hx9_2:=cl_ HB.out hx9_2;replace hx9_3:=cl_ HB.out hx9_3;replace p9:=eq_true p9;replace q9:=eq_true q9;go_wp2;go_roundg k1
                case measure=>have:=HK1.out;omega
                case rel=>exact ⟨(wrap64 (x6_1 + 1)),(wrap64 (x7_1 + 1)),(by first | rfl | (simp;done) | (simp [*];done)),(by first | rfl | (simp;done) | (simp [*];done)),H',⟨by have:=HK1.out;omega⟩,⟨by (with_reducible repeat (first | apply Kd.R_alloc | apply Kd.R_drewN | apply Kd.R_drew));exact HO_5.out⟩,⟨hbw_⟩⟩
            ·rw [if_neg c15] at H
             exact absurd H (by simp)
           ·rw [if_neg c14] at H
            exact absurd H (by simp)
          ·rw [if_neg c13] at H
           exact absurd H (by simp)
         ·rw [if_neg c12] at H
          exact absurd H (by simp)
        ·rw [if_neg c10] at H
         have c10b0 : decide (1 < x7_1) = false:=decide_eq_false c10;clear c10;by_cases c29 : ((rd_T75 l0 (rd t1 x7_1)).f1) = 9
         ·rw [if_pos c29] at H
          have c29b0 : (((rd_T75 l0 (rd t1 x7_1)).f1) == 9) = true:=beq_iff_eq.mpr c29;have c29b1 : (((rd_T75 l0 (rd t1 x7_1)).f1) != 9) = false:=bne_eq_false_iff_eq.mpr c29;clear c29;by_cases c30 : (wrap64 (x6_1 + 1)) = 0
          ·rw [if_pos c30] at H
           have c30b0 : ((wrap64 (x6_1 + 1)) == 0) = true:=beq_iff_eq.mpr c30;have c30b1 : ((wrap64 (x6_1 + 1)) != 0) = false:=bne_eq_false_iff_eq.mpr c30;clear c30;obtain rfl:=Option.some.inj H;obtain ⟨Ao31,co31,eo31⟩:=Kd.R_slice HO_5.out;subst eo31;have p4 : 0 ≤ (x7_1 : Int):=od_;have q4 : x7_1 < (t1.length : Int):=od_;obtain ⟨ad4,e4,hx4_0⟩:=Kd.at_int (Kd.R_reads' HO_5.out).2.2 x7_1 p4 q4;cases e4;replace p4:=eq_true p4;replace q4:=eq_true q4;have p5 : 0 ≤ ((rd t1 x7_1) : Int):=od_;have q5 : (rd t1 x7_1) < (l0.length : Int):=od_;obtain ⟨ad5,e5,hx5_0,hx5_1,hx5_2,hx5_3⟩:=at_T75 HR0.out (rd t1 x7_1) p5 q5;cases e5;replace hx5_0:=cl_ HB.out hx5_0;replace hx5_1:=cl_ HB.out hx5_1;replace hx5_2:=cl_ HB.out hx5_2;replace hx5_3:=cl_ HB.out hx5_3;replace p5:=eq_true p5;replace q5:=eq_true q5;go_wp2;go_ret;exact ⟨by first | rfl | (simp [errW_none,errW_some] <;> rfl) | (simp [*,errW_none,errW_some] <;> rfl),hbw_⟩
          ·rw [if_neg c30] at H
           have c30b0 : ((wrap64 (x6_1 + 1)) == 0) = false:=beq_eq_false_iff_ne.mpr c30;have c30b1 : ((wrap64 (x6_1 + 1)) != 0) = true:=bne_iff_ne.mpr c30;have H':=a0_ H;clear H;obtain ⟨Ao32,co32,eo32⟩:=Kd.R_slice HO_5.out;subst eo32;have p4 : 0 ≤ (x7_1 : Int):=od_;have q4 : x7_1 < (t1.length : Int):=od_;obtain ⟨ad4,e4,hx4_0⟩:=Kd.at_int (Kd.R_reads' HO_5.out).2.2 x7_1 p4 q4;cases e4;replace p4:=eq_true p4;replace q4:=eq_true q4;have p5 : 0 ≤ ((rd t1 x7_1) : Int):=od_;have q5 : (rd t1 x7_1) < (l0.length : Int):=od_;obtain ⟨ad5,e5,hx5_0,hx5_1,hx5_2,hx5_3⟩:=at_T75 HR0.out (rd t1 x7_1) p5 q5;cases e5;replace hx5_0:=cl_ HB.out hx5_0;replace hx5_1:=cl_ HB.out hx5_1;replace hx5_2:=cl_ HB.out hx5_2;replace hx5_3:=cl_ HB.out hx5_3;replace p5:=eq_true p5;replace q5:=eq_true q5;go_wp2;go_roundg k1
           case measure=>have:=HK1.out;omega
           case rel=>exact ⟨(wrap64 (x6_1 + 1)),(wrap64 (x7_1 + 1)),(by first | rfl | (simp;done) | (simp [*];done)),(by first | rfl | (simp;done) | (simp [*];done)),H',⟨by have:=HK1.out;omega⟩,⟨by (with_reducible repeat (first | apply Kd.R_alloc | apply Kd.R_drewN | apply Kd.R_drew));exact HO_5.out⟩,⟨hbw_⟩⟩
         ·rw [if_neg c29] at H
          have c29b0 : (((rd_T75 l0 (rd t1 x7_1)).f1) == 9) = false:=beq_eq_false_iff_ne.mpr c29;have c29b1 : (((rd_T75 l0 (rd t1 x7_1)).f1) != 9) = true:=bne_iff_ne.mpr c29;have H':=a0_ H;clear H;obtain ⟨Ao33,co33,eo33⟩:=Kd.R_slice HO_5.out;subst eo33;have p4 : 0 ≤ (x7_1 : Int):=od_;have q4 : x7_1 < (t1.length : Int):=od_;obtain ⟨ad4,e4,hx4_0⟩:=Kd.at_int (Kd.R_reads' HO_5.out).2.2 x7_1 p4 q4;cases e4;replace p4:=eq_true p4;replace q4:=eq_true q4;have p5 : 0 ≤ ((rd t1 x7_1) : Int):=od_;have q5 : (rd t1 x7_1) < (l0.length : Int):=od_;obtain ⟨ad5,e5,hx5_0,hx5_1,hx5_2,hx5_3⟩:=at_T75 HR0.out (rd t1 x7_1) p5 q5;cases e5;replace hx5_0:=cl_ HB.out hx5_0;replace hx5_1:=cl_ HB.out hx5_1;replace hx5_2:=cl_ HB.out hx5_2;replace hx5_3:=cl_ HB.out hx5_3;replace p5:=eq_true p5;replace q5:=eq_true q5;go_wp2;go_roundg k1
          case measure=>have:=HK1.out;omega
          case rel=>exact ⟨(wrap64 (x6_1 + 1)),(wrap64 (x7_1 + 1)),(by first | rfl | (simp;done) | (simp [*];done)),(by first | rfl | (simp;done) | (simp [*];done)),H',⟨by have:=HK1.out;omega⟩,⟨by (with_reducible repeat (first | apply Kd.R_alloc | apply Kd.R_drewN | apply Kd.R_drew));exact HO_5.out⟩,⟨hbw_⟩⟩
       ·rw [if_neg c9] at H
        have c9b0 : (((rd_T75 l0 (rd t1 x7_1)).f1) == 8) = false:=beq_eq_false_iff_ne.mpr c9;have c9b1 : (((rd_T75 l0 (rd t1 x7_1)).f1) != 8) = true:=bne_iff_ne.mpr c9;by_cases c34 : x7_1 > 1
        ·rw [if_pos c34] at H
         have c34b0 : decide (1 < x7_1) = true:=decide_eq_true c34;clear c34;obtain ⟨ji35,hji35⟩ : ∃ j_ : Int,(wrap64 (x7_1 - 1)) = j_:=⟨_,rfl⟩
         replace H : (if 0 ≤ (ji35) then (if (ji35) < (t1.length : Int) then (if 0 ≤ (rd t1 (ji35)) then (if (rd t1 (ji35)) < (l0.length : Int) then (if ((rd_T75 l0 (rd t1 x7_1)).f1) < ((rd_T75 l0 (rd t1 (ji35))).f1) then (some false) else (if ((rd_T75 l0 (rd t1 x7_1)).f1) = ((rd_T75 l0 (rd t1 (ji35))).f1) then (some false) else (if ((rd_T75 l0 (rd t1 x7_1)).f1) = 9 then (if x6_1 = 0 then (some false) else (spec_validChain.l0 k1 l0 t1 x6_1 (wrap64 (x7_1 + 1)))) else (spec_validChain.l0 k1 l0 t1 x6_1 (wrap64 (x7_1 + 1)))))) else (none)) else (none)) else (none)) else (none)) = some r:=by first | (rw [hji35] at H;exact H) | (simp only [hji35] at H ⊢;exact H)
         have hji35w : (IntKind.i64.wrap (x7_1 - 1)) = ji35:=(i64_w _).trans hji35;by_cases c36 : 0 ≤ (ji35)
         ·rw [if_pos c36] at H
          have c36b0 : decide (0 ≤ (ji35)) = true:=decide_eq_true c36;clear c36;by_cases c37 : (ji35) < (t1.length : Int)
          ·rw [if_pos c37] at H
           have c37b0 : decide ((ji35) < (t1.length : Int)) = true:=decide_eq_true c37;clear c37;by_cases c38 : 0 ≤ (rd t1 (ji35))
           ·rw [if_pos c38] at H
            have c38b0 : decide (0 ≤ (rd t1 (ji35))) = true:=decide_eq_true c38;clear c38;by_cases c39 : (rd t1 (ji35)) < (l0.length : Int)
            ·rw [if_pos c39] at H
             have c39b0 : decide ((rd t1 (ji35)) < (l0.length : Int)) = true:=decide_eq_true c39;clear c39;by_cases c40 : ((rd_T75 l0 (rd t1 x7_1)).f1) < ((rd_T75 l0 (rd t1 (ji35))).f1)
             ·rw [if_pos c40] at H
              have c40b0 : decide (((rd_T75 l0 (rd t1 x7_1)).f1) < ((rd_T75 l0 (rd t1 (ji35))).f1)) = true:=decide_eq_true c40;clear c40;obtain rfl:=Option.some.inj H;obtain ⟨Ao41,co41,eo41⟩:=Kd.R_slice HO_5.out;subst eo41;have p4 : 0 ≤ (x7_1 : Int):=od_;have q4 : x7_1 < (t1.length : Int):=od_;obtain ⟨ad4,e4,hx4_0⟩:=Kd.at_int (Kd.R_reads' HO_5.out).2.2 x7_1 p4 q4;cases e4;replace p4:=eq_true p4;replace q4:=eq_true q4;have p5 : 0 ≤ ((rd t1 x7_1) : Int):=od_;have q5 : (rd t1 x7_1) < (l0.length : Int):=od_;obtain ⟨ad5,e5,hx5_0,hx5_1,hx5_2,hx5_3⟩:=at_T75 HR0.out (rd t1 x7_1) p5 q5;cases e5;replace hx5_0:=cl_ HB.out hx5_0;replace hx5_1:=cl_ HB.out hx5_1;replace hx5_2:=cl_ HB.out hx5_2;replace hx5_3:=cl_ HB.out hx5_3;replace p5:=eq_true p5;replace q5:=eq_true q5;have p10 : 0 ≤ ((ji35) : Int):=od_;have q10 : (ji35) < (t1.length : Int):=od_;obtain ⟨ad10,e10,hx10_0⟩:=Kd.at_int (Kd.R_reads' HO_5.out).2.2 (ji35) p10 q10;obtain rfl : ad4 = ad10:=(by injection e10);replace p10:=eq_true p10;replace q10:=eq_true q10;have p11 : 0 ≤ ((rd t1 (ji35)) : Int):=od_;have q11 : (rd t1 (ji35)) < (l0.length : Int):=od_;obtain ⟨ad11,e11,hx11_0,hx11_1,hx11_2,hx11_3⟩:=at_T75 HR0.out (rd t1 (ji35)) p11 q11;obtain rfl : ad5 = ad11:=(by injection e11);replace hx11_0:=cl_ HB.out hx11_0;replace hx11_1:=cl_ HB.out hx11_1;replace hx11_2:=cl_ HB.out hx11_2;replace hx11_3:=cl_ HB.out hx11_3;replace p11:=eq_true p11;replace q11:=eq_true q11;go_wp2;go_ret;exact ⟨by first | rfl | (simp [errW_none,errW_some] <;> rfl) | (simp only [← hji35];first | rfl | (simp [errW_none,errW_some] <;> rfl)) | (simp [*,errW_none,errW_some] <;> rfl),hbw_⟩
             ·rw [if_neg c40] at H
              have c40b0 : decide (((rd_T75 l0 (rd t1 x7_1)).f1) < ((rd_T75 l0 (rd t1 (ji35))).f1)) = false:=decide_eq_false c40;clear c40;by_cases c42 : ((rd_T75 l0 (rd t1 x7_1)).f1) = ((rd_T75 l0 (rd t1 (ji35))).f1)
              ·rw [if_pos c42] at H
               have c42b0 : (((rd_T75 l0 (rd t1 x7_1)).f1) == ((rd_T75 l0 (rd t1 (ji35))).f1)) = true:=beq_iff_eq.mpr c42;have c42b1 : (((rd_T75 l0 (rd t1 x7_1)).f1) != ((rd_T75 l0 (rd t1 (ji35))).f1)) = false:=bne_eq_false_iff_eq.mpr c42;clear c42;obtain rfl:=Option.some.inj H;obtain ⟨Ao43,co43,eo43⟩:=Kd.R_slice HO_5.out;subst eo43;have p4 : 0 ≤ (x7_1 : Int):=od_;have q4 : x7_1 < (t1.length : Int):=od_;obtain ⟨ad4,e4,hx4_0⟩:=Kd.at_int (Kd.R_reads' HO_5.out).2.2 x7_1 p4 q4;cases e4;replace p4:=eq_true p4;replace q4:=eq_true q4;have p5 : 0 ≤ ((rd t1 x7_1) : Int):=od_;have q5 : (rd t1 x7_1) < (l0.length : Int):=od_;obtain ⟨ad5,e5,hx5_0,hx5_1,hx5_2,hx5_3⟩:=at_T75 HR0.out (rd t1 x7_1) p5 q5;cases e5;replace hx5_0:=cl_ HB.out hx5_0;replace hx5_1:=cl_ HB.out hx5_1;replace hx5_2:=cl_ HB.out hx5_2;replace hx5_3:=cl_ HB.out hx5_3;replace p5:=eq_true p5;replace q5:=eq_true q5;have p10 : 0 ≤ ((ji35) : Int):=od_;have q10 : (ji35) < (t1.length : Int):=od_;obtain ⟨ad10,e10,hx10_0⟩:=Kd.at_int (Kd.R_reads' HO_5.out).2.2 (ji35) p10 q10;obtain rfl : ad4 = ad10:=(by injection e10);replace p10:=eq_true p10;replace q10:=eq_true q10;have p11 : 0 ≤ ((rd t1 (ji35)) : Int):=od_;have q11 : (rd t1 (ji35)) < (l0.length : Int):=od_;obtain ⟨ad11,e11,hx11_0,hx11_1,hx11_2,hx11_3⟩:=at_T75 HR0.out (rd t1 (ji35)) p11 q11;obtain rfl : ad5 = ad11:=(by injection e11);replace hx11_0:=cl_ HB.out hx11_0;replace hx11_1:=cl_ HB.out hx11_1;replace hx11_2:=cl_ HB.out hx11_2;replace hx11_3:=cl_ HB.out hx11_3;replace p11:=eq_true p11;replace q11:=eq_true q11;have p12 : 0 ≤ ((ji35) : Int):=od_;have q12 : (ji35) < (t1.length : Int):=od_;obtain ⟨ad12,e12,hx12_0⟩:=Kd.at_int (Kd.R_reads' HO_5.out).2.2 (ji35) p12 q12;obtain rfl : ad4 = ad12:=(by injection e12);replace p12:=eq_true p12;replace q12:=eq_true q12;have p13 : 0 ≤ ((rd t1 (ji35)) : Int):=od_;have q13 : (rd t1 (ji35)) < (l0.length : Int):=od_;obtain ⟨ad13,e13,hx13_0,hx13_1,hx13_2,hx13_3⟩:=at_T75 HR0.out (rd t1 (ji35)) p13 q13;obtain rfl : ad5 = ad13:=(by injection e13);replace hx13_0:=cl_ HB.out hx13_0;replace hx13_1:=cl_ HB.out hx13_1;replace hx13_2:=cl_ HB.out hx13_2;replace hx13_3:=cl_ HB.out hx13_3;replace p13:=eq_true p13;replace q13:=eq_true q13;go_wp2;go_ret;exact ⟨by first | rfl | (simp [errW_none,errW_some] <;> rfl) | (simp only [← hji35];first | rfl | (simp [errW_none,errW_some] <;> rfl)) | (simp [*,errW_none,errW_some] <;> rfl),hbw_⟩
              ·rw [if_neg c42] at H
               have c42b0 : (((rd_T75 l0 (rd t1 x7_1)).f1) == ((rd_T75 l0 (rd t1 (ji35))).f1)) = false:=beq_eq_false_iff_ne.mpr c42;have c42b1 : (((rd_T75 l0 (rd t1 x7_1)).f1) != ((rd_T75 l0 (rd t1 (ji35))).f1)) = true:=bne_iff_ne.mpr c42;by_cases c44 : ((rd_T75 l0 (rd t1 x7_1)).f1) = 9
               ·rw [if_pos c44] at H
                have c44b0 : (((rd_T75 l0 (rd t1 x7_1)).f1) == 9) = true:=beq_iff_eq.mpr c44;have c44b1 : (((rd_T75 l0 (rd t1 x7_1)).f1) != 9) = false:=bne_eq_false_iff_eq.mpr c44;clear c44;by_cases c45 : x6_1 = 0
                ·rw [if_pos c45] at H
                 have c45b0 : (x6_1 == 0) = true:=beq_iff_eq.mpr c45;have c45b1 : (x6_1 != 0) = false:=bne_eq_false_iff_eq.mpr c45;clear c45;obtain rfl:=Option.some.inj H;obtain ⟨Ao46,co46,eo46⟩:=Kd.R_slice HO_5.out;subst eo46;have p4 : 0 ≤ (x7_1 : Int):=od_;have q4 : x7_1 < (t1.length : Int):=od_;obtain ⟨ad4,e4,hx4_0⟩:=Kd.at_int (Kd.R_reads' HO_5.out).2.2 x7_1 p4 q4;cases e4;replace p4:=eq_true p4;replace q4:=eq_true q4;have p5 : 0 ≤ ((rd t1 x7_1) : Int):=od_;have q5 : (rd t1 x7_1) < (l0.length : Int):=od_;obtain ⟨ad5,e5,hx5_0,hx5_1,hx5_2,hx5_3⟩:=at_T75 HR0.out (rd t1 x7_1) p5 q5;cases e5;replace hx5_0:=cl_ HB.out hx5_0;replace hx5_1:=cl_ HB.out hx5_1;replace hx5_2:=cl_ HB.out hx5_2;replace hx5_3:=cl_ HB.out hx5_3;replace p5:=eq_true p5;replace q5:=eq_true q5;have p10 : 0 ≤ ((ji35) : Int):=od_;have q10 : (ji35) < (t1.length : Int):=od_;obtain ⟨ad10,e10,hx10_0⟩:=Kd.at_int (Kd.R_reads' HO_5.out).2.2 (ji35) p10 q10;obtain rfl : ad4 = ad10:=(by injection e10);replace p10:=eq_true p10;replace q10:=eq_true q10;have p11 : 0 ≤ ((rd t1 (ji35)) : Int):=od_;have q11 : (rd t1 (ji35)) < (l0.length : Int):=od_;obtain ⟨ad11,e11,hx11_0,hx11_1,hx11_2,hx11_3⟩:=at_T75 HR0.out (rd t1 (ji35)) p11 q11;obtain rfl : ad5 = ad11:=(by injection e11);replace hx11_0:=cl_ HB.out hx11_0;replace hx11_1:=cl_ HB.out hx11_1;replace hx11_2:=cl_ HB.out hx11_2;replace hx11_3:=cl_ HB.out hx11_3;replace p11:=eq_true p11;replace q11:=eq_true q11;have p12 : 0 ≤ ((ji35) : Int):=od_;have q12 : (ji35) < (t1.length : Int):=od_;obtain ⟨ad12,e12,hx12_0⟩:=Kd.at_int (Kd.R_reads' HO_5.out).2.2 (ji35) p12 q12;obtain rfl : ad4 = ad12:=(by injection e12);replace p12:=eq_true p12;replace q12:=eq_true q12;have p13 : 0 ≤ ((rd t1 (ji35)) : Int):=od_;have q13 : (rd t1 (ji35)) < (l0.length : Int):=od_;obtain ⟨ad13,e13,hx13_0,hx13_1,hx13_2,hx13_3⟩:=at_T75 HR0.out (rd t1 (ji35)) p13 q13;obtain rfl : ad5 = ad13:=(by injection e13);replace hx13_0:=cl_ HB.out hx13_0;replace hx13_1:=cl_ HB.out hx13_1;replace hx13_2:=cl_ HB.out hx13_2;replace hx13_3:=cl_ HB.out hx13_3;replace p13:=eq_true p13;replace q13:=eq_true q13;go_wp2;go_ret;exact ⟨by first | rfl | (simp [errW_none,errW_some] <;> rfl) | (simp only [← hji35];first | rfl | (simp [errW_none,errW_some] <;> rfl)) | (simp [*,errW_none,errW_some] <;> rfl),hbw_⟩
                ·rw [if_neg c45] at H
                 have c45b0 : (x6_1 == 0) = false:=beq_eq_false_iff_ne.mpr c45;have c45b1 : (x6_1 != 0) = true:=bne_iff_ne.mpr c45;have H':=a0_ H;clear H;obtain ⟨Ao47,co47,eo47⟩:=Kd.R_slice HO_5.out;subst eo47;have p4 : 0 ≤ (x7_1 : Int):=od_;have q4 : x7_1 < (t1.length : Int):=od_;obtain ⟨ad4,e4,hx4_0⟩:=Kd.at_int (Kd.R_reads' HO_5.out).2.2 x7_1 p4 q4;cases e4;replace p4:=eq_true p4;replace q4:=eq_true q4;have p5 : 0 ≤ ((rd t1 x7_1) : Int):=od_;have q5 : (rd t1 x7_1) < (l0.length : Int):=od_;obtain ⟨ad5,e5,hx5_0,hx5_1,hx5_2,hx5_3⟩:=at_T75 HR0.out (rd t1 x7_1) p5 q5;cases e5;replace hx5_0:=cl_ HB.out hx5_0;replace hx5_1:=cl_ HB.out hx5_1;replace hx5_2:=cl_ HB.out hx5_2;replace hx5_3:=cl_ HB.out hx5_3;replace p5:=eq_true p5;replace q5:=eq_true q5;have p10 : 0 ≤ ((ji35) : Int):=od_;have q10 : (ji35) < (t1.length : Int):=od_;obtain ⟨ad10,e10,hx10_0⟩:=Kd.at_int (Kd.R_reads' HO_5.out).2.2 (ji35) p10 q10;obtain rfl : ad4 = ad10:=(by injection e10);replace p10:=eq_true p10;replace q10:=eq_true q10;have p11 : 0 ≤ ((rd t1 (ji35)) : Int):=od_;have q11 : (rd t1 (ji35)) < (l0.length : Int):=od_;obtain ⟨ad11,e11,hx11_0,hx11_1,hx11_2,hx11_3⟩:=at_T75 HR0.out (rd t1 (ji35)) p11 q11;obtain rfl : ad5 = ad11:=(by injection e11);replace hx11_0:=cl_ HB.out hx11_0;replace hx11_1:=cl_ HB.out hx11_1;replace hx11_2:=cl_ HB.out hx11_2;replace hx11_3:=cl_ HB.out hx11_3;replace p11:=eq_true p11;replace q11:=eq_true q11;have p12 : 0 ≤ ((ji35) : Int):=od_;have q12 : (ji35) < (t1.length : Int):=od_;obtain ⟨ad12,e12,hx12_0⟩:=Kd.at_int (Kd.R_reads' HO_5.out).2.2 (ji35) p12 q12;obtain rfl : ad4 = ad12:=(by injection e12);replace p12:=eq_true p12;replace q12:=eq_true q12;have p13 : 0 ≤ ((rd t1 (ji35)) : Int):=od_;have q13 : (rd t1 (ji35)) < (l0.length : Int):=od_;obtain ⟨ad13,e13,hx13_0,hx13_1,hx13_2,hx13_3⟩:=at_T75 HR0.out (rd t1 (ji35)) p13 q13;obtain rfl : ad5 = ad13:=(by injection e13);replace hx13_0:=cl_ HB.out hx13_0;replace hx13_1:=cl_ HB.out hx13_1;replace hx13_2:=cl_ HB.out hx13_2;replace hx13_3:=cl_ HB.out hx13_3;replace p13:=eq_true p13;replace q13:=eq_true q13;go_wp2;go_roundg k1
                 case measure=>have:=HK1.out;omega
                 case rel=>exact ⟨(x6_1),(wrap64 (x7_1 + 1)),(by first | rfl | (simp;done) | (simp [*];done)),(by first | rfl | (simp;done) | (simp [*];done)),H',⟨by have:=HK1.out;omega⟩,⟨by (with_reducible repeat (first | apply Kd.R_alloc | apply Kd.R_drewN | apply Kd.R_drew));exact HO_5.out⟩,⟨hbw_⟩⟩
               ·rw [if_neg c44] at H
                have c44b0 : (((rd_T75 l0 (rd t1 x7_1)).f1) == 9) = false:=beq_eq_false_iff_ne.mpr c44;have c44b1 : (((rd_T75 l0 (rd t1 x7_1)).f1) != 9) = true:=bne_iff_ne.mpr c44;have H':=a0_ H;clear H;obtain ⟨Ao48,co48,eo48⟩:=Kd.R_slice HO_5.out;subst eo48;have p4 : 0 ≤ (x7_1 : Int):=od_;have q4 : x7_1 < (t1.length : Int):=od_;obtain ⟨ad4,e4,hx4_0⟩:=Kd.at_int (Kd.R_reads' HO_5.out).2.2 x7_1 p4 q4;cases e4;replace p4:=eq_true p4;replace q4:=eq_true q4;have p5 : 0 ≤ ((rd t1 x7_1) : Int):=od_;have q5 : (rd t1 x7_1) < (l0.length : Int):=od_;obtain ⟨ad5,e5,hx5_0,hx5_1,hx5_2,hx5_3⟩:=at_T75 HR0.out (rd t1 x7_1) p5 q5;cases e5;replace hx5_0:=cl_ HB.out hx5_0;replace hx5_1:=cl_ HB.out hx5_1;replace hx5_2:=cl_ HB.out hx5_2;replace hx5_3:=cl_ HB.out hx5_3;replace p5:=eq_true p5;replace q5:=eq_true q5;have p10 : 0 ≤ ((ji35) : Int):=od_;have q10 : (ji35) < (t1.length : Int):=od_;obtain ⟨ad10,e10,hx10_0⟩:=Kd.at_int (Kd.R_reads' HO_5.out).2.2 (ji35) p10 q10;obtain rfl : ad4 = ad10:=(by injection e10);replace p10:=eq_true p10;replace q10:=eq_true q10;have p11 : 0 ≤ ((rd t1 (ji35)) : Int):=od_;have q11 : (rd t1 (ji35)) < (l0.length : Int):=od_;obtain ⟨ad11,e11,hx11_0,hx11_1,hx11_2,hx11_3⟩:=at_T75 HR0.out (rd t1 (ji35)) p11 q11;obtain rfl : ad5 = ad11:=(by injection e11);replace hx11_0:=cl_ HB.out hx11_0;replace hx11_1:=cl_ HB.out hx11_1;replace hx11_2:=cl_ HB.out hx11_2;replace hx11_3:=cl_ HB.out hx11_3;replace p11:=eq_true p11;replace q11:=eq_true q11;have p12 : 0 ≤ ((ji35) : Int):=od_;have q12 : (ji35) < (t1.length : Int):=od_;obtain ⟨ad12,e12,hx12_0⟩:=Kd.at_int (Kd.R_reads' HO_5.out).2.2 (ji35) p12 q12;obtain rfl : ad4 = ad12:=(by injection e12);replace p12:=eq_true p12;replace q12:=eq_true q12;have p13 : 0 ≤ ((rd t1 (ji35)) : Int):=od_;have q13 : (rd t1 (ji35)) < (l0.length : Int):=od_;obtain ⟨ad13,e13,hx13_0,hx13_1,hx13_2,hx13_3⟩:=at_T75 HR0.out (rd t1 (ji35)) p13 q13;obtain rfl : ad5 = ad13:=(by injection e13);replace hx13_0:=cl_ HB.out hx13_0;replace hx13_1:=cl_ HB.out hx13_1;replace hx13_2:=cl_ HB.out hx13_2;replace hx13_3:=cl_ HB.out hx13_3;replace p13:=eq_true p13;replace q13:=eq_true q13;go_wp2;go_roundg k1
                case measure=>have:=HK1.out;omega
                case rel=>exact ⟨(x6_1),(wrap64 (x7_1 + 1)),(by first | rfl | (simp;done) | (simp [*];done)),(by first | rfl | (simp;done) | (simp [*];done)),H',⟨by have:=HK1.out;omega⟩,⟨by (with_reducible repeat (first | apply Kd.R_alloc | apply Kd.R_drewN | apply Kd.R_drew));exact HO_5.out⟩,⟨hbw_⟩⟩
            ·rw [if_neg c39] at H
             exact absurd H (by simp)
           ·rw [if_neg c38] at H
            exact absurd H (by simp)
          ·rw [if_neg c37] at H
           exact absurd H (by simp)
         ·rw [if_neg c36] at H
          exact absurd H (by simp)
        ·rw [if_neg c34] at H
         have c34b0 : decide (1 < x7_1) = false:=decide_eq_false c34;clear c34;by_cases c49 : ((rd_T75 l0 (rd t1 x7_1)).f1) = 9
         ·rw [if_pos c49] at H
          have c49b0 : (((rd_T75 l0 (rd t1 x7_1)).f1) == 9) = true:=beq_iff_eq.mpr c49;have c49b1 : (((rd_T75 l0 (rd t1 x7_1)).f1) != 9) = false:=bne_eq_false_iff_eq.mpr c49;clear c49;by_cases c50 : x6_1 = 0
          ·rw [if_pos c50] at H
           have c50b0 : (x6_1 == 0) = true:=beq_iff_eq.mpr c50;have c50b1 : (x6_1 != 0) = false:=bne_eq_false_iff_eq.mpr c50;clear c50;obtain rfl:=Option.some.inj H;obtain ⟨Ao51,co51,eo51⟩:=Kd.R_slice HO_5.out;subst eo51;have p4 : 0 ≤ (x7_1 : Int):=od_;have q4 : x7_1 < (t1.length : Int):=od_;obtain ⟨ad4,e4,hx4_0⟩:=Kd.at_int (Kd.R_reads' HO_5.out).2.2 x7_1 p4 q4;cases e4;replace p4:=eq_true p4;replace q4:=eq_true q4;have p5 : 0 ≤ ((rd t1 x7_1) : Int):=od_;have q5 : (rd t1 x7_1) < (l0.length : Int):=od_;obtain ⟨ad5,e5,hx5_0,hx5_1,hx5_2,hx5_3⟩:=at_T75 HR0.out (rd t1 x7_1) p5 q5;cases e5;replace hx5_0:=cl_ HB.out hx5_0;replace hx5_1:=cl_ HB.out hx5_1;replace hx5_2:=cl_ HB.out hx5_2;replace hx5_3:=cl_ HB.out hx5_3;replace p5:=eq_true p5;replace q5:=eq_true q5;go_wp2;go_ret;exact ⟨by first | rfl | (simp [errW_none,errW_some] <;> rfl) | (simp [*,errW_none,errW_some] <;> rfl),hbw_⟩
          ·rw [if_neg c50] at H
           have c50b0 : (x6_1 == 0) = false:=beq_eq_false_iff_ne.mpr c50;have c50b1 : (x6_1 != 0) = true:=bne_iff_ne.mpr c50;have H':=a0_ H;clear H;obtain ⟨Ao52,co52,eo52⟩:=Kd.R_slice HO_5.out;subst eo52;have p4 : 0 ≤ (x7_1 : Int):=od_;have q4 : x7_1 < (t1.length : Int):=od_;obtain ⟨ad4,e4,hx4_0⟩:=Kd.at_int (Kd.R_reads' HO_5.out).2.2 x7_1 p4 q4;cases e4;replace p4:=eq_true p4;replace q4:=eq_true q4;have p5 : 0 ≤ ((rd t1 x7_1) : Int):=od_;have q5 : (rd t1 x7_1) < (l0.length : Int):=od_;obtain ⟨ad5,e5,hx5_0,hx5_1,hx5_2,hx5_3⟩:=at_T75 HR0.out (rd t1 x7_1) p5 q5;cases e5;replace hx5_0:=cl_ HB.out hx5_0;replace hx5_1:=cl_ HB.out hx5_1;replace hx5_2:=cl_ HB.out hx5_2;replace hx5_3:=cl_ HB.out hx5_3;replace p5:=eq_true p5;replace q5:=eq_true q5;go_wp2;go_roundg k1
           case measure=>have:=HK1.out;omega
           case rel=>exact ⟨(x6_1),(wrap64 (x7_1 + 1)),(by first | rfl | (simp;done) | (simp [*];done)),(by first | rfl | (simp;done) | (simp [*];done)),H',⟨by have:=HK1.out;omega⟩,⟨by (with_reducible repeat (first | apply Kd.R_alloc | apply Kd.R_drewN | apply Kd.R_drew));exact HO_5.out⟩,⟨hbw_⟩⟩
         ·rw [if_neg c49] at H
          have c49b0 : (((rd_T75 l0 (rd t1 x7_1)).f1) == 9) = false:=beq_eq_false_iff_ne.mpr c49;have c49b1 : (((rd_T75 l0 (rd t1 x7_1)).f1) != 9) = true:=bne_iff_ne.mpr c49;have H':=a0_ H;clear H;obtain ⟨Ao53,co53,eo53⟩:=Kd.R_slice HO_5.out;subst eo53;have p4 : 0 ≤ (x7_1 : Int):=od_;have q4 : x7_1 < (t1.length : Int):=od_;obtain ⟨ad4,e4,hx4_0⟩:=Kd.at_int (Kd.R_reads' HO_5.out).2.2 x7_1 p4 q4;cases e4;replace p4:=eq_true p4;replace q4:=eq_true q4;have p5 : 0 ≤ ((rd t1 x7_1) : Int):=od_;have q5 : (rd t1 x7_1) < (l0.length : Int):=od_;obtain ⟨ad5,e5,hx5_0,hx5_1,hx5_2,hx5_3⟩:=at_T75 HR0.out (rd t1 x7_1) p5 q5;cases e5;replace hx5_0:=cl_ HB.out hx5_0;replace hx5_1:=cl_ HB.out hx5_1;replace hx5_2:=cl_ HB.out hx5_2;replace hx5_3:=cl_ HB.out hx5_3;replace p5:=eq_true p5;replace q5:=eq_true q5;go_wp2;go_roundg k1
          case measure=>have:=HK1.out;omega
          case rel=>exact ⟨(x6_1),(wrap64 (x7_1 + 1)),(by first | rfl | (simp;done) | (simp [*];done)),(by first | rfl | (simp;done) | (simp [*];done)),H',⟨by have:=HK1.out;omega⟩,⟨by (with_reducible repeat (first | apply Kd.R_alloc | apply Kd.R_drewN | apply Kd.R_drew));exact HO_5.out⟩,⟨hbw_⟩⟩
      ·rw [if_neg c8] at H
       exact absurd H (by simp)
     ·rw [if_neg c7] at H
      exact absurd H (by simp)
    ·rw [if_neg c6] at H
     exact absurd H (by simp)
   ·rw [if_neg c5] at H
    have c5b0 : decide (x7_1 < (t1.length : Int)) = false:=decide_eq_false c5;clear c5;by_cases c54 : (t1.length : Int) > 1
    ·rw [if_pos c54] at H
     have c54b0 : decide (1 < (t1.length : Int)) = true:=decide_eq_true c54;have c54b1 : decide (1 < t1.length) = true:=decide_eq_true (by omega);clear c54;obtain rfl:=Option.some.inj H;obtain ⟨Ao55,co55,eo55⟩:=Kd.R_slice HO_5.out;subst eo55;go_wp2;go_ret;exact ⟨by first | rfl | (simp [errW_none,errW_some] <;> rfl) | (simp [*,errW_none,errW_some] <;> rfl),hbw_⟩
    ·rw [if_neg c54] at H
     have c54b0 : decide (1 < (t1.length : Int)) = false:=decide_eq_false c54;have c54b1 : decide (1 < t1.length) = false:=decide_eq_false (by omega);clear c54;obtain rfl:=Option.some.inj H;obtain ⟨Ao56,co56,eo56⟩:=Kd.R_slice HO_5.out;subst eo56;go_wp2;go_ret;exact ⟨by first | rfl | (simp [errW_none,errW_some] <;> rfl) | (simp [*,errW_none,errW_some] <;> rfl),hbw_⟩
theorem spec_validChain_ev (l : List S75) (i : Nat) (hi : i < l.length) (hl : l.length ≤ 1099511627776) : Ev (fun k=>spec_validChain.f k l (i : Int)) (chOk l i):=by
 unfold spec_validChain.f chOk
 refine Ev.bind (spec_chainOf_ev l i hi hl) ?_
 have hR:=chR_mem l l.length i
 have hRl:=chR_len l l.length i
 generalize chR l l.length i = R at hR hRl
 have key : ∀ (R2 : List Nat) (m : Nat) (ex last : Int),R2 = R.drop m → m ≤ R.length → 0 ≤ ex → ex ≤ m → (m = 0 → last = 7 ∧ ex = 0) → (0 < m → last = lk l (R.getD (m - 1) 0) ∧ 8 ≤ last ∧ last ≤ 10) → (last = 8 → 1 ≤ ex) → Ev (fun k=>spec_validChain.l0 k l (nI (i :: R)) ex (((m + 1 : Nat) : Int))) (decide (1 ≤ R.length) && okR l R2 ex last):=by
  intro R2
  induction R2 with
  | nil =>
   intro m ex last hm hm2 h0 h1 _ _ _
   have : R.length ≤ m:=List.drop_eq_nil_iff.1 hm.symm
   refine Ev.succ ?_
   simp only [spec_validChain.l0]
   refine Ev.neg (by rw [nI_len,List.length_cons];omega) ?_
   rw [nI_len,List.length_cons]
   by_cases h1R : 1 ≤ R.length
   ·exact Ev.pos (by omega) (Ev.const (by simp [okR,h1R]))
   ·exact Ev.neg (by omega) (Ev.const (by simp [h1R]))
  | cons c R2 ih =>
   intro m ex last hm hm2 h0 h1 hz hp h8e
   obtain ⟨hlt,hc,hd⟩:=drop_cons_ hm
   obtain ⟨hcl,hk1,hk2⟩:=hR c (List.mem_of_mem_drop (i:=m) (by rw [← hm];exact List.mem_cons_self))
   have hw : wrap64 (((m + 1 : Nat) : Int) + 1) = ((m + 1 + 1 : Nat) : Int):=by rw [wrap_succ (i:=((m + 1 : Nat) : Int)) (n:=(R.length : Int) + 2) (by omega) (by omega) (by omega)];rfl
   have hw1 : wrap64 (((m + 1 : Nat) : Int) - 1) = (m : Int):=by rw [wrap_in (by omega) (by omega)];omega
   have hw2 : wrap64 (ex + 1) = ex + 1:=wrap_in (by omega) (by omega)
   have hcc : (i :: R).getD (m + 1) 0 = c:=by rw [List.getD_cons_succ];exact hc
   have ih1:=fun e (h : e = ex ∨ e = ex + 1) (h2 : lk l c = 8 → 1 ≤ e)=>ih (m + 1) e (lk l c) hd (by omega) (by omega) (by omega) (fun h=>by omega) (fun _=>⟨by rw [Nat.add_sub_cancel,hc],hk1,hk2⟩) h2
   refine Ev.succ ?_
   simp only [spec_validChain.l0,rd_nI,hcc,rd_lkS,hw1,hw2,hw]
   refine Ev.pos (by rw [nI_len,List.length_cons];omega) (Ev.pos (by omega) (Ev.pos (by omega) (Ev.pos (by omega) ?_)))
   rw [okR]
   by_cases hm0 : m = 0
   ·obtain ⟨rfl,rfl⟩:=hz hm0
    by_cases h8 : lk l c = 8
    ·rw [if_pos ⟨h8,by omega⟩]
     exact Ev.pos h8 (Ev.neg (by omega) (Ev.neg (by omega) (ih1 _ (.inr rfl) (fun _=>by omega))))
    ·rw [if_neg (fun h=>h8 h.1)]
     refine Ev.neg h8 (Ev.neg (by omega) ?_)
     by_cases h9 : lk l c = 9
     ·rw [if_neg (by omega),Bool.and_false]
      exact Ev.pos h9 (Ev.pos rfl (Ev.const rfl))
     ·rw [if_pos (by omega)]
      exact Ev.neg h9 (ih1 _ (.inl rfl) (fun h=>absurd h h8))
   ·obtain ⟨hl1,hl2,hl3⟩:=hp (by omega)
    have hpp : (i :: R).getD m 0 = R.getD (m - 1) 0:=by
     obtain ⟨m',rfl⟩ : ∃ m',m = m' + 1:=⟨m - 1,by omega⟩
     rw [List.getD_cons_succ,Nat.add_sub_cancel]
    have hpl : R.getD (m - 1) 0 < l.length:=by
     have hlt2 : m - 1 < R.length:=by omega
     have : R.getD (m - 1) 0 ∈ R:=by simp [List.getD,hlt2]
     exact (hR _ this).1
    simp only [hpp,← hl1]
    have hlen : (m : Int) < ((nI (i :: R)).length : Int):=by rw [nI_len,List.length_cons];omega
    by_cases h8 : lk l c = 8
    ·refine Ev.pos h8 (Ev.pos (by omega) (Ev.pos (by omega) (Ev.pos hlen (Ev.pos (by omega) (Ev.pos (by omega) ?_)))))
     by_cases hla : last ≤ 8
     ·rw [if_pos ⟨h8,hla⟩]
      exact Ev.neg (by omega) (Ev.pos (by omega) (Ev.neg (by omega) (ih1 _ (.inr rfl) (fun _=>by omega))))
     ·rw [if_neg (fun h=>hla h.2),if_neg (by omega),Bool.and_false]
      exact Ev.pos (by omega) (Ev.const rfl)
    ·rw [if_neg (fun h=>h8 h.1)]
     refine Ev.neg h8 (Ev.pos (by omega) (Ev.pos (by omega) (Ev.pos hlen (Ev.pos (by omega) (Ev.pos (by omega) ?_)))))
     by_cases hq : (lk l c = 9 ∧ last = 8) ∨ (lk l c = 10 ∧ last < 10)
     ·rw [if_pos hq]
      refine Ev.neg (by omega) (Ev.neg (by omega) ?_)
      by_cases h9 : lk l c = 9
      ·exact Ev.pos h9 (Ev.neg (by have:=h8e (by omega);omega) (ih1 _ (.inl rfl) (fun h=>absurd h h8)))
      ·exact Ev.neg h9 (ih1 _ (.inl rfl) (fun h=>absurd h h8))
     ·rw [if_neg hq,Bool.and_false]
      by_cases hlt' : lk l c < last
      ·exact Ev.pos hlt' (Ev.const rfl)
      ·exact Ev.neg hlt' (Ev.pos (by omega) (Ev.const rfl))
 exact key R 0 0 7 rfl (by omega) (by omega) (by omega) (fun _=>⟨rfl,rfl⟩) (fun h=>by omega) (fun h=>by omega)
end Go.Proofs.Ytacgehaipacehaa.P
namespace Go.Proofs.Ytacgehaipacehaa.P
open Go.RowKit Go.Proofs.YtacgehaipacehaaW.PrintWords Go.Proofs.YtacgehaipacehaaW.PrintLast Go.Proofs.YtacgehaipacehaaW.PrintMore
attribute [local go_sem] max2_int min2_int max_two min_two max_three min_three max_four min_four
set_option linter.unusedVariables false
set_option linter.unusedSimpArgs false
def spec_inLoop.l0 : Nat → List (S75) → Int → Int → Option (Bool)
 | 0,_,_,_=>none
 | k + 1,x0,x5,x6=>if x6 ≥ 0 then (if 0 ≤ x6 then (if x6 < (x0.length : Int) then (if ((rd_T75 x0 x6).f0) < x5 then (if ((rd_T75 x0 x6).f1) = 12 then (some true) else (spec_inLoop.l0 k x0 ((rd_T75 x0 x6).f0) (wrap64 (x6 - 1)))) else (spec_inLoop.l0 k x0 x5 (wrap64 (x6 - 1)))) else (none)) else (none)) else (some false)
def spec_inLoop.f (k : Nat) (l0 : List (S75)) (a1 : Int) : Option (Bool):=if 0 ≤ a1 then (if a1 < (l0.length : Int) then (spec_inLoop.l0 k l0 ((rd_T75 l0 a1).f0) (wrap64 (a1 - 1))) else (none)) else (none)
theorem spec_inLoop.mono_l : ∀ k,(∀ y0 y1 y2,LeO (spec_inLoop.l0 k y0 y1 y2) (spec_inLoop.l0 (k + 1) y0 y1 y2))
 | 0=>fun _ _ _ r h=>by simp [spec_inLoop.l0] at h
 | k + 1=>by
  have ih0:=spec_inLoop.mono_l k
  ·intro y0 y1 y2
   unfold spec_inLoop.l0
   repeat' first
   | (with_reducible exact ih0 _ _ _)
   | (with_reducible exact LeO.refl _)
   | (with_reducible exact LeO.none _)
   | (with_reducible refine LeO.ite ?_ ?_)
   | (with_reducible refine LeO.bind ?_ (fun _=>?_))
theorem spec_inLoop.mono : ∀ a0 a1 k,LeO (spec_inLoop.f k a0 a1) (spec_inLoop.f (k + 1) a0 a1):=by
 intro a0 a1 k
 have ih0:=spec_inLoop.mono_l k
 unfold spec_inLoop.f
 repeat' first
   | (with_reducible exact ih0 _ _ _)
   | (with_reducible exact LeO.refl _)
   | (with_reducible exact LeO.none _)
   | (with_reducible refine LeO.ite ?_ ?_)
   | (with_reducible refine LeO.bind ?_ (fun _=>?_))
set_option maxHeartbeats 8000000 in
set_option maxRecDepth 100000 in
theorem spec_inLoop.calls (k : Nat) (A0 : Option Addr) (c0 : Nat) (l0 : List (S75)) (a1 : Int) (r : Bool) (w : World) (hr0 : Kd.C k75 w A0 l0.length l0) (hc0 : l0.length ≤ c0) (h : spec_inLoop.f k l0 a1 = some r) :
  Calls Try.prog 160 #[.slice A0 l0.length c0,.int .i64 a1] w fun e w'=>e = .returned (.bool r) ∧ Drawn0 w w':=by
 have HR0:=a0_ hr0;have HC0:=a0_ hc0;clear hr0 hc0;have H : (if 0 ≤ a1 then (if a1 < (l0.length : Int) then (spec_inLoop.l0 k l0 ((rd_T75 l0 a1).f0) (wrap64 (a1 - 1))) else (none)) else (none)) = some r:=h;clear h;by_cases c3 : 0 ≤ a1
 ·rw [if_pos c3] at H
  have c3b0 : decide (0 ≤ a1) = true:=decide_eq_true c3;clear c3;by_cases c4 : a1 < (l0.length : Int)
  ·rw [if_pos c4] at H
   have c4b0 : decide (a1 < (l0.length : Int)) = true:=decide_eq_true c4;clear c4;have H':=a0_ H;clear H;have p1 : 0 ≤ (a1 : Int):=od_;have q1 : a1 < (l0.length : Int):=od_;obtain ⟨ad1,e1,hx1_0,hx1_1,hx1_2,hx1_3⟩:=at_T75 HR0.out a1 p1 q1;cases e1;replace p1:=eq_true p1;replace q1:=eq_true q1;go_enter Try.func160,Try.ntmps160;go_wp2;go_loopg [5,6] k (fun kq v5 v6 w'=>∃ (x5_1 : Int) (x6_1 : Int),v5 = .int .i64 x5_1 ∧ v6 = .int .i64 x6_1 ∧ Aside0 (spec_inLoop.l0 kq l0 x5_1 x6_1 = some r) ∧ Aside0 (kq ≤ k) ∧ Drawn0 w w')
   case atStart=>exact ⟨((rd_T75 l0 a1).f0),(wrap64 (a1 - 1)),(by first | rfl | (simp;done) | (simp [*];done)),(by first | rfl | (simp;done) | (simp [*];done)),H',⟨Nat.le_refl _⟩,by repeat (first | exact Drawn0.refl _ | apply Drawn0.step)⟩
   case round =>
    clear H';(try clear c1);(try clear p1);(try clear q1);(try clear hx1);(try clear p2);(try clear c3);(try clear c3b0);(try clear c4);(try clear c4b0);(try clear hx1_0);(try clear hx1_1);(try clear hx1_2);(try clear hx1_3);(try clear p1);(try clear q1);obtain ⟨x5_1,x6_1,rfl,rfl,HA,HK1,⟨m1,rfl⟩⟩:=hrel
    cases gk with
    | zero=>exact absurd HA.out (by simp [spec_inLoop.l0])
    | succ k1 =>
     have H:=HA.out;clear HA;simp only [spec_inLoop.l0] at H;by_cases c5 : x6_1 ≥ 0
     ·rw [if_pos c5] at H
      have c5b0 : decide (0 ≤ x6_1) = true:=decide_eq_true c5;clear c5;by_cases c6 : 0 ≤ x6_1
      ·rw [if_pos c6] at H
       have c6b0 : decide (0 ≤ x6_1) = true:=decide_eq_true c6;clear c6;by_cases c7 : x6_1 < (l0.length : Int)
       ·rw [if_pos c7] at H
        have c7b0 : decide (x6_1 < (l0.length : Int)) = true:=decide_eq_true c7;clear c7;by_cases c8 : ((rd_T75 l0 x6_1).f0) < x5_1
        ·rw [if_pos c8] at H
         have c8b0 : decide (((rd_T75 l0 x6_1).f0) < x5_1) = true:=decide_eq_true c8;clear c8;by_cases c9 : ((rd_T75 l0 x6_1).f1) = 12
         ·rw [if_pos c9] at H
          have c9b0 : (((rd_T75 l0 x6_1).f1) == 12) = true:=beq_iff_eq.mpr c9;have c9b1 : (((rd_T75 l0 x6_1).f1) != 12) = false:=bne_eq_false_iff_eq.mpr c9;clear c9;obtain rfl:=Option.some.inj H;have p2 : 0 ≤ (x6_1 : Int):=od_;have q2 : x6_1 < (l0.length : Int):=od_;obtain ⟨ad2,e2,hx2_0,hx2_1,hx2_2,hx2_3⟩:=at_T75 HR0.out x6_1 p2 q2;obtain rfl : ad1 = ad2:=(by injection e2);replace p2:=eq_true p2;replace q2:=eq_true q2;have p3 : 0 ≤ (x6_1 : Int):=od_;have q3 : x6_1 < (l0.length : Int):=od_;obtain ⟨ad3,e3,hx3_0,hx3_1,hx3_2,hx3_3⟩:=at_T75 HR0.out x6_1 p3 q3;obtain rfl : ad1 = ad3:=(by injection e3);replace p3:=eq_true p3;replace q3:=eq_true q3;have p4 : 0 ≤ (x6_1 : Int):=od_;have q4 : x6_1 < (l0.length : Int):=od_;obtain ⟨ad4,e4,hx4_0,hx4_1,hx4_2,hx4_3⟩:=at_T75 HR0.out x6_1 p4 q4;obtain rfl : ad1 = ad4:=(by injection e4);replace p4:=eq_true p4;replace q4:=eq_true q4;go_wp2;go_ret;exact ⟨by first | rfl | (simp;done) | (simp [*];done),by repeat (first | exact Drawn0.refl _ | apply Drawn0.step)⟩
         ·rw [if_neg c9] at H
          have c9b0 : (((rd_T75 l0 x6_1).f1) == 12) = false:=beq_eq_false_iff_ne.mpr c9;have c9b1 : (((rd_T75 l0 x6_1).f1) != 12) = true:=bne_iff_ne.mpr c9;have H':=a0_ H;clear H;have p2 : 0 ≤ (x6_1 : Int):=od_;have q2 : x6_1 < (l0.length : Int):=od_;obtain ⟨ad2,e2,hx2_0,hx2_1,hx2_2,hx2_3⟩:=at_T75 HR0.out x6_1 p2 q2;obtain rfl : ad1 = ad2:=(by injection e2);replace p2:=eq_true p2;replace q2:=eq_true q2;have p3 : 0 ≤ (x6_1 : Int):=od_;have q3 : x6_1 < (l0.length : Int):=od_;obtain ⟨ad3,e3,hx3_0,hx3_1,hx3_2,hx3_3⟩:=at_T75 HR0.out x6_1 p3 q3;obtain rfl : ad1 = ad3:=(by injection e3);replace p3:=eq_true p3;replace q3:=eq_true q3;have p4 : 0 ≤ (x6_1 : Int):=od_;have q4 : x6_1 < (l0.length : Int):=od_;obtain ⟨ad4,e4,hx4_0,hx4_1,hx4_2,hx4_3⟩:=at_T75 HR0.out x6_1 p4 q4;obtain rfl : ad1 = ad4:=(by injection e4);replace p4:=eq_true p4;replace q4:=eq_true q4;go_wp2;go_roundg k1
          case measure=>have:=HK1.out;omega
          case rel=>exact ⟨((rd_T75 l0 x6_1).f0),(wrap64 (x6_1 - 1)),(by first | rfl | (simp;done) | (simp [*];done)),(by first | rfl | (simp;done) | (simp [*];done)),H',⟨by have:=HK1.out;omega⟩,by repeat (first | exact Drawn0.refl _ | apply Drawn0.step)⟩
        ·rw [if_neg c8] at H
         have c8b0 : decide (((rd_T75 l0 x6_1).f0) < x5_1) = false:=decide_eq_false c8;clear c8;have H':=a0_ H;clear H;have p2 : 0 ≤ (x6_1 : Int):=od_;have q2 : x6_1 < (l0.length : Int):=od_;obtain ⟨ad2,e2,hx2_0,hx2_1,hx2_2,hx2_3⟩:=at_T75 HR0.out x6_1 p2 q2;obtain rfl : ad1 = ad2:=(by injection e2);replace p2:=eq_true p2;replace q2:=eq_true q2;go_wp2;go_roundg k1
         case measure=>have:=HK1.out;omega
         case rel=>exact ⟨(x5_1),(wrap64 (x6_1 - 1)),(by first | rfl | (simp;done) | (simp [*];done)),(by first | rfl | (simp;done) | (simp [*];done)),H',⟨by have:=HK1.out;omega⟩,by repeat (first | exact Drawn0.refl _ | apply Drawn0.step)⟩
       ·rw [if_neg c7] at H
        exact absurd H (by simp)
      ·rw [if_neg c6] at H
       exact absurd H (by simp)
     ·rw [if_neg c5] at H
      have c5b0 : decide (0 ≤ x6_1) = false:=decide_eq_false c5;clear c5;obtain rfl:=Option.some.inj H;go_wp2;go_ret;exact ⟨by first | rfl | (simp;done) | (simp [*];done),by repeat (first | exact Drawn0.refl _ | apply Drawn0.step)⟩
  ·rw [if_neg c4] at H
   exact absurd H (by simp)
 ·rw [if_neg c3] at H
  exact absurd H (by simp)
theorem spec_inLoop_ev (l : List S75) (i : Nat) (hi : i < l.length) (hl : l.length ≤ 1099511627776) : Ev (fun k=>spec_inLoop.f k l (i : Int)) (inL l i (ld l i)):=by
 have key : ∀ (n : Nat) (d : Int),n ≤ l.length → Ev (fun k=>spec_inLoop.l0 k l d ((n : Int) - 1)) (inL l n d):=by
  intro n
  induction n with
  | zero =>
   intro d _
   refine Ev.succ ?_
   simp only [spec_inLoop.l0]
   exact Ev.neg (by omega) (Ev.const rfl)
  | succ n ih =>
   intro d hn
   have e : (((n + 1 : Nat) : Int) - 1) = (n : Int):=by omega
   have hw : wrap64 ((n : Int) - 1) = (n : Int) - 1:=wrap_in (by omega) (by omega)
   rw [e,inL]
   refine Ev.succ ?_
   simp only [spec_inLoop.l0,rd_ldS,rd_lkS,hw]
   refine Ev.pos (by omega) (Ev.pos (by omega) (Ev.pos (by omega) ?_))
   by_cases h : ld l n < d
   ·rw [if_pos h]
    refine Ev.pos h ?_
    by_cases h2 : lk l n = 12
    ·rw [if_pos h2];exact Ev.pos h2 (Ev.const rfl)
    ·rw [if_neg h2];exact Ev.neg h2 (ih _ (by omega))
   ·rw [if_neg h]
    exact Ev.neg h (ih _ (by omega))
 unfold spec_inLoop.f
 have hw : wrap64 ((i : Int) - 1) = (i : Int) - 1:=wrap_in (by omega) (by omega)
 rw [hw]
 simp only [rd_ldS]
 exact Ev.pos (by omega) (Ev.pos (by omega) (key i (ld l i) (by omega)))
end Go.Proofs.Ytacgehaipacehaa.P
namespace Go.Proofs.Ytacgehaipacehaa.P
open Go.RowKit Go.Proofs.YtacgehaipacehaaW.PrintWords Go.Proofs.YtacgehaipacehaaW.PrintLast Go.Proofs.YtacgehaipacehaaW.PrintMore
attribute [local go_sem] max2_int min2_int max_two min_two max_three min_three max_four min_four
set_option linter.unusedVariables false
set_option linter.unusedSimpArgs false
def spec_headOf.l0 : Nat → List (S75) → Int → Int → Option (Int)
 | 0,_,_,_=>none
 | k + 1,x0,x1,x5=>if x5 ≥ 0 then (if 0 ≤ x5 then (if x5 < (x0.length : Int) then (if 0 ≤ x1 then (if x1 < (x0.length : Int) then (if ((rd_T75 x0 x5).f0) < ((rd_T75 x0 x1).f0) then (some (-1)) else (if ((rd_T75 x0 x5).f0) = ((rd_T75 x0 x1).f0) then (some x5) else (spec_headOf.l0 k x0 x1 (wrap64 (x5 - 1))))) else (none)) else (none)) else (none)) else (none)) else (some (-1))
def spec_headOf.f (k : Nat) (l0 : List (S75)) (a1 : Int) : Option (Int):=spec_headOf.l0 k l0 a1 (wrap64 (a1 - 1))
theorem spec_headOf.mono_l : ∀ k,(∀ y0 y1 y2,LeO (spec_headOf.l0 k y0 y1 y2) (spec_headOf.l0 (k + 1) y0 y1 y2))
 | 0=>fun _ _ _ r h=>by simp [spec_headOf.l0] at h
 | k + 1=>by
  have ih0:=spec_headOf.mono_l k
  ·intro y0 y1 y2
   unfold spec_headOf.l0
   repeat' first
   | (with_reducible exact ih0 _ _ _)
   | (with_reducible exact LeO.refl _)
   | (with_reducible exact LeO.none _)
   | (with_reducible refine LeO.ite ?_ ?_)
   | (with_reducible refine LeO.bind ?_ (fun _=>?_))
theorem spec_headOf.mono : ∀ a0 a1 k,LeO (spec_headOf.f k a0 a1) (spec_headOf.f (k + 1) a0 a1):=by
 intro a0 a1 k
 have ih0:=spec_headOf.mono_l k
 unfold spec_headOf.f
 repeat' first
   | (with_reducible exact ih0 _ _ _)
   | (with_reducible exact LeO.refl _)
   | (with_reducible exact LeO.none _)
   | (with_reducible refine LeO.ite ?_ ?_)
   | (with_reducible refine LeO.bind ?_ (fun _=>?_))
set_option maxHeartbeats 8000000 in
set_option maxRecDepth 100000 in
theorem spec_headOf.calls (k : Nat) (A0 : Option Addr) (c0 : Nat) (l0 : List (S75)) (a1 : Int) (r : Int) (w : World) (hr0 : Kd.C k75 w A0 l0.length l0) (hc0 : l0.length ≤ c0) (h : spec_headOf.f k l0 a1 = some r) :
  Calls Try.prog 162 #[.slice A0 l0.length c0,.int .i64 a1] w fun e w'=>e = .returned (.int .i64 r) ∧ Drawn0 w w':=by
 have HR0:=a0_ hr0;have HC0:=a0_ hc0;clear hr0 hc0;have H : (spec_headOf.l0 k l0 a1 (wrap64 (a1 - 1))) = some r:=h;clear h;have H':=a0_ H;clear H;go_enter Try.func162,Try.ntmps162;go_wp2
 repeat (go_quiet (fail);try go_wp2)
 go_loopg [5] k (fun kq v5 w'=>∃ (x5_1 : Int),v5 = .int .i64 x5_1 ∧ Aside0 (spec_headOf.l0 kq l0 a1 x5_1 = some r) ∧ Aside0 (kq ≤ k) ∧ Drawn0 w w')
 case atStart=>exact ⟨(wrap64 (a1 - 1)),(by first | rfl | (simp;done) | (simp [*];done)),H',⟨Nat.le_refl _⟩,by repeat (first | exact Drawn0.refl _ | apply Drawn0.step)⟩
 case round =>
  clear H';(try clear c1);(try clear p2);obtain ⟨x5_1,rfl,HA,HK1,⟨m1,rfl⟩⟩:=hrel
  cases gk with
  | zero=>exact absurd HA.out (by simp [spec_headOf.l0])
  | succ k1 =>
   have H:=HA.out;clear HA;simp only [spec_headOf.l0] at H;by_cases c3 : x5_1 ≥ 0
   ·rw [if_pos c3] at H
    have c3b0 : decide (0 ≤ x5_1) = true:=decide_eq_true c3;clear c3;by_cases c4 : 0 ≤ x5_1
    ·rw [if_pos c4] at H
     have c4b0 : decide (0 ≤ x5_1) = true:=decide_eq_true c4;clear c4;by_cases c5 : x5_1 < (l0.length : Int)
     ·rw [if_pos c5] at H
      have c5b0 : decide (x5_1 < (l0.length : Int)) = true:=decide_eq_true c5;clear c5;by_cases c6 : 0 ≤ a1
      ·rw [if_pos c6] at H
       have c6b0 : decide (0 ≤ a1) = true:=decide_eq_true c6;clear c6;by_cases c7 : a1 < (l0.length : Int)
       ·rw [if_pos c7] at H
        have c7b0 : decide (a1 < (l0.length : Int)) = true:=decide_eq_true c7;clear c7;by_cases c8 : ((rd_T75 l0 x5_1).f0) < ((rd_T75 l0 a1).f0)
        ·rw [if_pos c8] at H
         have c8b0 : decide (((rd_T75 l0 x5_1).f0) < ((rd_T75 l0 a1).f0)) = true:=decide_eq_true c8;clear c8;obtain rfl:=Option.some.inj H;have p1 : 0 ≤ (x5_1 : Int):=od_;have q1 : x5_1 < (l0.length : Int):=od_;obtain ⟨ad1,e1,hx1_0,hx1_1,hx1_2,hx1_3⟩:=at_T75 HR0.out x5_1 p1 q1;cases e1;replace p1:=eq_true p1;replace q1:=eq_true q1;have p2 : 0 ≤ (a1 : Int):=od_;have q2 : a1 < (l0.length : Int):=od_;obtain ⟨ad2,e2,hx2_0,hx2_1,hx2_2,hx2_3⟩:=at_T75 HR0.out a1 p2 q2;obtain rfl : ad1 = ad2:=(by injection e2);replace p2:=eq_true p2;replace q2:=eq_true q2;go_wp2
         repeat (go_quiet (fail);try go_wp2)
         go_ret;exact ⟨by first | rfl | (simp;done) | (simp [*];done),by repeat (first | exact Drawn0.refl _ | apply Drawn0.step)⟩
        ·rw [if_neg c8] at H
         have c8b0 : decide (((rd_T75 l0 x5_1).f0) < ((rd_T75 l0 a1).f0)) = false:=decide_eq_false c8;clear c8;by_cases c9 : ((rd_T75 l0 x5_1).f0) = ((rd_T75 l0 a1).f0)
         ·rw [if_pos c9] at H
          have c9b0 : (((rd_T75 l0 x5_1).f0) == ((rd_T75 l0 a1).f0)) = true:=beq_iff_eq.mpr c9;have c9b1 : (((rd_T75 l0 x5_1).f0) != ((rd_T75 l0 a1).f0)) = false:=bne_eq_false_iff_eq.mpr c9;clear c9;obtain rfl:=Option.some.inj H;have p1 : 0 ≤ (x5_1 : Int):=od_;have q1 : x5_1 < (l0.length : Int):=od_;obtain ⟨ad1,e1,hx1_0,hx1_1,hx1_2,hx1_3⟩:=at_T75 HR0.out x5_1 p1 q1;cases e1;replace p1:=eq_true p1;replace q1:=eq_true q1;have p2 : 0 ≤ (a1 : Int):=od_;have q2 : a1 < (l0.length : Int):=od_;obtain ⟨ad2,e2,hx2_0,hx2_1,hx2_2,hx2_3⟩:=at_T75 HR0.out a1 p2 q2;obtain rfl : ad1 = ad2:=(by injection e2);replace p2:=eq_true p2;replace q2:=eq_true q2;have p3 : 0 ≤ (x5_1 : Int):=od_;have q3 : x5_1 < (l0.length : Int):=od_;obtain ⟨ad3,e3,hx3_0,hx3_1,hx3_2,hx3_3⟩:=at_T75 HR0.out x5_1 p3 q3;obtain rfl : ad1 = ad3:=(by injection e3);replace p3:=eq_true p3;replace q3:=eq_true q3;have p4 : 0 ≤ (a1 : Int):=od_;have q4 : a1 < (l0.length : Int):=od_;obtain ⟨ad4,e4,hx4_0,hx4_1,hx4_2,hx4_3⟩:=at_T75 HR0.out a1 p4 q4;obtain rfl : ad1 = ad4:=(by injection e4);replace p4:=eq_true p4;replace q4:=eq_true q4;go_wp2
          repeat (go_quiet (fail);try go_wp2)
          go_ret;exact ⟨by first | rfl | (simp;done) | (simp [*];done),by repeat (first | exact Drawn0.refl _ | apply Drawn0.step)⟩
         ·rw [if_neg c9] at H
          have c9b0 : (((rd_T75 l0 x5_1).f0) == ((rd_T75 l0 a1).f0)) = false:=beq_eq_false_iff_ne.mpr c9;have c9b1 : (((rd_T75 l0 x5_1).f0) != ((rd_T75 l0 a1).f0)) = true:=bne_iff_ne.mpr c9;have H':=a0_ H;clear H;have p1 : 0 ≤ (x5_1 : Int):=od_;have q1 : x5_1 < (l0.length : Int):=od_;obtain ⟨ad1,e1,hx1_0,hx1_1,hx1_2,hx1_3⟩:=at_T75 HR0.out x5_1 p1 q1;cases e1;replace p1:=eq_true p1;replace q1:=eq_true q1;have p2 : 0 ≤ (a1 : Int):=od_;have q2 : a1 < (l0.length : Int):=od_;obtain ⟨ad2,e2,hx2_0,hx2_1,hx2_2,hx2_3⟩:=at_T75 HR0.out a1 p2 q2;obtain rfl : ad1 = ad2:=(by injection e2);replace p2:=eq_true p2;replace q2:=eq_true q2;have p3 : 0 ≤ (x5_1 : Int):=od_;have q3 : x5_1 < (l0.length : Int):=od_;obtain ⟨ad3,e3,hx3_0,hx3_1,hx3_2,hx3_3⟩:=at_T75 HR0.out x5_1 p3 q3;obtain rfl : ad1 = ad3:=(by injection e3);replace p3:=eq_true p3;replace q3:=eq_true q3;have p4 : 0 ≤ (a1 : Int):=od_;have q4 : a1 < (l0.length : Int):=od_;obtain ⟨ad4,e4,hx4_0,hx4_1,hx4_2,hx4_3⟩:=at_T75 HR0.out a1 p4 q4;obtain rfl : ad1 = ad4:=(by injection e4);replace p4:=eq_true p4;replace q4:=eq_true q4;go_wp2
          repeat (go_quiet (fail);try go_wp2)
          go_roundg k1
          case measure=>have:=HK1.out;omega
          case rel=>exact ⟨(wrap64 (x5_1 - 1)),(by first | rfl | (simp;done) | (simp [*];done)),H',⟨by have:=HK1.out;omega⟩,by repeat (first | exact Drawn0.refl _ | apply Drawn0.step)⟩
       ·rw [if_neg c7] at H
        exact absurd H (by simp)
      ·rw [if_neg c6] at H
       exact absurd H (by simp)
     ·rw [if_neg c5] at H
      exact absurd H (by simp)
    ·rw [if_neg c4] at H
     exact absurd H (by simp)
   ·rw [if_neg c3] at H
    have c3b0 : decide (0 ≤ x5_1) = false:=decide_eq_false c3;clear c3;obtain rfl:=Option.some.inj H;go_wp2
    repeat (go_quiet (fail);try go_wp2)
    go_ret;exact ⟨by first | rfl | (simp;done) | (simp [*];done),by repeat (first | exact Drawn0.refl _ | apply Drawn0.step)⟩
theorem spec_headOf_ev (l : List S75) (i : Nat) (hi : i < l.length) (hl : l.length ≤ 1099511627776) : Ev (fun k=>spec_headOf.f k l (i : Int)) (hdL l i (ld l i)):=by
 have key : ∀ (n : Nat),n ≤ l.length → Ev (fun k=>spec_headOf.l0 k l (i : Int) ((n : Int) - 1)) (hdL l n (ld l i)):=by
  intro n
  induction n with
  | zero =>
   intro _
   refine Ev.succ ?_
   simp only [spec_headOf.l0]
   exact Ev.neg (by omega) (Ev.const rfl)
  | succ n ih =>
   intro hn
   have e : (((n + 1 : Nat) : Int) - 1) = (n : Int):=by omega
   have hw : wrap64 ((n : Int) - 1) = (n : Int) - 1:=wrap_in (by omega) (by omega)
   rw [e,hdL]
   refine Ev.succ ?_
   simp only [spec_headOf.l0,rd_ldS,hw]
   refine Ev.pos (by omega) (Ev.pos (by omega) (Ev.pos (by omega) (Ev.pos (by omega) (Ev.pos (by omega) ?_))))
   by_cases h : ld l n < ld l i
   ·rw [if_pos h];exact Ev.pos h (Ev.const rfl)
   ·rw [if_neg h]
    refine Ev.neg h ?_
    by_cases h2 : ld l n = ld l i
    ·rw [if_pos h2];exact Ev.pos h2 (Ev.const rfl)
    ·rw [if_neg h2];exact Ev.neg h2 (ih (by omega))
 unfold spec_headOf.f
 have hw : wrap64 ((i : Int) - 1) = (i : Int) - 1:=wrap_in (by omega) (by omega)
 rw [hw]
 exact key i (by omega)
end Go.Proofs.Ytacgehaipacehaa.P
