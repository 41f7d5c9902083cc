/- Texts under the proof of FnShownChain: helper words, the functions' contracts and the plain laws. No condition. -/
import Derived.Test.YtmiholmfbjalfaaProg
import Derived.Below
import Derived.Deep.Draws
import Derived.Deep.AppendLies
import Derived.Maps.AppendAt
import Derived.OwnWalk
import Derived.Laws.BytesArg
import Derived.Laws.MakeOwn
import Derived.Laws.OwnMore
import Derived.Deep.OwnRows
import Derived.Tactics
import Derived.Lib.ConvBytes
import Derived.Laws.Slices
import Derived.WalkKit
import Derived.KernelRfl
import Derived.RowKit3
import Derived.Deep.LoopGhost
import Derived.Deep.QuietTactic
import Derived.BigQuiet
import Derived.WideLaws
import Derived.Deep.DeepCutAuto
import Derived.Deep.CutBlock
import Derived.Deep.RegionHeld3
import Derived.Laws.Rows
import Derived.Lib.AppendStr
import Derived.ArgAppend
import Derived.Laws.IdiomCopy
import Derived.OrdersHeld
import Derived.Laws.BitsLemmas
import Derived.RowKit
import Derived.Shelf.Abstract
import Derived.Test.YtmiholmfbjalfaaQFnShownChainwWords
import Derived.Test.YtmiholmfbjalfaaQFnShownChainwLast
import Derived.Test.YtmiholmfbjalfaaQFnShownChainwTab
import Derived.Test.YtmiholmfbjalfaaQFnShownChainwFour
import Derived.Test.YtmiholmfbjalfaaQFnShownChainwQPut
import Derived.Test.YtmiholmfbjalfaaQFnShownChainwApart
import Derived.Test.YtmiholmfbjalfaaQFnShownChainwArr
import Derived.Test.YtmiholmfbjalfaaQFnShownChainwZeros
import Derived.Test.YtmiholmfbjalfaaQFnShownChainwFoot
import Derived.Test.YtmiholmfbjalfaaQFnShownChainwKept
import Derived.Test.YtmiholmfbjalfaaQFnShownChainwShare
import Derived.Test.YtmiholmfbjalfaaQFnShownChainwN
import Derived.Test.YtmiholmfbjalfaaQFnShownChainwFootNe
import Derived.Test.YtmiholmfbjalfaaQFnShownChainwAt
import Derived.Test.YtmiholmfbjalfaaQFnShownChainwEqStruct
import Derived.Test.YtmiholmfbjalfaaQFnShownChainwRepsOne
import Derived.Test.YtmiholmfbjalfaaQFnShownChainwInv
import Derived.Test.YtmiholmfbjalfaaQFnShownChainwInvWords
import Derived.Test.YtmiholmfbjalfaaQFnShownChainwGuard
import Derived.Test.YtmiholmfbjalfaaQFnShownChainwNEv
import Derived.Test.YtmiholmfbjalfaaQFnShownChainwMore
import Derived.Test.YtmiholmfbjalfaaQFnShownChainwMine
namespace Go.Proofs.Ytmiholmfbjalfaa.P
open Go.RowKit Go.Proofs.YtmiholmfbjalfaaW.PrintWords Go.Proofs.YtmiholmfbjalfaaW.PrintLast Go.Proofs.YtmiholmfbjalfaaW.PrintMore
theorem s1_ {α : Type} (l : List α) (i : Nat) (a : α) : l.toArray.setIfInBounds i a = (l.set i a).toArray := List.setIfInBounds_toArray l i a
theorem s2_ {α : Type} (a b : α) (l : List α) : (a :: l).set 0 b = b :: l := rfl
theorem s3_ {α : Type} (a b : α) (l : List α) (n : Nat) : (a :: l).set (n + 1) b = a :: l.set n b := rfl
theorem a0_ {P : Prop} (h : P) : Aside0 P := Aside0.mk h
theorem hb_ {n : Nat} {w w' : World} (h : Below n w w' := by repeat (first | (with_reducible first | exact HB.out | apply below_alloc | apply pw_below_drewN | apply below_drew1 | refine below_set ?_ (Aside0.out (by assumption))) | exact HB.out)) : Below n w w' := h
theorem lm_ {P : Prop} (h : P := by (try simp only [List.map_toArray, List.map_cons, List.map_nil]); first | done | rfl | (simp only [List.length_drop, List.length_take]; rfl)) : P := h
theorem rr_ {P Q : Prop} (x : P) (h : P → Q := by intro x_; (with_reducible repeat (first | apply Kd.R_alloc | apply Kd.R_drewN | apply Kd.R_drew)); exact x_) : Q := h x
theorem rm_ {α : Type} {d : Kd α} {e : Nat} {w w' : World} {base : Nat} {ok ok' : Nat → Prop} {v : Value} {xs : List α} (x : d.R e w base ok v xs) (f : ∀ k, ok k → ok' k) (h : d.R e w base ok' v xs → d.R e w' base ok' v xs := by intro x_; (with_reducible repeat (first | apply Kd.R_alloc | apply Kd.R_drewN | apply Kd.R_drew)); exact x_) : d.R e w' base ok' v xs := h (Kd.R_mono x f)
theorem bb_ {P Q : Prop} (x : P) (h : P → Q := by intro x_; (with_reducible repeat (first | refine blk_drewN ?_ _ | refine blk_drew ?_ | refine blk_alloc ?_ _)); exact x_) : Q := h x
theorem cc_ {P Q : Prop} (x : P) (h : P → Q := by intro x_; repeat (first | exact x_ | (with_reducible refine Kd.C_alloc ?_ _) | (with_reducible refine Kd.C_drewN ?_ _) | (with_reducible refine Kd.C_drew ?_))) : Q := h x
theorem kb_ {w0 w w1 : World} {g : Nat} {o : Obj} (x : Aside0 (w0.heap[g]? = some o)) (hb : Below w.heap.size w w1) (h : w0.heap[g]? = some o → w.heap[g]? = some o := by intro x_; (with_reducible repeat (first | refine blk_drewN ?_ _ | refine blk_drew ?_ | refine blk_alloc ?_ _)); exact x_) : Aside0 (w1.heap[g]? = some o) := ⟨blk_below (h x.1) hb⟩
theorem kf_ {w0 w w1 : World} {g b : Nat} {t : TypeId} {cs : Array Value} (x : Aside0 (w0.heap[g]? = some (.cells cs t (0, 0)))) (ne : Aside0 (g ≠ b)) (hb : Below w.heap.size w w1) (h : w0.heap[g]? = some (.cells cs t (0, 0)) → g ≠ b → w.heap[g]? = some (.cells cs t (0, 0)) := by intro x_ n_; (with_reducible repeat (first | refine blk_drewN ?_ _ | refine blk_drew ?_ | refine blk_alloc ?_ _)); refine blk_far ?_ n_ _; (with_reducible repeat (first | refine blk_drewN ?_ _ | refine blk_drew ?_ | refine blk_alloc ?_ _)); exact x_) : Aside0 (w1.heap[g]? = some (.cells cs t (0, 0))) := ⟨blk_below (h x.1 ne.1) hb⟩
theorem rb_ {α : Type} {d : Kd α} {e : Nat} {w0 w w1 : World} {base : Nat} {ok : Nat → Prop} {v : Value} {xs : List α} (x : Aside0 (d.R e w0 base ok v xs)) (hb : Below w.heap.size w w1) (h : d.R e w0 base ok v xs → d.R e w base ok v xs := by intro x_; (with_reducible repeat (first | apply Kd.R_alloc | apply Kd.R_drewN | apply Kd.R_drew)); exact x_) : Aside0 (d.R e w1 base ok v xs) := ⟨Kd.R_below (h x.1) hb⟩
theorem hk_ {w W : World} {g : Nat} {row : Option Nat} (h : KeepBut w W g row := by repeat (first | (with_reducible first | exact HK.out | apply KeepBut.set_ | apply keep_drewN | apply keep_drew | apply keep_alloc | refine keep_far ?_ (Aside0.out (by assumption)) _) | exact HK.out)) : KeepBut w W g row := h
theorem bff_ {P Q : Prop} (x : P) (h : P → Q := by intro x_; repeat (first | (with_reducible first | exact x_ | refine blk_drewN ?_ _ | refine blk_drew ?_ | refine blk_alloc ?_ _ | refine blk_far ?_ (Aside0.out (by assumption)) _) | exact x_)) : Q := h x
theorem kk_ {w0 w w1 : World} {g g' : Nat} {row : Option Nat} {o : Obj} (hk : KeepBut w w1 g row) (x : Aside0 (w0.heap[g']? = some o)) (ne : Aside0 (g' ≠ g)) (hr : some g' ≠ row := by simp) (h : w0.heap[g']? = some o → w.heap[g']? = some o := by intro x_; repeat (first | (with_reducible first | exact x_ | refine blk_drewN ?_ _ | refine blk_drew ?_ | refine blk_alloc ?_ _ | refine blk_far ?_ (Aside0.out (by assumption)) _) | exact x_)) : Aside0 (w1.heap[g']? = some o) := ⟨KeepBut.blk hk (h x.1) ne.1 hr⟩
end Go.Proofs.Ytmiholmfbjalfaa.P
namespace Go.Proofs.Ytmiholmfbjalfaa.P
open Go.RowKit Go.Proofs.YtmiholmfbjalfaaW.PrintWords Go.Proofs.YtmiholmfbjalfaaW.PrintLast Go.Proofs.YtmiholmfbjalfaaW.PrintMore
attribute [local go_sem] max2_int min2_int max_two min_two max_three min_three max_four min_four
set_option linter.unusedVariables false
set_option linter.unusedSimpArgs false
def errW : Option Int → Value
 | none=>.nilIface
 | some c=>.iface 0 (.int .i64 c)
theorem errW_none : errW none = .nilIface:=rfl
theorem errW_some (c : Int) : errW (some c) = .iface 0 (.int .i64 c):=rfl
theorem info3 : (Try.prog.info? 3).map (fun i=>(i.zero,i.size,i.bytes)) = some (some (.int .i64 0),1,8):=by kernel_rfl
theorem info5 : (Try.prog.info? 5).map (fun i=>(i.zero,i.size,i.bytes)) = some (some (.int .u8 0),1,1):=by kernel_rfl
theorem info9 : (Try.prog.info? 9).map (fun i=>(i.zero,i.size,i.bytes)) = some (some (.string ⟨#[]⟩),1,16):=by kernel_rfl
theorem info43 : (Try.prog.info? 43).map (fun i=>(i.zero,i.size,i.bytes)) = some (some (.agg #[(.int .i64 0),(.int .i64 0),(.int .i64 0),(.int .i64 0),(.bool false)]),5,40):=by kernel_rfl
theorem info87 : (Try.prog.info? 87).map (fun i=>(i.zero,i.size,i.bytes)) = some (some (.agg #[(.string ⟨#[]⟩),(.int .i64 0)]),2,24):=by kernel_rfl
structure S87 where
 f0 : ByteArray
 f1 : Int
def z87 : S87:=⟨(⟨#[]⟩ : ByteArray),(0 : Int)⟩
def k87 : Kd S87:=Kd.iso (Kd.pair Kd.string (Kd.int .i64)) (fun x : S87=>(x.f0,x.f1))
theorem k87_open {w : World} {x : S87} {cs : List Value} (h : k87.K w x cs) : cs = [.string x.f0,.int .i64 x.f1]:=by
 obtain ⟨_,_,rfl,rfl,rfl⟩:=h
 exact rfl
theorem k87_openM {w : World} {base : Nat} {ok : Nat → Prop} {x : S87} {cs : List Value} (h : k87.M w base ok x cs) : cs = [.string x.f0,.int .i64 x.f1]:=by
 obtain ⟨_,_,rfl,rfl,rfl⟩:=h
 exact rfl
theorem k87_mk (w : World) (x : S87)  : k87.K w x [.string x.f0,.int .i64 x.f1]:=⟨[.string x.f0],[.int .i64 x.f1],rfl,rfl,rfl⟩
theorem k87_mkM (w : World) (base : Nat) (ok : Nat → Prop) (x : S87)  : k87.M w base ok x [.string x.f0,.int .i64 x.f1]:=⟨[.string x.f0],[.int .i64 x.f1],rfl,rfl,rfl⟩
def rd_T87 (xs : List S87) (i : Int) : S87:=xs.getD i.toNat z87
theorem at_T87 {w : World} {A : Option Addr} {n : Nat} {xs : List S87} (h : Kd.C k87 w A n xs) (i : Int) (h0 : 0 ≤ i) (h1 : i < n) : ∃ ad ,A = some ad ∧ w.cell? (ad.add (i.toNat * 2)) = some (.string (rd_T87 xs i).f0) ∧ w.cell? ⟨(ad.add (i.toNat * 2)).block,(ad.add (i.toNat * 2)).off + 1,none⟩ = some (.int .i64 (rd_T87 xs i).f1):=by
 obtain ⟨ad,c,e,_,hK,hc0⟩:=Kd.C_get h z87 i h0 h1
 have hc : ∀ j u,c[j]? = some u → w.cell? (ad.add (i.toNat * 2 + j)) = some u:=hc0
 obtain rfl:=k87_open hK
 exact ⟨ad,e,hc 0 _ rfl,by rw [← add_field _ _ 1 (by omega)];exact hc 1 _ rfl⟩
structure S43 where
 f0 : Int
 f1 : Int
 f2 : Int
 f3 : Int
 f4 : Bool
def z43 : S43:=⟨(0 : Int),(0 : Int),(0 : Int),(0 : Int),false⟩
def k43 : Kd S43:=Kd.iso (Kd.pair (Kd.int .i64) (Kd.pair (Kd.int .i64) (Kd.pair (Kd.int .i64) (Kd.pair (Kd.int .i64) Kd.bool)))) (fun x : S43=>(x.f0,x.f1,x.f2,x.f3,x.f4))
theorem k43_open {w : World} {x : S43} {cs : List Value} (h : k43.K w x cs) : cs = [.int .i64 x.f0,.int .i64 x.f1,.int .i64 x.f2,.int .i64 x.f3,.bool x.f4]:=by
 obtain ⟨_,_,rfl,rfl,⟨_,_,rfl,rfl,⟨_,_,rfl,rfl,⟨_,_,rfl,rfl,rfl⟩⟩⟩⟩:=h
 exact rfl
theorem k43_openM {w : World} {base : Nat} {ok : Nat → Prop} {x : S43} {cs : List Value} (h : k43.M w base ok x cs) : cs = [.int .i64 x.f0,.int .i64 x.f1,.int .i64 x.f2,.int .i64 x.f3,.bool x.f4]:=by
 obtain ⟨_,_,rfl,rfl,⟨_,_,rfl,rfl,⟨_,_,rfl,rfl,⟨_,_,rfl,rfl,rfl⟩⟩⟩⟩:=h
 exact rfl
theorem k43_mk (w : World) (x : S43)  : k43.K w x [.int .i64 x.f0,.int .i64 x.f1,.int .i64 x.f2,.int .i64 x.f3,.bool x.f4]:=⟨[.int .i64 x.f0],[.int .i64 x.f1,.int .i64 x.f2,.int .i64 x.f3,.bool x.f4],rfl,rfl,⟨[.int .i64 x.f1],[.int .i64 x.f2,.int .i64 x.f3,.bool x.f4],rfl,rfl,⟨[.int .i64 x.f2],[.int .i64 x.f3,.bool x.f4],rfl,rfl,⟨[.int .i64 x.f3],[.bool x.f4],rfl,rfl,rfl⟩⟩⟩⟩
theorem k43_mkM (w : World) (base : Nat) (ok : Nat → Prop) (x : S43)  : k43.M w base ok x [.int .i64 x.f0,.int .i64 x.f1,.int .i64 x.f2,.int .i64 x.f3,.bool x.f4]:=⟨[.int .i64 x.f0],[.int .i64 x.f1,.int .i64 x.f2,.int .i64 x.f3,.bool x.f4],rfl,rfl,⟨[.int .i64 x.f1],[.int .i64 x.f2,.int .i64 x.f3,.bool x.f4],rfl,rfl,⟨[.int .i64 x.f2],[.int .i64 x.f3,.bool x.f4],rfl,rfl,⟨[.int .i64 x.f3],[.bool x.f4],rfl,rfl,rfl⟩⟩⟩⟩
def rd_T43 (xs : List S43) (i : Int) : S43:=xs.getD i.toNat z43
theorem at_T43 {w : World} {A : Option Addr} {n : Nat} {xs : List S43} (h : Kd.C k43 w A n xs) (i : Int) (h0 : 0 ≤ i) (h1 : i < n) : ∃ ad ,A = some ad ∧ w.cell? (ad.add (i.toNat * 5)) = some (.int .i64 (rd_T43 xs i).f0) ∧ w.cell? ⟨(ad.add (i.toNat * 5)).block,(ad.add (i.toNat * 5)).off + 1,none⟩ = some (.int .i64 (rd_T43 xs i).f1) ∧ w.cell? ⟨(ad.add (i.toNat * 5)).block,(ad.add (i.toNat * 5)).off + 2,none⟩ = some (.int .i64 (rd_T43 xs i).f2) ∧ w.cell? ⟨(ad.add (i.toNat * 5)).block,(ad.add (i.toNat * 5)).off + 3,none⟩ = some (.int .i64 (rd_T43 xs i).f3) ∧ w.cell? ⟨(ad.add (i.toNat * 5)).block,(ad.add (i.toNat * 5)).off + 4,none⟩ = some (.bool (rd_T43 xs i).f4):=by
 obtain ⟨ad,c,e,_,hK,hc0⟩:=Kd.C_get h z43 i h0 h1
 have hc : ∀ j u,c[j]? = some u → w.cell? (ad.add (i.toNat * 5 + j)) = some u:=hc0
 obtain rfl:=k43_open hK
 exact ⟨ad,e,hc 0 _ rfl,by rw [← add_field _ _ 1 (by omega)];exact hc 1 _ rfl,by rw [← add_field _ _ 2 (by omega)];exact hc 2 _ rfl,by rw [← add_field _ _ 3 (by omega)];exact hc 3 _ rfl,by rw [← add_field _ _ 4 (by omega)];exact hc 4 _ rfl⟩
def rd_L6 (xs : List (List Int)) (i : Int) : (List Int):=xs.getD i.toNat ([] : List Int)
theorem at_L6 {w : World} {A : Option Addr} {n : Nat} {xs : List (List Int)} (h : Kd.C (Kd.slice 3 (Kd.int .i64)) w A n xs) (i : Int) (h0 : 0 ≤ i) (h1 : i < n) : ∃ ad A0 c0,A = some ad ∧ w.cell? (ad.add i.toNat) = some (.slice A0 (rd_L6 xs i).length c0) ∧ (rd_L6 xs i).length ≤ c0 ∧ (Kd.int .i64).C w A0 (rd_L6 xs i).length (rd_L6 xs i):=by
 obtain ⟨ad,c,e,_,hK,hc0⟩:=Kd.C_get h ([] : List Int) i h0 h1
 have hc : ∀ j u,c[j]? = some u → w.cell? (ad.add (i.toNat * 1 + j)) = some u:=hc0
 obtain ⟨A0,c0,rfl,l0,g0⟩:=hK
 exact ⟨ad,A0,c0,e,by have hq:=hc 0 _ rfl;rwa [Nat.mul_one,Nat.add_zero] at hq,l0,g0⟩
def rd_L7 (xs : List (List S43)) (i : Int) : (List S43):=xs.getD i.toNat ([] : List S43)
theorem at_L7 {w : World} {A : Option Addr} {n : Nat} {xs : List (List S43)} (h : Kd.C (Kd.slice 43 k43) w A n xs) (i : Int) (h0 : 0 ≤ i) (h1 : i < n) : ∃ ad A0 c0,A = some ad ∧ w.cell? (ad.add i.toNat) = some (.slice A0 (rd_L7 xs i).length c0) ∧ (rd_L7 xs i).length ≤ c0 ∧ k43.C w A0 (rd_L7 xs i).length (rd_L7 xs i):=by
 obtain ⟨ad,c,e,_,hK,hc0⟩:=Kd.C_get h ([] : List S43) i h0 h1
 have hc : ∀ j u,c[j]? = some u → w.cell? (ad.add (i.toNat * 1 + j)) = some u:=hc0
 obtain ⟨A0,c0,rfl,l0,g0⟩:=hK
 exact ⟨ad,A0,c0,e,by have hq:=hc 0 _ rfl;rwa [Nat.mul_one,Nat.add_zero] at hq,l0,g0⟩
structure S28 where
 f0 : (List S43)
def z28 : S28:=⟨([] : List S43)⟩
def k28 : Kd S28:=Kd.iso (Kd.slice 43 k43) (fun x : S28=>x.f0)
theorem k28_open {w : World} {x : S28} {cs : List Value} (h : k28.K w x cs) : ∃ A0 c0,cs = [.slice A0 x.f0.length c0] ∧ x.f0.length ≤ c0 ∧ k43.C w A0 x.f0.length x.f0:=by
 obtain ⟨A0,c0,rfl,l0,g0⟩:=h
 exact ⟨A0,c0,rfl,l0,g0⟩
theorem k28_openM {w : World} {base : Nat} {ok : Nat → Prop} {x : S28} {cs : List Value} (h : k28.M w base ok x cs) : ∃ v0,cs = [v0] ∧ k43.R 43 w base ok v0 x.f0:=by
 obtain ⟨v0,rfl,g0⟩:=h
 exact ⟨v0,rfl,g0⟩
theorem k28_mk (w : World) (x : S28) {A0 : Option Addr} {c0 : Nat} (l0 : x.f0.length ≤ c0) (g0 : k43.C w A0 x.f0.length x.f0) : k28.K w x [.slice A0 x.f0.length c0]:=⟨A0,c0,rfl,l0,g0⟩
theorem k28_mkM (w : World) (base : Nat) (ok : Nat → Prop) (x : S28) {v0 : Value} (g0 : k43.R 43 w base ok v0 x.f0) : k28.M w base ok x [v0]:=⟨v0,rfl,g0⟩
def rd_T28 (xs : List S28) (i : Int) : S28:=xs.getD i.toNat z28
theorem at_T28 {w : World} {A : Option Addr} {n : Nat} {xs : List S28} (h : Kd.C k28 w A n xs) (i : Int) (h0 : 0 ≤ i) (h1 : i < n) : ∃ ad A0 c0,A = some ad ∧ w.cell? (ad.add i.toNat) = some (.slice A0 (rd_T28 xs i).f0.length c0) ∧ (rd_T28 xs i).f0.length ≤ c0 ∧ k43.C w A0 (rd_T28 xs i).f0.length (rd_T28 xs i).f0:=by
 obtain ⟨ad,c,e,_,hK,hc0⟩:=Kd.C_get h z28 i h0 h1
 have hc : ∀ j u,c[j]? = some u → w.cell? (ad.add (i.toNat * 1 + j)) = some u:=hc0
 obtain ⟨A0,c0,rfl,l0,g0⟩:=k28_open hK
 exact ⟨ad,A0,c0,e,by have hq:=hc 0 _ rfl;rwa [Nat.mul_one,Nat.add_zero] at hq,l0,g0⟩
def rd_L9 (xs : List (List S87)) (i : Int) : (List S87):=xs.getD i.toNat ([] : List S87)
theorem at_L9 {w : World} {A : Option Addr} {n : Nat} {xs : List (List S87)} (h : Kd.C (Kd.slice 87 k87) w A n xs) (i : Int) (h0 : 0 ≤ i) (h1 : i < n) : ∃ ad A0 c0,A = some ad ∧ w.cell? (ad.add i.toNat) = some (.slice A0 (rd_L9 xs i).length c0) ∧ (rd_L9 xs i).length ≤ c0 ∧ k87.C w A0 (rd_L9 xs i).length (rd_L9 xs i):=by
 obtain ⟨ad,c,e,_,hK,hc0⟩:=Kd.C_get h ([] : List S87) i h0 h1
 have hc : ∀ j u,c[j]? = some u → w.cell? (ad.add (i.toNat * 1 + j)) = some u:=hc0
 obtain ⟨A0,c0,rfl,l0,g0⟩:=hK
 exact ⟨ad,A0,c0,e,by have hq:=hc 0 _ rfl;rwa [Nat.mul_one,Nat.add_zero] at hq,l0,g0⟩
structure S25 where
 f0 : (List S87)
def z25 : S25:=⟨([] : List S87)⟩
def k25 : Kd S25:=Kd.iso (Kd.slice 87 k87) (fun x : S25=>x.f0)
theorem k25_open {w : World} {x : S25} {cs : List Value} (h : k25.K w x cs) : ∃ A0 c0,cs = [.slice A0 x.f0.length c0] ∧ x.f0.length ≤ c0 ∧ k87.C w A0 x.f0.length x.f0:=by
 obtain ⟨A0,c0,rfl,l0,g0⟩:=h
 exact ⟨A0,c0,rfl,l0,g0⟩
theorem k25_openM {w : World} {base : Nat} {ok : Nat → Prop} {x : S25} {cs : List Value} (h : k25.M w base ok x cs) : ∃ v0,cs = [v0] ∧ k87.R 87 w base ok v0 x.f0:=by
 obtain ⟨v0,rfl,g0⟩:=h
 exact ⟨v0,rfl,g0⟩
theorem k25_mk (w : World) (x : S25) {A0 : Option Addr} {c0 : Nat} (l0 : x.f0.length ≤ c0) (g0 : k87.C w A0 x.f0.length x.f0) : k25.K w x [.slice A0 x.f0.length c0]:=⟨A0,c0,rfl,l0,g0⟩
theorem k25_mkM (w : World) (base : Nat) (ok : Nat → Prop) (x : S25) {v0 : Value} (g0 : k87.R 87 w base ok v0 x.f0) : k25.M w base ok x [v0]:=⟨v0,rfl,g0⟩
def rd_T25 (xs : List S25) (i : Int) : S25:=xs.getD i.toNat z25
theorem at_T25 {w : World} {A : Option Addr} {n : Nat} {xs : List S25} (h : Kd.C k25 w A n xs) (i : Int) (h0 : 0 ≤ i) (h1 : i < n) : ∃ ad A0 c0,A = some ad ∧ w.cell? (ad.add i.toNat) = some (.slice A0 (rd_T25 xs i).f0.length c0) ∧ (rd_T25 xs i).f0.length ≤ c0 ∧ k87.C w A0 (rd_T25 xs i).f0.length (rd_T25 xs i).f0:=by
 obtain ⟨ad,c,e,_,hK,hc0⟩:=Kd.C_get h z25 i h0 h1
 have hc : ∀ j u,c[j]? = some u → w.cell? (ad.add (i.toNat * 1 + j)) = some u:=hc0
 obtain ⟨A0,c0,rfl,l0,g0⟩:=k25_open hK
 exact ⟨ad,A0,c0,e,by have hq:=hc 0 _ rfl;rwa [Nat.mul_one,Nat.add_zero] at hq,l0,g0⟩
end Go.Proofs.Ytmiholmfbjalfaa.P
section
namespace Go.Proofs.Ytmiholmfbjalfaa.P
open Go.RowKit Go.Proofs.YtmiholmfbjalfaaW.PrintWords Go.Proofs.YtmiholmfbjalfaaW.PrintLast Go.Proofs.YtmiholmfbjalfaaW.PrintMore
attribute [local go_sem] max2_int min2_int max_two min_two max_three min_three max_four min_four
set_option linter.unusedVariables false
set_option linter.unusedSimpArgs false
def Ev {α : Type} (F : Nat → Option α) (x : α) : Prop:=∃ K,∀ k,K ≤ k → F k = some x
namespace Ev
variable {α β : Type}
theorem of_mono {F : Nat → Option α} {x : α} (hm : ∀ k,LeO (F k) (F (k + 1))) {K : Nat} (h : F K = some x) : Ev F x:=⟨K,fun _ hk=>at_rounds hm hk h⟩
theorem const {a : Option α} {x : α} (h : a = some x) : Ev (fun _=>a) x:=⟨0,fun _ _=>h⟩
theorem bind {F : Nat → Option α} {G : Nat → α → Option β} {x : α} {y : β} (h : Ev F x) (h2 : Ev (fun k=>G k x) y) : Ev (fun k=>(F k).bind (G k)) y:=by
 obtain ⟨K,hK⟩:=h
 obtain ⟨K2,hK2⟩:=h2
 refine ⟨max K K2,fun k hk=>?_⟩
 show (F k).bind (G k) = some y
 rw [hK k (Nat.le_trans (Nat.le_max_left _ _) hk)]
 exact hK2 k (Nat.le_trans (Nat.le_max_right _ _) hk)
theorem pos {F G : Nat → Option α} {x : α} {c : Prop} [Decidable c] (hc : c) (h : Ev F x) : Ev (fun k=>if c then F k else G k) x:=by
 obtain ⟨K,hK⟩:=h
 exact ⟨K,fun k hk=>by show (if c then F k else G k) = some x;rw [if_pos hc];exact hK k hk⟩
theorem neg {F G : Nat → Option α} {x : α} {c : Prop} [Decidable c] (hc : ¬ c) (h : Ev G x) : Ev (fun k=>if c then F k else G k) x:=by
 obtain ⟨K,hK⟩:=h
 exact ⟨K,fun k hk=>by show (if c then F k else G k) = some x;rw [if_neg hc];exact hK k hk⟩
theorem succ {F : Nat → Option α} {x : α} (h : Ev (fun k=>F (k + 1)) x) : Ev F x:=by
 obtain ⟨K,hK⟩:=h
 refine ⟨K + 1,fun k hk=>?_⟩
 obtain ⟨j,rfl⟩ : ∃ j,k = j + 1:=⟨k - 1,by omega⟩
 exact hK j (by omega)
theorem out {F : Nat → Option α} {x : α} (h : Ev F x) : ∃ k,F k = some x:=by
 obtain ⟨K,hK⟩:=h
 exact ⟨K,hK K (Nat.le_refl _)⟩
theorem congr {F G : Nat → Option α} {x : α} (h : Ev F x) (e : ∀ k,G k = F k) : Ev G x:=by
 obtain ⟨K,hK⟩:=h
 exact ⟨K,fun k hk=>(e k).trans (hK k hk)⟩
end Ev
theorem st_loop {σ ρ : Type} (L : Nat → σ → Int → Option ρ) (n : Nat) (S : Nat → σ) (v : ρ) (hstep : ∀ k i,i < n → L (k + 1) (S i) (i : Int) = L k (S (i + 1)) ((i + 1 : Nat) : Int)) (hend : ∀ k,L (k + 1) (S n) (n : Int) = some v) : L (n + 1) (S 0) 0 = some v:=by
 have key : ∀ d i k,i + d = n → L (d + 1 + k) (S i) (i : Int) = some v:=by
  intro d
  induction d with
  | zero =>
   intro i k hi
   obtain rfl : i = n:=by omega
   rw [show 0 + 1 + k = k + 1 by omega]
   exact hend k
  | succ d ih =>
   intro i k hi
   rw [show d + 1 + 1 + k = (d + 1 + k) + 1 by omega,hstep _ i (by omega)]
   exact ih (i + 1) k (by omega)
 have:=key n 0 0 (by omega)
 simpa using this
theorem fill_at {α β : Type} (xs : List α) (c : α → β) (z : α) (y : β) (i : Nat) (hi : i < xs.length) : (((xs.take i).map c) ++ List.replicate (xs.length - i) y).set i (c (xs.getD i z)) = ((xs.take (i + 1)).map c) ++ List.replicate (xs.length - (i + 1)) y:=by
 have h1 : xs.take (i + 1) = xs.take i ++ [xs.getD i z]:=by
  rw [List.take_succ_eq_append_getElem hi,List.getD_eq_getElem?_getD,List.getElem?_eq_getElem hi]
  rfl
 rw [h1,List.set_append_right _ _ (by simp;omega)]
 have h2 : i - ((xs.take i).map c).length = 0:=by simp;omega
 rw [h2,show xs.length - i = (xs.length - (i + 1)) + 1 by omega,List.replicate_succ,s2_,List.map_append,List.append_assoc]
 rfl
theorem fill_len {α β : Type} (xs : List α) (c : α → β) (y : β) (i : Nat) (hi : i ≤ xs.length) : (((xs.take i).map c) ++ List.replicate (xs.length - i) y).length = xs.length:=by
 simp
 omega
theorem rd_nat (l : List Int) (i : Nat) (hi : i < l.length) : rd l (i : Int) = l.getD i 0:=by simp [rd]
def marks (a : Int) (n : Nat) : List Int:=(List.range n).map (fun i : Nat=>a + (i : Int))
theorem marks_len (a : Int) (n : Nat) : (marks a n).length = n:=by simp [marks]
end Go.Proofs.Ytmiholmfbjalfaa.P
end
namespace Go.Proofs.Ytmiholmfbjalfaa.P
open Go.RowKit Go.Proofs.YtmiholmfbjalfaaW.PrintWords Go.Proofs.YtmiholmfbjalfaaW.PrintLast Go.Proofs.YtmiholmfbjalfaaW.PrintMore
attribute [local go_sem] max2_int min2_int max_two min_two max_three min_three max_four min_four
set_option linter.unusedVariables false
set_option linter.unusedSimpArgs false
abbrev Cls:=S87
def okName (s : ByteArray) : Bool:=s.data.toList.all (fun c=>decide (97 ≤ c.toNat) && decide (c.toNat ≤ 122)) && (decide (1 ≤ s.size) && decide (s.size ≤ 6))
def named (t : List Cls) (n : ByteArray) : Int:=idxP (fun x : Cls=>x.f0.toList == n.toList) t
def okCls (t : List Cls) (i : Nat) (x : Cls) : Bool:=okName x.f0 && (decide (named t x.f0 = (i : Int)) && (if i = 0 then decide (x.f1 = -1) else decide (0 ≤ x.f1) && decide (x.f1 ≤ (i : Int) - 1)))
def vT (t : List Cls) : Bool:=(List.range t.length).all (fun i=>okCls t i (t.getD i z87)) && (decide (1 ≤ t.length) && decide (t.length ≤ 8))
def smT (t : List Cls) : Bool:=t.all fun x=>decide (x.f0.size < 9223372036854775807)
def hasC (t : List Cls) (a : Int) : Bool:=decide (0 ≤ a) && decide (a < (t.length : Int))
def upF (t : List Cls) : Nat → Int → List Int
 | 0,_=>[]
 | n + 1,a=>if 0 ≤ a then a :: upF t n (rd_T87 t a).f1 else []
def abv (t : List Cls) (a : Int) : List Int:=upF t (a.toNat + 1) a
def isA (t : List Cls) (a b : Int) : Bool:=(abv t a).contains b
theorem vT_len {t : List Cls} (h : vT t = true) : 1 ≤ t.length ∧ t.length ≤ 8:=by
 unfold vT at h
 simp only [Bool.and_eq_true,decide_eq_true_eq] at h
 exact h.2
theorem vT_at {t : List Cls} (h : vT t = true) (i : Nat) (hi : i < t.length) : okCls t i (t.getD i z87) = true:=by
 unfold vT at h
 simp only [Bool.and_eq_true,List.all_eq_true,List.mem_range] at h
 exact h.1 i hi
theorem vT_name {t : List Cls} (h : vT t = true) (i : Nat) (hi : i < t.length) : okName (t.getD i z87).f0 = true ∧ named t (t.getD i z87).f0 = i:=by
 have:=vT_at h i hi
 unfold okCls at this
 simp only [Bool.and_eq_true,decide_eq_true_eq] at this
 exact ⟨this.1,this.2.1⟩
theorem vT_root {t : List Cls} (h : vT t = true) : (t.getD 0 z87).f1 = -1:=by
 have:=vT_at h 0 (by have:=vT_len h;omega)
 unfold okCls at this
 simp only [Bool.and_eq_true,decide_eq_true_eq,if_pos] at this
 exact this.2.2
theorem vT_par {t : List Cls} (h : vT t = true) (i : Nat) (h0 : 0 < i) (hi : i < t.length) : 0 ≤ (t.getD i z87).f1 ∧ (t.getD i z87).f1 ≤ (i : Int) - 1:=by
 have:=vT_at h i hi
 unfold okCls at this
 rw [if_neg (by omega)] at this
 simp only [Bool.and_eq_true,decide_eq_true_eq] at this
 exact this.2.2
theorem vT_par' {t : List Cls} (h : vT t = true) (a : Int) (h0 : 0 ≤ a) (ha : a < (t.length : Int)) : -1 ≤ (rd_T87 t a).f1 ∧ (rd_T87 t a).f1 < a:=by
 unfold rd_T87
 by_cases e : a = 0
 ·subst e
  have:=vT_root h
  simp only [Int.toNat_zero]
  omega
 ·have:=vT_par h a.toNat (by omega) (by omega)
  omega
theorem upF_more {t : List Cls} (h : vT t = true) : ∀ (n m : Nat) (a : Int),a < (t.length : Int) → a < (n : Int) → a < (m : Int) → upF t n a = upF t m a:=by
 intro n
 induction n with
 | zero=>intro m a ha hn hm;cases m with
  | zero=>rfl
  | succ m=>simp only [upF];rw [if_neg (by omega)]
 | succ n ih =>
  intro m a ha hn hm
  cases m with
  | zero=>simp only [upF];rw [if_neg (by omega)]
  | succ m =>
   simp only [upF]
   by_cases h0 : 0 ≤ a
   ·rw [if_pos h0,if_pos h0]
    have:=vT_par' h a h0 ha
    rw [ih m _ (by omega) (by omega) (by omega)]
   ·rw [if_neg h0,if_neg h0]
theorem abv_step {t : List Cls} (h : vT t = true) (a : Int) (h0 : 0 ≤ a) (ha : a < (t.length : Int)) : abv t a = a :: abv t (rd_T87 t a).f1:=by
 have:=vT_par' h a h0 ha
 unfold abv
 rw [upF,if_pos h0,upF_more h a.toNat ((rd_T87 t a).f1.toNat + 1) _ (by omega) (by omega) (by omega)]
theorem abv_neg (t : List Cls) (a : Int) (h0 : a < 0) : abv t a = []:=by
 unfold abv
 rw [upF,if_neg (by omega)]
theorem upF_len (t : List Cls) : ∀ (n : Nat) (a : Int),(upF t n a).length ≤ n:=by
 intro n
 induction n with
 | zero=>intro a;simp [upF]
 | succ n ih =>
  intro a
  simp only [upF]
  split
  ·have:=ih (rd_T87 t a).f1
   simp only [List.length_cons];omega
  ·simp
theorem vT_small {t : List Cls} (h : vT t = true) : smT t = true:=by
 unfold smT
 rw [List.all_eq_true]
 intro x hx
 obtain ⟨i,hi,rfl⟩:=List.getElem_of_mem hx
 have:=(vT_name h i hi).1
 unfold okName at this
 simp only [Bool.and_eq_true,decide_eq_true_eq] at this
 have h2 : (t.getD i z87) = t[i]:=by simp [hi]
 rw [h2] at this
 simp only [decide_eq_true_eq]
 omega
theorem smT_at {t : List Cls} (h : smT t = true) (i : Nat) (hi : i < t.length) : t[i].f0.size ≤ 9223372036854775806:=by
 unfold smT at h
 rw [List.all_eq_true] at h
 have:=h t[i] (List.getElem_mem hi)
 simp only [decide_eq_true_eq] at this
 omega
theorem hasC_iff {t : List Cls} {a : Int} : hasC t a = true ↔ 0 ≤ a ∧ a < (t.length : Int):=by
 unfold hasC;simp
theorem abv_len {t : List Cls} (h : vT t = true) (a : Int) (ha : a < (t.length : Int)) : (abv t a).length ≤ 8:=by
 have h1:=upF_len t (a.toNat + 1) a
 have h2:=vT_len h
 unfold abv
 by_cases h0 : 0 ≤ a
 ·omega
 ·rw [upF,if_neg h0];simp
end Go.Proofs.Ytmiholmfbjalfaa.P
namespace Go.Proofs.Ytmiholmfbjalfaa.P
open Go.RowKit Go.Proofs.YtmiholmfbjalfaaW.PrintWords Go.Proofs.YtmiholmfbjalfaaW.PrintLast Go.Proofs.YtmiholmfbjalfaaW.PrintMore
attribute [local go_sem] max2_int min2_int max_two min_two max_three min_three max_four min_four
set_option linter.unusedVariables false
set_option linter.unusedSimpArgs false
def byL (b : List Int) : Prop:=b.length ≤ 2000 ∧ ∀ x ∈ b,0 ≤ x ∧ x ≤ 255
theorem byL_rd {b : List Int} (h : byL b) (i : Int) : 0 ≤ rd b i ∧ rd b i ≤ 255:=by
 unfold rd
 by_cases hi : i.toNat < b.length
 ·rw [List.getD_eq_getElem?_getD,List.getElem?_eq_getElem hi]
  exact h.2 _ (List.getElem_mem hi)
 ·rw [List.getD_eq_getElem?_getD,List.getElem?_eq_none (by omega)]
  show (0 : Int) ≤ 0 ∧ (0 : Int) ≤ 255
  omega
theorem xor_nonneg (x y : Int) (h0 : 0 ≤ x) (h1 : x < 4611686018427387904) (g0 : 0 ≤ y) (g1 : y < 4611686018427387904) : 0 ≤ Go.bits .xor .i64 x y:=by
 obtain ⟨a,rfl⟩:=Int.eq_ofNat_of_zero_le h0
 obtain ⟨b,rfl⟩:=Int.eq_ofNat_of_zero_le g0
 have ha : a < 2 ^ 62:=by omega
 have hb : b < 2 ^ 62:=by omega
 have ha' : a % 2 ^ 64 = a:=Nat.mod_eq_of_lt (by omega)
 have hb' : b % 2 ^ 64 = b:=Nat.mod_eq_of_lt (by omega)
 have hx:=Nat.xor_lt_two_pow ha hb
 have e : Go.bits .xor .i64 (a : Int) (b : Int) = ((a ^^^ b : Nat) : Int):=by
  have hk : IntKind.bits .i64 = 64:=rfl
  simp only [Go.bits,hk,BitVec.ofInt_natCast,BitVec.toNat_xor,BitVec.toNat_ofNat,ha',hb']
  rw [Go.IntKind.wrap_i64]
  generalize a ^^^ b = c at hx
  omega
 rw [e]
 omega
theorem tmod_in {x n : Int} (h0 : 0 ≤ x) (hn : 1 ≤ n) : 0 ≤ Int.tmod x n ∧ Int.tmod x n < n:=⟨Int.tmod_nonneg n h0,Int.tmod_lt_of_pos x (by omega)⟩
end Go.Proofs.Ytmiholmfbjalfaa.P
namespace Go.Proofs.Ytmiholmfbjalfaa.P
open Go.RowKit Go.Proofs.YtmiholmfbjalfaaW.PrintWords Go.Proofs.YtmiholmfbjalfaaW.PrintLast Go.Proofs.YtmiholmfbjalfaaW.PrintMore
attribute [local go_sem] max2_int min2_int max_two min_two max_three min_three max_four min_four
set_option linter.unusedVariables false
set_option linter.unusedSimpArgs false
def IsS76 (w0 W : World) (g : Nat) (f0 : List Int) (f1 : Int) : Prop:=∃ A0 c0,W.heap[g]? = some (.cells #[.slice A0 f0.length c0,.int .i64 f1] 76 (0,0)) ∧ w0.heap.size ≤ g ∧ Kd.C (Kd.int .u8) w0 A0 f0.length f0
theorem IsS76.grown {w0 W : World} {g : Nat} {f0 : List Int} {f1 : Int} {W1 : World} {row : Option Nat} (h : IsS76 w0 W g f0 f1) (hw : W.grownBy W1 row) (hne : some g ≠ row) : IsS76 w0 W1 g f0 f1:=by
 obtain ⟨A0,c0,hb,hg,hr0⟩:=h
 exact ⟨A0,c0,blk_grown hb hw hne,hg,hr0⟩
theorem IsS76.own_neN {w0 W : World} {g : Nat} {f0 : List Int} {f1 : Int} {α : Type} {d : Kd α} {e : Nat} {base : Nat} {ok : Nat → Prop} {v : Value} {xs : List α} (h : IsS76 w0 W g f0 f1) (ho : Kd.N d e W base ok v xs) (ht : e ≠ 76) : some g ≠ v.ownBlock:=by
 obtain ⟨A0,c0,hb,hg,hr0⟩:=h
 exact Kd.N_ne ho hb ht
theorem IsS76.fresh {w0 W : World} {g : Nat} {f0 : List Int} {f1 : Int} (h : IsS76 w0 W g f0 f1) : ∀ k,W.heap.size ≤ k → k ≠ g:=by
 obtain ⟨A0,c0,hb,hg,hr0⟩:=h
 exact Kd.freshB hb
theorem IsS76.kept {w0 W : World} {g : Nat} {f0 : List Int} {f1 : Int} {W1 : World} {S : Nat → Prop} (h : IsS76 w0 W g f0 f1) (hk : Kept W W1 S) (hne : ¬ S g) : IsS76 w0 W1 g f0 f1:=by
 obtain ⟨A0,c0,hb,hg,hr0⟩:=h
 exact ⟨A0,c0,blk_kept hb hk hne,hg,hr0⟩
theorem IsS76.below {w0 W : World} {g : Nat} {f0 : List Int} {f1 : Int} {W1 : World} (h : IsS76 w0 W g f0 f1) (hw : Below W.heap.size W W1) : IsS76 w0 W1 g f0 f1:=h.grown (grown_of_below hw none) (by simp)
theorem IsS76.alloc {w0 W : World} {g : Nat} {f0 : List Int} {f1 : Int} (h : IsS76 w0 W g f0 f1) (o : Obj) : IsS76 w0 (W.alloc o) g f0 f1:=h.below (below_alloc (Below.refl _ _) o)
theorem IsS76.drewN {w0 W : World} {g : Nat} {f0 : List Int} {f1 : Int} (h : IsS76 w0 W g f0 f1) (m : Nat) : IsS76 w0 (W.drewN m) g f0 f1:=h
theorem IsS76.drew {w0 W : World} {g : Nat} {f0 : List Int} {f1 : Int} (h : IsS76 w0 W g f0 f1) : IsS76 w0 W.drew g f0 f1:=h
theorem IsS76.at_ {w0 W : World} {g : Nat} {f0 : List Int} {f1 : Int} {w' : World} {m : Nat} (hq : W.drewN m = w') (h : IsS76 w0 W g f0 f1) : IsS76 w0 w' g f0 f1:=by subst hq;exact IsS76.drewN h m
theorem IsS76.apart {w0 W : World} {g : Nat} {f0 : List Int} {f1 : Int} {α : Type} {d : Kd α} {e : Nat} {base : Nat} {ok : Nat → Prop} {v : Value} {xs : List α} (h : IsS76 w0 W g f0 f1) (ho : d.R e W base ok v xs) (ht : ∀ q,q ∈ e :: d.E → q ≠ 76) : d.R e W base (fun k=>ok k ∧ k ≠ g) v xs:=by
 obtain ⟨A0,c0,hb,hg,hr0⟩:=h
 exact Kd.R_types ho hb ht
theorem IsS76.own_ne {w0 W : World} {g : Nat} {f0 : List Int} {f1 : Int} {α : Type} {d : Kd α} {e : Nat} {base : Nat} {ok : Nat → Prop} {v : Value} {xs : List α} (h : IsS76 w0 W g f0 f1) (ho : d.R e W base ok v xs) (ht : e ≠ 76) : some g ≠ v.ownBlock:=by
 obtain ⟨A0,c0,hb,hg,hr0⟩:=h
 exact Kd.R_ne ho hb ht
theorem IsS76.apartQ {w0 W : World} {g : Nat} {f0 : List Int} {f1 : Int} {α : Type} {d : Kd α} {e : Nat} {base : Nat} {ok : Nat → Prop} {v : Value} {xs : List α} (h : IsS76 w0 W g f0 f1) (ho : d.Q e W base ok v xs) (ht : ∀ q,q ∈ e :: d.E → q ≠ 76) : d.Q e W base (fun k=>ok k ∧ k ≠ g) v xs:=by
 obtain ⟨A0,c0,hb,hg,hr0⟩:=h
 exact Kd.Q_types ho hb ht
theorem IsS76.own_neQ {w0 W : World} {g : Nat} {f0 : List Int} {f1 : Int} {α : Type} {d : Kd α} {e : Nat} {base : Nat} {ok : Nat → Prop} {v : Value} {xs : List α} (h : IsS76 w0 W g f0 f1) (ho : d.Q e W base ok v xs) (ht : e ≠ 76) : some g ≠ v.ownBlock:=by
 obtain ⟨A0,c0,hb,hg,hr0⟩:=h
 exact Kd.Q_ne ho hb ht
theorem IsS76.apartS {w0 W : World} {g : Nat} {f0 : List Int} {f1 : Int} {α : Type} {d : Kd α} {e : Nat} {base : Nat} {ok : Nat → Prop} {v : Value} {xs : List α} (h : IsS76 w0 W g f0 f1) (ho : d.S e W base ok v xs) (ht : ∀ q,q ∈ e :: d.E → q ≠ 76) : d.S e W base (fun k=>ok k ∧ k ≠ g) v xs:=by
 obtain ⟨A0,c0,hb,hg,hr0⟩:=h
 exact Kd.S_types ho hb ht
theorem IsS76.own_neS {w0 W : World} {g : Nat} {f0 : List Int} {f1 : Int} {α : Type} {d : Kd α} {e : Nat} {base : Nat} {ok : Nat → Prop} {v : Value} {xs : List α} (h : IsS76 w0 W g f0 f1) (ho : d.S e W base ok v xs) (ht : e ≠ 76) : some g ≠ v.ownBlock:=by
 obtain ⟨A0,c0,hb,hg,hr0⟩:=h
 exact Kd.S_ne ho hb ht
theorem IsS76.lt {w0 W : World} {g : Nat} {f0 : List Int} {f1 : Int} (h : IsS76 w0 W g f0 f1) : g < W.heap.size:=by
 obtain ⟨A0,c0,hb,hg,hr0⟩:=h
 exact blk_lt hb
theorem IsS76.ge {w0 W : World} {g : Nat} {f0 : List Int} {f1 : Int} (h : IsS76 w0 W g f0 f1) : w0.heap.size ≤ g:=by
 obtain ⟨A0,c0,hb,hg,hr0⟩:=h
 exact hg
theorem IsS76.ne_blk {w0 W : World} {g : Nat} {f0 : List Int} {f1 : Int} {a : Nat} {cs : Array Value} {t : TypeId} {fr : Nat × Nat} (h : IsS76 w0 W g f0 f1) (hb2 : W.heap[a]? = some (.cells cs t fr)) (ht : t ≠ 76) : g ≠ a:=by
 obtain ⟨A0,c0,hb,hg,hr0⟩:=h
 rintro rfl
 rw [hb] at hb2
 injection hb2 with hb2
 injection hb2 with _ ht2
 exact ht ht2.symm
theorem IsS76.far {w0 W : World} {g : Nat} {f0 : List Int} {f1 : Int} {p : Addr} (h : IsS76 w0 W g f0 f1) (hne : g ≠ p.block) (u : Value) : IsS76 w0 (W.setCell p u) g f0 f1:=by
 obtain ⟨A0,c0,hb,hg,hr0⟩:=h
 exact ⟨A0,c0,blk_far hb hne u,hg,hr0⟩
theorem cellS76_0 {W : World} {g : Nat} {A0 : Option Addr} {c0 : Nat} {f0 : List Int} {f1 : Int} (h : W.heap[g]? = some (.cells #[.slice A0 f0.length c0,.int .i64 f1] 76 (0,0))) : W.cell? ⟨g,0,none⟩ = some (.slice A0 f0.length c0):=(blk_cell h 0).trans rfl
theorem cellS76_1 {W : World} {g : Nat} {A0 : Option Addr} {c0 : Nat} {f0 : List Int} {f1 : Int} (h : W.heap[g]? = some (.cells #[.slice A0 f0.length c0,.int .i64 f1] 76 (0,0))) : W.cell? ⟨g,1,none⟩ = some (.int .i64 f1):=(blk_cell h 1).trans rfl
theorem IsS76.set_1 {w0 W : World} {g : Nat} {f0 : List Int} {f1 : Int} (h : IsS76 w0 W g f0 f1) (x : Int) : IsS76 w0 (W.setCell ⟨g,1,none⟩ (.int .i64 x)) g f0 x:=by
 obtain ⟨A0,c0,hb,hg,hr0⟩:=h
 exact ⟨A0,c0,by simpa using blk_set hb 1 (.int .i64 x),hg,hr0⟩
theorem IsS76.new (w0 W : World) (A0 : Option Addr) (c0 : Nat) (f0 : List Int) (f1 : Int) (hB : Below w0.heap.size w0 W) (hr0 : Kd.C (Kd.int .u8) w0 A0 f0.length f0) : IsS76 w0 (W.alloc (.cells #[.slice A0 f0.length c0,.int .i64 f1] 76)) W.heap.size f0 f1:=⟨A0,c0,by simpa using heap_alloc_new W _,hB.size,hr0⟩
def spec_reader_pick.j0 : Nat → Int → Bool → List Int → Int → Option (Int × Int)
 | 0,_,_,_,_=>none
 | k + 1,x1,x24,x1000,x1001=>if x24 = true then (some (0,x1001)) else (if (wrap64 (x1001 - 1)) < (x1000.length : Int) then (if 0 ≤ (wrap64 (x1001 - 1)) then (if x1 = 0 then (none) else (some (Int.tmod (wrap64 (rd x1000 (wrap64 (x1001 - 1)))) x1,x1001))) else (none)) else (if (x1000.length : Int) = 0 then (none) else (if 0 ≤ (Int.tmod (wrap64 (x1001 - 1)) (x1000.length : Int)) then (if (Int.tmod (wrap64 (x1001 - 1)) (x1000.length : Int)) < (x1000.length : Int) then (if 0 ≤ (Int.tmod (wrap64 ((wrap64 ((wrap64 (x1001 - 1)) * 7)) + 3)) (x1000.length : Int)) then (if (Int.tmod (wrap64 ((wrap64 ((wrap64 (x1001 - 1)) * 7)) + 3)) (x1000.length : Int)) < (x1000.length : Int) then (if x1 = 0 then (none) else (some (Int.tmod (Go.bits .xor .i64 (wrap64 ((wrap64 ((wrap64 ((wrap64 ((wrap64 (rd x1000 (Int.tmod (wrap64 (x1001 - 1)) (x1000.length : Int)))) * 131)) + (wrap64 ((wrap64 (rd x1000 (Int.tmod (wrap64 ((wrap64 ((wrap64 (x1001 - 1)) * 7)) + 3)) (x1000.length : Int)))) * 1117)))) + (wrap64 ((wrap64 (x1001 - 1)) * 29)))) + (wrap64 ((wrap64 (Int.tdiv (wrap64 (x1001 - 1)) (x1000.length : Int))) * 53)))) (wrap64 (Int.tdiv (wrap64 ((wrap64 ((wrap64 ((wrap64 ((wrap64 (rd x1000 (Int.tmod (wrap64 (x1001 - 1)) (x1000.length : Int)))) * 131)) + (wrap64 ((wrap64 (rd x1000 (Int.tmod (wrap64 ((wrap64 ((wrap64 (x1001 - 1)) * 7)) + 3)) (x1000.length : Int)))) * 1117)))) + (wrap64 ((wrap64 (x1001 - 1)) * 29)))) + (wrap64 ((wrap64 (Int.tdiv (wrap64 (x1001 - 1)) (x1000.length : Int))) * 53)))) 64))) x1,x1001))) else (none)) else (none)) else (none)) else (none))))
def spec_reader_pick.f (k : Nat) (s0_0 : List Int) (s0_1 : Int) (a1 : Int) : Option (Int × Int):=if a1 < 1 then (spec_reader_pick.j0 k a1 true s0_0 (wrap64 (s0_1 + 1))) else (spec_reader_pick.j0 k a1 ((s0_0.length : Int) == 0) s0_0 (wrap64 (s0_1 + 1)))
theorem spec_reader_pick.mono_l : ∀ k,(∀ y0 y1 y2 y3,LeO (spec_reader_pick.j0 k y0 y1 y2 y3) (spec_reader_pick.j0 (k + 1) y0 y1 y2 y3))
 | 0=>fun _ _ _ _ r h=>by simp [spec_reader_pick.j0] at h
 | k + 1=>by
  have ih0:=spec_reader_pick.mono_l k
  ·intro y0 y1 y2 y3
   unfold spec_reader_pick.j0
   repeat' first
   | (with_reducible exact ih0 _ _ _ _)
   | (with_reducible exact LeO.refl _)
   | (with_reducible exact LeO.none _)
   | (with_reducible refine LeO.ite ?_ ?_)
   | (with_reducible refine LeO.bind ?_ (fun _=>?_))
   | exact ih0 _ _ _ _
   | exact LeO.none _
   | refine LeO.ite ?_ ?_
   | refine LeO.bind ?_ (fun _=>?_)
theorem spec_reader_pick.mono : ∀ a0 a1 a2 k,LeO (spec_reader_pick.f k a0 a1 a2) (spec_reader_pick.f (k + 1) a0 a1 a2):=by
 intro a0 a1 a2 k
 have ih0:=spec_reader_pick.mono_l k
 unfold spec_reader_pick.f
 repeat' first
   | (with_reducible exact ih0 _ _ _ _)
   | (with_reducible exact LeO.refl _)
   | (with_reducible exact LeO.none _)
   | (with_reducible refine LeO.ite ?_ ?_)
   | (with_reducible refine LeO.bind ?_ (fun _=>?_))
   | exact ih0 _ _ _ _
   | exact LeO.none _
   | refine LeO.ite ?_ ?_
   | refine LeO.bind ?_ (fun _=>?_)
set_option maxHeartbeats 8000000 in
set_option maxRecDepth 100000 in
theorem spec_reader_pick.calls (k : Nat) (g : Nat) (s0_0 : List Int) (s0_1 : Int) (a1 : Int) (r1 : Int) (r2 : Int) (w0 w : World) (hI : IsS76 w0 w g s0_0 s0_1) (hB : Below w0.heap.size w0 w) (h : spec_reader_pick.f k s0_0 s0_1 a1 = some (r1,r2)) :
  Calls Try.prog 48 #[.pointer (some ⟨g,0,none⟩),.int .i64 a1] w fun e w'=>e = .returned (.int .i64 r1) ∧ IsS76 w0 w' g s0_0 r2 ∧ Below w0.heap.size w0 w' ∧ KeepBut w w' g none:=by
 have HI0:=a0_ hI
 have HK:=a0_ (KeepBut.refl w g none)
 have HL:=a0_ hB.size
 clear hI
 have HW0:=a0_ hB.size
 have HB:=a0_ hB
 clear hB
 have H : (if a1 < 1 then (spec_reader_pick.j0 k a1 true s0_0 (wrap64 (s0_1 + 1))) else (spec_reader_pick.j0 k a1 ((s0_0.length : Int) == 0) s0_0 (wrap64 (s0_1 + 1)))) = some (r1,r2):=h
 clear h
 have HC3:=a0_ H
 clear H
 obtain ⟨ASz4_0,cSz4_0,HGz4,hgz4,HSz4_0⟩:=HI0.out
 have hcz4_0:=cellS76_0 HGz4
 have hcz4_1:=cellS76_1 HGz4
 have hfz4_1:=blk_frozen HGz4 1
 clear HGz4 hgz4
 go_enter Try.func48,Try.ntmps48
 go_upto_region 2 with (fail)
 repeat (go_quiet (fail);go_upto_region 2 with (fail))
 go_cut [24] (fun v24 wc=>∃ (kq : Nat) (x24_2 : Bool),v24 = .bool x24_2 ∧ Aside0 (spec_reader_pick.j0 kq a1 x24_2 s0_0 (wrap64 (s0_1 + 1)) = some (r1,r2)) ∧ Aside0 (kq ≤ k) ∧ Aside0 (IsS76 w0 wc g s0_0 (wrap64 (s0_1 + 1))) ∧ Aside0 (KeepBut w wc g none) ∧ Aside0 (Below w0.heap.size w0 wc))
 case first =>
  have H:=HC3.out
  clear HC3
  by_cases c5 : a1 < 1
  ·rw [if_pos c5] at H
   have c5b0 : decide (a1 < 1) = true:=decide_eq_true c5
   clear c5
   (first | rw [c5b0] | (simp only [i64_w,i32_w];rw [c5b0]) | skip)
   have H':=a0_ H
   clear H
   go_wp2
   repeat (go_quiet (fail);try go_wp2)
   go_meet
   case rel=>exact ⟨_,(true),(by first | rfl | (simp;done) | (simp [*];done)),H',⟨by first | omega | exact Nat.le_refl _⟩,⟨by repeat (first | (with_reducible first | exact HI0.out | apply IsS76.alloc | apply IsS76.drewN | apply IsS76.drew | apply IsS76.set_1) | exact HI0.out)⟩,⟨hk_⟩,⟨by repeat (first | (with_reducible first | exact HB.out | apply below_alloc | apply pw_below_drewN | apply below_drew1 | refine below_set ?_ (IsS76.ge HI0.out)) | exact HB.out)⟩⟩
  ·rw [if_neg c5] at H
   have c5b0 : decide (a1 < 1) = false:=decide_eq_false c5
   clear c5
   (first | rw [c5b0] | (simp only [i64_w,i32_w];rw [c5b0]) | skip)
   have H':=a0_ H
   clear H
   obtain ⟨ASz6_0,cSz6_0,HGz6,hgz6,HSz6_0⟩:=HI0.out
   have hcz6_0:=cellS76_0 HGz6
   have hcz6_1:=cellS76_1 HGz6
   have hfz6_1:=blk_frozen HGz6 1
   clear HGz6 hgz6
   go_wp2
   repeat (go_quiet (fail);try go_wp2)
   go_meet
   case rel=>exact ⟨_,(((s0_0.length : Int) == 0)),(by first | rfl | (simp;done) | (simp [*];done)),H',⟨by first | omega | exact Nat.le_refl _⟩,⟨by repeat (first | (with_reducible first | exact HI0.out | apply IsS76.alloc | apply IsS76.drewN | apply IsS76.drew | apply IsS76.set_1) | exact HI0.out)⟩,⟨hk_⟩,⟨by repeat (first | (with_reducible first | exact HB.out | apply below_alloc | apply pw_below_drewN | apply below_drew1 | refine below_set ?_ (IsS76.ge HI0.out)) | exact HB.out)⟩⟩
 case rest =>
  clear HC3
  try clear p2
  try clear c4
  try clear c5
  try clear c5b0
  try clear p6
  try clear hcz4_0
  try clear hcz4_1
  try clear hcz6_0
  try clear hcz6_1
  try clear hfz4_1
  try clear hfz6_1
  obtain ⟨kq,x24_2,rfl,HA,HJ2,HI0,HK,HB⟩:=hcut
  cases kq with
  | zero=>exact absurd HA.out (by simp [spec_reader_pick.j0])
  | succ kj2 =>
   have H:=HA.out
   clear HA
   simp only [spec_reader_pick.j0] at H
   by_cases c7 : x24_2 = true
   ·subst c7
    have H1 : (some (0,(wrap64 (s0_1 + 1)))) = some (r1,r2):=by rw [if_pos rfl] at H;exact H
    clear H
    have H:=H1
    clear H1
    simp only [Option.some.injEq,Prod.mk.injEq] at H
    obtain ⟨rfl,rfl⟩:=H
    go_wp2
    repeat (go_quiet (fail);try go_wp2)
    go_ret
    exact ⟨by first | rfl | (simp [errW_none,errW_some] <;> rfl) | (simp [*,errW_none,errW_some] <;> rfl),by repeat (first | (with_reducible first | exact HI0.out | apply IsS76.alloc | apply IsS76.drewN | apply IsS76.drew | apply IsS76.set_1) | exact HI0.out),by repeat (first | (with_reducible first | exact HB.out | apply below_alloc | apply pw_below_drewN | apply below_drew1 | refine below_set ?_ (IsS76.ge HI0.out)) | exact HB.out),hk_⟩
   ·replace c7:=Bool.eq_false_iff.mpr c7
    subst c7
    have H1 : (if (wrap64 ((wrap64 (s0_1 + 1)) - 1)) < (s0_0.length : Int) then (if 0 ≤ (wrap64 ((wrap64 (s0_1 + 1)) - 1)) then (if a1 = 0 then (none) else (some (Int.tmod (wrap64 (rd s0_0 (wrap64 ((wrap64 (s0_1 + 1)) - 1)))) a1,(wrap64 (s0_1 + 1))))) else (none)) else (if (s0_0.length : Int) = 0 then (none) else (if 0 ≤ (Int.tmod (wrap64 ((wrap64 (s0_1 + 1)) - 1)) (s0_0.length : Int)) then (if (Int.tmod (wrap64 ((wrap64 (s0_1 + 1)) - 1)) (s0_0.length : Int)) < (s0_0.length : Int) then (if 0 ≤ (Int.tmod (wrap64 ((wrap64 ((wrap64 ((wrap64 (s0_1 + 1)) - 1)) * 7)) + 3)) (s0_0.length : Int)) then (if (Int.tmod (wrap64 ((wrap64 ((wrap64 ((wrap64 (s0_1 + 1)) - 1)) * 7)) + 3)) (s0_0.length : Int)) < (s0_0.length : Int) then (if a1 = 0 then (none) else (some (Int.tmod (Go.bits .xor .i64 (wrap64 ((wrap64 ((wrap64 ((wrap64 ((wrap64 (rd s0_0 (Int.tmod (wrap64 ((wrap64 (s0_1 + 1)) - 1)) (s0_0.length : Int)))) * 131)) + (wrap64 ((wrap64 (rd s0_0 (Int.tmod (wrap64 ((wrap64 ((wrap64 ((wrap64 (s0_1 + 1)) - 1)) * 7)) + 3)) (s0_0.length : Int)))) * 1117)))) + (wrap64 ((wrap64 ((wrap64 (s0_1 + 1)) - 1)) * 29)))) + (wrap64 ((wrap64 (Int.tdiv (wrap64 ((wrap64 (s0_1 + 1)) - 1)) (s0_0.length : Int))) * 53)))) (wrap64 (Int.tdiv (wrap64 ((wrap64 ((wrap64 ((wrap64 ((wrap64 (rd s0_0 (Int.tmod (wrap64 ((wrap64 (s0_1 + 1)) - 1)) (s0_0.length : Int)))) * 131)) + (wrap64 ((wrap64 (rd s0_0 (Int.tmod (wrap64 ((wrap64 ((wrap64 ((wrap64 (s0_1 + 1)) - 1)) * 7)) + 3)) (s0_0.length : Int)))) * 1117)))) + (wrap64 ((wrap64 ((wrap64 (s0_1 + 1)) - 1)) * 29)))) + (wrap64 ((wrap64 (Int.tdiv (wrap64 ((wrap64 (s0_1 + 1)) - 1)) (s0_0.length : Int))) * 53)))) 64))) a1,(wrap64 (s0_1 + 1))))) else (none)) else (none)) else (none)) else (none)))) = some (r1,r2):=by rw [if_neg (show ¬ (false = true) by decide)] at H;exact H
    clear H
    have H:=H1
    clear H1
    by_cases c8 : (wrap64 ((wrap64 (s0_1 + 1)) - 1)) < (s0_0.length : Int)
    ·rw [if_pos c8] at H
     have c8b0 : decide ((wrap64 ((wrap64 (s0_1 + 1)) - 1)) < (s0_0.length : Int)) = true:=decide_eq_true c8
     clear c8
     obtain ⟨ji9,hji9⟩ : ∃ j_ : Int,(wrap64 ((wrap64 (s0_1 + 1)) - 1)) = j_:=⟨_,rfl⟩
     replace H : (if 0 ≤ (ji9) then (if a1 = 0 then (none) else (some (Int.tmod (wrap64 (rd s0_0 (ji9))) a1,(wrap64 (s0_1 + 1))))) else (none)) = some (r1,r2):=by first | (rw [hji9] at H;exact H) | (simp only [hji9] at H ⊢;exact H)
     (try rw [hji9] at c8b0)
     have hji9w : (IntKind.i64.wrap ((wrap64 (s0_1 + 1)) - 1)) = ji9:=(i64_w _).trans hji9
     by_cases c10 : 0 ≤ (ji9)
     ·rw [if_pos c10] at H
      have c10b0 : decide (0 ≤ (ji9)) = true:=decide_eq_true c10
      clear c10
      by_cases c11 : a1 = 0
      ·rw [if_pos c11] at H
       exact absurd H (by simp)
      ·rw [if_neg c11] at H
       have c11b0 : (a1 == 0) = false:=beq_eq_false_iff_ne.mpr c11
       have c11b1 : (a1 != 0) = true:=bne_iff_ne.mpr c11
       simp only [Option.some.injEq,Prod.mk.injEq] at H
       obtain ⟨rfl,rfl⟩:=H
       obtain ⟨ASz12_0,cSz12_0,HGz12,hgz12,HSz12_0⟩:=HI0.out
       have hcz12_0:=cellS76_0 HGz12
       have hcz12_1:=cellS76_1 HGz12
       have hfz12_1:=blk_frozen HGz12 1
       clear HGz12 hgz12
       have p1 : 0 ≤ ((ji9) : Int):=of_decide_eq_true (by first | (with_reducible assumption) | assumption)
       have q1 : (ji9) < (s0_0.length : Int):=of_decide_eq_true (by first | (with_reducible assumption) | assumption)
       obtain ⟨ad1,e1,hx1_0⟩:=Kd.at_int HSz12_0 (ji9) p1 q1
       cases e1
       replace hx1_0:=pw_cell_below HB.out hx1_0
       replace p1:=eq_true p1
       replace q1:=eq_true q1
       go_wp2
       repeat (go_quiet (fail);try go_wp2)
       go_ret
       exact ⟨by first | rfl | (simp [errW_none,errW_some] <;> rfl) | (simp only [← hji9];first | rfl | (simp [errW_none,errW_some] <;> rfl)) | (simp [*,errW_none,errW_some] <;> rfl),by repeat (first | (with_reducible first | exact HI0.out | apply IsS76.alloc | apply IsS76.drewN | apply IsS76.drew | apply IsS76.set_1) | exact HI0.out),by repeat (first | (with_reducible first | exact HB.out | apply below_alloc | apply pw_below_drewN | apply below_drew1 | refine below_set ?_ (IsS76.ge HI0.out)) | exact HB.out),hk_⟩
     ·rw [if_neg c10] at H
      exact absurd H (by simp)
    ·rw [if_neg c8] at H
     have c8b0 : decide ((wrap64 ((wrap64 (s0_1 + 1)) - 1)) < (s0_0.length : Int)) = false:=decide_eq_false c8
     clear c8
     by_cases c13 : (s0_0.length : Int) = 0
     ·rw [if_pos c13] at H
      exact absurd H (by simp)
     ·rw [if_neg c13] at H
      have c13b0 : ((s0_0.length : Int) == 0) = false:=beq_eq_false_iff_ne.mpr c13
      have c13b1 : ((s0_0.length : Int) != 0) = true:=bne_iff_ne.mpr c13
      have c13b2 : ¬ (s0_0 = []):=fun h_=>c13 (by rw [h_];rfl)
      obtain ⟨ji14,hji14⟩ : ∃ j_ : Int,(Int.tmod (wrap64 ((wrap64 (s0_1 + 1)) - 1)) (s0_0.length : Int)) = j_:=⟨_,rfl⟩
      replace H : (if 0 ≤ (ji14) then (if (ji14) < (s0_0.length : Int) then (if 0 ≤ (Int.tmod (wrap64 ((wrap64 ((wrap64 ((wrap64 (s0_1 + 1)) - 1)) * 7)) + 3)) (s0_0.length : Int)) then (if (Int.tmod (wrap64 ((wrap64 ((wrap64 ((wrap64 (s0_1 + 1)) - 1)) * 7)) + 3)) (s0_0.length : Int)) < (s0_0.length : Int) then (if a1 = 0 then (none) else (some (Int.tmod (Go.bits .xor .i64 (wrap64 ((wrap64 ((wrap64 ((wrap64 ((wrap64 (rd s0_0 (ji14))) * 131)) + (wrap64 ((wrap64 (rd s0_0 (Int.tmod (wrap64 ((wrap64 ((wrap64 ((wrap64 (s0_1 + 1)) - 1)) * 7)) + 3)) (s0_0.length : Int)))) * 1117)))) + (wrap64 ((wrap64 ((wrap64 (s0_1 + 1)) - 1)) * 29)))) + (wrap64 ((wrap64 (Int.tdiv (wrap64 ((wrap64 (s0_1 + 1)) - 1)) (s0_0.length : Int))) * 53)))) (wrap64 (Int.tdiv (wrap64 ((wrap64 ((wrap64 ((wrap64 ((wrap64 (rd s0_0 (ji14))) * 131)) + (wrap64 ((wrap64 (rd s0_0 (Int.tmod (wrap64 ((wrap64 ((wrap64 ((wrap64 (s0_1 + 1)) - 1)) * 7)) + 3)) (s0_0.length : Int)))) * 1117)))) + (wrap64 ((wrap64 ((wrap64 (s0_1 + 1)) - 1)) * 29)))) + (wrap64 ((wrap64 (Int.tdiv (wrap64 ((wrap64 (s0_1 + 1)) - 1)) (s0_0.length : Int))) * 53)))) 64))) a1,(wrap64 (s0_1 + 1))))) else (none)) else (none)) else (none)) else (none)) = some (r1,r2):=by first | (rw [hji14] at H;exact H) | (simp only [hji14] at H ⊢;exact H)
      by_cases c15 : 0 ≤ (ji14)
      ·rw [if_pos c15] at H
       have c15b0 : decide (0 ≤ (ji14)) = true:=decide_eq_true c15
       clear c15
       by_cases c16 : (ji14) < (s0_0.length : Int)
       ·rw [if_pos c16] at H
        have c16b0 : decide ((ji14) < (s0_0.length : Int)) = true:=decide_eq_true c16
        clear c16
        obtain ⟨ji17,hji17⟩ : ∃ j_ : Int,(Int.tmod (wrap64 ((wrap64 ((wrap64 ((wrap64 (s0_1 + 1)) - 1)) * 7)) + 3)) (s0_0.length : Int)) = j_:=⟨_,rfl⟩
        replace H : (if 0 ≤ (ji17) then (if (ji17) < (s0_0.length : Int) then (if a1 = 0 then (none) else (some (Int.tmod (Go.bits .xor .i64 (wrap64 ((wrap64 ((wrap64 ((wrap64 ((wrap64 (rd s0_0 (ji14))) * 131)) + (wrap64 ((wrap64 (rd s0_0 (ji17))) * 1117)))) + (wrap64 ((wrap64 ((wrap64 (s0_1 + 1)) - 1)) * 29)))) + (wrap64 ((wrap64 (Int.tdiv (wrap64 ((wrap64 (s0_1 + 1)) - 1)) (s0_0.length : Int))) * 53)))) (wrap64 (Int.tdiv (wrap64 ((wrap64 ((wrap64 ((wrap64 ((wrap64 (rd s0_0 (ji14))) * 131)) + (wrap64 ((wrap64 (rd s0_0 (ji17))) * 1117)))) + (wrap64 ((wrap64 ((wrap64 (s0_1 + 1)) - 1)) * 29)))) + (wrap64 ((wrap64 (Int.tdiv (wrap64 ((wrap64 (s0_1 + 1)) - 1)) (s0_0.length : Int))) * 53)))) 64))) a1,(wrap64 (s0_1 + 1))))) else (none)) else (none)) = some (r1,r2):=by first | (rw [hji17] at H;exact H) | (simp only [hji17] at H ⊢;exact H)
        by_cases c18 : 0 ≤ (ji17)
        ·rw [if_pos c18] at H
         have c18b0 : decide (0 ≤ (ji17)) = true:=decide_eq_true c18
         clear c18
         by_cases c19 : (ji17) < (s0_0.length : Int)
         ·rw [if_pos c19] at H
          have c19b0 : decide ((ji17) < (s0_0.length : Int)) = true:=decide_eq_true c19
          clear c19
          by_cases c20 : a1 = 0
          ·rw [if_pos c20] at H
           exact absurd H (by simp)
          ·rw [if_neg c20] at H
           have c20b0 : (a1 == 0) = false:=beq_eq_false_iff_ne.mpr c20
           have c20b1 : (a1 != 0) = true:=bne_iff_ne.mpr c20
           simp only [Option.some.injEq,Prod.mk.injEq] at H
           obtain ⟨rfl,rfl⟩:=H
           obtain ⟨ASz21_0,cSz21_0,HGz21,hgz21,HSz21_0⟩:=HI0.out
           have hcz21_0:=cellS76_0 HGz21
           have hcz21_1:=cellS76_1 HGz21
           have hfz21_1:=blk_frozen HGz21 1
           clear HGz21 hgz21
           have p2 : 0 ≤ ((ji14) : Int):=of_decide_eq_true (by first | (with_reducible assumption) | assumption)
           have q2 : (ji14) < (s0_0.length : Int):=of_decide_eq_true (by first | (with_reducible assumption) | assumption)
           obtain ⟨ad2,e2,hx2_0⟩:=Kd.at_int HSz21_0 (ji14) p2 q2
           cases e2
           replace hx2_0:=pw_cell_below HB.out hx2_0
           replace p2:=eq_true p2
           replace q2:=eq_true q2
           have p3 : 0 ≤ ((ji17) : Int):=of_decide_eq_true (by first | (with_reducible assumption) | assumption)
           have q3 : (ji17) < (s0_0.length : Int):=of_decide_eq_true (by first | (with_reducible assumption) | assumption)
           obtain ⟨ad3,e3,hx3_0⟩:=Kd.at_int HSz21_0 (ji17) p3 q3
           obtain rfl : ad2 = ad3:=(by injection e3)
           replace hx3_0:=pw_cell_below HB.out hx3_0
           replace p3:=eq_true p3
           replace q3:=eq_true q3
           go_wp2
           repeat (go_quiet (fail);try go_wp2)
           go_ret
           exact ⟨by first | rfl | (simp [errW_none,errW_some] <;> rfl) | (simp only [← hji14,← hji17];first | rfl | (simp [errW_none,errW_some] <;> rfl)) | (simp [*,errW_none,errW_some] <;> rfl),by repeat (first | (with_reducible first | exact HI0.out | apply IsS76.alloc | apply IsS76.drewN | apply IsS76.drew | apply IsS76.set_1) | exact HI0.out),by repeat (first | (with_reducible first | exact HB.out | apply below_alloc | apply pw_below_drewN | apply below_drew1 | refine below_set ?_ (IsS76.ge HI0.out)) | exact HB.out),hk_⟩
         ·rw [if_neg c19] at H
          exact absurd H (by simp)
        ·rw [if_neg c18] at H
         exact absurd H (by simp)
       ·rw [if_neg c16] at H
        exact absurd H (by simp)
      ·rw [if_neg c15] at H
       exact absurd H (by simp)
theorem spec_pick_ev (b : List Int) (p n : Int) (hb : byL b) (h0 : 0 ≤ p) (hp : p ≤ 1099511627776) : ∃ x,Ev (fun k=>spec_reader_pick.f k b p n) (x,p + 1) ∧ 0 ≤ x ∧ (1 ≤ n → x < n) ∧ (n < 1 → x = 0):=by
 have e1 : wrap64 (p + 1) = p + 1:=wrap_in (by omega) (by omega)
 have e2 : wrap64 (p + 1 - 1) = p:=by rw [show p + 1 - 1 = p by omega];exact wrap_in (by omega) (by omega)
 unfold spec_reader_pick.f
 rw [e1]
 by_cases hn : n < 1
 ·refine ⟨0,Ev.pos hn (Ev.succ ?_),Int.le_refl _,fun h=>by omega,fun _=>rfl⟩
  simp only [spec_reader_pick.j0]
  exact Ev.pos trivial (Ev.const rfl)
 by_cases hz : ((b.length : Int) == 0) = true
 ·refine ⟨0,Ev.neg hn (Ev.succ ?_),Int.le_refl _,fun h=>by omega,fun _=>rfl⟩
  rw [hz]
  simp only [spec_reader_pick.j0]
  exact Ev.pos trivial (Ev.const rfl)
 have hz2 : ((b.length : Int) == 0) = false:=by simpa using hz
 have hz3 : 1 ≤ (b.length : Int):=by
  have:=beq_eq_false_iff_ne.1 hz2
  omega
 have hl:=hb.1
 have hn1 : 1 ≤ n:=by omega
 by_cases hlt : p < (b.length : Int)
 ·have hr:=byL_rd hb p
  have hm:=tmod_in hr.1 hn1
  refine ⟨Int.tmod (rd b p) n,Ev.neg hn (Ev.succ ?_),hm.1,fun _=>hm.2,fun h=>by omega⟩
  rw [hz2]
  simp only [spec_reader_pick.j0,e2]
  refine Ev.neg (by simp) (Ev.pos hlt (Ev.pos h0 (Ev.neg (by omega) (Ev.const ?_))))
  rw [wrap_in (i:=rd b p) (by omega) (by omega)]
 ·have m1:=tmod_in h0 hz3
  have e7 : wrap64 (wrap64 (p * 7) + 3) = p * 7 + 3:=by rw [wrap_in (i:=p * 7) (by omega) (by omega),wrap_in (by omega) (by omega)]
  have m2:=tmod_in (x:=p * 7 + 3) (by omega) hz3
  have r1:=byL_rd hb (Int.tmod p (b.length : Int))
  have r2:=byL_rd hb (Int.tmod (p * 7 + 3) (b.length : Int))
  have dq : 0 ≤ Int.tdiv p (b.length : Int) ∧ Int.tdiv p (b.length : Int) ≤ p:=by
   rw [Int.tdiv_eq_ediv_of_nonneg h0]
   exact ⟨Int.ediv_nonneg h0 (by omega),Int.ediv_le_self _ h0⟩
  generalize hx1 : rd b (Int.tmod p (b.length : Int)) = x1 at r1
  generalize hx2 : rd b (Int.tmod (p * 7 + 3) (b.length : Int)) = x2 at r2
  generalize hx3 : Int.tdiv p (b.length : Int) = x3 at dq
  have es : wrap64 (wrap64 (wrap64 (wrap64 (wrap64 x1 * 131) + wrap64 (wrap64 x2 * 1117)) + wrap64 (p * 29)) + wrap64 (wrap64 x3 * 53)) = x1 * 131 + x2 * 1117 + p * 29 + x3 * 53:=by
   rw [wrap_in (i:=x1) (by omega) (by omega),wrap_in (i:=x2) (by omega) (by omega),wrap_in (i:=x3) (by omega) (by omega),wrap_in (i:=x1 * 131) (by omega) (by omega),wrap_in (i:=x2 * 1117) (by omega) (by omega),wrap_in (i:=x3 * 53) (by omega) (by omega),wrap_in (i:=p * 29) (by omega) (by omega),wrap_in (i:=x1 * 131 + x2 * 1117) (by omega) (by omega),wrap_in (i:=x1 * 131 + x2 * 1117 + p * 29) (by omega) (by omega),wrap_in (by omega) (by omega)]
  obtain ⟨s,hs⟩ : ∃ s,s = x1 * 131 + x2 * 1117 + p * 29 + x3 * 53:=⟨_,rfl⟩
  have s0 : 0 ≤ s ∧ s ≤ 999999999999999:=by omega
  have d0 : 0 ≤ Int.tdiv s 64 ∧ Int.tdiv s 64 ≤ s:=by
   rw [Int.tdiv_eq_ediv_of_nonneg s0.1]
   exact ⟨Int.ediv_nonneg s0.1 (by omega),Int.ediv_le_self _ s0.1⟩
  have hxr:=xor_nonneg s (Int.tdiv s 64) s0.1 (by omega) d0.1 (by omega)
  have hm:=tmod_in hxr hn1
  refine ⟨Int.tmod (Go.bits .xor .i64 s (Int.tdiv s 64)) n,Ev.neg hn (Ev.succ ?_),hm.1,fun _=>hm.2,fun h=>by omega⟩
  rw [hz2]
  simp only [spec_reader_pick.j0,e2,e7,hx1,hx2,hx3,es,← hs]
  refine Ev.neg (by simp) (Ev.neg hlt (Ev.neg (by omega) (Ev.pos m1.1 (Ev.pos m1.2 (Ev.pos m2.1 (Ev.pos m2.2 (Ev.neg (by omega) (Ev.const ?_))))))))
  rw [wrap_in (i:=Int.tdiv s 64) (by omega) (by omega)]
end Go.Proofs.Ytmiholmfbjalfaa.P
namespace Go.Proofs.Ytmiholmfbjalfaa.P
open Go.RowKit Go.Proofs.YtmiholmfbjalfaaW.PrintWords Go.Proofs.YtmiholmfbjalfaaW.PrintLast Go.Proofs.YtmiholmfbjalfaaW.PrintMore
theorem is0_ {w0 W : World} {g : Nat} {f0 : List Int} {f1 : Int} (h : IsS76 w0 W g f0 f1 := by repeat (first | (with_reducible first | exact HI0.out | apply IsS76.alloc | apply IsS76.drewN | apply IsS76.drew | apply IsS76.set_1 | refine IsS76.far ?_ (Aside0.out (by assumption)) _) | exact HI0.out)) : IsS76 w0 W g f0 f1 := h
theorem hbi0_ {n : Nat} {w w' : World} (h : Below n w w' := by repeat (first | (with_reducible first | exact HB.out | apply below_alloc | apply pw_below_drewN | apply below_drew1 | refine below_set ?_ (IsS76.ge HI0.out) | refine below_set ?_ (Aside0.out (by assumption))) | exact HB.out)) : Below n w w' := h
theorem is5_ {w0 W : World} {g : Nat} {f0 : List Int} {f1 : Int} (h : IsS76 w0 W g f0 f1 := by repeat (first | (with_reducible first | exact HI5.out | apply IsS76.alloc | apply IsS76.drewN | apply IsS76.drew | apply IsS76.set_1 | refine IsS76.far ?_ (Aside0.out (by assumption)) _) | exact HI5.out)) : IsS76 w0 W g f0 f1 := h
theorem hbi5_ {n : Nat} {w w' : World} (h : Below n w w' := by repeat (first | (with_reducible first | exact HB.out | apply below_alloc | apply pw_below_drewN | apply below_drew1 | refine below_set ?_ (IsS76.ge HI5.out) | refine below_set ?_ (Aside0.out (by assumption))) | exact HB.out)) : Below n w w' := h
end Go.Proofs.Ytmiholmfbjalfaa.P
namespace Go.Proofs.Ytmiholmfbjalfaa.P
open Go.RowKit Go.Proofs.YtmiholmfbjalfaaW.PrintWords Go.Proofs.YtmiholmfbjalfaaW.PrintLast Go.Proofs.YtmiholmfbjalfaaW.PrintMore
attribute [local go_sem] max2_int min2_int max_two min_two max_three min_three max_four min_four
set_option linter.unusedVariables false
set_option linter.unusedSimpArgs false
def gT (t : List Cls) : Prop:=(∀ x ∈ t,x.f0.size ≤ 7) ∧ ∀ j,j < t.length → (j = 0 → (t.getD j z87).f1 = -1) ∧ (0 < j → 0 ≤ (t.getD j z87).f1 ∧ (t.getD j z87).f1 ≤ (j : Int) - 1)
theorem smT_mk {t : List Cls} (h : ∀ x ∈ t,x.f0.size ≤ 7) : smT t = true:=by
 unfold smT
 rw [List.all_eq_true]
 intro x hx
 have:=h x hx
 exact decide_eq_true (by omega)
theorem gT_snoc {t : List Cls} (h : gT t) (hl : 1 ≤ t.length) (x : Cls) (hx : x.f0.size ≤ 7) (h0 : 0 ≤ x.f1) (h1 : x.f1 ≤ (t.length : Int) - 1) : gT (t ++ [x]):=by
 refine ⟨fun y hy=>?_,fun j hj=>?_⟩
 ·rcases List.mem_append.1 hy with hy | hy
  ·exact h.1 y hy
  ·obtain rfl : y = x:=by simpa using hy
   exact hx
 ·rw [List.length_append,List.length_singleton] at hj
  by_cases e : j < t.length
  ·have : (t ++ [x]).getD j z87 = t.getD j z87:=by simp [List.getD,List.getElem?_append_left e]
   rw [this]
   exact h.2 j e
  ·obtain rfl : j = t.length:=by omega
   have : (t ++ [x]).getD t.length z87 = x:=by simp [List.getD]
   rw [this]
   exact ⟨fun h=>by omega,fun _=>⟨h0,h1⟩⟩
theorem set_mem {α : Type} {l : List α} {i : Nat} {v x : α} (h : x ∈ l.set i v) : x = v ∨ x ∈ l:=by
 rcases List.mem_or_eq_of_mem_set h with h | h
 ·exact Or.inr h
 ·exact Or.inl h
end Go.Proofs.Ytmiholmfbjalfaa.P
namespace Go.Proofs.Ytmiholmfbjalfaa.P
open Go.RowKit Go.Proofs.YtmiholmfbjalfaaW.PrintWords Go.Proofs.YtmiholmfbjalfaaW.PrintLast Go.Proofs.YtmiholmfbjalfaaW.PrintMore
attribute [local go_sem] max2_int min2_int max_two min_two max_three min_three max_four min_four
set_option linter.unusedVariables false
set_option linter.unusedSimpArgs false
theorem filt_lt {α : Type} (p q : α → Bool) (l : List α) (hpq : ∀ x,q x = true → p x = true) (x : α) (hx : x ∈ l) (h1 : p x = true) (h2 : q x = false) : (l.filter q).length < (l.filter p).length:=by
 have hle : ∀ m : List α,(m.filter q).length ≤ (m.filter p).length:=by
  intro m
  induction m with
  | nil=>simp
  | cons y m ih =>
   rw [List.filter_cons,List.filter_cons]
   cases hq : q y with
   | true=>rw [hpq y hq];simpa using ih
   | false=>cases hp : p y <;> simp <;> omega
 induction l with
 | nil=>cases hx
 | cons y l ih =>
  rw [List.filter_cons,List.filter_cons]
  rcases List.mem_cons.1 hx with rfl | hx
  ·rw [h1,h2]
   have:=hle l
   simp
   omega
  ·have:=ih hx
   cases hq : q y with
   | true=>rw [hpq y hq];simpa using this
   | false=>cases hp : p y <;> simp <;> omega
def restN (n : Nat) (out : List Int) : Nat:=((List.range n).filter (fun i : Nat=>!out.contains (i : Int))).length
theorem restN_le (n : Nat) (out : List Int) : restN n out ≤ n:=by
 have:=List.length_filter_le (fun i : Nat=>!out.contains (i : Int)) (List.range n)
 unfold restN
 simpa using this
theorem restN_lt {n : Nat} {out : List Int} {f : Int} (h0 : 0 ≤ f) (h1 : f < n) (h2 : out.contains f = false) : restN n (out ++ [f]) < restN n out:=by
 have e : ((f.toNat : Nat) : Int) = f:=by omega
 refine filt_lt _ _ _ (fun x hx=>?_) f.toNat (by simp;omega) ?_ ?_
 ·rw [Bool.not_eq_true'] at hx ⊢
  cases h : out.contains (x : Int) with
  | false=>rfl
  | true =>
   rw [List.contains_iff_mem] at h
   rw [← hx]
   symm
   rw [List.contains_iff_mem]
   exact List.mem_append_left _ h
 ·rw [e,h2];rfl
 ·rw [e,Bool.not_eq_false',List.contains_iff_mem]
  exact List.mem_append_right _ (by simp)
theorem restN_zero {n : Nat} {out : List Int} {f : Int} (h0 : 0 ≤ f) (h1 : f < n) (h : restN n out = 0) : out.contains f = true:=by
 cases h2 : out.contains f with
 | true=>rfl
 | false=>have:=restN_lt h0 h1 h2;omega
def walkL (next : Int → Int) : Nat → List Int → Int → List Int
 | 0,out,_=>out
 | k + 1,out,f=>if 0 ≤ f ∧ out.contains f = false then walkL next k (out ++ [f]) (next f) else out
theorem walkL_len (next : Int → Int) : ∀ (d : Nat) (out : List Int) (f : Int),(walkL next d out f).length ≤ out.length + d:=by
 intro d
 induction d with
 | zero=>intro out f;simp [walkL]
 | succ d ih =>
  intro out f
  rw [walkL]
  split
  ·have:=ih (out ++ [f]) (next f)
   rw [List.length_append,List.length_singleton] at this
   omega
  ·omega
theorem walkL_mem (next : Int → Int) (n : Nat) (hn : ∀ x : Int,0 ≤ x → x < n → next x < n) : ∀ (d : Nat) (out : List Int) (f : Int),f < n → (∀ x ∈ out,0 ≤ x ∧ x < (n : Int)) → ∀ x ∈ walkL next d out f,0 ≤ x ∧ x < (n : Int):=by
 intro d
 induction d with
 | zero=>intro out f hf ho x hx;exact ho x hx
 | succ d ih =>
  intro out f hf ho x hx
  rw [walkL] at hx
  split at hx
  case isTrue h =>
   refine ih (out ++ [f]) (next f) (hn f h.1 hf) (fun y hy=>?_) x hx
   rcases List.mem_append.1 hy with hy | hy
   ·exact ho y hy
   ·obtain rfl : y = f:=by simpa using hy
    exact ⟨h.1,hf⟩
  case isFalse h=>exact ho x hx
theorem walkL_ge (next : Int → Int) : ∀ (d : Nat) (out : List Int) (f : Int),out.length ≤ (walkL next d out f).length:=by
 intro d
 induction d with
 | zero=>intro out f;exact Nat.le_refl _
 | succ d ih =>
  intro out f
  rw [walkL]
  split
  ·have:=ih (out ++ [f]) (next f)
   rw [List.length_append,List.length_singleton] at this
   omega
  ·omega
theorem walkL_pos (next : Int → Int) (d : Nat) (f : Int) (h0 : 0 ≤ f) : 1 ≤ (walkL next (d + 1) [] f).length:=by
 rw [walkL,if_pos ⟨h0,by simp⟩]
 have:=walkL_ge next d ([] ++ [f]) (next f)
 simpa using this
theorem walkL_congr (n1 n2 : Int → Int) (n : Nat) (he : ∀ x : Int,0 ≤ x → x < n → n1 x = n2 x) (hn : ∀ x : Int,0 ≤ x → x < n → n1 x < n) : ∀ (d : Nat) (out : List Int) (f : Int),f < n → walkL n1 d out f = walkL n2 d out f:=by
 intro d
 induction d with
 | zero=>intro out f hf;rfl
 | succ d ih =>
  intro out f hf
  rw [walkL,walkL]
  split
  case isTrue h=>rw [ih (out ++ [f]) (n1 f) (hn f h.1 hf),he f h.1 hf]
  case isFalse h=>rfl
end Go.Proofs.Ytmiholmfbjalfaa.P
namespace Go.Proofs.Ytmiholmfbjalfaa.P
open Go.RowKit Go.Proofs.YtmiholmfbjalfaaW.PrintWords Go.Proofs.YtmiholmfbjalfaaW.PrintLast Go.Proofs.YtmiholmfbjalfaaW.PrintMore
attribute [local go_sem] max2_int min2_int max_two min_two max_three min_three max_four min_four
set_option linter.unusedVariables false
set_option linter.unusedSimpArgs false
abbrev Fau:=S43
def hasF (h : List Fau) (f : Int) : Bool:=decide (0 ≤ f) && decide (f ≤ (h.length : Int) - 1)
def ctxN (h : List Fau) (g : Int) : Int:=(h.getD g.toNat z43).f3
def shwN (h : List Fau) (g : Int) : Int:=if 0 ≤ (h.getD g.toNat z43).f2 then (h.getD g.toNat z43).f2 else if (h.getD g.toNat z43).f4 = true then -1 else (h.getD g.toNat z43).f3
def lnkB (h : List Fau) (f u : Int) : Bool:=(u == -1) || (hasF h u && (u != f))
def okF (t : List Cls) (h : List Fau) (i : Nat) (x : Fau) : Bool:=hasC t x.f0 && ((decide (0 ≤ x.f1) && decide (x.f1 ≤ 99)) && (lnkB h (i : Int) x.f2 && lnkB h (i : Int) x.f3))
def fsH (t : List Cls) (h : List Fau) : Bool:=(List.range h.length).all (fun i=>okF t h i (h.getD i z43))
def ctxL (h : List Fau) (f : Int) : List Int:=walkL (ctxN h) h.length [] f
def shwL (h : List Fau) (f : Int) : List Int:=walkL (shwN h) h.length [] f
def lastI (l : List Int) : Int:=l.getD (l.length - 1) 0
def endB (h : List Fau) (f : Nat) : Bool:=decide (ctxN h (lastI (ctxL h (f : Int))) < 0)
def esH (h : List Fau) : Bool:=(List.range h.length).all (endB h)
def vH (t : List Cls) (h : List Fau) : Bool:=fsH t h && (esH h && (vT t && decide (h.length ≤ 24)))
theorem all_at {n : Nat} {p : Nat → Bool} (h : (List.range n).all p = true) (i : Nat) (hi : i < n) : p i = true:=by
 rw [List.all_eq_true] at h
 exact h i (by simpa using hi)
theorem all_of {n : Nat} {p : Nat → Bool} (h : ∀ j,j < n → p j = true) : (List.range n).all p = true:=by
 rw [List.all_eq_true]
 intro i hi
 exact h i (by simpa using hi)
theorem all_false {n : Nat} {p : Nat → Bool} {i : Nat} (hi : i < n) (h : p i = false) : (List.range n).all p = false:=by
 cases hv : (List.range n).all p with
 | false=>rfl
 | true=>rw [all_at hv i hi] at h;cases h
theorem lnkB_in {h : List Fau} {f u : Int} (hb : lnkB h f u = true) : -1 ≤ u ∧ u < (h.length : Int):=by
 unfold lnkB hasF at hb
 simp only [Bool.or_eq_true,Bool.and_eq_true,beq_iff_eq,decide_eq_true_eq] at hb
 omega
theorem fsH_ctx {t : List Cls} {h : List Fau} (hf : fsH t h = true) (x : Int) (h0 : 0 ≤ x) (h1 : x < (h.length : Int)) : -1 ≤ ctxN h x ∧ ctxN h x < (h.length : Int):=by
 have:=all_at hf x.toNat (by omega)
 unfold okF at this
 simp only [Bool.and_eq_true] at this
 exact lnkB_in this.2.2.2
theorem fsH_cause {t : List Cls} {h : List Fau} (hf : fsH t h = true) (x : Int) (h0 : 0 ≤ x) (h1 : x < (h.length : Int)) : -1 ≤ (h.getD x.toNat z43).f2 ∧ (h.getD x.toNat z43).f2 < (h.length : Int):=by
 have:=all_at hf x.toNat (by omega)
 unfold okF at this
 simp only [Bool.and_eq_true] at this
 exact lnkB_in this.2.2.1
theorem fsH_shw {t : List Cls} {h : List Fau} (hf : fsH t h = true) (x : Int) (h0 : 0 ≤ x) (h1 : x < (h.length : Int)) : -1 ≤ shwN h x ∧ shwN h x < (h.length : Int):=by
 have a:=fsH_ctx hf x h0 h1
 have b:=fsH_cause hf x h0 h1
 unfold ctxN at a
 unfold shwN
 split
 ·exact b
 ·split
  ·omega
  ·exact a
theorem vH_parts {t : List Cls} {h : List Fau} (hv : vH t h = true) : fsH t h = true ∧ esH h = true ∧ vT t = true ∧ h.length ≤ 24:=by
 unfold vH at hv
 simp only [Bool.and_eq_true,decide_eq_true_eq] at hv
 exact hv
theorem walkL_stop (next : Int → Int) (d : Nat) (out : List Int) (f : Int) (h : ¬ (0 ≤ f ∧ out.contains f = false)) : walkL next d out f = out:=by
 cases d with
 | zero=>rfl
 | succ d=>rw [walkL,if_neg h]
theorem ctxL_mem {h : List Fau} (hc : ∀ x : Int,0 ≤ x → x < (h.length : Int) → ctxN h x < (h.length : Int)) (f : Int) (hf : f < (h.length : Int)) : ∀ x ∈ ctxL h f,0 ≤ x ∧ x < (h.length : Int) :=
 walkL_mem (ctxN h) h.length hc h.length [] f hf (fun x hx=>absurd hx (by simp))
theorem ctxL_len (h : List Fau) (f : Int) : (ctxL h f).length ≤ h.length:=by
 have:=walkL_len (ctxN h) h.length [] f
 simpa [ctxL] using this
theorem ctxL_pos (h : List Fau) (f : Int) (h0 : 0 ≤ f) (hf : f < (h.length : Int)) : 1 ≤ (ctxL h f).length:=by
 unfold ctxL
 obtain ⟨n,hn⟩ : ∃ n,h.length = n + 1:=⟨h.length - 1,by omega⟩
 rw [hn]
 exact walkL_pos (ctxN h) n f h0
theorem shwL_mem {h : List Fau} (hc : ∀ x : Int,0 ≤ x → x < (h.length : Int) → shwN h x < (h.length : Int)) (f : Int) (hf : f < (h.length : Int)) : ∀ x ∈ shwL h f,0 ≤ x ∧ x < (h.length : Int) :=
 walkL_mem (shwN h) h.length hc h.length [] f hf (fun x hx=>absurd hx (by simp))
theorem shwL_len (h : List Fau) (f : Int) : (shwL h f).length ≤ h.length:=by
 have:=walkL_len (shwN h) h.length [] f
 simpa [shwL] using this
theorem shwL_pos (h : List Fau) (f : Int) (h0 : 0 ≤ f) (hf : f < (h.length : Int)) : 1 ≤ (shwL h f).length:=by
 unfold shwL
 obtain ⟨n,hn⟩ : ∃ n,h.length = n + 1:=⟨h.length - 1,by omega⟩
 rw [hn]
 exact walkL_pos (shwN h) n f h0
theorem lastI_mem {l : List Int} (h : 1 ≤ l.length) : lastI l ∈ l:=by
 unfold lastI
 rw [List.getD_eq_getElem?_getD,List.getElem?_eq_getElem (show l.length - 1 < l.length by omega)]
 exact List.getElem_mem _
end Go.Proofs.Ytmiholmfbjalfaa.P
namespace Go.Proofs.Ytmiholmfbjalfaa.P
open Go.RowKit Go.Proofs.YtmiholmfbjalfaaW.PrintWords Go.Proofs.YtmiholmfbjalfaaW.PrintLast Go.Proofs.YtmiholmfbjalfaaW.PrintMore
attribute [local go_sem] max2_int min2_int max_two min_two max_three min_three max_four min_four
set_option linter.unusedVariables false
set_option linter.unusedSimpArgs false
def fauAt (h : List Fau) (f : Int) : Fau:=h.getD f.toNat z43
def hidP (t : List Cls) (h : List Fau) (f : Int) (b : Bool) : List Fau × Bool:=if (vH t h && hasF h f) = true then (h.set f.toNat ⟨(fauAt h f).f0,(fauAt h f).f1,(fauAt h f).f2,(fauAt h f).f3,b⟩,true) else ([],false)
theorem hidP_len (t : List Cls) (h : List Fau) (f : Int) (b : Bool) : (hidP t h f b).1.length ≤ h.length:=by
 unfold hidP
 split
 ·simp
 ·simp
def cauP (t : List Cls) (h : List Fau) (f c : Int) : List Fau × Bool:=if ((vH t h && hasF h f) && ((c == -1) || (hasF h c && !(c == f)))) = true then (h.set f.toNat ⟨(fauAt h f).f0,(fauAt h f).f1,c,(fauAt h f).f3,true⟩,true) else ([],false)
theorem cauP_len (t : List Cls) (h : List Fau) (f c : Int) : (cauP t h f c).1.length ≤ h.length:=by
 unfold cauP
 split
 ·simp
 ·simp
def newP (t : List Cls) (h : List Fau) (a c : Int) : List Fau × Int × Bool:=if (vH t h && vH t (h ++ [⟨a,c,-1,-1,false⟩])) = true then (h ++ [⟨a,c,-1,-1,false⟩],(h.length : Int),true) else ([],-1,false)
theorem newP_len (t : List Cls) (h : List Fau) (a c : Int) : (newP t h a c).1.length ≤ h.length + 1:=by
 unfold newP
 split
 ·simp
 ·simp
def staP (t : List Cls) (e v : Int) (h : List Fau) : Bool × Int × Int × Bool:=if vT t = true then (if e = 0 then (false,0,0,true) else if e = 2 ∧ (vH t h && hasF h v) = true then (true,(fauAt h v).f0,(fauAt h v).f1,true) else (false,0,0,false)) else (false,0,0,false)
end Go.Proofs.Ytmiholmfbjalfaa.P
namespace Go.Proofs.Ytmiholmfbjalfaa.P
open Go.RowKit Go.Proofs.YtmiholmfbjalfaaW.PrintWords Go.Proofs.YtmiholmfbjalfaaW.PrintLast Go.Proofs.YtmiholmfbjalfaaW.PrintMore
attribute [local go_sem] max2_int min2_int max_two min_two max_three min_three max_four min_four
set_option linter.unusedVariables false
set_option linter.unusedSimpArgs false
def setC (h : List Fau) (x c : Int) : List Fau:=h.set x.toNat ⟨(fauAt h x).f0,(fauAt h x).f1,(fauAt h x).f2,c,(fauAt h x).f4⟩
def cutL (f : Int) : List Int → List Fau → List Fau
 | [],h=>h
 | x :: r,h=>cutL f r (if ctxN h x = f then setC h x (-1) else h)
def cutF (f : Int) : List Int → List Fau → List Fau
 | [],h=>h
 | x :: r,h=>if ctxN h x = f then setC h x (-1) else cutF f r h
def chainL (next : Int → Int) : Nat → List Int → Int → List Int
 | 0,_,_=>[]
 | k + 1,out,f=>if 0 ≤ f ∧ out.contains f = false then f :: chainL next k (out ++ [f]) (next f) else []
theorem walkL_chain (next : Int → Int) : ∀ (d : Nat) (out : List Int) (f : Int),walkL next d out f = out ++ chainL next d out f:=by
 intro d
 induction d with
 | zero=>intro out f;simp [walkL,chainL]
 | succ d ih =>
  intro out f
  rw [walkL,chainL]
  split
  ·rw [ih,List.append_assoc];rfl
  ·simp
def whlP (h : List Fau) (f g : Int) : List Fau:=if f = g then h else setC (cutL f (ctxL h g) h) f g
theorem setC_len (h : List Fau) (x c : Int) : (setC h x c).length = h.length:=by simp [setC]
theorem cutL_len (f : Int) : ∀ (r : List Int) (h : List Fau),(cutL f r h).length = h.length:=by
 intro r
 induction r with
 | nil=>intro h;rfl
 | cons x r ih =>
  intro h
  rw [cutL,ih]
  split
  ·exact setC_len _ _ _
  ·rfl
theorem ctxN_setC {h : List Fau} {x y c : Int} (hx : 0 ≤ x) (hy : 0 ≤ y) (hn : y ≠ x) : ctxN (setC h x c) y = ctxN h y:=by
 have : x.toNat ≠ y.toNat:=by omega
 simp [ctxN,setC,this]
theorem chain_free (h : List Fau) (n : Nat) (f : Int) (hf : 0 ≤ f) : ∀ (d : Nat) (out : List Int) (x : Int),out.contains f = true → (chainL (ctxN h) d out x ≠ [] → ctxN h (lastI (chainL (ctxN h) d out x)) < 0) → ∀ y ∈ chainL (ctxN h) d out x,ctxN h y ≠ f:=by
 intro d
 induction d with
 | zero=>intro out x _ _ y hy;simp [chainL] at hy
 | succ d ih =>
  intro out x ho hl y hy
  rw [chainL] at hy hl
  by_cases hc : 0 ≤ x ∧ out.contains x = false
  ·rw [if_pos hc] at hy hl
   have ho2 : (out ++ [x]).contains f = true:=by
    rw [List.contains_iff_mem] at ho ⊢
    exact List.mem_append_left _ ho
   have hlast : ∀ z r,chainL (ctxN h) d (out ++ [x]) (ctxN h x) = z :: r → lastI (x :: z :: r) = lastI (z :: r):=by
    intro z r _
    simp [lastI]
   cases hr : chainL (ctxN h) d (out ++ [x]) (ctxN h x) with
   | nil =>
    rw [hr] at hy hl
    obtain rfl : y = x:=by simpa using hy
    have:=hl (by simp)
    have e : lastI [y] = y:=by simp [lastI]
    rw [e] at this
    omega
   | cons z r =>
    rw [hr] at hy hl
    rcases List.mem_cons.1 hy with rfl | hy
    ·intro he
     rw [he] at hr
     cases d with
     | zero=>simp [chainL] at hr
     | succ d =>
      rw [chainL,if_neg (by rw [ho2];simp)] at hr
      cases hr
    ·refine ih (out ++ [x]) (ctxN h x) ho2 (fun _=>?_) y (by rw [hr];exact hy)
     rw [hr,← hlast z r hr]
     exact hl (by simp)
  ·rw [if_neg hc] at hy
   cases hy
theorem chain_mem (next : Int → Int) : ∀ (d : Nat) (out : List Int) (x : Int),∀ y ∈ chainL next d out x,0 ≤ y ∧ out.contains y = false:=by
 intro d
 induction d with
 | zero=>intro out x y hy;simp [chainL] at hy
 | succ d ih =>
  intro out x y hy
  rw [chainL] at hy
  by_cases hc : 0 ≤ x ∧ out.contains x = false
  ·rw [if_pos hc] at hy
   rcases List.mem_cons.1 hy with rfl | hy
   ·exact hc
   ·obtain ⟨h0,h1⟩:=ih _ _ y hy
    refine ⟨h0,?_⟩
    cases h2 : out.contains y with
    | false=>rfl
    | true =>
     rw [List.contains_iff_mem] at h2
     rw [show (out ++ [x]).contains y = true by rw [List.contains_iff_mem];exact List.mem_append_left _ h2] at h1
     cases h1
  ·rw [if_neg hc] at hy
   cases hy
theorem cutL_none (f : Int) : ∀ (r : List Int) (h : List Fau),(∀ y ∈ r,ctxN h y ≠ f) → cutL f r h = h:=by
 intro r
 induction r with
 | nil=>intro h _;rfl
 | cons x r ih =>
  intro h hn
  rw [cutL,if_neg (hn x (by simp))]
  exact ih h (fun y hy=>hn y (by simp [hy]))
theorem lastI_cons (x z : Int) (r : List Int) : lastI (x :: z :: r) = lastI (z :: r):=by simp [lastI]
theorem cut_one (h : List Fau) (f : Int) (hf : 0 ≤ f) (hs : ctxN h f ≠ f) : ∀ (d : Nat) (out : List Int) (x : Int),(chainL (ctxN h) d out x ≠ [] → ctxN h (lastI (chainL (ctxN h) d out x)) < 0) → cutL f (chainL (ctxN h) d out x) h = cutF f (chainL (ctxN h) d out x) h:=by
 intro d
 induction d with
 | zero=>intro out x _;rfl
 | succ d ih =>
  intro out x hl
  rw [chainL] at hl ⊢
  by_cases hc : 0 ≤ x ∧ out.contains x = false
  ·rw [if_pos hc] at hl ⊢
   rw [cutL,cutF]
   have hl2 : chainL (ctxN h) d (out ++ [x]) (ctxN h x) ≠ [] → ctxN h (lastI (chainL (ctxN h) d (out ++ [x]) (ctxN h x))) < 0:=by
    intro hne
    cases hr : chainL (ctxN h) d (out ++ [x]) (ctxN h x) with
    | nil=>exact absurd hr hne
    | cons z r =>
     rw [hr] at hl
     have:=hl (by simp)
     rw [lastI_cons] at this
     exact this
   by_cases he : ctxN h x = f
   ·rw [if_pos he,if_pos he]
    refine cutL_none f _ _ (fun y hy=>?_)
    have hm:=chain_mem _ _ _ _ y hy
    have hyx : y ≠ x:=by
     rintro rfl
     rw [show (out ++ [y]).contains y = true by rw [List.contains_iff_mem];simp] at hm
     cases hm.2
    rw [ctxN_setC hc.1 hm.1 hyx]
    rw [he] at hy hl2
    cases d with
    | zero=>simp [chainL] at hy
    | succ d =>
     rw [chainL] at hy hl2
     by_cases hc2 : 0 ≤ f ∧ (out ++ [x]).contains f = false
     ·rw [if_pos hc2] at hy hl2
      rcases List.mem_cons.1 hy with rfl | hy
      ·exact hs
      ·refine chain_free h h.length f hf d (out ++ [x] ++ [f]) (ctxN h f) (by rw [List.contains_iff_mem];simp) (fun hne=>?_) y hy
       cases hr : chainL (ctxN h) d (out ++ [x] ++ [f]) (ctxN h f) with
       | nil=>exact absurd hr hne
       | cons z r =>
        rw [hr] at hl2
        have:=hl2 (by simp)
        rw [lastI_cons] at this
        exact this
     ·rw [if_neg hc2] at hy
      cases hy
   ·rw [if_neg he,if_neg he]
    exact ih _ _ hl2
  ·rw [if_neg hc]
   rfl
end Go.Proofs.Ytmiholmfbjalfaa.P
namespace Go.Proofs.Ytmiholmfbjalfaa.P
open Go.RowKit Go.Proofs.YtmiholmfbjalfaaW.PrintWords Go.Proofs.YtmiholmfbjalfaaW.PrintLast Go.Proofs.YtmiholmfbjalfaaW.PrintMore
attribute [local go_sem] max2_int min2_int max_two min_two max_three min_three max_four min_four
set_option linter.unusedVariables false
set_option linter.unusedSimpArgs false
def stp (next : Int → Int) : Nat → Int → Prop
 | 0,x=>x < 0
 | n + 1,x=>x < 0 ∨ stp next n (next x)
def itL (next : Int → Int) : Nat → Int → List Int
 | 0,_=>[]
 | n + 1,x=>if 0 ≤ x then x :: itL next n (next x) else []
theorem stp_neg (next : Int → Int) (n : Nat) (x : Int) (h : x < 0) : stp next n x:=by
 cases n with
 | zero=>exact h
 | succ n=>exact Or.inl h
theorem stp_mono (next : Int → Int) : ∀ (n : Nat) (x : Int),stp next n x → stp next (n + 1) x:=by
 intro n
 induction n with
 | zero=>intro x h;exact Or.inl h
 | succ n ih =>
  intro x h
  rcases h with h | h
  ·exact Or.inl h
  ·exact Or.inr (ih _ h)
theorem stp_le (next : Int → Int) {n m : Nat} (x : Int) (h : n ≤ m) (hs : stp next n x) : stp next m x:=by
 obtain ⟨d,rfl⟩:=Nat.exists_eq_add_of_le h
 clear h
 induction d with
 | zero=>exact hs
 | succ d ih=>exact stp_mono next _ x ih
theorem chain_stp (next : Int → Int) : ∀ (d : Nat) (out : List Int) (x : Int),0 ≤ x → chainL next d out x ≠ [] → next (lastI (chainL next d out x)) < 0 → stp next (d + 1) x:=by
 intro d
 induction d with
 | zero=>intro out x _ hne;exact absurd rfl hne
 | succ d ih =>
  intro out x h0 hne hl
  rw [chainL] at hne hl
  by_cases hc : 0 ≤ x ∧ out.contains x = false
  ·rw [if_pos hc] at hne hl
   refine Or.inr ?_
   cases hr : chainL next d (out ++ [x]) (next x) with
   | nil =>
    rw [hr] at hl
    have e : lastI [x] = x:=by simp [lastI]
    rw [e] at hl
    exact stp_neg next _ _ hl
   | cons z r =>
    rw [hr,lastI_cons,← hr] at hl
    by_cases h1 : 0 ≤ next x
    ·exact ih (out ++ [x]) (next x) h1 (by rw [hr];simp) hl
    ·exact stp_neg next _ _ (by omega)
  ·rw [if_neg hc] at hne
   exact absurd rfl hne
theorem stp_least (next : Int → Int) (n : Nat) (x : Int) (h : stp next n x) : ∃ m,m ≤ n ∧ stp next m x ∧ (∀ k,k < m → ¬ stp next k x):=by
 induction n using Nat.strongRecOn with
 | ind n ih =>
  by_cases hk : ∃ k,k < n ∧ stp next k x
  ·obtain ⟨k,hk,hs⟩:=hk
   obtain ⟨m,hm,h1,h2⟩:=ih k hk hs
   exact ⟨m,by omega,h1,h2⟩
  ·exact ⟨n,Nat.le_refl _,h,fun k hkn hs=>hk ⟨k,hkn,hs⟩⟩
theorem itL_more (next : Int → Int) : ∀ (n m : Nat) (x : Int),stp next n x → n ≤ m → itL next m x = itL next n x:=by
 intro n
 induction n with
 | zero =>
  intro m x h _
  cases m with
  | zero=>rfl
  | succ m =>
   have h' : x < 0:=h
   simp only [itL]
   rw [if_neg (by omega)]
 | succ n ih =>
  intro m x h hm
  obtain ⟨m,rfl⟩ : ∃ j,m = j + 1:=⟨m - 1,by omega⟩
  rw [itL,itL]
  by_cases h0 : 0 ≤ x
  ·rw [if_pos h0,if_pos h0]
   rcases h with h | h
   ·omega
   ·rw [ih m _ h (by omega)]
  ·rw [if_neg h0,if_neg h0]
theorem chain_it (next : Int → Int) (N : Nat) (hn : ∀ x : Int,0 ≤ x → x < (N : Int) → next x < (N : Int)) : ∀ (d : Nat) (out : List Int) (x : Int) (n : Nat),x < (N : Int) → stp next n x → (∀ y ∈ out,¬ stp next n y) → restN N out ≤ d → chainL next d out x = itL next n x:=by
 intro d
 induction d with
 | zero =>
  intro out x n hx hs ho hr
  rw [chainL]
  by_cases h0 : 0 ≤ x
  ·have:=restN_zero (n:=N) (out:=out) h0 hx (by omega)
   rw [List.contains_iff_mem] at this
   exact absurd hs (ho x this)
  ·cases n with
   | zero=>rfl
   | succ n=>rw [itL,if_neg h0]
 | succ d ih =>
  intro out x n hx hs ho hr
  rw [chainL]
  by_cases h0 : 0 ≤ x
  ·have hno : out.contains x = false:=by
    cases hq : out.contains x with
    | false=>rfl
    | true=>rw [List.contains_iff_mem] at hq;exact absurd hs (ho x hq)
   rw [if_pos ⟨h0,hno⟩]
   obtain ⟨m,hm,h1,h2⟩:=stp_least next n x hs
   obtain ⟨k,rfl⟩ : ∃ k,m = k + 1:=⟨m - 1,by
    cases m with
    | zero=>simp [stp] at h1;omega
    | succ m=>omega⟩
   obtain ⟨n,rfl⟩ : ∃ j,n = j + 1:=⟨n - 1,by omega⟩
   rw [itL,if_pos h0]
   have h3 : stp next k (next x):=by
    rcases h1 with h1 | h1
    ·omega
    ·exact h1
   rw [itL_more next k n _ h3 (by omega)]
   rw [ih (out ++ [x]) (next x) k (hn x h0 hx) h3 (fun y hy=>?_) (by have:=restN_lt h0 hx hno;omega)]
   rcases List.mem_append.1 hy with hy | hy
   ·exact fun hs2=>ho y hy (stp_le next y (by omega) hs2)
   ·obtain rfl : y = x:=by simpa using hy
    exact h2 k (by omega)
  ·rw [if_neg (fun hh=>h0 hh.1)]
   cases n with
   | zero=>rfl
   | succ n=>rw [itL,if_neg h0]
theorem walk_it (next : Int → Int) (N : Nat) (hn : ∀ x : Int,0 ≤ x → x < (N : Int) → next x < (N : Int)) (x : Int) (n : Nat) (hx : x < (N : Int)) (hs : stp next n x) : walkL next N [] x = itL next n x:=by
 rw [walkL_chain,chain_it next N hn N [] x n hx hs (fun y hy=>absurd hy (by simp)) (restN_le _ _)]
 rfl
theorem itL_last (next : Int → Int) : ∀ (n : Nat) (x : Int),0 ≤ x → stp next n x → itL next n x ≠ [] ∧ next (lastI (itL next n x)) < 0:=by
 intro n
 induction n with
 | zero=>intro x h0 h;simp [stp] at h;omega
 | succ n ih =>
  intro x h0 h
  rw [itL,if_pos h0]
  refine ⟨by simp,?_⟩
  rcases h with h | h
  ·omega
  ·by_cases h1 : 0 ≤ next x
   ·obtain ⟨h2,h3⟩:=ih _ h1 h
    cases hr : itL next n (next x) with
    | nil=>exact absurd hr h2
    | cons z r=>rw [lastI_cons,← hr];exact h3
   ·have : itL next n (next x) = []:=by
     cases n with
     | zero=>rfl
     | succ n=>rw [itL,if_neg h1]
    rw [this]
    have e : lastI [x] = x:=by simp [lastI]
    rw [e]
    omega
theorem end_stp {h : List Fau} {f : Nat} (he : endB h f = true) (hl : f < h.length) : stp (ctxN h) (h.length + 1) (f : Int):=by
 unfold endB at he
 have he:=of_decide_eq_true he
 have hcl : ctxL h (f : Int) = chainL (ctxN h) h.length [] (f : Int):=by
  unfold ctxL
  rw [walkL_chain]
  rfl
 have hp:=ctxL_pos h (f : Int) (by omega) (by omega)
 rw [hcl] at he hp
 refine chain_stp _ _ [] _ (by omega) (fun hn=>?_) he
 rw [hn] at hp
 simp at hp
theorem stp_end {h : List Fau} {f : Nat} (n : Nat) (hc : ∀ x : Int,0 ≤ x → x < (h.length : Int) → ctxN h x < (h.length : Int)) (hs : stp (ctxN h) n (f : Int)) (hl : f < h.length) : endB h f = true:=by
 unfold endB ctxL
 rw [walk_it _ _ hc _ n (by omega) hs]
 exact decide_eq_true (itL_last _ n _ (by omega) hs).2
theorem vH_stp {t : List Cls} {h : List Fau} (hv : vH t h = true) (x : Int) (hx : x < (h.length : Int)) : stp (ctxN h) (h.length + 1) x:=by
 by_cases h0 : 0 ≤ x
 ·have:=end_stp (all_at (vH_parts hv).2.1 x.toNat (by omega)) (by omega)
  rwa [show ((x.toNat : Nat) : Int) = x by omega] at this
 ·exact stp_neg _ _ _ (by omega)
theorem ctxL_it {t : List Cls} {h : List Fau} (hv : vH t h = true) (x : Int) (hx : x < (h.length : Int)) : ctxL h x = itL (ctxN h) (h.length + 1) x :=
 walk_it _ _ (fun y a b=>(fsH_ctx (vH_parts hv).1 y a b).2) _ _ hx (vH_stp hv x hx)
theorem vH_mk {t : List Cls} {h : List Fau} (hf : fsH t h = true) (hs : ∀ f,f < h.length → ∃ n,stp (ctxN h) n (f : Int)) (ht : vT t = true) (hl : h.length ≤ 24) : vH t h = true:=by
 unfold vH
 rw [hf,ht,decide_eq_true hl,Bool.true_and,Bool.and_true,Bool.and_true]
 refine all_of (fun j hj=>?_)
 obtain ⟨n,hn⟩:=hs j hj
 exact stp_end n (fun y a b=>(fsH_ctx hf y a b).2) hn hj
theorem itL_mem (next : Int → Int) : ∀ (n : Nat) (x : Int),∀ y ∈ itL next n x,0 ≤ y:=by
 intro n
 induction n with
 | zero=>intro x y hy;simp [itL] at hy
 | succ n ih =>
  intro x y hy
  rw [itL] at hy
  split at hy
  ·rcases List.mem_cons.1 hy with rfl | hy
   ·assumption
   ·exact ih _ y hy
  ·simp at hy
theorem fauAt_set_ne {h : List Fau} {x y : Int} {v : Fau} (hx : 0 ≤ x) (hy : 0 ≤ y) (hn : y ≠ x) : fauAt (h.set x.toNat v) y = fauAt h y:=by
 have : x.toNat ≠ y.toNat:=by omega
 simp [fauAt,this]
theorem fauAt_set_eq {h : List Fau} {x : Int} {v : Fau} (h0 : 0 ≤ x) (h1 : x < (h.length : Int)) : fauAt (h.set x.toNat v) x = v:=by
 have : x.toNat < h.length:=by omega
 simp [fauAt,this]
theorem ctxN_fau (h : List Fau) (x : Int) : ctxN h x = (fauAt h x).f3:=rfl
theorem vH_same {t : List Cls} {h k : List Fau} (hv : vH t h = true) (hl : k.length = h.length) (he : ∀ x : Int,0 ≤ x → x < (h.length : Int) → (fauAt k x).f0 = (fauAt h x).f0 ∧ (fauAt k x).f1 = (fauAt h x).f1 ∧ (fauAt k x).f3 = (fauAt h x).f3 ∧ lnkB h x (fauAt k x).f2 = true) : vH t k = true:=by
 obtain ⟨hfs,hes,ht,hn⟩:=vH_parts hv
 have hc : ∀ x : Int,0 ≤ x → x < (h.length : Int) → ctxN h x = ctxN k x:=fun x a b=>(he x a b).2.2.1.symm
 refine vH_mk ?_ (fun f hf=>?_) ht (by omega)
 ·refine all_of (fun j hj=>?_)
  have h1:=all_at hfs j (by omega)
  obtain ⟨e0,e1,e3,e2⟩:=he (j : Int) (by omega) (by omega)
  unfold okF at h1 ⊢
  simp only [fauAt,Int.toNat_natCast] at e0 e1 e2 e3
  have hlk : ∀ a u,lnkB k a u = lnkB h a u:=fun a u=>by unfold lnkB hasF;rw [hl]
  rw [hlk,hlk,e0,e1,e3,e2]
  simp only [Bool.and_eq_true,decide_eq_true_eq] at h1 ⊢
  exact ⟨h1.1,h1.2.1,trivial,h1.2.2.2⟩
 ·refine ⟨h.length + 1,?_⟩
  have key : ∀ (n : Nat) (x : Int),x < (h.length : Int) → stp (ctxN h) n x → stp (ctxN k) n x:=by
   intro n
   induction n with
   | zero=>intro x _ hs;exact hs
   | succ n ih =>
    intro x hx hs
    by_cases h0 : 0 ≤ x
    ·rcases hs with hs | hs
     ·omega
     ·refine Or.inr ?_
      rw [← hc x h0 hx]
      exact ih _ (fsH_ctx hfs x h0 hx).2 hs
    ·exact Or.inl (by omega)
  exact key _ _ (by omega) (vH_stp hv _ (by omega))
theorem lnkB_old {t : List Cls} {h : List Fau} (hv : vH t h = true) (x : Int) (h0 : 0 ≤ x) (h1 : x < (h.length : Int)) : lnkB h x (fauAt h x).f2 = true:=by
 have:=all_at (vH_parts hv).1 x.toNat (by omega)
 unfold okF at this
 simp only [Bool.and_eq_true] at this
 have h2:=this.2.2.1
 rwa [show ((x.toNat : Nat) : Int) = x by omega] at h2
theorem set_len (h : List Fau) (x : Int) (v : Fau) : (h.set x.toNat v).length = h.length:=by simp
theorem vH_hide {t : List Cls} {h : List Fau} (hv : vH t h = true) (f : Int) (b : Bool) (h0 : 0 ≤ f) (h1 : f < (h.length : Int)) : vH t (h.set f.toNat ⟨(fauAt h f).f0,(fauAt h f).f1,(fauAt h f).f2,(fauAt h f).f3,b⟩) = true:=by
 refine vH_same hv (set_len _ _ _) (fun x a c=>?_)
 by_cases e : x = f
 ·subst e
  rw [fauAt_set_eq h0 h1]
  exact ⟨rfl,rfl,rfl,lnkB_old hv x a c⟩
 ·rw [fauAt_set_ne h0 a e]
  exact ⟨rfl,rfl,rfl,lnkB_old hv x a c⟩
theorem vH_cause {t : List Cls} {h : List Fau} (hv : vH t h = true) (f c : Int) (b : Bool) (h0 : 0 ≤ f) (h1 : f < (h.length : Int)) (hc : lnkB h f c = true) : vH t (h.set f.toNat ⟨(fauAt h f).f0,(fauAt h f).f1,c,(fauAt h f).f3,b⟩) = true:=by
 refine vH_same hv (set_len _ _ _) (fun x a d=>?_)
 by_cases e : x = f
 ·subst e
  rw [fauAt_set_eq h0 h1]
  exact ⟨rfl,rfl,rfl,hc⟩
 ·rw [fauAt_set_ne h0 a e]
  exact ⟨rfl,rfl,rfl,lnkB_old hv x a d⟩
theorem ctxL_set {h : List Fau} (f : Int) (v : Fau) (h0 : 0 ≤ f) (h1 : f < (h.length : Int)) (hv : v.f3 = (fauAt h f).f3) (x : Int) : ctxL (h.set f.toNat v) x = ctxL h x:=by
 have e : ctxN (h.set f.toNat v) = ctxN h:=by
  funext y
  unfold ctxN
  by_cases hy : y.toNat = f.toNat
  ·rw [hy]
   have : f.toNat < h.length:=by omega
   simp [this]
   rw [hv]
   simp [fauAt,this]
  ·have : f.toNat ≠ y.toNat:=fun hh=>hy hh.symm
   simp [this]
 unfold ctxL
 rw [e,set_len]
end Go.Proofs.Ytmiholmfbjalfaa.P
namespace Go.Proofs.Ytmiholmfbjalfaa.P
open Go.RowKit Go.Proofs.YtmiholmfbjalfaaW.PrintWords Go.Proofs.YtmiholmfbjalfaaW.PrintLast Go.Proofs.YtmiholmfbjalfaaW.PrintMore
attribute [local go_sem] max2_int min2_int max_two min_two max_three min_three max_four min_four
set_option linter.unusedVariables false
set_option linter.unusedSimpArgs false
def t8 : List Cls:=[⟨⟨#[97]⟩,-1⟩,⟨⟨#[98]⟩,0⟩,⟨⟨#[99]⟩,0⟩,⟨⟨#[100]⟩,0⟩,⟨⟨#[101]⟩,0⟩,⟨⟨#[102]⟩,0⟩,⟨⟨#[103]⟩,0⟩,⟨⟨#[104]⟩,0⟩]
theorem vT_t8 : vT t8 = true:=by
 have e : ∀ n : ByteArray,named t8 n = idxP (fun x : Cls=>decide (x.f0 = n)) t8:=fun n=>by
  unfold named
  congr 1
  funext x
  exact toL_beq
 unfold vT okCls
 simp only [e]
 decide
theorem vH_nil {t : List Cls} (ht : vT t = true) : vH t [] = true:=by
 unfold vH
 rw [ht]
 rfl
theorem vH_add {t : List Cls} {h : List Fau} (hv : vH t h = true) (a c : Int) (ha : hasC t a = true) (h0 : 0 ≤ c) (h1 : c ≤ 99) (hl : h.length < 24) : vH t (h ++ [⟨a,c,-1,-1,false⟩]) = true:=by
 obtain ⟨hfs,hes,ht,hn⟩:=vH_parts hv
 have hlen : (h ++ [(⟨a,c,-1,-1,false⟩ : Fau)]).length = h.length + 1:=by simp
 have hlo : ∀ i,i < h.length → (h ++ [(⟨a,c,-1,-1,false⟩ : Fau)]).getD i z43 = h.getD i z43:=fun i hi=>by simp [List.getD,List.getElem?_append_left hi]
 have hhi : (h ++ [(⟨a,c,-1,-1,false⟩ : Fau)]).getD h.length z43 = ⟨a,c,-1,-1,false⟩:=by simp [List.getD]
 have hlk : ∀ f u,lnkB h f u = true → lnkB (h ++ [(⟨a,c,-1,-1,false⟩ : Fau)]) f u = true:=by
  intro f u hu
  unfold lnkB hasF at hu ⊢
  rw [hlen]
  simp only [Bool.or_eq_true,Bool.and_eq_true,beq_iff_eq,bne_iff_ne,decide_eq_true_eq] at hu ⊢
  omega
 have hctx : ∀ x : Int,0 ≤ x → x < (h.length : Int) → ctxN (h ++ [(⟨a,c,-1,-1,false⟩ : Fau)]) x = ctxN h x:=fun x a0 a1=>by
  unfold ctxN
  rw [hlo _ (by omega)]
 refine vH_mk (all_of (fun j hj=>?_)) (fun f hf=>?_) ht (by rw [hlen];omega)
 ·rw [hlen] at hj
  by_cases e : j < h.length
  ·have h2:=all_at hfs j e
   rw [hlo j e]
   unfold okF at h2 ⊢
   simp only [Bool.and_eq_true,decide_eq_true_eq] at h2 ⊢
   exact ⟨h2.1,h2.2.1,hlk _ _ h2.2.2.1,hlk _ _ h2.2.2.2⟩
  ·obtain rfl : j = h.length:=by omega
   rw [hhi]
   unfold okF lnkB
   simp [ha,h0,h1]
 ·rw [hlen] at hf
  by_cases e : f < h.length
  ·refine ⟨h.length + 1,?_⟩
   have key : ∀ (n : Nat) (x : Int),x < (h.length : Int) → stp (ctxN h) n x → stp (ctxN (h ++ [(⟨a,c,-1,-1,false⟩ : Fau)])) n x:=by
    intro n
    induction n with
    | zero=>intro x _ hs;exact hs
    | succ n ih =>
     intro x hx hs
     by_cases x0 : 0 ≤ x
     ·rcases hs with hs | hs
      ·omega
      ·refine Or.inr ?_
       rw [hctx x x0 hx]
       exact ih _ (fsH_ctx hfs x x0 hx).2 hs
     ·exact Or.inl (by omega)
   exact key _ _ (by omega) (vH_stp hv _ (by omega))
  ·obtain rfl : f = h.length:=by omega
   refine ⟨1,Or.inr ?_⟩
   show ctxN _ _ < 0
   unfold ctxN
   rw [Int.toNat_natCast,hhi]
   show (-1 : Int) < 0
   omega
theorem hasC_t8 {a : Int} (h0 : 0 ≤ a) (h1 : a < 8) : hasC t8 a = true:=by
 unfold hasC
 rw [Bool.and_eq_true,decide_eq_true_eq,decide_eq_true_eq]
 have : t8.length = 8:=rfl
 omega
theorem lnk_of {h : List Fau} {f g : Int} (g0 : 0 ≤ g) (g1 : g < (h.length : Int)) (hne : f ≠ g) : lnkB h f g = true:=by
 unfold lnkB hasF
 simp only [Bool.or_eq_true,Bool.and_eq_true,beq_iff_eq,bne_iff_ne,decide_eq_true_eq]
 right
 refine ⟨⟨g0,by omega⟩,fun e=>hne e.symm⟩
end Go.Proofs.Ytmiholmfbjalfaa.P
namespace Go.Proofs.Ytmiholmfbjalfaa.P
open Go.RowKit Go.Proofs.YtmiholmfbjalfaaW.PrintWords Go.Proofs.YtmiholmfbjalfaaW.PrintLast Go.Proofs.YtmiholmfbjalfaaW.PrintMore
attribute [local go_sem] max2_int min2_int max_two min_two max_three min_three max_four min_four
set_option linter.unusedVariables false
set_option linter.unusedSimpArgs false
def spec_reader_one.f (k : Nat) (s0_0 : List Int) (s0_1 : Int) (l1 : List Int) : Option (Int × Int):=(spec_reader_pick.f k s0_0 s0_1 (l1.length : Int)).bind fun bt1=>(if 0 ≤ bt1.1 then (if bt1.1 < (l1.length : Int) then (some (rd l1 bt1.1,bt1.2)) else (none)) else (none))
theorem spec_reader_one.mono : ∀ a0 a1 a2 k,LeO (spec_reader_one.f k a0 a1 a2) (spec_reader_one.f (k + 1) a0 a1 a2):=by
 intro a0 a1 a2 k
 unfold spec_reader_one.f
 repeat' first
   | (with_reducible exact spec_reader_pick.mono _ _ _ _)
   | (with_reducible exact LeO.refl _)
   | (with_reducible exact LeO.none _)
   | (with_reducible refine LeO.ite ?_ ?_)
   | (with_reducible refine LeO.bind ?_ (fun _=>?_))
   | exact spec_reader_pick.mono _ _ _ _
   | exact LeO.none _
   | refine LeO.ite ?_ ?_
   | refine LeO.bind ?_ (fun _=>?_)
set_option maxHeartbeats 8000000 in
set_option maxRecDepth 100000 in
theorem spec_reader_one.calls (k : Nat) (g : Nat) (s0_0 : List Int) (s0_1 : Int) (A1 : Option Addr) (c1 : Nat) (l1 : List Int) (r1 : Int) (r2 : Int) (w0 w : World) (hI : IsS76 w0 w g s0_0 s0_1) (hB : Below w0.heap.size w0 w) (hr1 : Kd.C (Kd.int .i64) w A1 l1.length l1) (hc1 : l1.length ≤ c1) (hf1 : ∀ ad,A1 = some ad → 0 < l1.length → ad.block ≠ g) (h : spec_reader_one.f k s0_0 s0_1 l1 = some (r1,r2)) :
  Calls Try.prog 42 #[.pointer (some ⟨g,0,none⟩),.slice A1 l1.length c1] w fun e w'=>e = .returned (.int .i64 r1) ∧ IsS76 w0 w' g s0_0 r2 ∧ Below w0.heap.size w0 w' ∧ KeepBut w w' g none:=by
 have HR1:=a0_ hr1
 have HC1:=a0_ hc1
 clear hr1 hc1
 have HI0:=a0_ hI
 have HK:=a0_ (KeepBut.refl w g none)
 have HL:=a0_ hB.size
 clear hI
 have HW0:=a0_ hB.size
 have HB:=a0_ hB
 clear hB
 have H : ((spec_reader_pick.f k s0_0 s0_1 (l1.length : Int)).bind fun bt1=>(if 0 ≤ bt1.1 then (if bt1.1 < (l1.length : Int) then (some (rd l1 bt1.1,bt1.2)) else (none)) else (none))) = some (r1,r2):=h
 clear h
 replace H:=Option.bind_eq_some_iff.mp H
 obtain ⟨⟨t1,t2⟩,A30,H⟩:=H
 try dsimp only at H
 have A3:=a0_ A30
 clear A30
 by_cases c4 : 0 ≤ t1
 ·rw [if_pos c4] at H
  have c4b0 : decide (0 ≤ t1) = true:=decide_eq_true c4
  clear c4
  by_cases c5 : t1 < (l1.length : Int)
  ·rw [if_pos c5] at H
   have c5b0 : decide (t1 < (l1.length : Int)) = true:=decide_eq_true c5
   clear c5
   simp only [Option.some.injEq,Prod.mk.injEq] at H
   obtain ⟨rfl,rfl⟩:=H
   go_enter Try.func42,Try.ntmps42
   go_wp2_with (first | ((with_reducible refine gate_callee (f:=48) rfl ?_);refine goesL_ (some 9) rfl rfl Try.func48 (by kernel_rfl) rfl #[.pointer (some ⟨g,0,none⟩),.int .i64 (l1.length : Int)] rfl lm_ ?_;(with_reducible refine (spec_reader_pick.calls k g s0_0 s0_1 (l1.length : Int) t1 t2 w0 _ ?side1 ?side2 A3.out).mono ?_);(case side1=>exact is0_);(case side2=>exact hbi0_);rintro e w6 ⟨rfl,hi,hb,hk⟩;refine ⟨_,rfl,?_⟩;replace HK:=a0_ (KeepBut.trans (w:=w) hk_ hk (.inl rfl));replace HI0:=a0_ (hi);replace HB:=a0_ (hb);(try clear hb);have p3 : 0 ≤ (t1 : Int):=of_decide_eq_true (by first | (with_reducible assumption) | assumption);have q3 : t1 < (l1.length : Int):=of_decide_eq_true (by first | (with_reducible assumption) | assumption);obtain ⟨ad3,e3,hx3_0⟩:=Kd.at_int HR1.out t1 p3 q3;cases e3;replace hx3_0:=keep_cell HK.out hx3_0 (by first | (rw [add_block];exact hf1 _ rfl (by omega)) | exact hf1 _ rfl (by omega) | exact hf1 ad3 rfl (by omega));replace p3:=eq_true p3;replace q3:=eq_true q3))
   go_ret
   exact ⟨by first | rfl | (simp [errW_none,errW_some] <;> rfl) | (simp [*,errW_none,errW_some] <;> rfl),is0_,hbi0_,hk_⟩
  ·rw [if_neg c5] at H
   exact absurd H (by simp)
 ·rw [if_neg c4] at H
  exact absurd H (by simp)
theorem spec_one_ev (b : List Int) (p : Int) (l : List Int) (hb : byL b) (h0 : 0 ≤ p) (hp : p ≤ 1099511627776) (hl : 1 ≤ l.length) : ∃ x,Ev (fun k=>spec_reader_one.f k b p l) (x,p + 1) ∧ x ∈ l:=by
 obtain ⟨x,hx,x0,x1,_⟩:=spec_pick_ev b p (l.length : Int) hb h0 hp
 have hlt:=x1 (by omega)
 have hn : x.toNat < l.length:=by omega
 refine ⟨rd l x,Ev.bind hx (Ev.pos x0 (Ev.pos hlt (Ev.const rfl))),?_⟩
 unfold rd
 rw [List.getD_eq_getElem?_getD,List.getElem?_eq_getElem hn]
 exact List.getElem_mem hn
end Go.Proofs.Ytmiholmfbjalfaa.P
namespace Go.Proofs.Ytmiholmfbjalfaa.P
open Go.RowKit Go.Proofs.YtmiholmfbjalfaaW.PrintWords Go.Proofs.YtmiholmfbjalfaaW.PrintLast Go.Proofs.YtmiholmfbjalfaaW.PrintMore
attribute [local go_sem] max2_int min2_int max_two min_two max_three min_three max_four min_four
set_option linter.unusedVariables false
set_option linter.unusedSimpArgs false
def spec_aClass.f (k : Nat) (s0_0 : List Int) (s0_1 : Int) (l1_0 : List (S87)) : Option (Int × Int):=(spec_reader_pick.f k s0_0 s0_1 16).bind fun bt2=>(if bt2.1 = 0 then ((spec_reader_one.f k s0_0 bt2.2 (([(-1),(l1_0.length : Int),8] : List Int))).bind fun bt7=>(some (bt7.1,bt7.2))) else ((spec_reader_pick.f k s0_0 bt2.2 (l1_0.length : Int)).bind fun bt9=>(some (bt9.1,bt9.2))))
theorem spec_aClass.mono : ∀ a0 a1 a2 k,LeO (spec_aClass.f k a0 a1 a2) (spec_aClass.f (k + 1) a0 a1 a2):=by
 intro a0 a1 a2 k
 unfold spec_aClass.f
 repeat' first
   | (with_reducible exact spec_reader_one.mono _ _ _ _)
   | (with_reducible exact spec_reader_pick.mono _ _ _ _)
   | (with_reducible exact LeO.refl _)
   | (with_reducible exact LeO.none _)
   | (with_reducible refine LeO.ite ?_ ?_)
   | (with_reducible refine LeO.bind ?_ (fun _=>?_))
   | exact spec_reader_one.mono _ _ _ _
   | exact spec_reader_pick.mono _ _ _ _
   | exact LeO.none _
   | refine LeO.ite ?_ ?_
   | refine LeO.bind ?_ (fun _=>?_)
set_option maxHeartbeats 8000000 in
set_option maxRecDepth 100000 in
theorem spec_aClass.calls (k : Nat) (g : Nat) (s0_0 : List Int) (s0_1 : Int) (A1_0 : Option Addr) (c1_0 : Nat) (l1_0 : List (S87)) (r1 : Int) (r2 : Int) (w0 w : World) (hI : IsS76 w0 w g s0_0 s0_1) (hB : Below w0.heap.size w0 w) (hr1_0 : ∀ W_,KeepBut w W_ g none → Kd.C k87 W_ A1_0 l1_0.length l1_0) (hc1_0 : l1_0.length ≤ c1_0) (h : spec_aClass.f k s0_0 s0_1 l1_0 = some (r1,r2)) :
  Calls Try.prog 41 #[.pointer (some ⟨g,0,none⟩),.agg #[.slice A1_0 l1_0.length c1_0]] w fun e w'=>e = .returned (.int .i64 r1) ∧ IsS76 w0 w' g s0_0 r2 ∧ Below w0.heap.size w0 w' ∧ KeepBut w w' g none:=by
 have hu25:=Try.underlying25
 have HR1_0:=a0_ hr1_0
 have HC1_0:=a0_ hc1_0
 clear hr1_0 hc1_0
 have HI0:=a0_ hI
 have HK:=a0_ (KeepBut.refl w g none)
 have HL:=a0_ hB.size
 clear hI
 have HW0:=a0_ hB.size
 have HB:=a0_ hB
 clear hB
 have H : ((spec_reader_pick.f k s0_0 s0_1 16).bind fun bt2=>(if bt2.1 = 0 then ((spec_reader_one.f k s0_0 bt2.2 (([(-1),(l1_0.length : Int),8] : List Int))).bind fun bt7=>(some (bt7.1,bt7.2))) else ((spec_reader_pick.f k s0_0 bt2.2 (l1_0.length : Int)).bind fun bt9=>(some (bt9.1,bt9.2))))) = some (r1,r2):=h
 clear h
 replace H:=Option.bind_eq_some_iff.mp H
 obtain ⟨⟨t2,t3⟩,A30,H⟩:=H
 try dsimp only at H
 have A3:=a0_ A30
 clear A30
 by_cases c4 : t2 = 0
 ·rw [if_pos c4] at H
  have c4b0 : (t2 == 0) = true:=beq_iff_eq.mpr c4
  have c4b1 : (t2 != 0) = false:=bne_eq_false_iff_eq.mpr c4
  clear c4
  obtain ⟨y4,hy4⟩ : ∃ y_ : List Int,y_ = (([(-1),(l1_0.length : Int),8] : List Int)):=⟨_,rfl⟩
  replace H : ((spec_reader_one.f k s0_0 t3 y4).bind fun bt7=>(some (bt7.1,bt7.2))) = some (r1,r2):=by first | (rw [hy4];with_reducible exact H) | (have H2_:=(Option.bind_some _ _).symm.trans H;rw [hy4];with_reducible exact H2_) | (have H2_:=(Option.bind_some _ _).symm.trans H;with_reducible exact H2_) | with_reducible exact H | (rw [hy4];exact H) | exact H
  have Ny4:=a0_ hy4
  clear hy4
  replace H:=Option.bind_eq_some_iff.mp H
  obtain ⟨⟨t7,t8⟩,A50,H⟩:=H
  replace H : (some (t7,t8)) = some (r1,r2):=H
  have A5:=a0_ A50
  clear A50
  simp only [Option.some.injEq,Prod.mk.injEq] at H
  obtain ⟨rfl,rfl⟩:=H
  go_enter Try.func41,Try.ntmps41
  go_wp2_with (first | ((with_reducible refine gate_dst (N:=3) rfl ?_);refine box_event ?hg (N:=3) ?hd (cs:=#[.slice A1_0 l1_0.length c1_0]) (t:=25) ?hr ?_;(case hd=>rfl);(case hg=>rfl);(case hr=>first | (go_simp;done) | (go_simp;rfl));intro gb1 hg w6 hbox hb;have n0_:=a0_ (IsS76.below is0_ hb);have n1_:=a0_ (KeepBut.trans (w:=w) hk_ (KeepBut.of_below hb g none) (.inl rfl));have n2_:=a0_ (below_step hbi0_ hb);have n3_:=a0_ (hbox);have n4_:=a0_ ((by rw [hg];exact (keep_size (w:=w) (g:=g) (row:=none) hk_) : w.heap.size ≤ gb1));have n5_:=a0_ ((Nat.le_trans HW0.out (by rw [hg];exact (keep_size (w:=w) (g:=g) (row:=none) hk_) : w.heap.size ≤ gb1) : w0.heap.size ≤ gb1));have n6_:=a0_ ((by rw [hg];exact Nat.ne_of_lt (IsS76.lt (is0_ : IsS76 w0 _ g s0_0 s0_1)) : g ≠ gb1));have n7_:=a0_ ((by rw [hg];exact Nat.ne_of_gt (IsS76.lt (is0_ : IsS76 w0 _ g s0_0 s0_1)) : gb1 ≠ g));clear HI0 HK HB;have HI0:=n0_;have HK:=n1_;have HB:=n2_;have BK1:=n3_;have GW1:=n4_;have GE1:=n5_;have NB0_1:=n6_;have NB1_0:=n7_;clear n0_ n1_ n2_ n3_ n4_ n5_ n6_ n7_;clear hb hbox hg) | ((with_reducible refine gate_callee (f:=48) rfl ?_);refine goesL_ (some 6) rfl rfl Try.func48 (by kernel_rfl) rfl #[.pointer (some ⟨g,0,none⟩),.int .i64 16] rfl lm_ ?_;(with_reducible refine (spec_reader_pick.calls k g s0_0 s0_1 16 t2 t3 w0 _ ?side1 ?side2 A3.out).mono ?_);(case side1=>exact is0_);(case side2=>exact hbi0_);rintro e w7 ⟨rfl,hi,hb,hk⟩;refine ⟨_,rfl,?_⟩;replace BK1:=kk_ hk BK1 NB1_0;replace HK:=a0_ (KeepBut.trans (w:=w) hk_ hk (.inl rfl));replace HI0:=a0_ (hi);replace HB:=a0_ (hb);(try clear hb);have hnb8:=NB1_0.out;have hnc8:=NB0_1.out;have hcz9_0 : w7.cell? ⟨gb1,0,none⟩ = some (.slice A1_0 l1_0.length c1_0):=(blk_cell BK1.out 0).trans rfl;have hfz9_0:=blk_frozen BK1.out 0) | ((with_reducible refine gate_dst (N:=12) rfl ?_);refine Kd.R_lit (Kd.int .i64) _ 3 ?hg (N:=12) ?hd (xs:=([(-1),(l1_0.length : Int),8] : List Int)) (inner:=[.int .i64 (-1),.int .i64 (l1_0.length : Int),.int .i64 8]) (ok:=fun _=>True) (okp:=fun _=>True) ?hr ?hp (fun _ hk=>hk) trivial (Below.refl _ _) (Nat.le_refl _) (by simp) ?_;(case hd=>rfl);(case hg=>rfl);(case hr=>first | (go_simp;done) | (go_simp;rfl));(case hp=>exact (Reps.one (show Kd.M (Kd.int .i64) _ _ _ (-1) [.int .i64 (-1)] from rfl) (Reps.one (show Kd.M (Kd.int .i64) _ _ _ (l1_0.length : Int) [.int .i64 (l1_0.length : Int)] from rfl) (Reps.one (show Kd.M (Kd.int .i64) _ _ _ 8 [.int .i64 8] from rfl) (Reps.none _ _)))));intro v5 w10 ho11 hb hg_ hnew_;clear hg_ hnew_;(first | rw [← Ny4.out] at ho11 | (simp only [Int.reduceToNat] at ho11;rw [← Ny4.out] at ho11));have n0_:=a0_ (Kd.R_lower ho11 (keep_size (w:=w) (g:=g) (row:=none) hk_));have n1_:=a0_ (IsS76.below is0_ hb);have n2_:=kb_ BK1 hb;have n3_:=a0_ (KeepBut.trans (w:=w) hk_ (KeepBut.of_below hb g none) (.inl rfl));have n4_:=a0_ (below_step hbi0_ hb);clear HI0 BK1;clear HK HB;have HO6:=n0_;have HI0:=n1_;have BK1:=n2_;have HK:=n3_;have HB:=n4_;clear n0_ n1_ n2_ n3_ n4_;clear hb ho11;obtain ⟨Ao12,co12,eo12⟩:=Kd.R_slice HO6.out;subst eo12) | ((with_reducible refine gate_callee (f:=42) rfl ?_);refine goesL_ (some 13) rfl rfl Try.func42 (by kernel_rfl) rfl #[.pointer (some ⟨g,0,none⟩),.slice Ao12 y4.length co12] rfl lm_ ?_;(with_reducible refine (spec_reader_one.calls k g s0_0 t3 _ _ y4 t7 t8 w0 _ ?side1 ?side2 ?side3 ?side4 ?side5 A5.out).mono ?_);(case side1=>exact is0_);(case side2=>exact hbi0_);(case side3=>exact cc_ (Kd.R_reads' HO6.out).2.2);(case side4=>exact (Kd.R_reads' HO6.out).2.1);(case side5=>exact far_slice (IsS76.own_ne HI0.out HO6.out (by decide)));rintro e w13 ⟨rfl,hi,hb,hk⟩;refine ⟨_,rfl,?_⟩;replace BK1:=kk_ hk BK1 NB1_0;replace HO6:=a0_ (Kd.R_mono (Kd.R_keep (IsS76.apart (is0_ : IsS76 w0 _ g s0_0 t3) (rr_ HO6.out) (by decide)) hk (fun _ h=>h.2)) (fun _ h=>h.1));replace HK:=a0_ (KeepBut.trans (w:=w) hk_ hk (.inl rfl));replace HI0:=a0_ (hi);replace HB:=a0_ (hb);(try clear hb);(try clear hb2);(try clear hk);(try clear hi)))
  go_ret
  exact ⟨by first | rfl | (simp [errW_none,errW_some] <;> rfl) | (simp [*,errW_none,errW_some] <;> rfl),is0_,hbi0_,hk_⟩
 ·rw [if_neg c4] at H
  have c4b0 : (t2 == 0) = false:=beq_eq_false_iff_ne.mpr c4
  have c4b1 : (t2 != 0) = true:=bne_iff_ne.mpr c4
  replace H:=Option.bind_eq_some_iff.mp H
  obtain ⟨⟨t9,t10⟩,A140,H⟩:=H
  replace H : (some (t9,t10)) = some (r1,r2):=H
  have A14:=a0_ A140
  clear A140
  simp only [Option.some.injEq,Prod.mk.injEq] at H
  obtain ⟨rfl,rfl⟩:=H
  go_enter Try.func41,Try.ntmps41
  go_wp2_with (first | ((with_reducible refine gate_dst (N:=3) rfl ?_);refine box_event ?hg (N:=3) ?hd (cs:=#[.slice A1_0 l1_0.length c1_0]) (t:=25) ?hr ?_;(case hd=>rfl);(case hg=>rfl);(case hr=>first | (go_simp;done) | (go_simp;rfl));intro gb1 hg w15 hbox hb;have n0_:=a0_ (IsS76.below is0_ hb);have n1_:=a0_ (KeepBut.trans (w:=w) hk_ (KeepBut.of_below hb g none) (.inl rfl));have n2_:=a0_ (below_step hbi0_ hb);have n3_:=a0_ (hbox);have n4_:=a0_ ((by rw [hg];exact (keep_size (w:=w) (g:=g) (row:=none) hk_) : w.heap.size ≤ gb1));have n5_:=a0_ ((Nat.le_trans HW0.out (by rw [hg];exact (keep_size (w:=w) (g:=g) (row:=none) hk_) : w.heap.size ≤ gb1) : w0.heap.size ≤ gb1));have n6_:=a0_ ((by rw [hg];exact Nat.ne_of_lt (IsS76.lt (is0_ : IsS76 w0 _ g s0_0 s0_1)) : g ≠ gb1));have n7_:=a0_ ((by rw [hg];exact Nat.ne_of_gt (IsS76.lt (is0_ : IsS76 w0 _ g s0_0 s0_1)) : gb1 ≠ g));clear HI0 HK HB;have HI0:=n0_;have HK:=n1_;have HB:=n2_;have BK1:=n3_;have GW1:=n4_;have GE1:=n5_;have NB0_1:=n6_;have NB1_0:=n7_;clear n0_ n1_ n2_ n3_ n4_ n5_ n6_ n7_;clear hb hbox hg) | ((with_reducible refine gate_callee (f:=48) rfl ?_);refine goesL_ (some 6) rfl rfl Try.func48 (by kernel_rfl) rfl #[.pointer (some ⟨g,0,none⟩),.int .i64 16] rfl lm_ ?_;(with_reducible refine (spec_reader_pick.calls k g s0_0 s0_1 16 t2 t3 w0 _ ?side1 ?side2 A3.out).mono ?_);(case side1=>exact is0_);(case side2=>exact hbi0_);rintro e w16 ⟨rfl,hi,hb,hk⟩;refine ⟨_,rfl,?_⟩;replace BK1:=kk_ hk BK1 NB1_0;replace HK:=a0_ (KeepBut.trans (w:=w) hk_ hk (.inl rfl));replace HI0:=a0_ (hi);replace HB:=a0_ (hb);(try clear hb);have hnb17:=NB1_0.out;have hnc17:=NB0_1.out;have hcz18_0 : w16.cell? ⟨gb1,0,none⟩ = some (.slice A1_0 l1_0.length c1_0):=(blk_cell BK1.out 0).trans rfl;have hfz18_0:=blk_frozen BK1.out 0) | ((with_reducible refine gate_callee (f:=48) rfl ?_);refine goesL_ (some 18) rfl rfl Try.func48 (by kernel_rfl) rfl #[.pointer (some ⟨g,0,none⟩),.int .i64 (l1_0.length : Int)] rfl lm_ ?_;(with_reducible refine (spec_reader_pick.calls k g s0_0 t3 (l1_0.length : Int) t9 t10 w0 _ ?side1 ?side2 A14.out).mono ?_);(case side1=>exact is0_);(case side2=>exact hbi0_);rintro e w19 ⟨rfl,hi,hb,hk⟩;refine ⟨_,rfl,?_⟩;replace BK1:=kk_ hk BK1 NB1_0;replace HK:=a0_ (KeepBut.trans (w:=w) hk_ hk (.inl rfl));replace HI0:=a0_ (hi);replace HB:=a0_ (hb);(try clear hb);(try clear hb2);(try clear hk);(try clear hi)))
  go_ret
  exact ⟨by first | rfl | (simp [errW_none,errW_some] <;> rfl) | (simp [*,errW_none,errW_some] <;> rfl),is0_,hbi0_,hk_⟩
theorem spec_aClass_ev (b : List Int) (p : Int) (t : List Cls) (hb : byL b) (h0 : 0 ≤ p) (hp : p ≤ 1099511627000) : ∃ x q,Ev (fun k=>spec_aClass.f k b p t) (x,q) ∧ p ≤ q ∧ q ≤ p + 2 ∧ (t.length ≤ 8 → -1 ≤ x ∧ x ≤ 8):=by
 obtain ⟨y,hy,y0,y1,_⟩:=spec_pick_ev b p 16 hb h0 (by omega)
 by_cases c0 : y = 0
 ·obtain ⟨s,hs,hsm⟩:=spec_one_ev b (p + 1) [(-1),(t.length : Int),8] hb (by omega) (by omega) (by simp)
  simp only [List.mem_cons,List.not_mem_nil,or_false] at hsm
  exact ⟨_,_,Ev.bind hy (Ev.pos c0 (Ev.bind hs (Ev.const rfl))),by omega,by omega,fun h=>by simp only;omega⟩
 ·obtain ⟨s,hs,s0,s1,s2⟩:=spec_pick_ev b (p + 1) (t.length : Int) hb (by omega) (by omega)
  exact ⟨_,_,Ev.bind hy (Ev.neg c0 (Ev.bind hs (Ev.const rfl))),by omega,by omega,fun h=>by simp only;omega⟩
end Go.Proofs.Ytmiholmfbjalfaa.P
namespace Go.Proofs.Ytmiholmfbjalfaa.P
open Go.RowKit Go.Proofs.YtmiholmfbjalfaaW.PrintWords Go.Proofs.YtmiholmfbjalfaaW.PrintLast Go.Proofs.YtmiholmfbjalfaaW.PrintMore
attribute [local go_sem] max2_int min2_int max_two min_two max_three min_three max_four min_four
set_option linter.unusedVariables false
set_option linter.unusedSimpArgs false
def spec_goodTree.l0 : Nat → List ByteArray → Int → Int → List Int → Int → List (S87) → Option ((List (S87)) × Int)
 | 0,_,_,_,_,_,_=>none
 | k + 1,x3,x5,x6,x1000,x1001,x9000=>if x6 < x5 then (if 0 ≤ x6 then (if x6 < (x3.length : Int) then ((spec_reader_pick.f k x1000 x1001 x6).bind fun bt15=>((spec_reader_one.f k x1000 bt15.2 (([0,bt15.1,wrap64 (x6 - 1)] : List Int))).bind fun bt20=>(if x9000.length < 5864062014805 then (spec_goodTree.l0 k x3 x5 (wrap64 (x6 + 1)) x1000 bt20.2 (x9000 ++ [(⟨rdOf ByteArray.empty x3 x6,bt20.1⟩ : S87)])) else (none)))) else (none)) else (none)) else (some (x9000,x1001))
def spec_goodTree.f (k : Nat) (s0_0 : List Int) (s0_1 : Int) : Option ((List (S87)) × Int):=(spec_reader_one.f k s0_0 s0_1 (([4,5,3,6,2,1,8] : List Int))).bind fun bt12=>(spec_goodTree.l0 k (([(⟨#[97,110,121]⟩ : ByteArray),(⟨#[105,111]⟩ : ByteArray),(⟨#[107,101,121]⟩ : ByteArray),(⟨#[116,105,109,101]⟩ : ByteArray),(⟨#[110,101,116]⟩ : ByteArray),(⟨#[100,105,115,107]⟩ : ByteArray),(⟨#[116,121,112,101]⟩ : ByteArray),(⟨#[111,100,100]⟩ : ByteArray)] : List ByteArray)) bt12.1 1 s0_0 bt12.2 (([(⟨(⟨#[97,110,121]⟩ : ByteArray),(-1)⟩ : S87)] : List (S87))))
theorem spec_goodTree.mono_l : ∀ k,(∀ y0 y1 y2 y3 y4 y5,LeO (spec_goodTree.l0 k y0 y1 y2 y3 y4 y5) (spec_goodTree.l0 (k + 1) y0 y1 y2 y3 y4 y5))
 | 0=>fun _ _ _ _ _ _ r h=>by simp [spec_goodTree.l0] at h
 | k + 1=>by
  have ih0:=spec_goodTree.mono_l k
  ·intro y0 y1 y2 y3 y4 y5
   unfold spec_goodTree.l0
   repeat' first
   | (with_reducible exact ih0 _ _ _ _ _ _)
   | (with_reducible exact spec_reader_one.mono _ _ _ _)
   | (with_reducible exact spec_reader_pick.mono _ _ _ _)
   | (with_reducible exact LeO.refl _)
   | (with_reducible exact LeO.none _)
   | (with_reducible refine LeO.ite ?_ ?_)
   | (with_reducible refine LeO.bind ?_ (fun _=>?_))
   | exact ih0 _ _ _ _ _ _
   | exact spec_reader_one.mono _ _ _ _
   | exact spec_reader_pick.mono _ _ _ _
   | exact LeO.none _
   | refine LeO.ite ?_ ?_
   | refine LeO.bind ?_ (fun _=>?_)
theorem spec_goodTree.mono : ∀ a0 a1 k,LeO (spec_goodTree.f k a0 a1) (spec_goodTree.f (k + 1) a0 a1):=by
 intro a0 a1 k
 have ih0:=spec_goodTree.mono_l k
 unfold spec_goodTree.f
 repeat' first
   | (with_reducible exact ih0 _ _ _ _ _ _)
   | (with_reducible exact spec_reader_one.mono _ _ _ _)
   | (with_reducible exact spec_reader_pick.mono _ _ _ _)
   | (with_reducible exact LeO.refl _)
   | (with_reducible exact LeO.none _)
   | (with_reducible refine LeO.ite ?_ ?_)
   | (with_reducible refine LeO.bind ?_ (fun _=>?_))
   | exact ih0 _ _ _ _ _ _
   | exact spec_reader_one.mono _ _ _ _
   | exact spec_reader_pick.mono _ _ _ _
   | exact LeO.none _
   | refine LeO.ite ?_ ?_
   | refine LeO.bind ?_ (fun _=>?_)
def spec_goodTree.T7 : Bool × List (List Nat × List Nat):=(true,[([],[]),([0],[0]),([],[]),([],[]),([2,3],[2,3]),([4],[4]),([],[]),([],[]),([],[]),([7,8],[7,8]),([],[]),([10],[10]),([9,11],[9,11]),([6,12,9],[6,12]),([5,13],[5,13]),([14],[14]),([1,15,13],[1,15]),([0,1,2,3,4,5,6,7,8,9,10,11,12,13,14,15,16],[]),([17,16,16,0,1,2,3,4,5,6,7,8,9,10,11,12,13,14,15,16],[16,17])])
def spec_goodTree.B7 : List Nat:=[0,1,0,0,12,28,0,0,0,384,0,1024,3968,8128,16380,32764,65535,131071,262143]
theorem spec_goodTree.tab7 : rtab .any (opsOf Try.f81 7) = spec_goodTree.T7:=by kernel_rfl
theorem spec_goodTree.bits7 : waitsOk spec_goodTree.T7.2 spec_goodTree.B7 = true:=by kernel_rfl
set_option maxHeartbeats 8000000 in
set_option maxRecDepth 100000 in
theorem spec_goodTree.calls (k : Nat) (g : Nat) (s0_0 : List Int) (s0_1 : Int) (r1 : List (S87)) (r2 : Int) (w0 w : World) (hI : IsS76 w0 w g s0_0 s0_1) (hB : Below w0.heap.size w0 w) (h : spec_goodTree.f k s0_0 s0_1 = some (r1,r2)) :
  Calls Try.prog 81 #[.pointer (some ⟨g,0,none⟩)] w fun e w'=>∃ v0_ : Value,e = .returned (.agg #[v0_]) ∧ Kd.R k87 87 w' w.heap.size (fun _=>True) v0_ r1 ∧ IsS76 w0 w' g s0_0 r2 ∧ Below w0.heap.size w0 w' ∧ KeepBut w w' g none:=by
 have hu25:=Try.underlying25
 have hu87:=Try.underlying87
 have HI0:=a0_ hI
 have HK:=a0_ (KeepBut.refl w g none)
 have HL:=a0_ hB.size
 clear hI
 have HW0:=a0_ hB.size
 have HB:=a0_ hB
 clear hB
 have H : ((spec_reader_one.f k s0_0 s0_1 (([4,5,3,6,2,1,8] : List Int))).bind fun bt12=>(spec_goodTree.l0 k (([(⟨#[97,110,121]⟩ : ByteArray),(⟨#[105,111]⟩ : ByteArray),(⟨#[107,101,121]⟩ : ByteArray),(⟨#[116,105,109,101]⟩ : ByteArray),(⟨#[110,101,116]⟩ : ByteArray),(⟨#[100,105,115,107]⟩ : ByteArray),(⟨#[116,121,112,101]⟩ : ByteArray),(⟨#[111,100,100]⟩ : ByteArray)] : List ByteArray)) bt12.1 1 s0_0 bt12.2 (([(⟨(⟨#[97,110,121]⟩ : ByteArray),(-1)⟩ : S87)] : List (S87))))) = some (r1,r2):=h
 clear h
 obtain ⟨y2,hy2⟩ : ∃ y_ : List ByteArray,y_ = (([(⟨#[97,110,121]⟩ : ByteArray),(⟨#[105,111]⟩ : ByteArray),(⟨#[107,101,121]⟩ : ByteArray),(⟨#[116,105,109,101]⟩ : ByteArray),(⟨#[110,101,116]⟩ : ByteArray),(⟨#[100,105,115,107]⟩ : ByteArray),(⟨#[116,121,112,101]⟩ : ByteArray),(⟨#[111,100,100]⟩ : ByteArray)] : List ByteArray)):=⟨_,rfl⟩
 replace H : ((spec_reader_one.f k s0_0 s0_1 (([4,5,3,6,2,1,8] : List Int))).bind fun bt12=>(spec_goodTree.l0 k y2 bt12.1 1 s0_0 bt12.2 (([(⟨(⟨#[97,110,121]⟩ : ByteArray),(-1)⟩ : S87)] : List (S87))))) = some (r1,r2):=by first | (rw [hy2];with_reducible exact H) | (have H2_:=(Option.bind_some _ _).symm.trans H;rw [hy2];with_reducible exact H2_) | (have H2_:=(Option.bind_some _ _).symm.trans H;with_reducible exact H2_) | with_reducible exact H | (rw [hy2];exact H) | exact H
 have Ny2:=a0_ hy2
 clear hy2
 obtain ⟨y5,hy5⟩ : ∃ y_ : List (S87),y_ = (([(⟨(⟨#[97,110,121]⟩ : ByteArray),(-1)⟩ : S87)] : List (S87))):=⟨_,rfl⟩
 replace H : ((spec_reader_one.f k s0_0 s0_1 (([4,5,3,6,2,1,8] : List Int))).bind fun bt12=>(spec_goodTree.l0 k y2 bt12.1 1 s0_0 bt12.2 y5)) = some (r1,r2):=by first | (rw [hy5];with_reducible exact H) | (have H2_:=(Option.bind_some _ _).symm.trans H;rw [hy5];with_reducible exact H2_) | (have H2_:=(Option.bind_some _ _).symm.trans H;with_reducible exact H2_) | with_reducible exact H | (rw [hy5];exact H) | exact H
 have Ny5:=a0_ hy5
 clear hy5
 obtain ⟨y9,hy9⟩ : ∃ y_ : List Int,y_ = (([4,5,3,6,2,1,8] : List Int)):=⟨_,rfl⟩
 replace H : ((spec_reader_one.f k s0_0 s0_1 y9).bind fun bt12=>(spec_goodTree.l0 k y2 bt12.1 1 s0_0 bt12.2 y5)) = some (r1,r2):=by first | (rw [hy9];with_reducible exact H) | (have H2_:=(Option.bind_some _ _).symm.trans H;rw [hy9];with_reducible exact H2_) | (have H2_:=(Option.bind_some _ _).symm.trans H;with_reducible exact H2_) | with_reducible exact H | (rw [hy9];exact H) | exact H
 have Ny9:=a0_ hy9
 clear hy9
 replace H:=Option.bind_eq_some_iff.mp H
 obtain ⟨⟨t12,t13⟩,A20,H⟩:=H
 replace H : (spec_goodTree.l0 k y2 t12 1 s0_0 t13 y5) = some (r1,r2):=H
 have A2:=a0_ A20
 clear A20
 have H':=a0_ H
 clear H
 go_enter Try.func81,Try.ntmps81
 go_wp2_with (first | ((with_reducible refine gate_dst (N:=2) rfl ?_);refine box_event ?hg (N:=2) ?hd (cs:=#[.slice none 0 0]) (t:=25) ?hr ?_;(case hd=>rfl);(case hg=>rfl);(case hr=>first | (go_simp;done) | (go_simp;rfl));intro gb1 hg w3 hbox hb;have n0_:=a0_ (IsS76.below is0_ hb);have n1_:=a0_ (KeepBut.trans (w:=w) hk_ (KeepBut.of_below hb g none) (.inl rfl));have n2_:=a0_ (below_step hbi0_ hb);have n3_:=a0_ (hbox);have n4_:=a0_ ((by rw [hg];exact (keep_size (w:=w) (g:=g) (row:=none) hk_) : w.heap.size ≤ gb1));have n5_:=a0_ ((Nat.le_trans HW0.out (by rw [hg];exact (keep_size (w:=w) (g:=g) (row:=none) hk_) : w.heap.size ≤ gb1) : w0.heap.size ≤ gb1));have n6_:=a0_ ((by rw [hg];exact Nat.ne_of_lt (IsS76.lt (is0_ : IsS76 w0 _ g s0_0 s0_1)) : g ≠ gb1));have n7_:=a0_ ((by rw [hg];exact Nat.ne_of_gt (IsS76.lt (is0_ : IsS76 w0 _ g s0_0 s0_1)) : gb1 ≠ g));clear HI0 HK HB;have HI0:=n0_;have HK:=n1_;have HB:=n2_;have BK1:=n3_;have GW1:=n4_;have GE1:=n5_;have NB0_1:=n6_;have NB1_0:=n7_;clear n0_ n1_ n2_ n3_ n4_ n5_ n6_ n7_;clear hb hbox hg) | ((with_reducible refine gate_dst (N:=7) rfl ?_);refine Kd.R_lit Kd.string _ 9 ?hg (N:=7) ?hd (xs:=([(⟨#[97,110,121]⟩ : ByteArray),(⟨#[105,111]⟩ : ByteArray),(⟨#[107,101,121]⟩ : ByteArray),(⟨#[116,105,109,101]⟩ : ByteArray),(⟨#[110,101,116]⟩ : ByteArray),(⟨#[100,105,115,107]⟩ : ByteArray),(⟨#[116,121,112,101]⟩ : ByteArray),(⟨#[111,100,100]⟩ : ByteArray)] : List ByteArray)) (inner:=[.string (⟨#[97,110,121]⟩ : ByteArray),.string (⟨#[105,111]⟩ : ByteArray),.string (⟨#[107,101,121]⟩ : ByteArray),.string (⟨#[116,105,109,101]⟩ : ByteArray),.string (⟨#[110,101,116]⟩ : ByteArray),.string (⟨#[100,105,115,107]⟩ : ByteArray),.string (⟨#[116,121,112,101]⟩ : ByteArray),.string (⟨#[111,100,100]⟩ : ByteArray)]) (ok:=fun _=>True) (okp:=fun _=>True) ?hr ?hp (fun _ hk=>hk) trivial (Below.refl _ _) (Nat.le_refl _) (by simp) ?_;(case hd=>rfl);(case hg=>rfl);(case hr=>first | (go_simp;done) | (go_simp;rfl));(case hp=>exact (Reps.one (show Kd.M Kd.string _ _ _ (⟨#[97,110,121]⟩ : ByteArray) [.string (⟨#[97,110,121]⟩ : ByteArray)] from rfl) (Reps.one (show Kd.M Kd.string _ _ _ (⟨#[105,111]⟩ : ByteArray) [.string (⟨#[105,111]⟩ : ByteArray)] from rfl) (Reps.one (show Kd.M Kd.string _ _ _ (⟨#[107,101,121]⟩ : ByteArray) [.string (⟨#[107,101,121]⟩ : ByteArray)] from rfl) (Reps.one (show Kd.M Kd.string _ _ _ (⟨#[116,105,109,101]⟩ : ByteArray) [.string (⟨#[116,105,109,101]⟩ : ByteArray)] from rfl) (Reps.one (show Kd.M Kd.string _ _ _ (⟨#[110,101,116]⟩ : ByteArray) [.string (⟨#[110,101,116]⟩ : ByteArray)] from rfl) (Reps.one (show Kd.M Kd.string _ _ _ (⟨#[100,105,115,107]⟩ : ByteArray) [.string (⟨#[100,105,115,107]⟩ : ByteArray)] from rfl) (Reps.one (show Kd.M Kd.string _ _ _ (⟨#[116,121,112,101]⟩ : ByteArray) [.string (⟨#[116,121,112,101]⟩ : ByteArray)] from rfl) (Reps.one (show Kd.M Kd.string _ _ _ (⟨#[111,100,100]⟩ : ByteArray) [.string (⟨#[111,100,100]⟩ : ByteArray)] from rfl) (Reps.none _ _))))))))));intro v3 w4 ho5 hb hg_ hnew_;clear hg_ hnew_;(first | rw [← Ny2.out] at ho5 | (simp only [Int.reduceToNat] at ho5;rw [← Ny2.out] at ho5));have n0_:=a0_ (Kd.R_lower ho5 (keep_size (w:=w) (g:=g) (row:=none) hk_));have n1_:=a0_ (IsS76.below is0_ hb);have n2_:=kb_ BK1 hb;have n3_:=a0_ (KeepBut.trans (w:=w) hk_ (KeepBut.of_below hb g none) (.inl rfl));have n4_:=a0_ (below_step hbi0_ hb);clear HI0 BK1;clear HK HB;have HO4:=n0_;have HI0:=n1_;have BK1:=n2_;have HK:=n3_;have HB:=n4_;clear n0_ n1_ n2_ n3_ n4_;clear hb ho5) | ((with_reducible refine gate_dst (N:=9) rfl ?_);refine Kd.R_lit k87 _ 87 ?hg (N:=9) ?hd (xs:=([(⟨(⟨#[97,110,121]⟩ : ByteArray),(-1)⟩ : S87)] : List (S87))) (inner:=[.string (⟨#[97,110,121]⟩ : ByteArray),.int .i64 (-1)]) (ok:=fun _=>True) (okp:=fun _=>True) ?hr ?hp (fun _ hk=>hk) trivial (Below.refl _ _) (Nat.le_refl _) (by simp) ?_;(case hd=>rfl);(case hg=>rfl);(case hr=>first | (go_simp;done) | (go_simp;rfl));(case hp=>exact (Reps.c2 (show Kd.M k87 _ _ _ (⟨(⟨#[97,110,121]⟩ : ByteArray),(-1)⟩ : S87) [.string (⟨#[97,110,121]⟩ : ByteArray),.int .i64 (-1)] from (k87_mkM _ _ _ (⟨(⟨#[97,110,121]⟩ : ByteArray),(-1)⟩ : S87) )) (Reps.none _ _)));intro v6 w6 ho7 hb hg_ hnew_;clear hg_ hnew_;(first | rw [← Ny5.out] at ho7 | (simp only [Int.reduceToNat] at ho7;rw [← Ny5.out] at ho7));have n0_:=rb_ HO4 hb;have n1_:=a0_ (Kd.R_lower ho7 (keep_size (w:=w) (g:=g) (row:=none) hk_));have n2_:=a0_ (IsS76.below is0_ hb);have n3_:=kb_ BK1 hb;have n4_:=a0_ (KeepBut.trans (w:=w) hk_ (KeepBut.of_below hb g none) (.inl rfl));have n5_:=a0_ (below_step hbi0_ hb);clear HO4 HI0;clear BK1 HK HB;have HO4:=n0_;have HO7:=n1_;have HI0:=n2_;have BK1:=n3_;have HK:=n4_;have HB:=n5_;clear n0_ n1_ n2_ n3_ n4_ n5_;clear hb ho7;obtain ⟨Ao8,co8,eo8⟩:=Kd.R_slice HO7.out;subst eo8) | ((with_reducible refine gate_dst (N:=4) rfl ?_);refine box_event ?hg (N:=4) ?hd (cs:=#[.slice none 0 0]) (t:=25) ?hr ?_;(case hd=>rfl);(case hg=>rfl);(case hr=>first | (go_simp;done) | (go_simp;rfl));intro gb8 hg w9 hbox hb;have n0_:=rb_ HO4 hb;have n1_:=rb_ HO7 hb;have n2_:=a0_ (IsS76.below is0_ hb);have n3_:=kb_ BK1 hb;have n4_:=a0_ (KeepBut.trans (w:=w) hk_ (KeepBut.of_below hb g none) (.inl rfl));have n5_:=a0_ (below_step hbi0_ hb);have n6_:=a0_ (hbox);have n7_:=a0_ ((by rw [hg];exact (keep_size (w:=w) (g:=g) (row:=none) hk_) : w.heap.size ≤ gb8));have n8_:=a0_ ((Nat.le_trans HW0.out (by rw [hg];exact (keep_size (w:=w) (g:=g) (row:=none) hk_) : w.heap.size ≤ gb8) : w0.heap.size ≤ gb8));have n9_:=a0_ ((by rw [hg];exact Nat.ne_of_lt (blk_lt (bb_ BK1.out)) : gb1 ≠ gb8));have n10_:=a0_ ((by rw [hg];exact Nat.ne_of_gt (blk_lt (bb_ BK1.out)) : gb8 ≠ gb1));have n11_:=a0_ ((by rw [hg];exact Nat.ne_of_lt (IsS76.lt (is0_ : IsS76 w0 _ g s0_0 s0_1)) : g ≠ gb8));have n12_:=a0_ ((by rw [hg];exact Nat.ne_of_gt (IsS76.lt (is0_ : IsS76 w0 _ g s0_0 s0_1)) : gb8 ≠ g));clear HO4 HO7;clear HI0 BK1;clear HK HB;have HO4:=n0_;have HO7:=n1_;have HI0:=n2_;have BK1:=n3_;have HK:=n4_;have HB:=n5_;have BK8:=n6_;have GW8:=n7_;have GE8:=n8_;have NB1_8:=n9_;have NB8_1:=n10_;have NB0_8:=n11_;have NB8_0:=n12_;clear n0_ n1_ n2_ n3_ n4_ n5_ n6_ n7_ n8_ n9_ n10_ n11_ n12_;clear hb hbox hg;have hnb10:=NB8_1.out;have hnc10:=NB1_8.out;have hnb11:=NB8_0.out;have hnc11:=NB0_8.out;have hcz12_0 : w9.cell? ⟨gb8,0,none⟩ = some (.slice none 0 0):=(blk_cell BK8.out 0).trans rfl;have hfz12_0:=blk_frozen BK8.out 0) | ((with_reducible refine gate_dst (N:=12) rfl ?_);refine Kd.R_lit (Kd.int .i64) _ 3 ?hg (N:=12) ?hd (xs:=([4,5,3,6,2,1,8] : List Int)) (inner:=[.int .i64 4,.int .i64 5,.int .i64 3,.int .i64 6,.int .i64 2,.int .i64 1,.int .i64 8]) (ok:=fun _=>True) (okp:=fun _=>True) ?hr ?hp (fun _ hk=>hk) trivial (Below.refl _ _) (Nat.le_refl _) (by simp) ?_;(case hd=>rfl);(case hg=>rfl);(case hr=>first | (go_simp;done) | (go_simp;rfl));(case hp=>exact (Reps.one (show Kd.M (Kd.int .i64) _ _ _ 4 [.int .i64 4] from rfl) (Reps.one (show Kd.M (Kd.int .i64) _ _ _ 5 [.int .i64 5] from rfl) (Reps.one (show Kd.M (Kd.int .i64) _ _ _ 3 [.int .i64 3] from rfl) (Reps.one (show Kd.M (Kd.int .i64) _ _ _ 6 [.int .i64 6] from rfl) (Reps.one (show Kd.M (Kd.int .i64) _ _ _ 2 [.int .i64 2] from rfl) (Reps.one (show Kd.M (Kd.int .i64) _ _ _ 1 [.int .i64 1] from rfl) (Reps.one (show Kd.M (Kd.int .i64) _ _ _ 8 [.int .i64 8] from rfl) (Reps.none _ _)))))))));intro v10 w13 ho14 hb hg_ hnew_;clear hg_ hnew_;(first | rw [← Ny9.out] at ho14 | (simp only [Int.reduceToNat] at ho14;rw [← Ny9.out] at ho14));have n0_:=a0_ (Kd.R_below (by (with_reducible repeat (first | apply Kd.R_alloc | apply Kd.R_drewN | apply Kd.R_drew));exact (Kd.R_mono (Kd.R_far (p:=⟨gb8,0,none⟩) (Kd.R_types HO4.out BK8.out (by decide)) (fun _ hk=>hk.2) (.slice Ao8 y5.length co8)) (fun _ h_=>h_.1))) hb);have n1_:=a0_ (Kd.R_below (by (with_reducible repeat (first | apply Kd.R_alloc | apply Kd.R_drewN | apply Kd.R_drew));exact (Kd.R_mono (Kd.R_far (p:=⟨gb8,0,none⟩) (Kd.R_types HO7.out BK8.out (by decide)) (fun _ hk=>hk.2) (.slice Ao8 y5.length co8)) (fun _ h_=>h_.1))) hb);have n2_:=a0_ (Kd.R_lower ho14 (keep_size (w:=w) (g:=g) (row:=none) hk_));have n3_:=a0_ (IsS76.below (is0_ : IsS76 w0 (w9.setCell ⟨gb8,0,none⟩ (.slice Ao8 y5.length co8)) g s0_0 s0_1) hb);have n4_:=kf_ BK1 NB1_8 hb;have n5_:=a0_ (blk_below (g:=gb8) (o:=.cells #[.slice Ao8 y5.length co8] 25 (0,0)) (by (with_reducible repeat (first | refine blk_drewN ?_ _ | refine blk_drew ?_ | refine blk_alloc ?_ _));refine blk_put (cs:=#[.slice none 0 0]) ?_ 0 _ rfl;(with_reducible repeat (first | refine blk_drewN ?_ _ | refine blk_drew ?_ | refine blk_alloc ?_ _));exact BK8.out) hb);have n6_:=a0_ (KeepBut.trans (w:=w) hk_ (KeepBut.of_below hb g none) (.inl rfl));have n7_:=a0_ (below_step hbi0_ hb);clear HO4 HO7;clear HI0 BK1;clear BK8 HK HB;have HO4:=n0_;have HO7:=n1_;have HO11:=n2_;have HI0:=n3_;have BK1:=n4_;have BK8:=n5_;have HK:=n6_;have HB:=n7_;clear n0_ n1_ n2_ n3_ n4_ n5_ n6_ n7_;clear hb ho14;obtain ⟨Ao15,co15,eo15⟩:=Kd.R_slice HO11.out;subst eo15) | ((with_reducible refine gate_callee (f:=42) rfl ?_);refine goesL_ (some 13) rfl rfl Try.func42 (by kernel_rfl) rfl #[.pointer (some ⟨g,0,none⟩),.slice Ao15 y9.length co15] rfl lm_ ?_;(with_reducible refine (spec_reader_one.calls k g s0_0 s0_1 _ _ y9 t12 t13 w0 _ ?side1 ?side2 ?side3 ?side4 ?side5 A2.out).mono ?_);(case side1=>exact is0_);(case side2=>exact hbi0_);(case side3=>exact cc_ (Kd.R_reads' HO11.out).2.2);(case side4=>exact (Kd.R_reads' HO11.out).2.1);(case side5=>exact far_slice (IsS76.own_ne HI0.out HO11.out (by decide)));rintro e w16 ⟨rfl,hi,hb,hk⟩;refine ⟨_,rfl,?_⟩;replace BK1:=kk_ hk BK1 NB1_0;replace HO4:=a0_ (Kd.R_mono (Kd.R_keep (IsS76.apart (is0_ : IsS76 w0 _ g s0_0 s0_1) (rr_ HO4.out) (by decide)) hk (fun _ h=>h.2)) (fun _ h=>h.1));replace HO7:=a0_ (Kd.R_mono (Kd.R_keep (IsS76.apart (is0_ : IsS76 w0 _ g s0_0 s0_1) (rr_ HO7.out) (by decide)) hk (fun _ h=>h.2)) (fun _ h=>h.1));replace BK8:=kk_ hk BK8 NB8_0;replace HO11:=a0_ (Kd.R_mono (Kd.R_keep (IsS76.apart (is0_ : IsS76 w0 _ g s0_0 s0_1) (rr_ HO11.out) (by decide)) hk (fun _ h=>h.2)) (fun _ h=>h.1));replace HK:=a0_ (KeepBut.trans (w:=w) hk_ hk (.inl rfl));replace HI0:=a0_ (hi);replace HB:=a0_ (hb);(try clear hb);(try clear hb2);(try clear hk);(try clear hi)))
 go_loopg [6] k (fun kq v6 w'=>∃ (x6_1 : Int) (x1001_1 : Int) (x9000_1 : List (S87)) (u9000 : Value),v6 = .int .i64 x6_1 ∧ Aside0 (spec_goodTree.l0 kq y2 t12 x6_1 s0_0 x1001_1 x9000_1 = some (r1,r2)) ∧ Aside0 (kq ≤ k) ∧ Aside0 (Kd.R Kd.string 9 w' w.heap.size (fun _=>True) v3 y2) ∧ Aside0 (Kd.R k87 87 w' w.heap.size (fun _=>True) u9000 x9000_1) ∧ Aside0 (w'.heap[gb1]? = some (.cells #[(.slice none 0 0)] 25 (0,0))) ∧ Aside0 (w'.heap[gb8]? = some (.cells #[u9000] 25 (0,0))) ∧ Aside0 (IsS76 w0 w' g s0_0 x1001_1) ∧ Aside0 (KeepBut w w' g none) ∧ Aside0 (Below w0.heap.size w0 w'))
 case atStart=>exact ⟨(1),(t13),(y5),(.slice Ao8 y5.length co8),(by first | rfl | (simp;done) | (simp [*];done)),H',⟨Nat.le_refl _⟩,⟨by (with_reducible repeat (first | apply Kd.R_alloc | apply Kd.R_drewN | apply Kd.R_drew));exact HO4.out⟩,⟨by (with_reducible repeat (first | apply Kd.R_alloc | apply Kd.R_drewN | apply Kd.R_drew));exact HO7.out⟩,⟨by (with_reducible repeat (first | refine blk_drewN ?_ _ | refine blk_drew ?_ | refine blk_alloc ?_ _));exact BK1.out⟩,⟨by (with_reducible repeat (first | refine blk_drewN ?_ _ | refine blk_drew ?_ | refine blk_alloc ?_ _));exact BK8.out⟩,⟨is0_⟩,⟨hk_⟩,⟨hbi0_⟩⟩
 case round =>
  clear H'
  try clear c1
  try clear c2
  try clear p2
  try clear c4
  try clear c8
  try clear c10
  try clear c11
  try clear hcz12_0
  try clear hfz12_0
  obtain ⟨x6_1,x1001_1,x9000_1,u9000,rfl,HA,HK1,HO_3,Z9,BK1,BK8,HI0,HK,HB⟩:=hrel
  cases gk with
  | zero=>exact absurd HA.out (by simp [spec_goodTree.l0])
  | succ k1 =>
   have H:=HA.out
   clear HA
   simp only [spec_goodTree.l0] at H
   by_cases c17 : x6_1 < t12
   ·rw [if_pos c17] at H
    have c17b0 : decide (x6_1 < t12) = true:=decide_eq_true c17
    clear c17
    by_cases c18 : 0 ≤ x6_1
    ·rw [if_pos c18] at H
     have c18b0 : decide (0 ≤ x6_1) = true:=decide_eq_true c18
     clear c18
     by_cases c19 : x6_1 < (y2.length : Int)
     ·rw [if_pos c19] at H
      have c19b0 : decide (x6_1 < (y2.length : Int)) = true:=decide_eq_true c19
      clear c19
      replace H:=Option.bind_eq_some_iff.mp H
      obtain ⟨⟨t15,t16⟩,A200,H⟩:=H
      try dsimp only at H
      have A20:=a0_ A200
      clear A200
      obtain ⟨y17,hy17⟩ : ∃ y_ : List Int,y_ = (([0,t15,wrap64 (x6_1 - 1)] : List Int)):=⟨_,rfl⟩
      replace H : ((spec_reader_one.f k1 s0_0 t16 y17).bind fun bt20=>(if x9000_1.length < 5864062014805 then (spec_goodTree.l0 k1 y2 t12 (wrap64 (x6_1 + 1)) s0_0 bt20.2 (x9000_1 ++ [(⟨rdOf ByteArray.empty y2 x6_1,bt20.1⟩ : S87)])) else (none))) = some (r1,r2):=by first | (rw [hy17];with_reducible exact H) | (have H2_:=(Option.bind_some _ _).symm.trans H;rw [hy17];with_reducible exact H2_) | (have H2_:=(Option.bind_some _ _).symm.trans H;with_reducible exact H2_) | with_reducible exact H | (rw [hy17];exact H) | exact H
      have Ny17:=a0_ hy17
      clear hy17
      replace H:=Option.bind_eq_some_iff.mp H
      obtain ⟨⟨t20,t21⟩,A210,H⟩:=H
      try dsimp only at H
      have A21:=a0_ A210
      clear A210
      by_cases c22 : x9000_1.length < 5864062014805
      ·rw [if_pos c22] at H
       have LMc22:=a0_ c22
       clear c22
       obtain ⟨y22,hy22⟩ : ∃ y_ : List (S87),y_ = (x9000_1 ++ [(⟨rdOf ByteArray.empty y2 x6_1,t20⟩ : S87)]):=⟨_,rfl⟩
       replace H : (spec_goodTree.l0 k1 y2 t12 (wrap64 (x6_1 + 1)) s0_0 t21 y22) = some (r1,r2):=by first | (rw [hy22];with_reducible exact H) | (have H2_:=(Option.bind_some _ _).symm.trans H;rw [hy22];with_reducible exact H2_) | (have H2_:=(Option.bind_some _ _).symm.trans H;with_reducible exact H2_) | with_reducible exact H | (rw [hy22];exact H) | exact H
       have Ny22:=a0_ hy22
       clear hy22
       have H':=a0_ H
       clear H
       try go_wp2
       have n0_:=a0_ (Kd.R_drew HO_3.out)
       have n1_:=a0_ (Kd.R_drew Z9.out)
       have n2_:=a0_ (blk_drew BK1.out)
       have n3_:=a0_ (blk_drew BK8.out)
       have n4_:=a0_ (IsS76.drew HI0.out)
       have n5_:=a0_ (keep_drew HK.out)
       have n6_:=a0_ (below_drew1 HB.out)
       clear HO_3
       clear Z9
       clear BK1
       clear BK8
       clear HI0
       clear HK
       clear HB
       have HO_3:=n0_
       have Z9:=n1_
       have BK1:=n2_
       have BK8:=n3_
       have HI0:=n4_
       have HK:=n5_
       have HB:=n6_
       clear n0_ n1_ n2_ n3_ n4_ n5_ n6_
       obtain ⟨Ao24,co24,eo24⟩:=Kd.R_slice HO_3.out
       (first | subst eo24 | (injection eo24 with f1_ f2_ f3_;have f4_:=f1_.symm;have f5_:=f3_.symm;clear f1_ f2_ f3_;subst f4_;subst f5_))
       have p14 : 0 ≤ (x6_1 : Int):=of_decide_eq_true (by first | (with_reducible assumption) | assumption)
       have q14 : x6_1 < (y2.length : Int):=of_decide_eq_true (by first | (with_reducible assumption) | assumption)
       obtain ⟨ad14,e14,hx14_0⟩:=Kd.at_string (Kd.R_reads' HO_3.out).2.2 x6_1 p14 q14
       cases e14
       replace p14:=eq_true p14
       replace q14:=eq_true q14
       refine start_ (n:=19) (S:=fun w'=>w'.cell? ⟨gb8,0,none⟩ = some (u9000) ∧ w'.cell? (ad14.add (x6_1).toNat) = some (.string (rdOf ByteArray.empty y2 x6_1))) (ds:=[16,18]) #[false,false,false,false,false,false,false,false,false,false,false,false,false,false,false,false,false,false,false] (by kernel_rfl) rfl rfl ⟨(blk_cell BK8.out 0).trans rfl,hx14_0⟩ (fun hHeld=>?_);refine with_tabW spec_goodTree.tab7 spec_goodTree.bits7 (fun HT_ HW_=>?_)
       generalize wr.drew = w23 at HO_3 Z9 BK1 BK8 HI0 HK HB hx14_0 hHeld ⊢
       refine pure_ (i:=0) (N:=some 19) (v:=?_) (a':=?_) #[true,false,false,false,false,false,false,false,false,false,false,false,false,false,false,false,false,false,false] rfl rfl (any_of HT_.out (by kernel_rfl)) (fun _ _ _ h=>h) (Or.inl ⟨by rfl,?_⟩) ?_ ?_
       rotate_left
       ·intro w'
        go_simp
        with_reducible rfl
       rotate_left
       ·simp only [Act.put,s1_,s2_,s3_,i64_w,i32_w]
        rfl
       refine pure_ (i:=2) (N:=some 21) (v:=?_) (a':=?_) #[true,false,true,false,false,false,false,false,false,false,false,false,false,false,false,false,false,false,false] rfl rfl (any_of HT_.out (by kernel_rfl)) (fun _ _ _ h=>h) (Or.inl ⟨by rfl,?_⟩) ?_ ?_
       rotate_left
       ·intro w'
        go_simp
        with_reducible rfl
       rotate_left
       ·simp only [Act.put,s1_,s2_,s3_,i64_w,i32_w]
        rfl
       refine pure_ (i:=3) (N:=some 22) (v:=?_) (a':=?_) #[true,false,true,true,false,false,false,false,false,false,false,false,false,false,false,false,false,false,false] rfl rfl (any_of HT_.out (by kernel_rfl)) (fun _ _ _ h=>h) (Or.inl ⟨by rfl,?_⟩) ?_ ?_
       rotate_left
       ·intro w'
        go_simp
        with_reducible rfl
       rotate_left
       ·simp only [Act.put,s1_,s2_,s3_,i64_w,i32_w]
        rfl
       refine pure_ (i:=4) (N:=some 23) (v:=?_) (a':=?_) #[true,false,true,true,true,false,false,false,false,false,false,false,false,false,false,false,false,false,false] rfl rfl (any_of HT_.out (by kernel_rfl)) (fun _ _ _ h=>h) (Or.inl ⟨by rfl,?_⟩) ?_ ?_
       rotate_left
       ·intro w'
        go_simp
        with_reducible rfl
       rotate_left
       ·simp only [Act.put,s1_,s2_,s3_,i64_w,i32_w]
        rfl
       refine pure_ (i:=6) (N:=some 25) (v:=?_) (a':=?_) #[true,false,true,true,true,false,true,false,false,false,false,false,false,false,false,false,false,false,false] rfl rfl (any_of HT_.out (by kernel_rfl)) (fun _ _ _ h=>h) (Or.inl ⟨by rfl,?_⟩) ?_ ?_
       rotate_left
       ·intro w'
        go_simp
        with_reducible rfl
       rotate_left
       ·simp only [Act.put,s1_,s2_,s3_,i64_w,i32_w]
        rfl
       refine pure_ (i:=7) (N:=some 26) (v:=?_) (a':=?_) #[true,false,true,true,true,false,true,true,false,false,false,false,false,false,false,false,false,false,false] rfl rfl (any_of HT_.out (by kernel_rfl)) (fun _ _ _ h=>h) (Or.inl ⟨by rfl,?_⟩) ?_ ?_
       rotate_left
       ·intro w'
        go_simp
        with_reducible rfl
       rotate_left
       ·simp only [Act.put,s1_,s2_,s3_,i64_w,i32_w]
        rfl
       refine pure_ (i:=8) (N:=some 27) (v:=?_) (a':=?_) #[true,false,true,true,true,false,true,true,true,false,false,false,false,false,false,false,false,false,false] rfl rfl (any_of HT_.out (by kernel_rfl)) (fun _ _ _ h=>h) (Or.inl ⟨by rfl,?_⟩) ?_ ?_
       rotate_left
       ·intro w'
        go_simp
        with_reducible rfl
       rotate_left
       ·simp only [Act.put,s1_,s2_,s3_,i64_w,i32_w]
        rfl
       refine pure_ (i:=10) (N:=some 29) (v:=?_) (a':=?_) #[true,false,true,true,true,false,true,true,true,false,true,false,false,false,false,false,false,false,false] rfl rfl (any_of HT_.out (by kernel_rfl)) (fun _ _ _ h=>h) (Or.inl ⟨by rfl,?_⟩) ?_ ?_
       rotate_left
       ·intro w'
        go_simp
        with_reducible rfl
       rotate_left
       ·simp only [Act.put,s1_,s2_,s3_,i64_w,i32_w]
        rfl
       refine pure_ (i:=11) (N:=some 30) (v:=?_) (a':=?_) #[true,false,true,true,true,false,true,true,true,false,true,true,false,false,false,false,false,false,false] rfl rfl (any_of HT_.out (by kernel_rfl)) (fun _ _ _ h=>h) (Or.inl ⟨by rfl,?_⟩) ?_ ?_
       rotate_left
       ·intro w'
        go_simp
        with_reducible rfl
       rotate_left
       ·simp only [Act.put,s1_,s2_,s3_,i64_w,i32_w]
        rfl
       refine take_ (i:=1) (N:=some 20) (v:=?_) (a':=?_) #[true,true,true,true,true,false,true,true,true,false,true,true,false,false,false,false,false,false,false] rfl rfl (take_ofW HT_.out HW_.out (by kernel_rfl)) (fun _ _ _ h=>h) (Or.inl ⟨by rfl,?_⟩) hHeld ?_ ?_
       rotate_left
       ·rintro w' ⟨s0,s1⟩
        go_simp
        with_reducible rfl
       rotate_left
       ·simp only [Act.put,s1_,s2_,s3_,i64_w,i32_w]
        rfl
       refine take_ (i:=5) (N:=some 24) (v:=?_) (a':=?_) #[true,true,true,true,true,true,true,true,true,false,true,true,false,false,false,false,false,false,false] rfl rfl (take_ofW HT_.out HW_.out (by kernel_rfl)) (fun _ _ _ h=>h) (Or.inl ⟨by rfl,?_⟩) hHeld ?_ ?_
       rotate_left
       ·rintro w' ⟨s0,s1⟩
        go_simp
        with_reducible rfl
       rotate_left
       ·simp only [Act.put,s1_,s2_,s3_,i64_w,i32_w]
        rfl
       refine one_ (i:=9) (N:=some 28) #[true,true,true,true,true,true,true,true,true,true,true,true,false,false,false,false,false,false,false] rfl rfl (one_of HT_.out (by kernel_rfl)) (by decide) (fun K hK=>?_)
       refine goes_ Try.func48 (by kernel_rfl) rfl #[.pointer (some ⟨g,0,none⟩),.int .i64 x6_1] (by rfl) rfl rfl lm_ ?_
       with_reducible refine (spec_reader_pick.calls k1 g s0_0 x1001_1 x6_1 t15 t16 w0 _ ?side1 ?side2 A20.out).mono ?_
       (case side1=>exact is0_)
       (case side2=>exact hbi0_)
       rintro e w25 ⟨rfl,hi,hb,hk⟩
       have HS1_:=keep_cell hk (hHeld.2) (by first | (rw [add_block];exact Kd.own_blk (IsS76.own_ne HI0.out HO_3.out (by decide))) | (show (Addr.add _ _).block ≠ _;rw [add_block];exact Kd.own_blk (IsS76.own_ne HI0.out HO_3.out (by decide))) | exact Kd.own_blk (IsS76.own_ne HI0.out HO_3.out (by decide)))
       refine ⟨_,rfl,?_⟩
       have n0_:=a0_ (Kd.R_mono (Kd.R_keep (IsS76.apart (is0_ : IsS76 w0 _ g s0_0 x1001_1) (rr_ HO_3.out) (by decide)) hk (fun _ h=>h.2)) (fun _ h=>h.1))
       have n1_:=a0_ (Kd.R_mono (Kd.R_keep (IsS76.apart (is0_ : IsS76 w0 _ g s0_0 x1001_1) (rr_ Z9.out) (by decide)) hk (fun _ h=>h.2)) (fun _ h=>h.1))
       have n2_:=kk_ hk BK1 NB1_0
       have n3_:=kk_ hk BK8 NB8_0
       have n4_:=a0_ (KeepBut.trans (w:=w) hk_ hk (.inl rfl))
       have n5_:=a0_ (hb)
       have n6_:=a0_ (hi)
       clear HO_3
       clear Z9
       clear BK1
       clear BK8
       clear HK
       clear HB
       clear HI0
       have HO_3:=n0_
       have Z9:=n1_
       have BK1:=n2_
       have BK8:=n3_
       have HK:=n4_
       have HB:=n5_
       have HI0:=n6_
       clear n0_ n1_ n2_ n3_ n4_ n5_ n6_
       (try clear hb)
       (try clear hb2)
       (try clear hk)
       (try clear hi)
       refine hK.out _ _ ⟨(blk_cell BK8.out 0).trans rfl,HS1_⟩ (fun hHeld=>?_)
       clear hK K
       refine norm_ (a':=?_) ?_ ?_
       rotate_left
       ·show Act.put _ (some 28) _ = _
        simp only [Act.put,s1_,s2_,s3_,i64_w,i32_w]
        rfl
       refine one_ (i:=12) (N:=some 31) #[true,true,true,true,true,true,true,true,true,true,true,true,true,false,false,false,false,false,false] rfl rfl (one_of HT_.out (by kernel_rfl)) (by decide) (fun K hK=>?_)
       refine Kd.R_lit_step (Kd.int .i64) _ 3 ?hg (N:=31) ?hd (xs:=([0,t15,wrap64 (x6_1 - 1)] : List Int)) (inner:=[.int .i64 0,.int .i64 t15,.int .i64 (wrap64 (x6_1 - 1))]) (ok:=fun _=>True) (okp:=fun _=>True) ?hr ?hp (fun _ hk=>hk) trivial (Below.refl _ _) (Nat.le_refl _) (by simp) ?_;(case hd=>rfl);(case hg=>rfl);(case hr=>first | (go_simp;done) | (go_simp;rfl));(case hp=>exact (Reps.one (show Kd.M (Kd.int .i64) _ _ _ 0 [.int .i64 0] from rfl) (Reps.one (show Kd.M (Kd.int .i64) _ _ _ t15 [.int .i64 t15] from rfl) (Reps.one (show Kd.M (Kd.int .i64) _ _ _ (wrap64 (x6_1 - 1)) [.int .i64 (wrap64 (x6_1 - 1))] from rfl) (Reps.none _ _)))))
       intro v18 w26 ho27 hb hg_ hnew_
       have HS1_:=(hb.cell (World.block_lt_of_cell? _ _ (hHeld.2))).trans (hHeld.2)
       clear hg_ hnew_
       (first | rw [← Ny17.out] at ho27 | (simp only [Int.reduceToNat] at ho27;rw [← Ny17.out] at ho27))
       have n0_:=rb_ HO_3 hb
       have n1_:=rb_ Z9 hb
       have n2_:=a0_ (Kd.R_lower ho27 (keep_size (w:=w) (g:=g) (row:=none) hk_))
       have n3_:=kb_ BK1 hb
       have n4_:=kb_ BK8 hb
       have n5_:=a0_ (IsS76.below is0_ hb)
       have n6_:=a0_ (KeepBut.trans (w:=w) hk_ (KeepBut.of_below hb g none) (.inl rfl))
       have n7_:=a0_ (below_step hbi0_ hb)
       clear HO_3
       clear Z9
       clear BK1
       clear BK8
       clear HI0
       clear HK
       clear HB
       have HO_3:=n0_
       have Z9:=n1_
       have HO19:=n2_
       have BK1:=n3_
       have BK8:=n4_
       have HI0:=n5_
       have HK:=n6_
       have HB:=n7_
       clear n0_ n1_ n2_ n3_ n4_ n5_ n6_ n7_
       clear hb ho27
       obtain ⟨Ao28,co28,eo28⟩:=Kd.R_slice HO19.out
       (first | subst eo28 | (injection eo28 with f1_ f2_ f3_;have f4_:=f1_.symm;have f5_:=f3_.symm;clear f1_ f2_ f3_;subst f4_;subst f5_))
       refine hK.out _ _ ⟨(blk_cell BK8.out 0).trans rfl,HS1_⟩ (fun hHeld=>?_)
       clear hK K
       refine norm_ (a':=?_) ?_ ?_
       rotate_left
       ·show Act.put _ (some 31) _ = _
        simp only [Act.put,s1_,s2_,s3_,i64_w,i32_w]
        rfl
       refine one_ (i:=13) (N:=some 32) #[true,true,true,true,true,true,true,true,true,true,true,true,true,true,false,false,false,false,false] rfl rfl (one_of HT_.out (by kernel_rfl)) (by decide) (fun K hK=>?_)
       refine goes_ Try.func42 (by kernel_rfl) rfl #[.pointer (some ⟨g,0,none⟩),.slice Ao28 y17.length co28] (by rfl) rfl rfl lm_ ?_
       with_reducible refine (spec_reader_one.calls k1 g s0_0 t16 _ _ y17 t20 t21 w0 _ ?side1 ?side2 ?side3 ?side4 ?side5 A21.out).mono ?_
       (case side1=>exact is0_)
       (case side2=>exact hbi0_)
       (case side3=>exact cc_ (Kd.R_reads' HO19.out).2.2)
       (case side4=>exact (Kd.R_reads' HO19.out).2.1)
       (case side5=>exact far_slice (IsS76.own_ne HI0.out HO19.out (by decide)))
       rintro e w29 ⟨rfl,hi,hb,hk⟩
       have HS1_:=keep_cell hk (hHeld.2) (by first | (rw [add_block];exact Kd.own_blk (IsS76.own_ne HI0.out HO_3.out (by decide))) | (show (Addr.add _ _).block ≠ _;rw [add_block];exact Kd.own_blk (IsS76.own_ne HI0.out HO_3.out (by decide))) | exact Kd.own_blk (IsS76.own_ne HI0.out HO_3.out (by decide)))
       refine ⟨_,rfl,?_⟩
       have n0_:=a0_ (Kd.R_mono (Kd.R_keep (IsS76.apart (is0_ : IsS76 w0 _ g s0_0 t16) (rr_ HO_3.out) (by decide)) hk (fun _ h=>h.2)) (fun _ h=>h.1))
       have n1_:=a0_ (Kd.R_mono (Kd.R_keep (IsS76.apart (is0_ : IsS76 w0 _ g s0_0 t16) (rr_ Z9.out) (by decide)) hk (fun _ h=>h.2)) (fun _ h=>h.1))
       have n2_:=kk_ hk BK1 NB1_0
       have n3_:=kk_ hk BK8 NB8_0
       have n4_:=a0_ (Kd.R_mono (Kd.R_keep (IsS76.apart (is0_ : IsS76 w0 _ g s0_0 t16) (rr_ HO19.out) (by decide)) hk (fun _ h=>h.2)) (fun _ h=>h.1))
       have n5_:=a0_ (KeepBut.trans (w:=w) hk_ hk (.inl rfl))
       have n6_:=a0_ (hb)
       have n7_:=a0_ (hi)
       clear HO_3
       clear Z9
       clear BK1
       clear BK8
       clear HO19
       clear HK
       clear HB
       clear HI0
       have HO_3:=n0_
       have Z9:=n1_
       have BK1:=n2_
       have BK8:=n3_
       have HO19:=n4_
       have HK:=n5_
       have HB:=n6_
       have HI0:=n7_
       clear n0_ n1_ n2_ n3_ n4_ n5_ n6_ n7_
       (try clear hb)
       (try clear hb2)
       (try clear hk)
       (try clear hi)
       refine hK.out _ _ ⟨(blk_cell BK8.out 0).trans rfl,HS1_⟩ (fun hHeld=>?_)
       clear hK K
       refine norm_ (a':=?_) ?_ ?_
       rotate_left
       ·show Act.put _ (some 32) _ = _
        simp only [Act.put,s1_,s2_,s3_,i64_w,i32_w]
        rfl
       refine pure_ (i:=14) (N:=some 33) (v:=?_) (a':=?_) #[true,true,true,true,true,true,true,true,true,true,true,true,true,true,true,false,false,false,false] rfl rfl (any_of HT_.out (by kernel_rfl)) (fun _ _ _ h=>h) (Or.inl ⟨by rfl,?_⟩) ?_ ?_
       rotate_left
       ·intro w'
        go_simp
        with_reducible rfl
       rotate_left
       ·simp only [Act.put,s1_,s2_,s3_,i64_w,i32_w]
        rfl
       refine one_ (i:=15) (N:=some 34) #[true,true,true,true,true,true,true,true,true,true,true,true,true,true,true,true,false,false,false] rfl rfl (one_of HT_.out (by kernel_rfl)) (by decide) (fun K hK=>?_)
       refine value_ (w1:=?_) (v:=?_) (by rfl) rfl ?_ ?_
       rotate_left 2
       ·go_simp
        constructor
        ·rfl
        ·rfl
       refine hK.out _ _ ⟨(blk_cell (blk_alloc BK8.out _) 0).trans rfl,(World.cell?_alloc_lt _ _ _ (World.block_lt_of_cell? _ _ (hHeld.2))).trans (hHeld.2)⟩ (fun hHeld=>?_)
       clear hK K
       refine norm_ (a':=?_) ?_ ?_
       rotate_left
       ·show Act.put _ (some 34) _ = _
        simp only [Act.put,s1_,s2_,s3_,i64_w,i32_w]
        rfl
       refine last_ (i:=16) (N:=some 35) #[true,true,true,true,true,true,true,true,true,true,true,true,true,true,true,true,true,false,false] rfl rfl (one_of HT_.out (by kernel_rfl)) (by decide) (fun K hK=>?_)
       refine Kd.R_append_step k87 w.heap.size (by rfl) (.tmp 20) (.tmp 34) 23 87 (.agg #[(.string ⟨#[]⟩),(.int .i64 0)]) 24 rfl Try.underlying23 info87 rfl (by decide) (by omega) u9000 x9000_1 (⟨rdOf ByteArray.empty y2 x6_1,t20⟩ : S87) [.string (rdOf ByteArray.empty y2 x6_1),.int .i64 t20] (fun _=>True) (fun _=>False) rfl rfl ?aP (fun _ hk=>hk.elim) ?aF ?aO (Below.refl _ _) ?aS ?aL ?_
       (case aP=>exact k87_mkM _ _ _ (⟨rdOf ByteArray.empty y2 x6_1,t20⟩ : S87))
       (case aF=>exact (fun _ _=>trivial))
       (case aO=>exact (rr_ Z9.out))
       (case aS=>exact (keep_size (w:=w) (g:=g) (row:=none) hk_))
       (case aL=>have:=LMc22.out;omega)
       intro v23 w30 ho hb hg hat
       rw [← Ny22.out] at ho
       have n0_:=a0_ (Kd.R_over' (rr_ HO_3.out) (Kd.R_typed (rr_ Z9.out)) (by decide) hg)
       have n1_:=a0_ (blk_grown (bb_ BK1.out) hg (Kd.R_ne Z9.out BK1.out (by decide)))
       have n2_:=a0_ (blk_grown (bb_ BK8.out) hg (Kd.R_ne Z9.out BK8.out (by decide)))
       have n3_:=a0_ (IsS76.grown is0_ hg (IsS76.own_ne HI0.out Z9.out (by decide)))
       have n4_:=a0_ (Kd.R_over' (rr_ HO19.out) (Kd.R_typed (rr_ Z9.out)) (by decide) hg)
       have n5_:=a0_ (below_weaken hbi0_ HL.out hb)
       have n6_:=a0_ (KeepBut.trans (w:=w) hk_ (KeepBut.of_grown hg g) (Kd.R_base2 Z9.out))
       have n7_:=a0_ (ho)
       clear HO_3
       clear BK1
       clear BK8
       clear HI0
       clear HO19
       clear HB
       clear HK
       clear Z9
       have HO_3:=n0_
       have BK1:=n1_
       have BK8:=n2_
       have HI0:=n3_
       have HO19:=n4_
       have HB:=n5_
       have HK:=n6_
       have HO24:=n7_
       clear n0_ n1_ n2_ n3_ n4_ n5_ n6_ n7_
       clear ho hb hg hat
       obtain ⟨Ao31,co31,eo31⟩:=Kd.R_slice HO24.out
       (first | subst eo31 | (injection eo31 with f1_ f2_ f3_;have f4_:=f1_.symm;have f5_:=f3_.symm;clear f1_ f2_ f3_;subst f4_;subst f5_))
       refine hK.out _ _ ?_
       clear hK K
       refine norm_ (a':=?_) ?_ ?_
       rotate_left
       ·show Act.put _ (some 35) _ = _
        simp only [Act.put,s1_,s2_,s3_,i64_w,i32_w]
        rfl
       refine pure_ (i:=17) (N:=some 36) (v:=?_) (a':=?_) #[true,true,true,true,true,true,true,true,true,true,true,true,true,true,true,true,true,true,false] rfl rfl (any_of HT_.out (by kernel_rfl)) (fun _ _ _ h=>h) (Or.inl ⟨by rfl,?_⟩) ?_ ?_
       rotate_left
       ·intro w'
        go_simp
        with_reducible rfl
       rotate_left
       ·simp only [Act.put,s1_,s2_,s3_,i64_w,i32_w]
        rfl
       refine last_ (i:=18) (N:=none) #[true,true,true,true,true,true,true,true,true,true,true,true,true,true,true,true,true,true,true] rfl rfl (one_of HT_.out (by kernel_rfl)) (by decide) (fun K hK=>?_)
       have hs32 : w30.cell? ⟨gb8,0,none⟩ = some (u9000):=(blk_cell BK8.out 0).trans rfl
       have hfs32:=blk_frozen BK8.out 0
       have hns32_0:=NB1_8.out
       have hms32_0:=NB8_1.out
       refine skip_ (w1:=?_) (by rfl) rfl ?_ ?_
       rotate_left
       ·go_simp
        rfl
       refine hK.out _ _ ?_
       clear hK K
       refine done_ (done_of HT_.out (by kernel_rfl)) ?_
       try go_wp2
       go_roundg k1
       case measure=>have:=HK1.out;omega
       case rel=>exact ⟨(wrap64 (x6_1 + 1)),(t21),(y22),(.slice Ao31 y22.length co31),(by first | rfl | (simp;done) | (simp [*];done)),H',⟨by have:=HK1.out;omega⟩,⟨by (with_reducible repeat (first | apply Kd.R_alloc | apply Kd.R_drewN | apply Kd.R_drew));exact Kd.R_mono (Kd.R_far (p:=⟨gb8,0,none⟩) (Kd.R_types HO_3.out BK8.out (by decide)) (fun _ hk=>hk.2) (.slice Ao31 y22.length co31)) (fun _ hk=>trivial)⟩,⟨by (with_reducible repeat (first | apply Kd.R_alloc | apply Kd.R_drewN | apply Kd.R_drew));exact Kd.R_mono (Kd.R_far (p:=⟨gb8,0,none⟩) (Kd.R_types HO24.out BK8.out (by decide)) (fun _ hk=>hk.2) (.slice Ao31 y22.length co31)) (fun _ hk=>trivial)⟩,⟨by (with_reducible repeat (first | refine blk_drewN ?_ _ | refine blk_drew ?_ | refine blk_alloc ?_ _));refine blk_far ?_ NB1_8.out _;(with_reducible repeat (first | refine blk_drewN ?_ _ | refine blk_drew ?_ | refine blk_alloc ?_ _));exact BK1.out⟩,⟨by (with_reducible repeat (first | refine blk_drewN ?_ _ | refine blk_drew ?_ | refine blk_alloc ?_ _));refine blk_put (cs:=#[u9000]) ?_ 0 _ rfl;(with_reducible repeat (first | refine blk_drewN ?_ _ | refine blk_drew ?_ | refine blk_alloc ?_ _));exact BK8.out⟩,⟨is0_⟩,⟨hk_⟩,⟨hbi0_⟩⟩
      ·rw [if_neg c22] at H
       exact absurd H (by simp)
     ·rw [if_neg c19] at H
      exact absurd H (by simp)
    ·rw [if_neg c18] at H
     exact absurd H (by simp)
   ·rw [if_neg c17] at H
    have c17b0 : decide (x6_1 < t12) = false:=decide_eq_false c17
    clear c17
    simp only [Option.some.injEq,Prod.mk.injEq] at H
    obtain ⟨rfl,rfl⟩:=H
    have hnb33:=NB8_1.out
    have hnc33:=NB1_8.out
    have hnb34:=NB8_0.out
    have hnc34:=NB0_8.out
    have hcz35_0 : wr.cell? ⟨gb8,0,none⟩ = some (u9000):=(blk_cell BK8.out 0).trans rfl
    have hfz35_0:=blk_frozen BK8.out 0
    obtain ⟨Ao36,co36,eo36⟩:=Kd.R_slice Z9.out
    subst eo36
    have hnb37:=NB1_0.out
    have hnc37:=NB0_1.out
    have hcz38_0 : wr.cell? ⟨gb1,0,none⟩ = some (.slice none 0 0):=(blk_cell BK1.out 0).trans rfl
    have hfz38_0:=blk_frozen BK1.out 0
    go_wp2
    refine bodyPost_ret (results_cell_row rfl _ _ gb1 25 #[.slice Ao36 x9000_1.length co36] (0,0) _ rfl (by (with_reducible repeat (first | refine blk_drewN ?_ _ | refine blk_drew ?_ | refine blk_alloc ?_ _));refine blk_put (cs:=#[.slice none 0 0]) ?_ 0 _ rfl;(with_reducible repeat (first | refine blk_drewN ?_ _ | refine blk_drew ?_ | refine blk_alloc ?_ _));exact BK1.out) Try.underlying25 rfl (by kernel_rfl)) rfl ?_
    exact ⟨_,by first | rfl | (simp [errW_none,errW_some] <;> rfl) | (simp [*,errW_none,errW_some] <;> rfl),by (with_reducible repeat (first | apply Kd.R_alloc | apply Kd.R_drewN | apply Kd.R_drew));exact Kd.R_mono (Kd.R_far (p:=⟨gb1,0,none⟩) (Kd.R_types Z9.out BK1.out (by decide)) (fun _ hk=>hk.2) (.slice Ao36 x9000_1.length co36)) (fun _ hk=>trivial),is0_,hbi0_,hk_⟩
theorem spec_goodTree_l0 (b : List Int) (hb : byL b) (nm : List ByteArray) (hm : nm.length = 8) (hs : ∀ x ∈ nm,x.size ≤ 7) (n : Nat) (hn : n ≤ 8) : ∀ (d i : Nat) (q : Int) (t : List Cls),i + d = n → 1 ≤ i → t.length = i → 0 ≤ q → q + 2 * d ≤ 1099511627776 → gT t → ∃ t' q',Ev (fun k=>spec_goodTree.l0 k nm (n : Int) (i : Int) b q t) (t',q') ∧ q ≤ q' ∧ q' ≤ q + 2 * d ∧ t'.length = n ∧ gT t':=by
 intro d
 induction d with
 | zero =>
  intro i q t hi h1 hl hq0 hq1 hg
  refine ⟨t,q,Ev.succ ?_,by omega,by omega,by omega,hg⟩
  simp only [spec_goodTree.l0]
  exact Ev.neg (by omega) (Ev.const rfl)
 | succ d ih =>
  intro i q t hi h1 hl hq0 hq1 hg
  obtain ⟨x,hx,x0,x1,_⟩:=spec_pick_ev b q (i : Int) hb hq0 (by omega)
  have hxi:=x1 (by omega)
  have ew : wrap64 ((i : Int) - 1) = (i : Int) - 1:=wrap_in (by omega) (by omega)
  obtain ⟨y,hy,hym⟩:=spec_one_ev b (q + 1) [0,x,(i : Int) - 1] hb (by omega) (by omega) (by simp)
  have hyr : 0 ≤ y ∧ y ≤ (i : Int) - 1:=by
   simp only [List.mem_cons,List.not_mem_nil,or_false] at hym
   omega
  have hnm : (rdOf ByteArray.empty nm (i : Int)).size ≤ 7:=by
   refine hs _ ?_
   unfold rdOf
   rw [Int.toNat_natCast,List.getD_eq_getElem?_getD,List.getElem?_eq_getElem (show i < nm.length by omega)]
   exact List.getElem_mem _
  obtain ⟨t',q',he,h2,h3,h4,h5⟩:=ih (i + 1) (q + 1 + 1) (t ++ [⟨rdOf ByteArray.empty nm (i : Int),y⟩]) (by omega) (by omega) (by simp;omega) (by omega) (by omega) (gT_snoc hg (by omega) _ hnm hyr.1 (by rw [hl];exact hyr.2))
  refine ⟨t',q',Ev.succ ?_,by omega,by omega,h4,h5⟩
  simp only [spec_goodTree.l0,ew]
  refine Ev.pos (by omega) (Ev.pos (by omega) (Ev.pos (by omega) (Ev.bind hx (Ev.bind hy (Ev.pos (by omega) ?_)))))
  rw [wrap_succ (i:=(i : Int)) (n:=8) (by omega) (by omega) (by omega)]
  exact he
theorem spec_goodTree_ev (b : List Int) (p : Int) (hb : byL b) (h0 : 0 ≤ p) (hp : p ≤ 1099511627000) : ∃ t q,Ev (fun k=>spec_goodTree.f k b p) (t,q) ∧ p ≤ q ∧ q ≤ p + 20 ∧ 1 ≤ t.length ∧ t.length ≤ 8 ∧ gT t:=by
 obtain ⟨n,hn,hnm⟩:=spec_one_ev b p [4,5,3,6,2,1,8] hb h0 (by omega) (by simp)
 have hr : 1 ≤ n ∧ n ≤ 8:=by
  simp only [List.mem_cons,List.not_mem_nil,or_false] at hnm
  omega
 obtain ⟨m,rfl⟩:=Int.eq_ofNat_of_zero_le (show 0 ≤ n by omega)
 obtain ⟨t,q,he,h2,h3,h4,h5⟩:=spec_goodTree_l0 b hb [(⟨#[97,110,121]⟩ : ByteArray),(⟨#[105,111]⟩ : ByteArray),(⟨#[107,101,121]⟩ : ByteArray),(⟨#[116,105,109,101]⟩ : ByteArray),(⟨#[110,101,116]⟩ : ByteArray),(⟨#[100,105,115,107]⟩ : ByteArray),(⟨#[116,121,112,101]⟩ : ByteArray),(⟨#[111,100,100]⟩ : ByteArray)] rfl (by
  intro x hx
  simp only [List.mem_cons,List.not_mem_nil,or_false] at hx
  rcases hx with rfl | rfl | rfl | rfl | rfl | rfl | rfl | rfl <;> decide) m (by omega) (m - 1) 1 (p + 1) [⟨(⟨#[97,110,121]⟩ : ByteArray),(-1)⟩] (by omega) (by omega) rfl (by omega) (by omega) (by
  refine ⟨fun x hx=>?_,fun j hj=>?_⟩
  ·obtain rfl : x = ⟨(⟨#[97,110,121]⟩ : ByteArray),(-1)⟩:=by simpa using hx
   decide
  ·obtain rfl : j = 0:=by simp at hj;omega
   exact ⟨fun _=>rfl,fun h=>by omega⟩)
 exact ⟨t,q,Ev.bind hn he,by omega,by omega,by omega,by omega,h5⟩
end Go.Proofs.Ytmiholmfbjalfaa.P
namespace Go.Proofs.Ytmiholmfbjalfaa.P
open Go.RowKit Go.Proofs.YtmiholmfbjalfaaW.PrintWords Go.Proofs.YtmiholmfbjalfaaW.PrintLast Go.Proofs.YtmiholmfbjalfaaW.PrintMore
attribute [local go_sem] max2_int min2_int max_two min_two max_three min_three max_four min_four
set_option linter.unusedVariables false
set_option linter.unusedSimpArgs false
def spec_reader_of.f (k : Nat) (s0_0 : List Int) (s0_1 : Int) (l1 : List ByteArray) : Option (ByteArray × Int):=(spec_reader_pick.f k s0_0 s0_1 (l1.length : Int)).bind fun bt1=>(if 0 ≤ bt1.1 then (if bt1.1 < (l1.length : Int) then (some (rdOf ByteArray.empty l1 bt1.1,bt1.2)) else (none)) else (none))
theorem spec_reader_of.mono : ∀ a0 a1 a2 k,LeO (spec_reader_of.f k a0 a1 a2) (spec_reader_of.f (k + 1) a0 a1 a2):=by
 intro a0 a1 a2 k
 unfold spec_reader_of.f
 repeat' first
   | (with_reducible exact spec_reader_pick.mono _ _ _ _)
   | (with_reducible exact LeO.refl _)
   | (with_reducible exact LeO.none _)
   | (with_reducible refine LeO.ite ?_ ?_)
   | (with_reducible refine LeO.bind ?_ (fun _=>?_))
   | exact spec_reader_pick.mono _ _ _ _
   | exact LeO.none _
   | refine LeO.ite ?_ ?_
   | refine LeO.bind ?_ (fun _=>?_)
set_option maxHeartbeats 8000000 in
set_option maxRecDepth 100000 in
theorem spec_reader_of.calls (k : Nat) (g : Nat) (s0_0 : List Int) (s0_1 : Int) (A1 : Option Addr) (c1 : Nat) (l1 : List ByteArray) (r1 : ByteArray) (r2 : Int) (w0 w : World) (hI : IsS76 w0 w g s0_0 s0_1) (hB : Below w0.heap.size w0 w) (hr1 : Kd.C Kd.string w A1 l1.length l1) (hc1 : l1.length ≤ c1) (hf1 : ∀ ad,A1 = some ad → 0 < l1.length → ad.block ≠ g) (h : spec_reader_of.f k s0_0 s0_1 l1 = some (r1,r2)) :
  Calls Try.prog 82 #[.pointer (some ⟨g,0,none⟩),.slice A1 l1.length c1] w fun e w'=>e = .returned (.string r1) ∧ IsS76 w0 w' g s0_0 r2 ∧ Below w0.heap.size w0 w' ∧ KeepBut w w' g none:=by
 have HR1:=a0_ hr1
 have HC1:=a0_ hc1
 clear hr1 hc1
 have HI0:=a0_ hI
 have HK:=a0_ (KeepBut.refl w g none)
 have HL:=a0_ hB.size
 clear hI
 have HW0:=a0_ hB.size
 have HB:=a0_ hB
 clear hB
 have H : ((spec_reader_pick.f k s0_0 s0_1 (l1.length : Int)).bind fun bt1=>(if 0 ≤ bt1.1 then (if bt1.1 < (l1.length : Int) then (some (rdOf ByteArray.empty l1 bt1.1,bt1.2)) else (none)) else (none))) = some (r1,r2):=h
 clear h
 replace H:=Option.bind_eq_some_iff.mp H
 obtain ⟨⟨t1,t2⟩,A30,H⟩:=H
 try dsimp only at H
 have A3:=a0_ A30
 clear A30
 by_cases c4 : 0 ≤ t1
 ·rw [if_pos c4] at H
  have c4b0 : decide (0 ≤ t1) = true:=decide_eq_true c4
  clear c4
  by_cases c5 : t1 < (l1.length : Int)
  ·rw [if_pos c5] at H
   have c5b0 : decide (t1 < (l1.length : Int)) = true:=decide_eq_true c5
   clear c5
   simp only [Option.some.injEq,Prod.mk.injEq] at H
   obtain ⟨rfl,rfl⟩:=H
   go_enter Try.func82,Try.ntmps82
   go_wp2_with (first | ((with_reducible refine gate_callee (f:=48) rfl ?_);refine goesL_ (some 9) rfl rfl Try.func48 (by kernel_rfl) rfl #[.pointer (some ⟨g,0,none⟩),.int .i64 (l1.length : Int)] rfl lm_ ?_;(with_reducible refine (spec_reader_pick.calls k g s0_0 s0_1 (l1.length : Int) t1 t2 w0 _ ?side1 ?side2 A3.out).mono ?_);(case side1=>exact is0_);(case side2=>exact hbi0_);rintro e w6 ⟨rfl,hi,hb,hk⟩;refine ⟨_,rfl,?_⟩;replace HK:=a0_ (KeepBut.trans (w:=w) hk_ hk (.inl rfl));replace HI0:=a0_ (hi);replace HB:=a0_ (hb);(try clear hb);have p3 : 0 ≤ (t1 : Int):=of_decide_eq_true (by first | (with_reducible assumption) | assumption);have q3 : t1 < (l1.length : Int):=of_decide_eq_true (by first | (with_reducible assumption) | assumption);obtain ⟨ad3,e3,hx3_0⟩:=Kd.at_string HR1.out t1 p3 q3;cases e3;replace hx3_0:=keep_cell HK.out hx3_0 (by first | (rw [add_block];exact hf1 _ rfl (by omega)) | exact hf1 _ rfl (by omega) | exact hf1 ad3 rfl (by omega));replace p3:=eq_true p3;replace q3:=eq_true q3))
   go_ret
   exact ⟨by first | rfl | (simp [errW_none,errW_some] <;> rfl) | (simp [*,errW_none,errW_some] <;> rfl),is0_,hbi0_,hk_⟩
  ·rw [if_neg c5] at H
   exact absurd H (by simp)
 ·rw [if_neg c4] at H
  exact absurd H (by simp)
theorem spec_of_ev (b : List Int) (p : Int) (l : List ByteArray) (hb : byL b) (h0 : 0 ≤ p) (hp : p ≤ 1099511627776) (hl : 1 ≤ l.length) : ∃ x,Ev (fun k=>spec_reader_of.f k b p l) (x,p + 1) ∧ x ∈ l:=by
 obtain ⟨x,hx,x0,x1,_⟩:=spec_pick_ev b p (l.length : Int) hb h0 hp
 have hlt:=x1 (by omega)
 have hn : x.toNat < l.length:=by omega
 refine ⟨rdOf ByteArray.empty l x,Ev.bind hx (Ev.pos x0 (Ev.pos hlt (Ev.const rfl))),?_⟩
 unfold rdOf
 rw [List.getD_eq_getElem?_getD,List.getElem?_eq_getElem hn]
 exact List.getElem_mem hn
end Go.Proofs.Ytmiholmfbjalfaa.P
namespace Go.Proofs.Ytmiholmfbjalfaa.P
open Go.RowKit Go.Proofs.YtmiholmfbjalfaaW.PrintWords Go.Proofs.YtmiholmfbjalfaaW.PrintLast Go.Proofs.YtmiholmfbjalfaaW.PrintMore
attribute [local go_sem] max2_int min2_int max_two min_two max_three min_three max_four min_four
set_option linter.unusedVariables false
set_option linter.unusedSimpArgs false
def spec_someTree.f (k : Nat) (s0_0 : List Int) (s0_1 : Int) : Option ((List (S87)) × Int):=(spec_goodTree.f k s0_0 s0_1).bind fun bt2=>((spec_reader_pick.f k s0_0 bt2.2 (bt2.1.length : Int)).bind fun bt7=>((spec_reader_pick.f k s0_0 bt7.2 24).bind fun bt9=>(if bt9.1 = 0 then ((spec_reader_of.f k s0_0 bt9.2 (([(⟨#[]⟩ : ByteArray),(⟨#[97,110,121]⟩ : ByteArray),(⟨#[65]⟩ : ByteArray),(⟨#[116,111,111,108,111,110,103]⟩ : ByteArray)] : List ByteArray))).bind fun bt14=>(if 0 ≤ bt7.1 then (if bt7.1 < (bt2.1.length : Int) then (some ((bt2.1.set (bt7.1 : Int).toNat (⟨bt14.1,(rd_T87 bt2.1 bt7.1).f1⟩ : S87)),bt14.2)) else (none)) else (none))) else (if bt9.1 = 1 then ((spec_reader_one.f k s0_0 bt9.2 (([bt7.1,(-1),8,(-2)] : List Int))).bind fun bt20=>(if 0 ≤ bt7.1 then (if bt7.1 < (bt2.1.length : Int) then (some ((bt2.1.set (bt7.1 : Int).toNat (⟨(rd_T87 bt2.1 bt7.1).f0,bt20.1⟩ : S87)),bt20.2)) else (none)) else (none))) else (if bt9.1 = 2 then (some (([] : List (S87)),bt9.2)) else (some (bt2.1,bt9.2)))))))
theorem spec_someTree.mono : ∀ a0 a1 k,LeO (spec_someTree.f k a0 a1) (spec_someTree.f (k + 1) a0 a1):=by
 intro a0 a1 k
 unfold spec_someTree.f
 repeat' first
   | (with_reducible exact spec_goodTree.mono _ _ _)
   | (with_reducible exact spec_reader_of.mono _ _ _ _)
   | (with_reducible exact spec_reader_one.mono _ _ _ _)
   | (with_reducible exact spec_reader_pick.mono _ _ _ _)
   | (with_reducible exact LeO.refl _)
   | (with_reducible exact LeO.none _)
   | (with_reducible refine LeO.ite ?_ ?_)
   | (with_reducible refine LeO.bind ?_ (fun _=>?_))
   | exact spec_goodTree.mono _ _ _
   | exact spec_reader_of.mono _ _ _ _
   | exact spec_reader_one.mono _ _ _ _
   | exact spec_reader_pick.mono _ _ _ _
   | exact LeO.none _
   | refine LeO.ite ?_ ?_
   | refine LeO.bind ?_ (fun _=>?_)
def spec_someTree.T5 : Bool × List (List Nat × List Nat):=(true,[([],[]),([0],[0]),([],[]),([],[]),([],[]),([3,4],[3,4]),([1,2,0,1,2,3,4,5],[1,2]),([6,0,1,2,3,4,5],[6]),([7,5,5,0,1,2,3,4,5],[5,7])])
def spec_someTree.B5 : List Nat:=[0,1,0,0,0,24,63,127,255]
theorem spec_someTree.tab5 : rtab .any (opsOf Try.f66 5) = spec_someTree.T5:=by kernel_rfl
theorem spec_someTree.bits5 : waitsOk spec_someTree.T5.2 spec_someTree.B5 = true:=by kernel_rfl
def spec_someTree.T7 : Bool × List (List Nat × List Nat):=(true,[([],[]),([0],[0]),([],[]),([],[]),([],[]),([4],[4]),([3,5],[3,5]),([1,2,0,1,2,3,4,5,6],[1,2]),([7,0,1,2,3,4,5,6],[7]),([8,6,6,0,1,2,3,4,5,6],[6,8])])
def spec_someTree.B7 : List Nat:=[0,1,0,0,0,16,56,127,255,511]
theorem spec_someTree.tab7 : rtab .any (opsOf Try.f66 7) = spec_someTree.T7:=by kernel_rfl
theorem spec_someTree.bits7 : waitsOk spec_someTree.T7.2 spec_someTree.B7 = true:=by kernel_rfl
set_option maxHeartbeats 8000000 in
set_option maxRecDepth 100000 in
theorem spec_someTree.calls (k : Nat) (g : Nat) (s0_0 : List Int) (s0_1 : Int) (r1 : List (S87)) (r2 : Int) (w0 w : World) (hI : IsS76 w0 w g s0_0 s0_1) (hB : Below w0.heap.size w0 w) (h : spec_someTree.f k s0_0 s0_1 = some (r1,r2)) :
  Calls Try.prog 66 #[.pointer (some ⟨g,0,none⟩)] w fun e w'=>∃ v0_ : Value,e = .returned (.agg #[v0_]) ∧ Kd.R k87 87 w' w.heap.size (fun _=>True) v0_ r1 ∧ IsS76 w0 w' g s0_0 r2 ∧ Below w0.heap.size w0 w' ∧ KeepBut w w' g none:=by
 have hu25:=Try.underlying25
 have HI0:=a0_ hI
 have HK:=a0_ (KeepBut.refl w g none)
 have HL:=a0_ hB.size
 clear hI
 have HW0:=a0_ hB.size
 have HB:=a0_ hB
 clear hB
 have H : ((spec_goodTree.f k s0_0 s0_1).bind fun bt2=>((spec_reader_pick.f k s0_0 bt2.2 (bt2.1.length : Int)).bind fun bt7=>((spec_reader_pick.f k s0_0 bt7.2 24).bind fun bt9=>(if bt9.1 = 0 then ((spec_reader_of.f k s0_0 bt9.2 (([(⟨#[]⟩ : ByteArray),(⟨#[97,110,121]⟩ : ByteArray),(⟨#[65]⟩ : ByteArray),(⟨#[116,111,111,108,111,110,103]⟩ : ByteArray)] : List ByteArray))).bind fun bt14=>(if 0 ≤ bt7.1 then (if bt7.1 < (bt2.1.length : Int) then (some ((bt2.1.set (bt7.1 : Int).toNat (⟨bt14.1,(rd_T87 bt2.1 bt7.1).f1⟩ : S87)),bt14.2)) else (none)) else (none))) else (if bt9.1 = 1 then ((spec_reader_one.f k s0_0 bt9.2 (([bt7.1,(-1),8,(-2)] : List Int))).bind fun bt20=>(if 0 ≤ bt7.1 then (if bt7.1 < (bt2.1.length : Int) then (some ((bt2.1.set (bt7.1 : Int).toNat (⟨(rd_T87 bt2.1 bt7.1).f0,bt20.1⟩ : S87)),bt20.2)) else (none)) else (none))) else (if bt9.1 = 2 then (some (([] : List (S87)),bt9.2)) else (some (bt2.1,bt9.2)))))))) = some (r1,r2):=h
 clear h
 replace H:=Option.bind_eq_some_iff.mp H
 obtain ⟨⟨t2,t5⟩,A20,H⟩:=H
 try dsimp only at H
 have A2:=a0_ A20
 clear A20
 replace H:=Option.bind_eq_some_iff.mp H
 obtain ⟨⟨t7,t8⟩,A30,H⟩:=H
 try dsimp only at H
 have A3:=a0_ A30
 clear A30
 replace H:=Option.bind_eq_some_iff.mp H
 obtain ⟨⟨t9,t10⟩,A40,H⟩:=H
 try dsimp only at H
 have A4:=a0_ A40
 clear A40
 by_cases c5 : t9 = 0
 ·rw [if_pos c5] at H
  have c5b0 : (t9 == 0) = true:=beq_iff_eq.mpr c5
  have c5b1 : (t9 != 0) = false:=bne_eq_false_iff_eq.mpr c5
  clear c5
  obtain ⟨y11,hy11⟩ : ∃ y_ : List ByteArray,y_ = (([(⟨#[]⟩ : ByteArray),(⟨#[97,110,121]⟩ : ByteArray),(⟨#[65]⟩ : ByteArray),(⟨#[116,111,111,108,111,110,103]⟩ : ByteArray)] : List ByteArray)):=⟨_,rfl⟩
  replace H : ((spec_reader_of.f k s0_0 t10 y11).bind fun bt14=>(if 0 ≤ t7 then (if t7 < (t2.length : Int) then (some ((t2.set (t7 : Int).toNat (⟨bt14.1,(rd_T87 t2 t7).f1⟩ : S87)),bt14.2)) else (none)) else (none))) = some (r1,r2):=by first | (rw [hy11];with_reducible exact H) | (have H2_:=(Option.bind_some _ _).symm.trans H;rw [hy11];with_reducible exact H2_) | (have H2_:=(Option.bind_some _ _).symm.trans H;with_reducible exact H2_) | with_reducible exact H | (rw [hy11];exact H) | exact H
  have Ny11:=a0_ hy11
  clear hy11
  replace H:=Option.bind_eq_some_iff.mp H
  obtain ⟨⟨t14,t15⟩,A60,H⟩:=H
  try dsimp only at H
  have A6:=a0_ A60
  clear A60
  by_cases c7 : 0 ≤ t7
  ·rw [if_pos c7] at H
   have c7b0 : decide (0 ≤ t7) = true:=decide_eq_true c7
   clear c7
   by_cases c8 : t7 < (t2.length : Int)
   ·rw [if_pos c8] at H
    have c8b0 : decide (t7 < (t2.length : Int)) = true:=decide_eq_true c8
    clear c8
    obtain ⟨y16,hy16⟩ : ∃ y_ : List (S87),y_ = (t2.set (t7 : Int).toNat (⟨t14,(rd_T87 t2 t7).f1⟩ : S87)):=⟨_,rfl⟩
    replace H : (some (y16,t15)) = some (r1,r2):=by first | (rw [hy16];with_reducible exact H) | (have H2_:=(Option.bind_some _ _).symm.trans H;rw [hy16];with_reducible exact H2_) | (have H2_:=(Option.bind_some _ _).symm.trans H;with_reducible exact H2_) | with_reducible exact H | (rw [hy16];exact H) | exact H
    have Ny16:=a0_ hy16
    clear hy16
    simp only [Option.some.injEq,Prod.mk.injEq] at H
    obtain ⟨rfl,rfl⟩:=H
    go_enter Try.func66,Try.ntmps66
    try go_wp2_with (first | ((with_reducible refine gate_dst (N:=2) rfl ?_);refine box_event ?hg (N:=2) ?hd (cs:=#[.slice none 0 0]) (t:=25) ?hr ?_;(case hd=>rfl);(case hg=>rfl);(case hr=>first | (go_simp;done) | (go_simp;rfl));intro gb1 hg w10 hbox hb;have n0_:=a0_ (IsS76.below is0_ hb);have n1_:=a0_ (KeepBut.trans (w:=w) hk_ (KeepBut.of_below hb g none) (.inl rfl));have n2_:=a0_ (below_step hbi0_ hb);have n3_:=a0_ (hbox);have n4_:=a0_ ((by rw [hg];exact (keep_size (w:=w) (g:=g) (row:=none) hk_) : w.heap.size ≤ gb1));have n5_:=a0_ ((Nat.le_trans HW0.out (by rw [hg];exact (keep_size (w:=w) (g:=g) (row:=none) hk_) : w.heap.size ≤ gb1) : w0.heap.size ≤ gb1));have n6_:=a0_ ((by rw [hg];exact Nat.ne_of_lt (IsS76.lt (is0_ : IsS76 w0 _ g s0_0 s0_1)) : g ≠ gb1));have n7_:=a0_ ((by rw [hg];exact Nat.ne_of_gt (IsS76.lt (is0_ : IsS76 w0 _ g s0_0 s0_1)) : gb1 ≠ g));clear HI0 HK HB;have HI0:=n0_;have HK:=n1_;have HB:=n2_;have BK1:=n3_;have GW1:=n4_;have GE1:=n5_;have NB0_1:=n6_;have NB1_0:=n7_;clear n0_ n1_ n2_ n3_ n4_ n5_ n6_ n7_;clear hb hbox hg) | ((with_reducible refine gate_callee (f:=81) rfl ?_);refine goesL_ (some 6) rfl rfl Try.func81 (by kernel_rfl) rfl #[.pointer (some ⟨g,0,none⟩)] rfl lm_ ?_;(with_reducible refine (spec_goodTree.calls k g s0_0 s0_1 t2 t5 w0 _ ?side1 ?side2 A2.out).mono ?_);(case side1=>exact is0_);(case side2=>exact hbi0_);rintro e w11 ⟨v3,rfl,ho0,hi,hb,hk⟩;refine ⟨_,rfl,?_⟩;replace BK1:=kk_ hk BK1 NB1_0;have HO4:=a0_ (Kd.R_lower ho0 (keep_size (w:=w) (g:=g) (row:=none) hk_));replace HK:=a0_ (KeepBut.trans (w:=w) hk_ hk (.inl rfl));replace HI0:=a0_ (hi);replace HB:=a0_ (hb);(try clear hb);(try clear ho0)) | ((with_reducible refine gate_dst (N:=3) rfl ?_);refine box_event ?hg (N:=3) ?hd (cs:=#[.slice none 0 0]) (t:=25) ?hr ?_;(case hd=>rfl);(case hg=>rfl);(case hr=>first | (go_simp;done) | (go_simp;rfl));intro gb6 hg w12 hbox hb;have n0_:=rb_ HO4 hb;have n1_:=a0_ (IsS76.below is0_ hb);have n2_:=kb_ BK1 hb;have n3_:=a0_ (KeepBut.trans (w:=w) hk_ (KeepBut.of_below hb g none) (.inl rfl));have n4_:=a0_ (below_step hbi0_ hb);have n5_:=a0_ (hbox);have n6_:=a0_ ((by rw [hg];exact (keep_size (w:=w) (g:=g) (row:=none) hk_) : w.heap.size ≤ gb6));have n7_:=a0_ ((Nat.le_trans HW0.out (by rw [hg];exact (keep_size (w:=w) (g:=g) (row:=none) hk_) : w.heap.size ≤ gb6) : w0.heap.size ≤ gb6));have n8_:=a0_ ((by rw [hg];exact Nat.ne_of_lt (blk_lt (bb_ BK1.out)) : gb1 ≠ gb6));have n9_:=a0_ ((by rw [hg];exact Nat.ne_of_gt (blk_lt (bb_ BK1.out)) : gb6 ≠ gb1));have n10_:=a0_ ((by rw [hg];exact Nat.ne_of_lt (IsS76.lt (is0_ : IsS76 w0 _ g s0_0 t5)) : g ≠ gb6));have n11_:=a0_ ((by rw [hg];exact Nat.ne_of_gt (IsS76.lt (is0_ : IsS76 w0 _ g s0_0 t5)) : gb6 ≠ g));clear HO4 HI0;clear BK1 HK HB;have HO4:=n0_;have HI0:=n1_;have BK1:=n2_;have HK:=n3_;have HB:=n4_;have BK6:=n5_;have GW6:=n6_;have GE6:=n7_;have NB1_6:=n8_;have NB6_1:=n9_;have NB0_6:=n10_;have NB6_0:=n11_;clear n0_ n1_ n2_ n3_ n4_ n5_ n6_ n7_ n8_ n9_ n10_ n11_;clear hb hbox hg;obtain ⟨Ao13,co13,eo13⟩:=Kd.R_slice HO4.out;subst eo13;have hnb14:=NB6_1.out;have hnc14:=NB1_6.out;have hnb15:=NB6_0.out;have hnc15:=NB0_6.out;have hcz16_0 : w12.cell? ⟨gb6,0,none⟩ = some (.slice none 0 0):=(blk_cell BK6.out 0).trans rfl;have hfz16_0:=blk_frozen BK6.out 0) | ((with_reducible refine gate_callee (f:=48) rfl ?_);refine goesL_ (some 11) rfl rfl Try.func48 (by kernel_rfl) rfl #[.pointer (some ⟨g,0,none⟩),.int .i64 (t2.length : Int)] rfl lm_ ?_;(with_reducible refine (spec_reader_pick.calls k g s0_0 t5 (t2.length : Int) t7 t8 w0 _ ?side1 ?side2 A3.out).mono ?_);(case side1=>exact is0_);(case side2=>exact hbi0_);rintro e w17 ⟨rfl,hi,hb,hk⟩;refine ⟨_,rfl,?_⟩;replace BK1:=kk_ hk BK1 NB1_0;replace HO4:=a0_ (Kd.R_mono (Kd.R_keep (IsS76.apart (is0_ : IsS76 w0 _ g s0_0 t5) (by (with_reducible repeat (first | apply Kd.R_alloc | apply Kd.R_drewN | apply Kd.R_drew));exact (Kd.R_mono (Kd.R_far (p:=⟨gb6,0,none⟩) (Kd.R_types HO4.out BK6.out (by decide)) (fun _ hk=>hk.2) (.slice Ao13 t2.length co13)) (fun _ h_=>h_.1))) (by decide)) hk (fun _ h=>h.2)) (fun _ h=>h.1));replace BK6:=a0_ (KeepBut.blk hk (g':=gb6) (o:=.cells #[.slice Ao13 t2.length co13] 25 (0,0)) (by (with_reducible repeat (first | refine blk_drewN ?_ _ | refine blk_drew ?_ | refine blk_alloc ?_ _));refine blk_put (cs:=#[.slice none 0 0]) ?_ 0 _ rfl;(with_reducible repeat (first | refine blk_drewN ?_ _ | refine blk_drew ?_ | refine blk_alloc ?_ _));exact BK6.out) NB6_0.out (by simp));replace HK:=a0_ (KeepBut.trans (w:=w) hk_ hk (.inl rfl));replace HI0:=a0_ (hi);replace HB:=a0_ (hb);(try clear hb);(try clear hb2);(try clear hk);(try clear hi)) | ((with_reducible refine gate_callee (f:=48) rfl ?_);refine goesL_ (some 13) rfl rfl Try.func48 (by kernel_rfl) rfl #[.pointer (some ⟨g,0,none⟩),.int .i64 24] rfl lm_ ?_;(with_reducible refine (spec_reader_pick.calls k g s0_0 t8 24 t9 t10 w0 _ ?side1 ?side2 A4.out).mono ?_);(case side1=>exact is0_);(case side2=>exact hbi0_);rintro e w18 ⟨rfl,hi,hb,hk⟩;refine ⟨_,rfl,?_⟩;replace BK1:=kk_ hk BK1 NB1_0;replace HO4:=a0_ (Kd.R_mono (Kd.R_keep (IsS76.apart (is0_ : IsS76 w0 _ g s0_0 t8) (rr_ HO4.out) (by decide)) hk (fun _ h=>h.2)) (fun _ h=>h.1));replace BK6:=kk_ hk BK6 NB6_0;replace HK:=a0_ (KeepBut.trans (w:=w) hk_ hk (.inl rfl));replace HI0:=a0_ (hi);replace HB:=a0_ (hb);(try clear hb);(try clear hb2);(try clear hk);(try clear hi)))
    have n0_:=a0_ (Kd.R_drew HO4.out)
    have n1_:=a0_ (blk_drew BK1.out)
    have n2_:=a0_ (blk_drew BK6.out)
    have n3_:=a0_ (IsS76.drew HI0.out)
    have n4_:=a0_ (keep_drew HK.out)
    have n5_:=a0_ (below_drew1 HB.out)
    clear HO4
    clear BK1
    clear BK6
    clear HI0
    clear HK
    clear HB
    have HO4:=n0_
    have BK1:=n1_
    have BK6:=n2_
    have HI0:=n3_
    have HK:=n4_
    have HB:=n5_
    clear n0_ n1_ n2_ n3_ n4_ n5_
    refine start_ (n:=9) (S:=fun w'=>w'.cell? ⟨gb6,0,none⟩ = some (.slice Ao13 t2.length co13)) (ds:=[8]) #[false,false,false,false,false,false,false,false,false] (by kernel_rfl) rfl rfl ((blk_cell BK6.out 0).trans rfl) (fun hHeld=>?_);refine with_tabW spec_someTree.tab5 spec_someTree.bits5 (fun HT_ HW_=>?_)
    generalize w18.drew = w19 at HO4 BK1 BK6 HI0 HK HB hHeld ⊢
    refine pure_ (i:=0) (N:=some 16) (v:=?_) (a':=?_) #[true,false,false,false,false,false,false,false,false] rfl rfl (any_of HT_.out (by kernel_rfl)) (fun _ _ _ h=>h) (Or.inl ⟨by rfl,?_⟩) ?_ ?_
    rotate_left
    ·intro w'
     go_simp
     with_reducible rfl
    rotate_left
    ·simp only [Act.put,s1_,s2_,s3_,i64_w,i32_w]
     rfl
    refine pure_ (i:=2) (N:=some 18) (v:=?_) (a':=?_) #[true,false,true,false,false,false,false,false,false] rfl rfl (any_of HT_.out (by kernel_rfl)) (fun _ _ _ h=>h) (Or.inl ⟨by rfl,?_⟩) ?_ ?_
    rotate_left
    ·intro w'
     go_simp
     with_reducible rfl
    rotate_left
    ·simp only [Act.put,s1_,s2_,s3_,i64_w,i32_w]
     rfl
    refine pure_ (i:=3) (N:=some 19) (v:=?_) (a':=?_) #[true,false,true,true,false,false,false,false,false] rfl rfl (any_of HT_.out (by kernel_rfl)) (fun _ _ _ h=>h) (Or.inl ⟨by rfl,?_⟩) ?_ ?_
    rotate_left
    ·intro w'
     go_simp
     with_reducible rfl
    rotate_left
    ·simp only [Act.put,s1_,s2_,s3_,i64_w,i32_w]
     rfl
    refine take_ (i:=1) (N:=some 17) (v:=?_) (a':=?_) #[true,true,true,true,false,false,false,false,false] rfl rfl (take_ofW HT_.out HW_.out (by kernel_rfl)) (fun _ _ _ h=>h) (Or.inl ⟨by rfl,?_⟩) hHeld ?_ ?_
    rotate_left
    ·intro w' s0
     go_simp
     with_reducible rfl
    rotate_left
    ·simp only [Act.put,s1_,s2_,s3_,i64_w,i32_w]
     rfl
    refine one_ (i:=4) (N:=some 20) #[true,true,true,true,true,false,false,false,false] rfl rfl (one_of HT_.out (by kernel_rfl)) (by decide) (fun K hK=>?_)
    refine Kd.R_lit_step Kd.string _ 9 ?hg (N:=20) ?hd (xs:=([(⟨#[]⟩ : ByteArray),(⟨#[97,110,121]⟩ : ByteArray),(⟨#[65]⟩ : ByteArray),(⟨#[116,111,111,108,111,110,103]⟩ : ByteArray)] : List ByteArray)) (inner:=[.string (⟨#[]⟩ : ByteArray),.string (⟨#[97,110,121]⟩ : ByteArray),.string (⟨#[65]⟩ : ByteArray),.string (⟨#[116,111,111,108,111,110,103]⟩ : ByteArray)]) (ok:=fun _=>True) (okp:=fun _=>True) ?hr ?hp (fun _ hk=>hk) trivial (Below.refl _ _) (Nat.le_refl _) (by simp) ?_;(case hd=>rfl);(case hg=>rfl);(case hr=>first | (go_simp;done) | (go_simp;rfl));(case hp=>exact (Reps.one (show Kd.M Kd.string _ _ _ (⟨#[]⟩ : ByteArray) [.string (⟨#[]⟩ : ByteArray)] from rfl) (Reps.one (show Kd.M Kd.string _ _ _ (⟨#[97,110,121]⟩ : ByteArray) [.string (⟨#[97,110,121]⟩ : ByteArray)] from rfl) (Reps.one (show Kd.M Kd.string _ _ _ (⟨#[65]⟩ : ByteArray) [.string (⟨#[65]⟩ : ByteArray)] from rfl) (Reps.one (show Kd.M Kd.string _ _ _ (⟨#[116,111,111,108,111,110,103]⟩ : ByteArray) [.string (⟨#[116,111,111,108,111,110,103]⟩ : ByteArray)] from rfl) (Reps.none _ _))))))
    intro v12 w20 ho21 hb hg_ hnew_
    clear hg_ hnew_
    (first | rw [← Ny11.out] at ho21 | (simp only [Int.reduceToNat] at ho21;rw [← Ny11.out] at ho21))
    have n0_:=rb_ HO4 hb
    have n1_:=a0_ (Kd.R_lower ho21 (keep_size (w:=w) (g:=g) (row:=none) hk_))
    have n2_:=a0_ (IsS76.below is0_ hb)
    have n3_:=kb_ BK1 hb
    have n4_:=kb_ BK6 hb
    have n5_:=a0_ (KeepBut.trans (w:=w) hk_ (KeepBut.of_below hb g none) (.inl rfl))
    have n6_:=a0_ (below_step hbi0_ hb)
    clear HO4
    clear HI0
    clear BK1
    clear BK6
    clear HK
    clear HB
    have HO4:=n0_
    have HO13:=n1_
    have HI0:=n2_
    have BK1:=n3_
    have BK6:=n4_
    have HK:=n5_
    have HB:=n6_
    clear n0_ n1_ n2_ n3_ n4_ n5_ n6_
    clear hb ho21
    obtain ⟨Ao22,co22,eo22⟩:=Kd.R_slice HO13.out
    (first | subst eo22 | (injection eo22 with f1_ f2_ f3_;have f4_:=f1_.symm;have f5_:=f3_.symm;clear f1_ f2_ f3_;subst f4_;subst f5_))
    refine hK.out _ _ ((blk_cell BK6.out 0).trans rfl) (fun hHeld=>?_)
    clear hK K
    refine norm_ (a':=?_) ?_ ?_
    rotate_left
    ·show Act.put _ (some 20) _ = _
     simp only [Act.put,s1_,s2_,s3_,i64_w,i32_w]
     rfl
    refine one_ (i:=5) (N:=some 21) #[true,true,true,true,true,true,false,false,false] rfl rfl (one_of HT_.out (by kernel_rfl)) (by decide) (fun K hK=>?_)
    refine goes_ Try.func82 (by kernel_rfl) rfl #[.pointer (some ⟨g,0,none⟩),.slice Ao22 y11.length co22] (by rfl) rfl rfl lm_ ?_
    with_reducible refine (spec_reader_of.calls k g s0_0 t10 _ _ y11 t14 t15 w0 _ ?side1 ?side2 ?side3 ?side4 ?side5 A6.out).mono ?_
    (case side1=>exact is0_)
    (case side2=>exact hbi0_)
    (case side3=>exact cc_ (Kd.R_reads' HO13.out).2.2)
    (case side4=>exact (Kd.R_reads' HO13.out).2.1)
    (case side5=>exact far_slice (IsS76.own_ne HI0.out HO13.out (by decide)))
    rintro e w23 ⟨rfl,hi,hb,hk⟩
    refine ⟨_,rfl,?_⟩
    have n0_:=kk_ hk BK1 NB1_0
    have n1_:=a0_ (Kd.R_mono (Kd.R_keep (IsS76.apart (is0_ : IsS76 w0 _ g s0_0 t10) (rr_ HO4.out) (by decide)) hk (fun _ h=>h.2)) (fun _ h=>h.1))
    have n2_:=kk_ hk BK6 NB6_0
    have n3_:=a0_ (Kd.R_mono (Kd.R_keep (IsS76.apart (is0_ : IsS76 w0 _ g s0_0 t10) (rr_ HO13.out) (by decide)) hk (fun _ h=>h.2)) (fun _ h=>h.1))
    have n4_:=a0_ (KeepBut.trans (w:=w) hk_ hk (.inl rfl))
    have n5_:=a0_ (hb)
    have n6_:=a0_ (hi)
    clear BK1
    clear HO4
    clear BK6
    clear HO13
    clear HK
    clear HB
    clear HI0
    have BK1:=n0_
    have HO4:=n1_
    have BK6:=n2_
    have HO13:=n3_
    have HK:=n4_
    have HB:=n5_
    have HI0:=n6_
    clear n0_ n1_ n2_ n3_ n4_ n5_ n6_
    (try clear hb)
    (try clear hb2)
    (try clear hk)
    (try clear hi)
    have p9 : 0 ≤ (t7 : Int):=of_decide_eq_true (by first | (with_reducible assumption) | assumption)
    have q9 : (t7 : Int) < ((t2.length : Int) : Int):=of_decide_eq_true (by first | (with_reducible assumption) | assumption)
    obtain ⟨go9,co9,eo9,gb9,gl9,cl9,HG9⟩:=Kd.R_form HO4.out (by omega)
    (first | cases eo9 | (injection eo9 with ea_ en_ ec_;(first | subst ea_ | (injection ea_ with ea_;subst ea_));subst ec_;clear en_))
    have GB9:=a0_ gb9
    have GG9:=a0_ HG9
    clear gb9 gl9 HG9
    obtain ⟨ce9,hcl9,hM9,hcc9,hfr9⟩:=Kd.R_elem HO4.out z87 (t7 : Int) p9 q9
    obtain rfl:=k87_openM hM9
    have hx9_0 : World.cell? _ ⟨go9,(t7 : Int).toNat * 2,none⟩ = some (.string ((rd_T87 t2 t7).f0)):=hcc9 0 _ rfl
    have hx9_1 : World.cell? _ ⟨go9,(t7 : Int).toNat * 2 + 1,none⟩ = some (.int .i64 ((rd_T87 t2 t7).f1)):=hcc9 1 _ rfl
    have hf9_0 : World.frozen? _ ⟨go9,(t7 : Int).toNat * 2,none⟩ = false:=hfr9 0
    have hf9_1 : World.frozen? _ ⟨go9,(t7 : Int).toNat * 2 + 1,none⟩ = false:=hfr9 1
    clear hcl9 hcc9 hfr9 hM9
    replace p9:=eq_true p9
    replace q9:=eq_true q9
    have HN0_go9:=a0_ (show g ≠ go9 from by have h_:=IsS76.own_ne HI0.out HO4.out (by decide);intro e_;exact h_ (by rw [e_];rfl))
    obtain ⟨ce24,hcl24,hM24,hcc24,hfr24⟩:=Kd.R_elem HO4.out z87 (t7 : Int) (of_decide_eq_true (by first | (with_reducible assumption) | assumption)) (by have h_ : (t7 : Int) < ((t2.length : Int) : Int):=of_decide_eq_true (by first | (with_reducible assumption) | assumption);first | exact h_ | (have e_:=(Kd.R_reads' HO4.out).1;omega) | simpa using h_)
    obtain rfl:=k87_openM hM24
    have HP24:=(Kd.R_seg HO4.out (t7 : Int) (of_decide_eq_true (by first | (with_reducible assumption) | assumption)) (by have h_ : (t7 : Int) < ((t2.length : Int) : Int):=of_decide_eq_true (by first | (with_reducible assumption) | assumption);first | exact h_ | (have e_:=(Kd.R_reads' HO4.out).1;omega) | simpa using h_) (seg:=[.string t14]) (j:=0) hcl24 hcc24 (show 1 ≤ 2 from by decide) (x':=(⟨t14,(rd_T87 t2 t7).f1⟩ : S87)) (k87_mkM _ _ _ (⟨t14,(rd_T87 t2 t7).f1⟩ : S87) ) (fun _ hk=>hk)).1
    rw [← Ny16.out] at HP24
    have HQ24:=a0_ HP24
    clear hcl24 hcc24 hfr24 hM24 HP24
    refine hK.out _ _ ((blk_cell BK6.out 0).trans rfl) (fun hHeld=>?_)
    clear hK K
    refine norm_ (a':=?_) ?_ ?_
    rotate_left
    ·show Act.put _ (some 21) _ = _
     simp only [Act.put,s1_,s2_,s3_,i64_w,i32_w]
     rfl
    refine pure_ (i:=6) (N:=some 22) (v:=?_) (a':=?_) #[true,true,true,true,true,true,true,false,false] rfl rfl (any_of HT_.out (by kernel_rfl)) (fun _ _ _ h=>h) (Or.inl ⟨by rfl,?_⟩) ?_ ?_
    rotate_left
    ·intro w'
     go_simp
     with_reducible rfl
    rotate_left
    ·simp only [Act.put,s1_,s2_,s3_,i64_w,i32_w]
     rfl
    refine pure_ (i:=7) (N:=some 23) (v:=?_) (a':=?_) #[true,true,true,true,true,true,true,true,false] rfl rfl (any_of HT_.out (by kernel_rfl)) (fun _ _ _ h=>h) (Or.inl ⟨by rfl,?_⟩) ?_ ?_
    rotate_left
    ·intro w'
     go_simp
     with_reducible rfl
    rotate_left
    ·simp only [Act.put,s1_,s2_,s3_,i64_w,i32_w]
     rfl
    refine last_ (i:=8) (N:=none) #[true,true,true,true,true,true,true,true,true] rfl rfl (one_of HT_.out (by kernel_rfl)) (by decide) (fun K hK=>?_)
    refine skip_ (w1:=?_) (by rfl) rfl ?_ ?_
    rotate_left
    ·go_simp
     rfl
    refine hK.out _ _ ?_
    clear hK K
    refine done_ (done_of HT_.out (by kernel_rfl)) ?_
    have n0_ : Aside0 (Kd.R k87 87 (w23.setCell ⟨go9,(t7 : Int).toNat * 2,none⟩ (.string t14)) w.heap.size (fun _=>True) (.slice (some ⟨go9,0,none⟩) t2.length co13) y16):=⟨by (with_reducible repeat (first | apply Kd.R_alloc | apply Kd.R_drewN | apply Kd.R_drew));exact HQ24.out⟩
    have n1_ : Aside0 (Kd.R Kd.string 9 (w23.setCell ⟨go9,(t7 : Int).toNat * 2,none⟩ (.string t14)) w.heap.size (fun _=>True) (.slice Ao22 y11.length co22) y11):=⟨by (with_reducible repeat (first | apply Kd.R_alloc | apply Kd.R_drewN | apply Kd.R_drew));exact Kd.R_mono (Kd.R_far (p:=⟨go9,(t7 : Int).toNat * 2,none⟩) (Kd.R_types HO13.out GG9.out (by decide)) (fun _ hk=>hk.2) (.string t14)) (fun _ hk=>trivial)⟩
    have n2_ : Aside0 ((w23.setCell ⟨go9,(t7 : Int).toNat * 2,none⟩ (.string t14)).heap[gb1]? = some (.cells #[.slice none 0 0] 25 (0,0))):=⟨by (with_reducible repeat (first | refine blk_drewN ?_ _ | refine blk_drew ?_ | refine blk_alloc ?_ _));refine blk_far ?_ (by have h_:=Kd.R_ne HO4.out BK1.out (by decide);intro e_;exact h_ (by rw [e_];rfl)) _;(with_reducible repeat (first | refine blk_drewN ?_ _ | refine blk_drew ?_ | refine blk_alloc ?_ _));exact BK1.out⟩
    have n3_ : Aside0 ((w23.setCell ⟨go9,(t7 : Int).toNat * 2,none⟩ (.string t14)).heap[gb6]? = some (.cells #[.slice (some ⟨go9,0,none⟩) t2.length co13] 25 (0,0))):=⟨by (with_reducible repeat (first | refine blk_drewN ?_ _ | refine blk_drew ?_ | refine blk_alloc ?_ _));refine blk_far ?_ (by have h_:=Kd.R_ne HO4.out BK6.out (by decide);intro e_;exact h_ (by rw [e_];rfl)) _;(with_reducible repeat (first | refine blk_drewN ?_ _ | refine blk_drew ?_ | refine blk_alloc ?_ _));exact BK6.out⟩
    have n4_ : Aside0 (IsS76 w0 (w23.setCell ⟨go9,(t7 : Int).toNat * 2,none⟩ (.string t14)) g s0_0 t15):=⟨is0_⟩
    have n5_ : Aside0 (KeepBut w (w23.setCell ⟨go9,(t7 : Int).toNat * 2,none⟩ (.string t14)) g none):=⟨hk_⟩
    have n6_ : Aside0 (Below w0.heap.size w0 (w23.setCell ⟨go9,(t7 : Int).toNat * 2,none⟩ (.string t14))):=⟨by repeat (first | (with_reducible first | exact HB.out | apply below_alloc | apply pw_below_drewN | apply below_drew1 | refine below_set ?_ (Nat.le_trans HL.out GB9.out) | refine below_set ?_ (IsS76.ge HI0.out) | refine below_set ?_ GE1.out | refine below_set ?_ GE6.out) | exact HB.out)⟩
    (try clear HO4)
    (try clear HO13)
    (try clear BK1)
    (try clear BK6)
    (try clear HI0)
    (try clear HK)
    (try clear HB)
    generalize (w23.setCell ⟨go9,(t7 : Int).toNat * 2,none⟩ (.string t14)) = w25 at n0_ n1_ n2_ n3_ n4_ n5_ n6_ ⊢
    have HO4:=n0_
    have HO13:=n1_
    have BK1:=n2_
    have BK6:=n3_
    have HI0:=n4_
    have HK:=n5_
    have HB:=n6_
    clear n0_ n1_ n2_ n3_ n4_ n5_ n6_
    have hcz26_0 : w25.cell? ⟨gb6,0,none⟩ = some (.slice (some ⟨go9,0,none⟩) t2.length co13):=(blk_cell BK6.out 0).trans rfl
    have hfz26_0:=blk_frozen BK6.out 0
    have hnb27:=NB1_0.out
    have hnc27:=NB0_1.out
    have hcz28_0 : w25.cell? ⟨gb1,0,none⟩ = some (.slice none 0 0):=(blk_cell BK1.out 0).trans rfl
    have hfz28_0:=blk_frozen BK1.out 0
    try go_wp2
    refine bodyPost_ret (results_cell_row rfl _ _ gb1 25 #[.slice (some ⟨go9,0,none⟩) t2.length co13] (0,0) _ rfl (by (with_reducible repeat (first | refine blk_drewN ?_ _ | refine blk_drew ?_ | refine blk_alloc ?_ _));refine blk_put (cs:=#[.slice none 0 0]) ?_ 0 _ rfl;(with_reducible repeat (first | refine blk_drewN ?_ _ | refine blk_drew ?_ | refine blk_alloc ?_ _));exact BK1.out) Try.underlying25 rfl (by kernel_rfl)) rfl ?_
    exact ⟨_,by first | rfl | (simp [errW_none,errW_some] <;> rfl) | (simp [*,errW_none,errW_some] <;> rfl),by (with_reducible repeat (first | apply Kd.R_alloc | apply Kd.R_drewN | apply Kd.R_drew));exact Kd.R_mono (Kd.R_far (p:=⟨gb1,0,none⟩) (Kd.R_types HO4.out BK1.out (by decide)) (fun _ hk=>hk.2) (.slice (some ⟨go9,0,none⟩) t2.length co13)) (fun _ hk=>trivial),is0_,hbi0_,hk_⟩
   ·rw [if_neg c8] at H
    exact absurd H (by simp)
  ·rw [if_neg c7] at H
   exact absurd H (by simp)
 ·rw [if_neg c5] at H
  have c5b0 : (t9 == 0) = false:=beq_eq_false_iff_ne.mpr c5
  have c5b1 : (t9 != 0) = true:=bne_iff_ne.mpr c5
  by_cases c29 : t9 = 1
  ·rw [if_pos c29] at H
   have c29b0 : (t9 == 1) = true:=beq_iff_eq.mpr c29
   have c29b1 : (t9 != 1) = false:=bne_eq_false_iff_eq.mpr c29
   clear c29
   obtain ⟨y17,hy17⟩ : ∃ y_ : List Int,y_ = (([t7,(-1),8,(-2)] : List Int)):=⟨_,rfl⟩
   replace H : ((spec_reader_one.f k s0_0 t10 y17).bind fun bt20=>(if 0 ≤ t7 then (if t7 < (t2.length : Int) then (some ((t2.set (t7 : Int).toNat (⟨(rd_T87 t2 t7).f0,bt20.1⟩ : S87)),bt20.2)) else (none)) else (none))) = some (r1,r2):=by first | (rw [hy17];with_reducible exact H) | (have H2_:=(Option.bind_some _ _).symm.trans H;rw [hy17];with_reducible exact H2_) | (have H2_:=(Option.bind_some _ _).symm.trans H;with_reducible exact H2_) | with_reducible exact H | (rw [hy17];exact H) | exact H
   have Ny17:=a0_ hy17
   clear hy17
   replace H:=Option.bind_eq_some_iff.mp H
   obtain ⟨⟨t20,t21⟩,A300,H⟩:=H
   try dsimp only at H
   have A30:=a0_ A300
   clear A300
   by_cases c31 : 0 ≤ t7
   ·rw [if_pos c31] at H
    have c31b0 : decide (0 ≤ t7) = true:=decide_eq_true c31
    clear c31
    by_cases c32 : t7 < (t2.length : Int)
    ·rw [if_pos c32] at H
     have c32b0 : decide (t7 < (t2.length : Int)) = true:=decide_eq_true c32
     clear c32
     obtain ⟨y22,hy22⟩ : ∃ y_ : List (S87),y_ = (t2.set (t7 : Int).toNat (⟨(rd_T87 t2 t7).f0,t20⟩ : S87)):=⟨_,rfl⟩
     replace H : (some (y22,t21)) = some (r1,r2):=by first | (rw [hy22];with_reducible exact H) | (have H2_:=(Option.bind_some _ _).symm.trans H;rw [hy22];with_reducible exact H2_) | (have H2_:=(Option.bind_some _ _).symm.trans H;with_reducible exact H2_) | with_reducible exact H | (rw [hy22];exact H) | exact H
     have Ny22:=a0_ hy22
     clear hy22
     simp only [Option.some.injEq,Prod.mk.injEq] at H
     obtain ⟨rfl,rfl⟩:=H
     go_enter Try.func66,Try.ntmps66
     try go_wp2_with (first | ((with_reducible refine gate_dst (N:=2) rfl ?_);refine box_event ?hg (N:=2) ?hd (cs:=#[.slice none 0 0]) (t:=25) ?hr ?_;(case hd=>rfl);(case hg=>rfl);(case hr=>first | (go_simp;done) | (go_simp;rfl));intro gb1 hg w34 hbox hb;have n0_:=a0_ (IsS76.below is0_ hb);have n1_:=a0_ (KeepBut.trans (w:=w) hk_ (KeepBut.of_below hb g none) (.inl rfl));have n2_:=a0_ (below_step hbi0_ hb);have n3_:=a0_ (hbox);have n4_:=a0_ ((by rw [hg];exact (keep_size (w:=w) (g:=g) (row:=none) hk_) : w.heap.size ≤ gb1));have n5_:=a0_ ((Nat.le_trans HW0.out (by rw [hg];exact (keep_size (w:=w) (g:=g) (row:=none) hk_) : w.heap.size ≤ gb1) : w0.heap.size ≤ gb1));have n6_:=a0_ ((by rw [hg];exact Nat.ne_of_lt (IsS76.lt (is0_ : IsS76 w0 _ g s0_0 s0_1)) : g ≠ gb1));have n7_:=a0_ ((by rw [hg];exact Nat.ne_of_gt (IsS76.lt (is0_ : IsS76 w0 _ g s0_0 s0_1)) : gb1 ≠ g));clear HI0 HK HB;have HI0:=n0_;have HK:=n1_;have HB:=n2_;have BK1:=n3_;have GW1:=n4_;have GE1:=n5_;have NB0_1:=n6_;have NB1_0:=n7_;clear n0_ n1_ n2_ n3_ n4_ n5_ n6_ n7_;clear hb hbox hg) | ((with_reducible refine gate_callee (f:=81) rfl ?_);refine goesL_ (some 6) rfl rfl Try.func81 (by kernel_rfl) rfl #[.pointer (some ⟨g,0,none⟩)] rfl lm_ ?_;(with_reducible refine (spec_goodTree.calls k g s0_0 s0_1 t2 t5 w0 _ ?side1 ?side2 A2.out).mono ?_);(case side1=>exact is0_);(case side2=>exact hbi0_);rintro e w35 ⟨v3,rfl,ho0,hi,hb,hk⟩;refine ⟨_,rfl,?_⟩;replace BK1:=kk_ hk BK1 NB1_0;have HO4:=a0_ (Kd.R_lower ho0 (keep_size (w:=w) (g:=g) (row:=none) hk_));replace HK:=a0_ (KeepBut.trans (w:=w) hk_ hk (.inl rfl));replace HI0:=a0_ (hi);replace HB:=a0_ (hb);(try clear hb);(try clear ho0)) | ((with_reducible refine gate_dst (N:=3) rfl ?_);refine box_event ?hg (N:=3) ?hd (cs:=#[.slice none 0 0]) (t:=25) ?hr ?_;(case hd=>rfl);(case hg=>rfl);(case hr=>first | (go_simp;done) | (go_simp;rfl));intro gb6 hg w36 hbox hb;have n0_:=rb_ HO4 hb;have n1_:=a0_ (IsS76.below is0_ hb);have n2_:=kb_ BK1 hb;have n3_:=a0_ (KeepBut.trans (w:=w) hk_ (KeepBut.of_below hb g none) (.inl rfl));have n4_:=a0_ (below_step hbi0_ hb);have n5_:=a0_ (hbox);have n6_:=a0_ ((by rw [hg];exact (keep_size (w:=w) (g:=g) (row:=none) hk_) : w.heap.size ≤ gb6));have n7_:=a0_ ((Nat.le_trans HW0.out (by rw [hg];exact (keep_size (w:=w) (g:=g) (row:=none) hk_) : w.heap.size ≤ gb6) : w0.heap.size ≤ gb6));have n8_:=a0_ ((by rw [hg];exact Nat.ne_of_lt (blk_lt (bb_ BK1.out)) : gb1 ≠ gb6));have n9_:=a0_ ((by rw [hg];exact Nat.ne_of_gt (blk_lt (bb_ BK1.out)) : gb6 ≠ gb1));have n10_:=a0_ ((by rw [hg];exact Nat.ne_of_lt (IsS76.lt (is0_ : IsS76 w0 _ g s0_0 t5)) : g ≠ gb6));have n11_:=a0_ ((by rw [hg];exact Nat.ne_of_gt (IsS76.lt (is0_ : IsS76 w0 _ g s0_0 t5)) : gb6 ≠ g));clear HO4 HI0;clear BK1 HK HB;have HO4:=n0_;have HI0:=n1_;have BK1:=n2_;have HK:=n3_;have HB:=n4_;have BK6:=n5_;have GW6:=n6_;have GE6:=n7_;have NB1_6:=n8_;have NB6_1:=n9_;have NB0_6:=n10_;have NB6_0:=n11_;clear n0_ n1_ n2_ n3_ n4_ n5_ n6_ n7_ n8_ n9_ n10_ n11_;clear hb hbox hg;obtain ⟨Ao37,co37,eo37⟩:=Kd.R_slice HO4.out;subst eo37;have hnb38:=NB6_1.out;have hnc38:=NB1_6.out;have hnb39:=NB6_0.out;have hnc39:=NB0_6.out;have hcz40_0 : w36.cell? ⟨gb6,0,none⟩ = some (.slice none 0 0):=(blk_cell BK6.out 0).trans rfl;have hfz40_0:=blk_frozen BK6.out 0) | ((with_reducible refine gate_callee (f:=48) rfl ?_);refine goesL_ (some 11) rfl rfl Try.func48 (by kernel_rfl) rfl #[.pointer (some ⟨g,0,none⟩),.int .i64 (t2.length : Int)] rfl lm_ ?_;(with_reducible refine (spec_reader_pick.calls k g s0_0 t5 (t2.length : Int) t7 t8 w0 _ ?side1 ?side2 A3.out).mono ?_);(case side1=>exact is0_);(case side2=>exact hbi0_);rintro e w41 ⟨rfl,hi,hb,hk⟩;refine ⟨_,rfl,?_⟩;replace BK1:=kk_ hk BK1 NB1_0;replace HO4:=a0_ (Kd.R_mono (Kd.R_keep (IsS76.apart (is0_ : IsS76 w0 _ g s0_0 t5) (by (with_reducible repeat (first | apply Kd.R_alloc | apply Kd.R_drewN | apply Kd.R_drew));exact (Kd.R_mono (Kd.R_far (p:=⟨gb6,0,none⟩) (Kd.R_types HO4.out BK6.out (by decide)) (fun _ hk=>hk.2) (.slice Ao37 t2.length co37)) (fun _ h_=>h_.1))) (by decide)) hk (fun _ h=>h.2)) (fun _ h=>h.1));replace BK6:=a0_ (KeepBut.blk hk (g':=gb6) (o:=.cells #[.slice Ao37 t2.length co37] 25 (0,0)) (by (with_reducible repeat (first | refine blk_drewN ?_ _ | refine blk_drew ?_ | refine blk_alloc ?_ _));refine blk_put (cs:=#[.slice none 0 0]) ?_ 0 _ rfl;(with_reducible repeat (first | refine blk_drewN ?_ _ | refine blk_drew ?_ | refine blk_alloc ?_ _));exact BK6.out) NB6_0.out (by simp));replace HK:=a0_ (KeepBut.trans (w:=w) hk_ hk (.inl rfl));replace HI0:=a0_ (hi);replace HB:=a0_ (hb);(try clear hb);(try clear hb2);(try clear hk);(try clear hi)) | ((with_reducible refine gate_callee (f:=48) rfl ?_);refine goesL_ (some 13) rfl rfl Try.func48 (by kernel_rfl) rfl #[.pointer (some ⟨g,0,none⟩),.int .i64 24] rfl lm_ ?_;(with_reducible refine (spec_reader_pick.calls k g s0_0 t8 24 t9 t10 w0 _ ?side1 ?side2 A4.out).mono ?_);(case side1=>exact is0_);(case side2=>exact hbi0_);rintro e w42 ⟨rfl,hi,hb,hk⟩;refine ⟨_,rfl,?_⟩;replace BK1:=kk_ hk BK1 NB1_0;replace HO4:=a0_ (Kd.R_mono (Kd.R_keep (IsS76.apart (is0_ : IsS76 w0 _ g s0_0 t8) (rr_ HO4.out) (by decide)) hk (fun _ h=>h.2)) (fun _ h=>h.1));replace BK6:=kk_ hk BK6 NB6_0;replace HK:=a0_ (KeepBut.trans (w:=w) hk_ hk (.inl rfl));replace HI0:=a0_ (hi);replace HB:=a0_ (hb);(try clear hb);(try clear hb2);(try clear hk);(try clear hi)))
     have n0_:=a0_ (Kd.R_drew HO4.out)
     have n1_:=a0_ (blk_drew BK1.out)
     have n2_:=a0_ (blk_drew BK6.out)
     have n3_:=a0_ (IsS76.drew HI0.out)
     have n4_:=a0_ (keep_drew HK.out)
     have n5_:=a0_ (below_drew1 HB.out)
     clear HO4
     clear BK1
     clear BK6
     clear HI0
     clear HK
     clear HB
     have HO4:=n0_
     have BK1:=n1_
     have BK6:=n2_
     have HI0:=n3_
     have HK:=n4_
     have HB:=n5_
     clear n0_ n1_ n2_ n3_ n4_ n5_
     refine start_ (n:=10) (S:=fun w'=>w'.cell? ⟨gb6,0,none⟩ = some (.slice Ao37 t2.length co37)) (ds:=[9]) #[false,false,false,false,false,false,false,false,false,false] (by kernel_rfl) rfl rfl ((blk_cell BK6.out 0).trans rfl) (fun hHeld=>?_);refine with_tabW spec_someTree.tab7 spec_someTree.bits7 (fun HT_ HW_=>?_)
     generalize w42.drew = w43 at HO4 BK1 BK6 HI0 HK HB hHeld ⊢
     refine pure_ (i:=0) (N:=some 26) (v:=?_) (a':=?_) #[true,false,false,false,false,false,false,false,false,false] rfl rfl (any_of HT_.out (by kernel_rfl)) (fun _ _ _ h=>h) (Or.inl ⟨by rfl,?_⟩) ?_ ?_
     rotate_left
     ·intro w'
      go_simp
      with_reducible rfl
     rotate_left
     ·simp only [Act.put,s1_,s2_,s3_,i64_w,i32_w]
      rfl
     refine pure_ (i:=2) (N:=some 28) (v:=?_) (a':=?_) #[true,false,true,false,false,false,false,false,false,false] rfl rfl (any_of HT_.out (by kernel_rfl)) (fun _ _ _ h=>h) (Or.inl ⟨by rfl,?_⟩) ?_ ?_
     rotate_left
     ·intro w'
      go_simp
      with_reducible rfl
     rotate_left
     ·simp only [Act.put,s1_,s2_,s3_,i64_w,i32_w]
      rfl
     refine pure_ (i:=3) (N:=some 29) (v:=?_) (a':=?_) #[true,false,true,true,false,false,false,false,false,false] rfl rfl (any_of HT_.out (by kernel_rfl)) (fun _ _ _ h=>h) (Or.inl ⟨by rfl,?_⟩) ?_ ?_
     rotate_left
     ·intro w'
      go_simp
      with_reducible rfl
     rotate_left
     ·simp only [Act.put,s1_,s2_,s3_,i64_w,i32_w]
      rfl
     refine pure_ (i:=4) (N:=some 30) (v:=?_) (a':=?_) #[true,false,true,true,true,false,false,false,false,false] rfl rfl (any_of HT_.out (by kernel_rfl)) (fun _ _ _ h=>h) (Or.inl ⟨by rfl,?_⟩) ?_ ?_
     rotate_left
     ·intro w'
      go_simp
      with_reducible rfl
     rotate_left
     ·simp only [Act.put,s1_,s2_,s3_,i64_w,i32_w]
      rfl
     refine take_ (i:=1) (N:=some 27) (v:=?_) (a':=?_) #[true,true,true,true,true,false,false,false,false,false] rfl rfl (take_ofW HT_.out HW_.out (by kernel_rfl)) (fun _ _ _ h=>h) (Or.inl ⟨by rfl,?_⟩) hHeld ?_ ?_
     rotate_left
     ·intro w' s0
      go_simp
      with_reducible rfl
     rotate_left
     ·simp only [Act.put,s1_,s2_,s3_,i64_w,i32_w]
      rfl
     refine one_ (i:=5) (N:=some 31) #[true,true,true,true,true,true,false,false,false,false] rfl rfl (one_of HT_.out (by kernel_rfl)) (by decide) (fun K hK=>?_)
     refine Kd.R_lit_step (Kd.int .i64) _ 3 ?hg (N:=31) ?hd (xs:=([t7,(-1),8,(-2)] : List Int)) (inner:=[.int .i64 t7,.int .i64 (-1),.int .i64 8,.int .i64 (-2)]) (ok:=fun _=>True) (okp:=fun _=>True) ?hr ?hp (fun _ hk=>hk) trivial (Below.refl _ _) (Nat.le_refl _) (by simp) ?_;(case hd=>rfl);(case hg=>rfl);(case hr=>first | (go_simp;done) | (go_simp;rfl));(case hp=>exact (Reps.one (show Kd.M (Kd.int .i64) _ _ _ t7 [.int .i64 t7] from rfl) (Reps.one (show Kd.M (Kd.int .i64) _ _ _ (-1) [.int .i64 (-1)] from rfl) (Reps.one (show Kd.M (Kd.int .i64) _ _ _ 8 [.int .i64 8] from rfl) (Reps.one (show Kd.M (Kd.int .i64) _ _ _ (-2) [.int .i64 (-2)] from rfl) (Reps.none _ _))))))
     intro v18 w44 ho45 hb hg_ hnew_
     clear hg_ hnew_
     (first | rw [← Ny17.out] at ho45 | (simp only [Int.reduceToNat] at ho45;rw [← Ny17.out] at ho45))
     have n0_:=rb_ HO4 hb
     have n1_:=a0_ (Kd.R_lower ho45 (keep_size (w:=w) (g:=g) (row:=none) hk_))
     have n2_:=a0_ (IsS76.below is0_ hb)
     have n3_:=kb_ BK1 hb
     have n4_:=kb_ BK6 hb
     have n5_:=a0_ (KeepBut.trans (w:=w) hk_ (KeepBut.of_below hb g none) (.inl rfl))
     have n6_:=a0_ (below_step hbi0_ hb)
     clear HO4
     clear HI0
     clear BK1
     clear BK6
     clear HK
     clear HB
     have HO4:=n0_
     have HO19:=n1_
     have HI0:=n2_
     have BK1:=n3_
     have BK6:=n4_
     have HK:=n5_
     have HB:=n6_
     clear n0_ n1_ n2_ n3_ n4_ n5_ n6_
     clear hb ho45
     obtain ⟨Ao46,co46,eo46⟩:=Kd.R_slice HO19.out
     (first | subst eo46 | (injection eo46 with f1_ f2_ f3_;have f4_:=f1_.symm;have f5_:=f3_.symm;clear f1_ f2_ f3_;subst f4_;subst f5_))
     refine hK.out _ _ ((blk_cell BK6.out 0).trans rfl) (fun hHeld=>?_)
     clear hK K
     refine norm_ (a':=?_) ?_ ?_
     rotate_left
     ·show Act.put _ (some 31) _ = _
      simp only [Act.put,s1_,s2_,s3_,i64_w,i32_w]
      rfl
     refine one_ (i:=6) (N:=some 32) #[true,true,true,true,true,true,true,false,false,false] rfl rfl (one_of HT_.out (by kernel_rfl)) (by decide) (fun K hK=>?_)
     refine goes_ Try.func42 (by kernel_rfl) rfl #[.pointer (some ⟨g,0,none⟩),.slice Ao46 y17.length co46] (by rfl) rfl rfl lm_ ?_
     with_reducible refine (spec_reader_one.calls k g s0_0 t10 _ _ y17 t20 t21 w0 _ ?side1 ?side2 ?side3 ?side4 ?side5 A30.out).mono ?_
     (case side1=>exact is0_)
     (case side2=>exact hbi0_)
     (case side3=>exact cc_ (Kd.R_reads' HO19.out).2.2)
     (case side4=>exact (Kd.R_reads' HO19.out).2.1)
     (case side5=>exact far_slice (IsS76.own_ne HI0.out HO19.out (by decide)))
     rintro e w47 ⟨rfl,hi,hb,hk⟩
     refine ⟨_,rfl,?_⟩
     have n0_:=kk_ hk BK1 NB1_0
     have n1_:=a0_ (Kd.R_mono (Kd.R_keep (IsS76.apart (is0_ : IsS76 w0 _ g s0_0 t10) (rr_ HO4.out) (by decide)) hk (fun _ h=>h.2)) (fun _ h=>h.1))
     have n2_:=kk_ hk BK6 NB6_0
     have n3_:=a0_ (Kd.R_mono (Kd.R_keep (IsS76.apart (is0_ : IsS76 w0 _ g s0_0 t10) (rr_ HO19.out) (by decide)) hk (fun _ h=>h.2)) (fun _ h=>h.1))
     have n4_:=a0_ (KeepBut.trans (w:=w) hk_ hk (.inl rfl))
     have n5_:=a0_ (hb)
     have n6_:=a0_ (hi)
     clear BK1
     clear HO4
     clear BK6
     clear HO19
     clear HK
     clear HB
     clear HI0
     have BK1:=n0_
     have HO4:=n1_
     have BK6:=n2_
     have HO19:=n3_
     have HK:=n4_
     have HB:=n5_
     have HI0:=n6_
     clear n0_ n1_ n2_ n3_ n4_ n5_ n6_
     (try clear hb)
     (try clear hb2)
     (try clear hk)
     (try clear hi)
     have p33 : 0 ≤ (t7 : Int):=of_decide_eq_true (by first | (with_reducible assumption) | assumption)
     have q33 : (t7 : Int) < ((t2.length : Int) : Int):=of_decide_eq_true (by first | (with_reducible assumption) | assumption)
     obtain ⟨go33,co33,eo33,gb33,gl33,cl33,HG33⟩:=Kd.R_form HO4.out (by omega)
     (first | cases eo33 | (injection eo33 with ea_ en_ ec_;(first | subst ea_ | (injection ea_ with ea_;subst ea_));subst ec_;clear en_))
     have GB33:=a0_ gb33
     have GG33:=a0_ HG33
     clear gb33 gl33 HG33
     obtain ⟨ce33,hcl33,hM33,hcc33,hfr33⟩:=Kd.R_elem HO4.out z87 (t7 : Int) p33 q33
     obtain rfl:=k87_openM hM33
     have hx33_0 : World.cell? _ ⟨go33,(t7 : Int).toNat * 2,none⟩ = some (.string ((rd_T87 t2 t7).f0)):=hcc33 0 _ rfl
     have hx33_1 : World.cell? _ ⟨go33,(t7 : Int).toNat * 2 + 1,none⟩ = some (.int .i64 ((rd_T87 t2 t7).f1)):=hcc33 1 _ rfl
     have hf33_0 : World.frozen? _ ⟨go33,(t7 : Int).toNat * 2,none⟩ = false:=hfr33 0
     have hf33_1 : World.frozen? _ ⟨go33,(t7 : Int).toNat * 2 + 1,none⟩ = false:=hfr33 1
     clear hcl33 hcc33 hfr33 hM33
     replace p33:=eq_true p33
     replace q33:=eq_true q33
     have HN0_go33:=a0_ (show g ≠ go33 from by have h_:=IsS76.own_ne HI0.out HO4.out (by decide);intro e_;exact h_ (by rw [e_];rfl))
     obtain ⟨ce48,hcl48,hM48,hcc48,hfr48⟩:=Kd.R_elem HO4.out z87 (t7 : Int) (of_decide_eq_true (by first | (with_reducible assumption) | assumption)) (by have h_ : (t7 : Int) < ((t2.length : Int) : Int):=of_decide_eq_true (by first | (with_reducible assumption) | assumption);first | exact h_ | (have e_:=(Kd.R_reads' HO4.out).1;omega) | simpa using h_)
     obtain rfl:=k87_openM hM48
     have HP48:=(Kd.R_seg HO4.out (t7 : Int) (of_decide_eq_true (by first | (with_reducible assumption) | assumption)) (by have h_ : (t7 : Int) < ((t2.length : Int) : Int):=of_decide_eq_true (by first | (with_reducible assumption) | assumption);first | exact h_ | (have e_:=(Kd.R_reads' HO4.out).1;omega) | simpa using h_) (seg:=[.int .i64 t20]) (j:=1) hcl48 hcc48 (show 2 ≤ 2 from by decide) (x':=(⟨(rd_T87 t2 t7).f0,t20⟩ : S87)) (k87_mkM _ _ _ (⟨(rd_T87 t2 t7).f0,t20⟩ : S87) ) (fun _ hk=>hk)).1
     rw [← Ny22.out] at HP48
     have HQ48:=a0_ HP48
     clear hcl48 hcc48 hfr48 hM48 HP48
     refine hK.out _ _ ((blk_cell BK6.out 0).trans rfl) (fun hHeld=>?_)
     clear hK K
     refine norm_ (a':=?_) ?_ ?_
     rotate_left
     ·show Act.put _ (some 32) _ = _
      simp only [Act.put,s1_,s2_,s3_,i64_w,i32_w]
      rfl
     refine pure_ (i:=7) (N:=some 33) (v:=?_) (a':=?_) #[true,true,true,true,true,true,true,true,false,false] rfl rfl (any_of HT_.out (by kernel_rfl)) (fun _ _ _ h=>h) (Or.inl ⟨by rfl,?_⟩) ?_ ?_
     rotate_left
     ·intro w'
      go_simp
      with_reducible rfl
     rotate_left
     ·simp only [Act.put,s1_,s2_,s3_,i64_w,i32_w]
      rfl
     refine pure_ (i:=8) (N:=some 34) (v:=?_) (a':=?_) #[true,true,true,true,true,true,true,true,true,false] rfl rfl (any_of HT_.out (by kernel_rfl)) (fun _ _ _ h=>h) (Or.inl ⟨by rfl,?_⟩) ?_ ?_
     rotate_left
     ·intro w'
      go_simp
      with_reducible rfl
     rotate_left
     ·simp only [Act.put,s1_,s2_,s3_,i64_w,i32_w]
      rfl
     refine last_ (i:=9) (N:=none) #[true,true,true,true,true,true,true,true,true,true] rfl rfl (one_of HT_.out (by kernel_rfl)) (by decide) (fun K hK=>?_)
     refine skip_ (w1:=?_) (by rfl) rfl ?_ ?_
     rotate_left
     ·go_simp
      rfl
     refine hK.out _ _ ?_
     clear hK K
     refine done_ (done_of HT_.out (by kernel_rfl)) ?_
     have n0_ : Aside0 (Kd.R k87 87 (w47.setCell ⟨go33,(t7 : Int).toNat * 2 + 1,none⟩ (.int .i64 t20)) w.heap.size (fun _=>True) (.slice (some ⟨go33,0,none⟩) t2.length co37) y22):=⟨by (with_reducible repeat (first | apply Kd.R_alloc | apply Kd.R_drewN | apply Kd.R_drew));exact HQ48.out⟩
     have n1_ : Aside0 (Kd.R (Kd.int .i64) 3 (w47.setCell ⟨go33,(t7 : Int).toNat * 2 + 1,none⟩ (.int .i64 t20)) w.heap.size (fun _=>True) (.slice Ao46 y17.length co46) y17):=⟨by (with_reducible repeat (first | apply Kd.R_alloc | apply Kd.R_drewN | apply Kd.R_drew));exact Kd.R_mono (Kd.R_far (p:=⟨go33,(t7 : Int).toNat * 2 + 1,none⟩) (Kd.R_types HO19.out GG33.out (by decide)) (fun _ hk=>hk.2) (.int .i64 t20)) (fun _ hk=>trivial)⟩
     have n2_ : Aside0 ((w47.setCell ⟨go33,(t7 : Int).toNat * 2 + 1,none⟩ (.int .i64 t20)).heap[gb1]? = some (.cells #[.slice none 0 0] 25 (0,0))):=⟨by (with_reducible repeat (first | refine blk_drewN ?_ _ | refine blk_drew ?_ | refine blk_alloc ?_ _));refine blk_far ?_ (by have h_:=Kd.R_ne HO4.out BK1.out (by decide);intro e_;exact h_ (by rw [e_];rfl)) _;(with_reducible repeat (first | refine blk_drewN ?_ _ | refine blk_drew ?_ | refine blk_alloc ?_ _));exact BK1.out⟩
     have n3_ : Aside0 ((w47.setCell ⟨go33,(t7 : Int).toNat * 2 + 1,none⟩ (.int .i64 t20)).heap[gb6]? = some (.cells #[.slice (some ⟨go33,0,none⟩) t2.length co37] 25 (0,0))):=⟨by (with_reducible repeat (first | refine blk_drewN ?_ _ | refine blk_drew ?_ | refine blk_alloc ?_ _));refine blk_far ?_ (by have h_:=Kd.R_ne HO4.out BK6.out (by decide);intro e_;exact h_ (by rw [e_];rfl)) _;(with_reducible repeat (first | refine blk_drewN ?_ _ | refine blk_drew ?_ | refine blk_alloc ?_ _));exact BK6.out⟩
     have n4_ : Aside0 (IsS76 w0 (w47.setCell ⟨go33,(t7 : Int).toNat * 2 + 1,none⟩ (.int .i64 t20)) g s0_0 t21):=⟨is0_⟩
     have n5_ : Aside0 (KeepBut w (w47.setCell ⟨go33,(t7 : Int).toNat * 2 + 1,none⟩ (.int .i64 t20)) g none):=⟨hk_⟩
     have n6_ : Aside0 (Below w0.heap.size w0 (w47.setCell ⟨go33,(t7 : Int).toNat * 2 + 1,none⟩ (.int .i64 t20))):=⟨by repeat (first | (with_reducible first | exact HB.out | apply below_alloc | apply pw_below_drewN | apply below_drew1 | refine below_set ?_ (Nat.le_trans HL.out GB33.out) | refine below_set ?_ (IsS76.ge HI0.out) | refine below_set ?_ GE1.out | refine below_set ?_ GE6.out) | exact HB.out)⟩
     (try clear HO4)
     (try clear HO19)
     (try clear BK1)
     (try clear BK6)
     (try clear HI0)
     (try clear HK)
     (try clear HB)
     generalize (w47.setCell ⟨go33,(t7 : Int).toNat * 2 + 1,none⟩ (.int .i64 t20)) = w49 at n0_ n1_ n2_ n3_ n4_ n5_ n6_ ⊢
     have HO4:=n0_
     have HO19:=n1_
     have BK1:=n2_
     have BK6:=n3_
     have HI0:=n4_
     have HK:=n5_
     have HB:=n6_
     clear n0_ n1_ n2_ n3_ n4_ n5_ n6_
     have hcz50_0 : w49.cell? ⟨gb6,0,none⟩ = some (.slice (some ⟨go33,0,none⟩) t2.length co37):=(blk_cell BK6.out 0).trans rfl
     have hfz50_0:=blk_frozen BK6.out 0
     have hnb51:=NB1_0.out
     have hnc51:=NB0_1.out
     have hcz52_0 : w49.cell? ⟨gb1,0,none⟩ = some (.slice none 0 0):=(blk_cell BK1.out 0).trans rfl
     have hfz52_0:=blk_frozen BK1.out 0
     try go_wp2
     refine bodyPost_ret (results_cell_row rfl _ _ gb1 25 #[.slice (some ⟨go33,0,none⟩) t2.length co37] (0,0) _ rfl (by (with_reducible repeat (first | refine blk_drewN ?_ _ | refine blk_drew ?_ | refine blk_alloc ?_ _));refine blk_put (cs:=#[.slice none 0 0]) ?_ 0 _ rfl;(with_reducible repeat (first | refine blk_drewN ?_ _ | refine blk_drew ?_ | refine blk_alloc ?_ _));exact BK1.out) Try.underlying25 rfl (by kernel_rfl)) rfl ?_
     exact ⟨_,by first | rfl | (simp [errW_none,errW_some] <;> rfl) | (simp [*,errW_none,errW_some] <;> rfl),by (with_reducible repeat (first | apply Kd.R_alloc | apply Kd.R_drewN | apply Kd.R_drew));exact Kd.R_mono (Kd.R_far (p:=⟨gb1,0,none⟩) (Kd.R_types HO4.out BK1.out (by decide)) (fun _ hk=>hk.2) (.slice (some ⟨go33,0,none⟩) t2.length co37)) (fun _ hk=>trivial),is0_,hbi0_,hk_⟩
    ·rw [if_neg c32] at H
     exact absurd H (by simp)
   ·rw [if_neg c31] at H
    exact absurd H (by simp)
  ·rw [if_neg c29] at H
   have c29b0 : (t9 == 1) = false:=beq_eq_false_iff_ne.mpr c29
   have c29b1 : (t9 != 1) = true:=bne_iff_ne.mpr c29
   by_cases c53 : t9 = 2
   ·rw [if_pos c53] at H
    have c53b0 : (t9 == 2) = true:=beq_iff_eq.mpr c53
    have c53b1 : (t9 != 2) = false:=bne_eq_false_iff_eq.mpr c53
    clear c53
    simp only [Option.some.injEq,Prod.mk.injEq] at H
    obtain ⟨rfl,rfl⟩:=H
    go_enter Try.func66,Try.ntmps66
    go_wp2_with (first | ((with_reducible refine gate_dst (N:=2) rfl ?_);refine box_event ?hg (N:=2) ?hd (cs:=#[.slice none 0 0]) (t:=25) ?hr ?_;(case hd=>rfl);(case hg=>rfl);(case hr=>first | (go_simp;done) | (go_simp;rfl));intro gb1 hg w54 hbox hb;have n0_:=a0_ (IsS76.below is0_ hb);have n1_:=a0_ (KeepBut.trans (w:=w) hk_ (KeepBut.of_below hb g none) (.inl rfl));have n2_:=a0_ (below_step hbi0_ hb);have n3_:=a0_ (hbox);have n4_:=a0_ ((by rw [hg];exact (keep_size (w:=w) (g:=g) (row:=none) hk_) : w.heap.size ≤ gb1));have n5_:=a0_ ((Nat.le_trans HW0.out (by rw [hg];exact (keep_size (w:=w) (g:=g) (row:=none) hk_) : w.heap.size ≤ gb1) : w0.heap.size ≤ gb1));have n6_:=a0_ ((by rw [hg];exact Nat.ne_of_lt (IsS76.lt (is0_ : IsS76 w0 _ g s0_0 s0_1)) : g ≠ gb1));have n7_:=a0_ ((by rw [hg];exact Nat.ne_of_gt (IsS76.lt (is0_ : IsS76 w0 _ g s0_0 s0_1)) : gb1 ≠ g));clear HI0 HK HB;have HI0:=n0_;have HK:=n1_;have HB:=n2_;have BK1:=n3_;have GW1:=n4_;have GE1:=n5_;have NB0_1:=n6_;have NB1_0:=n7_;clear n0_ n1_ n2_ n3_ n4_ n5_ n6_ n7_;clear hb hbox hg) | ((with_reducible refine gate_callee (f:=81) rfl ?_);refine goesL_ (some 6) rfl rfl Try.func81 (by kernel_rfl) rfl #[.pointer (some ⟨g,0,none⟩)] rfl lm_ ?_;(with_reducible refine (spec_goodTree.calls k g s0_0 s0_1 t2 t5 w0 _ ?side1 ?side2 A2.out).mono ?_);(case side1=>exact is0_);(case side2=>exact hbi0_);rintro e w55 ⟨v3,rfl,ho0,hi,hb,hk⟩;refine ⟨_,rfl,?_⟩;replace BK1:=kk_ hk BK1 NB1_0;have HO4:=a0_ (Kd.R_lower ho0 (keep_size (w:=w) (g:=g) (row:=none) hk_));replace HK:=a0_ (KeepBut.trans (w:=w) hk_ hk (.inl rfl));replace HI0:=a0_ (hi);replace HB:=a0_ (hb);(try clear hb);(try clear ho0)) | ((with_reducible refine gate_dst (N:=3) rfl ?_);refine box_event ?hg (N:=3) ?hd (cs:=#[.slice none 0 0]) (t:=25) ?hr ?_;(case hd=>rfl);(case hg=>rfl);(case hr=>first | (go_simp;done) | (go_simp;rfl));intro gb6 hg w56 hbox hb;have n0_:=rb_ HO4 hb;have n1_:=a0_ (IsS76.below is0_ hb);have n2_:=kb_ BK1 hb;have n3_:=a0_ (KeepBut.trans (w:=w) hk_ (KeepBut.of_below hb g none) (.inl rfl));have n4_:=a0_ (below_step hbi0_ hb);have n5_:=a0_ (hbox);have n6_:=a0_ ((by rw [hg];exact (keep_size (w:=w) (g:=g) (row:=none) hk_) : w.heap.size ≤ gb6));have n7_:=a0_ ((Nat.le_trans HW0.out (by rw [hg];exact (keep_size (w:=w) (g:=g) (row:=none) hk_) : w.heap.size ≤ gb6) : w0.heap.size ≤ gb6));have n8_:=a0_ ((by rw [hg];exact Nat.ne_of_lt (blk_lt (bb_ BK1.out)) : gb1 ≠ gb6));have n9_:=a0_ ((by rw [hg];exact Nat.ne_of_gt (blk_lt (bb_ BK1.out)) : gb6 ≠ gb1));have n10_:=a0_ ((by rw [hg];exact Nat.ne_of_lt (IsS76.lt (is0_ : IsS76 w0 _ g s0_0 t5)) : g ≠ gb6));have n11_:=a0_ ((by rw [hg];exact Nat.ne_of_gt (IsS76.lt (is0_ : IsS76 w0 _ g s0_0 t5)) : gb6 ≠ g));clear HO4 HI0;clear BK1 HK HB;have HO4:=n0_;have HI0:=n1_;have BK1:=n2_;have HK:=n3_;have HB:=n4_;have BK6:=n5_;have GW6:=n6_;have GE6:=n7_;have NB1_6:=n8_;have NB6_1:=n9_;have NB0_6:=n10_;have NB6_0:=n11_;clear n0_ n1_ n2_ n3_ n4_ n5_ n6_ n7_ n8_ n9_ n10_ n11_;clear hb hbox hg;obtain ⟨Ao57,co57,eo57⟩:=Kd.R_slice HO4.out;subst eo57;have hnb58:=NB6_1.out;have hnc58:=NB1_6.out;have hnb59:=NB6_0.out;have hnc59:=NB0_6.out;have hcz60_0 : w56.cell? ⟨gb6,0,none⟩ = some (.slice none 0 0):=(blk_cell BK6.out 0).trans rfl;have hfz60_0:=blk_frozen BK6.out 0) | ((with_reducible refine gate_callee (f:=48) rfl ?_);refine goesL_ (some 11) rfl rfl Try.func48 (by kernel_rfl) rfl #[.pointer (some ⟨g,0,none⟩),.int .i64 (t2.length : Int)] rfl lm_ ?_;(with_reducible refine (spec_reader_pick.calls k g s0_0 t5 (t2.length : Int) t7 t8 w0 _ ?side1 ?side2 A3.out).mono ?_);(case side1=>exact is0_);(case side2=>exact hbi0_);rintro e w61 ⟨rfl,hi,hb,hk⟩;refine ⟨_,rfl,?_⟩;replace BK1:=kk_ hk BK1 NB1_0;replace HO4:=a0_ (Kd.R_mono (Kd.R_keep (IsS76.apart (is0_ : IsS76 w0 _ g s0_0 t5) (by (with_reducible repeat (first | apply Kd.R_alloc | apply Kd.R_drewN | apply Kd.R_drew));exact (Kd.R_mono (Kd.R_far (p:=⟨gb6,0,none⟩) (Kd.R_types HO4.out BK6.out (by decide)) (fun _ hk=>hk.2) (.slice Ao57 t2.length co57)) (fun _ h_=>h_.1))) (by decide)) hk (fun _ h=>h.2)) (fun _ h=>h.1));replace BK6:=a0_ (KeepBut.blk hk (g':=gb6) (o:=.cells #[.slice Ao57 t2.length co57] 25 (0,0)) (by (with_reducible repeat (first | refine blk_drewN ?_ _ | refine blk_drew ?_ | refine blk_alloc ?_ _));refine blk_put (cs:=#[.slice none 0 0]) ?_ 0 _ rfl;(with_reducible repeat (first | refine blk_drewN ?_ _ | refine blk_drew ?_ | refine blk_alloc ?_ _));exact BK6.out) NB6_0.out (by simp));replace HK:=a0_ (KeepBut.trans (w:=w) hk_ hk (.inl rfl));replace HI0:=a0_ (hi);replace HB:=a0_ (hb);(try clear hb);(try clear hb2);(try clear hk);(try clear hi)) | ((with_reducible refine gate_callee (f:=48) rfl ?_);refine goesL_ (some 13) rfl rfl Try.func48 (by kernel_rfl) rfl #[.pointer (some ⟨g,0,none⟩),.int .i64 24] rfl lm_ ?_;(with_reducible refine (spec_reader_pick.calls k g s0_0 t8 24 t9 t10 w0 _ ?side1 ?side2 A4.out).mono ?_);(case side1=>exact is0_);(case side2=>exact hbi0_);rintro e w62 ⟨rfl,hi,hb,hk⟩;refine ⟨_,rfl,?_⟩;replace BK1:=kk_ hk BK1 NB1_0;replace HO4:=a0_ (Kd.R_mono (Kd.R_keep (IsS76.apart (is0_ : IsS76 w0 _ g s0_0 t8) (rr_ HO4.out) (by decide)) hk (fun _ h=>h.2)) (fun _ h=>h.1));replace BK6:=kk_ hk BK6 NB6_0;replace HK:=a0_ (KeepBut.trans (w:=w) hk_ hk (.inl rfl));replace HI0:=a0_ (hi);replace HB:=a0_ (hb);(try clear hb);have hnb63:=NB1_0.out;have hnc63:=NB0_1.out;have hcz64_0 : w62.cell? ⟨gb1,0,none⟩ = some (.slice none 0 0):=(blk_cell BK1.out 0).trans rfl;have hfz64_0:=blk_frozen BK1.out 0))
    refine bodyPost_ret (results_cell_row rfl _ _ gb1 25 #[.slice none 0 0] (0,0) _ rfl (by (with_reducible repeat (first | refine blk_drewN ?_ _ | refine blk_drew ?_ | refine blk_alloc ?_ _));refine blk_put (cs:=#[.slice none 0 0]) ?_ 0 _ rfl;(with_reducible repeat (first | refine blk_drewN ?_ _ | refine blk_drew ?_ | refine blk_alloc ?_ _));exact BK1.out) Try.underlying25 rfl (by kernel_rfl)) rfl ?_
    exact ⟨_,by first | rfl | (simp [errW_none,errW_some] <;> rfl) | (simp [*,errW_none,errW_some] <;> rfl),by first | exact Kd.R_nil _ _ _ _ _ | exact Kd.N_nil _ _ _ _ _ | exact Kd.V_nil _ _ _ _ _ | exact Kd.Q_nil _ _ _ _ _ | exact Kd.S_nil _ _ _ _ _,is0_,hbi0_,hk_⟩
   ·rw [if_neg c53] at H
    have c53b0 : (t9 == 2) = false:=beq_eq_false_iff_ne.mpr c53
    have c53b1 : (t9 != 2) = true:=bne_iff_ne.mpr c53
    simp only [Option.some.injEq,Prod.mk.injEq] at H
    obtain ⟨rfl,rfl⟩:=H
    go_enter Try.func66,Try.ntmps66
    go_wp2_with (first | ((with_reducible refine gate_dst (N:=2) rfl ?_);refine box_event ?hg (N:=2) ?hd (cs:=#[.slice none 0 0]) (t:=25) ?hr ?_;(case hd=>rfl);(case hg=>rfl);(case hr=>first | (go_simp;done) | (go_simp;rfl));intro gb1 hg w65 hbox hb;have n0_:=a0_ (IsS76.below is0_ hb);have n1_:=a0_ (KeepBut.trans (w:=w) hk_ (KeepBut.of_below hb g none) (.inl rfl));have n2_:=a0_ (below_step hbi0_ hb);have n3_:=a0_ (hbox);have n4_:=a0_ ((by rw [hg];exact (keep_size (w:=w) (g:=g) (row:=none) hk_) : w.heap.size ≤ gb1));have n5_:=a0_ ((Nat.le_trans HW0.out (by rw [hg];exact (keep_size (w:=w) (g:=g) (row:=none) hk_) : w.heap.size ≤ gb1) : w0.heap.size ≤ gb1));have n6_:=a0_ ((by rw [hg];exact Nat.ne_of_lt (IsS76.lt (is0_ : IsS76 w0 _ g s0_0 s0_1)) : g ≠ gb1));have n7_:=a0_ ((by rw [hg];exact Nat.ne_of_gt (IsS76.lt (is0_ : IsS76 w0 _ g s0_0 s0_1)) : gb1 ≠ g));clear HI0 HK HB;have HI0:=n0_;have HK:=n1_;have HB:=n2_;have BK1:=n3_;have GW1:=n4_;have GE1:=n5_;have NB0_1:=n6_;have NB1_0:=n7_;clear n0_ n1_ n2_ n3_ n4_ n5_ n6_ n7_;clear hb hbox hg) | ((with_reducible refine gate_callee (f:=81) rfl ?_);refine goesL_ (some 6) rfl rfl Try.func81 (by kernel_rfl) rfl #[.pointer (some ⟨g,0,none⟩)] rfl lm_ ?_;(with_reducible refine (spec_goodTree.calls k g s0_0 s0_1 t2 t5 w0 _ ?side1 ?side2 A2.out).mono ?_);(case side1=>exact is0_);(case side2=>exact hbi0_);rintro e w66 ⟨v3,rfl,ho0,hi,hb,hk⟩;refine ⟨_,rfl,?_⟩;replace BK1:=kk_ hk BK1 NB1_0;have HO4:=a0_ (Kd.R_lower ho0 (keep_size (w:=w) (g:=g) (row:=none) hk_));replace HK:=a0_ (KeepBut.trans (w:=w) hk_ hk (.inl rfl));replace HI0:=a0_ (hi);replace HB:=a0_ (hb);(try clear hb);(try clear ho0)) | ((with_reducible refine gate_dst (N:=3) rfl ?_);refine box_event ?hg (N:=3) ?hd (cs:=#[.slice none 0 0]) (t:=25) ?hr ?_;(case hd=>rfl);(case hg=>rfl);(case hr=>first | (go_simp;done) | (go_simp;rfl));intro gb6 hg w67 hbox hb;have n0_:=rb_ HO4 hb;have n1_:=a0_ (IsS76.below is0_ hb);have n2_:=kb_ BK1 hb;have n3_:=a0_ (KeepBut.trans (w:=w) hk_ (KeepBut.of_below hb g none) (.inl rfl));have n4_:=a0_ (below_step hbi0_ hb);have n5_:=a0_ (hbox);have n6_:=a0_ ((by rw [hg];exact (keep_size (w:=w) (g:=g) (row:=none) hk_) : w.heap.size ≤ gb6));have n7_:=a0_ ((Nat.le_trans HW0.out (by rw [hg];exact (keep_size (w:=w) (g:=g) (row:=none) hk_) : w.heap.size ≤ gb6) : w0.heap.size ≤ gb6));have n8_:=a0_ ((by rw [hg];exact Nat.ne_of_lt (blk_lt (bb_ BK1.out)) : gb1 ≠ gb6));have n9_:=a0_ ((by rw [hg];exact Nat.ne_of_gt (blk_lt (bb_ BK1.out)) : gb6 ≠ gb1));have n10_:=a0_ ((by rw [hg];exact Nat.ne_of_lt (IsS76.lt (is0_ : IsS76 w0 _ g s0_0 t5)) : g ≠ gb6));have n11_:=a0_ ((by rw [hg];exact Nat.ne_of_gt (IsS76.lt (is0_ : IsS76 w0 _ g s0_0 t5)) : gb6 ≠ g));clear HO4 HI0;clear BK1 HK HB;have HO4:=n0_;have HI0:=n1_;have BK1:=n2_;have HK:=n3_;have HB:=n4_;have BK6:=n5_;have GW6:=n6_;have GE6:=n7_;have NB1_6:=n8_;have NB6_1:=n9_;have NB0_6:=n10_;have NB6_0:=n11_;clear n0_ n1_ n2_ n3_ n4_ n5_ n6_ n7_ n8_ n9_ n10_ n11_;clear hb hbox hg;obtain ⟨Ao68,co68,eo68⟩:=Kd.R_slice HO4.out;subst eo68;have hnb69:=NB6_1.out;have hnc69:=NB1_6.out;have hnb70:=NB6_0.out;have hnc70:=NB0_6.out;have hcz71_0 : w67.cell? ⟨gb6,0,none⟩ = some (.slice none 0 0):=(blk_cell BK6.out 0).trans rfl;have hfz71_0:=blk_frozen BK6.out 0) | ((with_reducible refine gate_callee (f:=48) rfl ?_);refine goesL_ (some 11) rfl rfl Try.func48 (by kernel_rfl) rfl #[.pointer (some ⟨g,0,none⟩),.int .i64 (t2.length : Int)] rfl lm_ ?_;(with_reducible refine (spec_reader_pick.calls k g s0_0 t5 (t2.length : Int) t7 t8 w0 _ ?side1 ?side2 A3.out).mono ?_);(case side1=>exact is0_);(case side2=>exact hbi0_);rintro e w72 ⟨rfl,hi,hb,hk⟩;refine ⟨_,rfl,?_⟩;replace BK1:=kk_ hk BK1 NB1_0;replace HO4:=a0_ (Kd.R_mono (Kd.R_keep (IsS76.apart (is0_ : IsS76 w0 _ g s0_0 t5) (by (with_reducible repeat (first | apply Kd.R_alloc | apply Kd.R_drewN | apply Kd.R_drew));exact (Kd.R_mono (Kd.R_far (p:=⟨gb6,0,none⟩) (Kd.R_types HO4.out BK6.out (by decide)) (fun _ hk=>hk.2) (.slice Ao68 t2.length co68)) (fun _ h_=>h_.1))) (by decide)) hk (fun _ h=>h.2)) (fun _ h=>h.1));replace BK6:=a0_ (KeepBut.blk hk (g':=gb6) (o:=.cells #[.slice Ao68 t2.length co68] 25 (0,0)) (by (with_reducible repeat (first | refine blk_drewN ?_ _ | refine blk_drew ?_ | refine blk_alloc ?_ _));refine blk_put (cs:=#[.slice none 0 0]) ?_ 0 _ rfl;(with_reducible repeat (first | refine blk_drewN ?_ _ | refine blk_drew ?_ | refine blk_alloc ?_ _));exact BK6.out) NB6_0.out (by simp));replace HK:=a0_ (KeepBut.trans (w:=w) hk_ hk (.inl rfl));replace HI0:=a0_ (hi);replace HB:=a0_ (hb);(try clear hb);(try clear hb2);(try clear hk);(try clear hi)) | ((with_reducible refine gate_callee (f:=48) rfl ?_);refine goesL_ (some 13) rfl rfl Try.func48 (by kernel_rfl) rfl #[.pointer (some ⟨g,0,none⟩),.int .i64 24] rfl lm_ ?_;(with_reducible refine (spec_reader_pick.calls k g s0_0 t8 24 t9 t10 w0 _ ?side1 ?side2 A4.out).mono ?_);(case side1=>exact is0_);(case side2=>exact hbi0_);rintro e w73 ⟨rfl,hi,hb,hk⟩;refine ⟨_,rfl,?_⟩;replace BK1:=kk_ hk BK1 NB1_0;replace HO4:=a0_ (Kd.R_mono (Kd.R_keep (IsS76.apart (is0_ : IsS76 w0 _ g s0_0 t8) (rr_ HO4.out) (by decide)) hk (fun _ h=>h.2)) (fun _ h=>h.1));replace BK6:=kk_ hk BK6 NB6_0;replace HK:=a0_ (KeepBut.trans (w:=w) hk_ hk (.inl rfl));replace HI0:=a0_ (hi);replace HB:=a0_ (hb);(try clear hb);have hcz74_0 : w73.cell? ⟨gb6,0,none⟩ = some (.slice Ao68 t2.length co68):=(blk_cell BK6.out 0).trans rfl;have hfz74_0:=blk_frozen BK6.out 0;have hnb75:=NB1_0.out;have hnc75:=NB0_1.out;have hcz76_0 : w73.cell? ⟨gb1,0,none⟩ = some (.slice none 0 0):=(blk_cell BK1.out 0).trans rfl;have hfz76_0:=blk_frozen BK1.out 0))
    refine bodyPost_ret (results_cell_row rfl _ _ gb1 25 #[.slice Ao68 t2.length co68] (0,0) _ rfl (by (with_reducible repeat (first | refine blk_drewN ?_ _ | refine blk_drew ?_ | refine blk_alloc ?_ _));refine blk_put (cs:=#[.slice none 0 0]) ?_ 0 _ rfl;(with_reducible repeat (first | refine blk_drewN ?_ _ | refine blk_drew ?_ | refine blk_alloc ?_ _));exact BK1.out) Try.underlying25 rfl (by kernel_rfl)) rfl ?_
    exact ⟨_,by first | rfl | (simp [errW_none,errW_some] <;> rfl) | (simp [*,errW_none,errW_some] <;> rfl),by (with_reducible repeat (first | apply Kd.R_alloc | apply Kd.R_drewN | apply Kd.R_drew));exact Kd.R_mono (Kd.R_far (p:=⟨gb1,0,none⟩) (Kd.R_types HO4.out BK1.out (by decide)) (fun _ hk=>hk.2) (.slice Ao68 t2.length co68)) (fun _ hk=>trivial),is0_,hbi0_,hk_⟩
theorem spec_someTree_ev (b : List Int) (p : Int) (hb : byL b) (h0 : 0 ≤ p) (hp : p ≤ 1099511626000) : ∃ t q,Ev (fun k=>spec_someTree.f k b p) (t,q) ∧ p ≤ q ∧ q ≤ p + 23 ∧ t.length ≤ 8 ∧ ∀ x ∈ t,x.f0.size ≤ 7:=by
 obtain ⟨t,q,ht,h1,h2,h3,h4,hg⟩:=spec_goodTree_ev b p hb h0 (by omega)
 obtain ⟨x,hx,x0,x1,_⟩:=spec_pick_ev b q (t.length : Int) hb (by omega) (by omega)
 have hxi:=x1 (by omega)
 obtain ⟨y,hy,y0,y1,_⟩:=spec_pick_ev b (q + 1) 24 hb (by omega) (by omega)
 by_cases c0 : y = 0
 ·obtain ⟨s,hs,hsm⟩:=spec_of_ev b (q + 1 + 1) [(⟨#[]⟩ : ByteArray),(⟨#[97,110,121]⟩ : ByteArray),(⟨#[65]⟩ : ByteArray),(⟨#[116,111,111,108,111,110,103]⟩ : ByteArray)] hb (by omega) (by omega) (by simp)
  have hsz : s.size ≤ 7:=by
   simp only [List.mem_cons,List.not_mem_nil,or_false] at hsm
   rcases hsm with rfl | rfl | rfl | rfl <;> decide
  refine ⟨_,_,Ev.bind ht (Ev.bind hx (Ev.bind hy (Ev.pos c0 (Ev.bind hs (Ev.pos x0 (Ev.pos hxi (Ev.const rfl))))))),by omega,by omega,by rw [List.length_set];exact h4,fun z hz=>?_⟩
  rcases set_mem hz with rfl | hz
  ·exact hsz
  ·exact hg.1 z hz
 by_cases c1 : y = 1
 ·obtain ⟨s,hs,hsm⟩:=spec_one_ev b (q + 1 + 1) [x,(-1),8,(-2)] hb (by omega) (by omega) (by simp)
  refine ⟨_,_,Ev.bind ht (Ev.bind hx (Ev.bind hy (Ev.neg c0 (Ev.pos c1 (Ev.bind hs (Ev.pos x0 (Ev.pos hxi (Ev.const rfl)))))))),by omega,by omega,by rw [List.length_set];exact h4,fun z hz=>?_⟩
  rcases set_mem hz with rfl | hz
  ·refine hg.1 (rd_T87 t x) ?_
   unfold rd_T87
   rw [List.getD_eq_getElem?_getD,List.getElem?_eq_getElem (show x.toNat < t.length by omega)]
   exact List.getElem_mem _
  ·exact hg.1 z hz
 by_cases c2 : y = 2
 ·exact ⟨_,_,Ev.bind ht (Ev.bind hx (Ev.bind hy (Ev.neg c0 (Ev.neg c1 (Ev.pos c2 (Ev.const rfl)))))),by omega,by omega,by simp,fun z hz=>absurd hz (by simp)⟩
 ·exact ⟨_,_,Ev.bind ht (Ev.bind hx (Ev.bind hy (Ev.neg c0 (Ev.neg c1 (Ev.neg c2 (Ev.const rfl)))))),by omega,by omega,h4,hg.1⟩
end Go.Proofs.Ytmiholmfbjalfaa.P
namespace Go.Proofs.Ytmiholmfbjalfaa.P
open Go.RowKit Go.Proofs.YtmiholmfbjalfaaW.PrintWords Go.Proofs.YtmiholmfbjalfaaW.PrintLast Go.Proofs.YtmiholmfbjalfaaW.PrintMore
attribute [local go_sem] max2_int min2_int max_two min_two max_three min_three max_four min_four
set_option linter.unusedVariables false
set_option linter.unusedSimpArgs false
def raiP (t : List Cls) (h : List Fau) (f g : Int) : List Fau × Bool:=if ((vH t h && hasF h f) && hasF h g) = true then (whlP h f g,true) else ([],false)
theorem whlP_len (h : List Fau) (f g : Int) : (whlP h f g).length = h.length:=by
 unfold whlP
 split
 ·rfl
 ·rw [setC_len,cutL_len]
theorem raiP_len (t : List Cls) (h : List Fau) (f g : Int) : (raiP t h f g).1.length ≤ h.length:=by
 unfold raiP
 split
 ·exact Nat.le_of_eq (whlP_len h f g)
 ·simp
end Go.Proofs.Ytmiholmfbjalfaa.P
namespace Go.Proofs.Ytmiholmfbjalfaa.P
open Go.RowKit Go.Proofs.YtmiholmfbjalfaaW.PrintWords Go.Proofs.YtmiholmfbjalfaaW.PrintLast Go.Proofs.YtmiholmfbjalfaaW.PrintMore
attribute [local go_sem] max2_int min2_int max_two min_two max_three min_three max_four min_four
set_option linter.unusedVariables false
set_option linter.unusedSimpArgs false
theorem fau_setC_ne {h : List Fau} {x y c : Int} (hx : 0 ≤ x) (hy : 0 ≤ y) (hn : y ≠ x) : fauAt (setC h x c) y = fauAt h y:=fauAt_set_ne hx hy hn
theorem fau_setC_eq {h : List Fau} {x c : Int} (h0 : 0 ≤ x) (h1 : x < (h.length : Int)) : fauAt (setC h x c) x = ⟨(fauAt h x).f0,(fauAt h x).f1,(fauAt h x).f2,c,(fauAt h x).f4⟩:=fauAt_set_eq h0 h1
theorem fau_ext {x y : Fau} (h0 : x.f0 = y.f0) (h1 : x.f1 = y.f1) (h2 : x.f2 = y.f2) (h3 : x.f3 = y.f3) (h4 : x.f4 = y.f4) : x = y:=by
 cases x;cases y;simp_all
def cutN (h : List Fau) (L : List Int) (f x : Int) : Int:=if x ∈ L ∧ ctxN h x = f then -1 else ctxN h x
theorem cutL_at (f : Int) (hf : 0 ≤ f) : ∀ (r : List Int) (h : List Fau),(∀ y ∈ r,0 ≤ y ∧ y < (h.length : Int)) → ∀ x : Int,0 ≤ x → x < (h.length : Int) → fauAt (cutL f r h) x = ⟨(fauAt h x).f0,(fauAt h x).f1,(fauAt h x).f2,cutN h r f x,(fauAt h x).f4⟩:=by
 intro r
 induction r with
 | nil=>intro h _ x _ _;simp [cutL,cutN,ctxN_fau]
 | cons y r ih =>
  intro h hr x h0 h1
  have hy:=hr y (by simp)
  rw [cutL]
  by_cases he : ctxN h y = f
  ·rw [if_pos he]
   rw [ih _ (fun z hz=>by rw [setC_len];exact hr z (by simp [hz])) x h0 (by rw [setC_len];exact h1)]
   by_cases e : x = y
   ·subst e
    rw [fau_setC_eq h0 h1]
    have e2 : ctxN (setC h x (-1)) x = -1:=by rw [ctxN_fau,fau_setC_eq h0 h1]
    have e3 : cutN (setC h x (-1)) r f x = -1:=by
     unfold cutN
     split
     ·rfl
     ·exact e2
    have e4 : cutN h (x :: r) f x = -1:=by unfold cutN;rw [if_pos ⟨by simp,he⟩]
    rw [e3,e4]
   ·rw [fau_setC_ne hy.1 h0 e]
    have e2 : ctxN (setC h y (-1)) x = ctxN h x:=ctxN_setC hy.1 h0 e
    have e3 : cutN (setC h y (-1)) r f x = cutN h (y :: r) f x:=by
     unfold cutN
     rw [e2]
     simp [e]
    rw [e3]
  ·rw [if_neg he,ih h (fun z hz=>hr z (by simp [hz])) x h0 h1]
   have e3 : cutN h r f x = cutN h (y :: r) f x:=by
    unfold cutN
    by_cases e : x = y
    ·subst e
     rw [if_neg (fun hh=>he hh.2),if_neg (fun hh=>he hh.2)]
    ·simp [e]
   rw [e3]
def raiN (h : List Fau) (L : List Int) (f g x : Int) : Int:=if x = f then g else cutN h L f x
theorem whl_at {h : List Fau} {f g : Int} (h0 : 0 ≤ f) (h1 : f < (h.length : Int)) (hne : f ≠ g) (hm : ∀ y ∈ ctxL h g,0 ≤ y ∧ y < (h.length : Int)) (x : Int) (x0 : 0 ≤ x) (x1 : x < (h.length : Int)) : fauAt (whlP h f g) x = ⟨(fauAt h x).f0,(fauAt h x).f1,(fauAt h x).f2,raiN h (ctxL h g) f g x,(fauAt h x).f4⟩:=by
 unfold whlP raiN
 rw [if_neg hne]
 by_cases e : x = f
 ·subst e
  rw [fau_setC_eq x0 (by rw [cutL_len];exact x1),cutL_at x x0 _ h hm x x0 x1,if_pos rfl]
 ·rw [fau_setC_ne h0 x0 e,cutL_at f h0 _ h hm x x0 x1,if_neg e]
theorem itL_closed (next : Int → Int) : ∀ (n : Nat) (x : Int),stp next n x → ∀ y ∈ itL next n x,next y < 0 ∨ next y ∈ itL next n x:=by
 intro n
 induction n with
 | zero=>intro x _ y hy;simp [itL] at hy
 | succ n ih =>
  intro x hs y hy
  rw [itL] at hy ⊢
  by_cases h0 : 0 ≤ x
  ·rw [if_pos h0] at hy ⊢
   rcases hs with hs | hs
   ·omega
   ·rcases List.mem_cons.1 hy with rfl | hy
    ·by_cases h1 : 0 ≤ next y
     ·right
      refine List.mem_cons_of_mem _ ?_
      cases n with
      | zero=>have : next y < 0:=hs;omega
      | succ n=>rw [itL,if_pos h1];exact List.mem_cons_self
     ·left;omega
    ·rcases ih _ hs y hy with h2 | h2
     ·exact Or.inl h2
     ·exact Or.inr (List.mem_cons_of_mem _ h2)
  ·rw [if_neg h0] at hy
   simp at hy
theorem itL_head (next : Int → Int) (n : Nat) (x : Int) (h0 : 0 ≤ x) (hs : stp next n x) : x ∈ itL next n x:=by
 cases n with
 | zero=>have : x < 0:=hs;omega
 | succ n=>rw [itL,if_pos h0];exact List.mem_cons_self
section
variable {t : List Cls} {h : List Fau} {f g : Int}
theorem whl_mem (hv : vH t h = true) (g1 : g < (h.length : Int)) : ∀ y ∈ ctxL h g,0 ≤ y ∧ y < (h.length : Int) :=
 ctxL_mem (fun x a b=>(fsH_ctx (vH_parts hv).1 x a b).2) g g1
theorem whl_closed (hv : vH t h = true) (g1 : g < (h.length : Int)) : ∀ y ∈ ctxL h g,ctxN h y < 0 ∨ ctxN h y ∈ ctxL h g:=by
 rw [ctxL_it hv g g1]
 exact itL_closed _ _ _ (vH_stp hv g g1)
theorem whl_head (hv : vH t h = true) (g0 : 0 ≤ g) (g1 : g < (h.length : Int)) : g ∈ ctxL h g:=by
 rw [ctxL_it hv g g1]
 exact itL_head _ _ _ g0 (vH_stp hv g g1)
theorem whl_ctx (hv : vH t h = true) (h0 : 0 ≤ f) (h1 : f < (h.length : Int)) (hne : f ≠ g) (g1 : g < (h.length : Int)) (x : Int) (x0 : 0 ≤ x) (x1 : x < (h.length : Int)) : ctxN (whlP h f g) x = raiN h (ctxL h g) f g x:=by
 rw [ctxN_fau,whl_at h0 h1 hne (whl_mem hv g1) x x0 x1]
theorem whl_next (hv : vH t h = true) (h0 : 0 ≤ f) (h1 : f < (h.length : Int)) (hne : f ≠ g) (g1 : g < (h.length : Int)) (y : Int) (hy : y ∈ ctxL h g) (hyf : y ≠ f) : ctxN (whlP h f g) y = if ctxN h y = f then -1 else ctxN h y:=by
 have hm:=whl_mem hv g1 y hy
 rw [whl_ctx hv h0 h1 hne g1 y hm.1 hm.2,raiN,if_neg hyf,cutN]
 by_cases e : ctxN h y = f
 ·rw [if_pos ⟨hy,e⟩,if_pos e]
 ·rw [if_neg (fun hh=>e hh.2),if_neg e]
theorem whl_it (hv : vH t h = true) (h0 : 0 ≤ f) (h1 : f < (h.length : Int)) (hne : f ≠ g) (g1 : g < (h.length : Int)) : ∀ (n : Nat) (y : Int),(y < 0 ∨ y ∈ ctxL h g) → y ≠ f → stp (ctxN h) n y → stp (ctxN (whlP h f g)) n y ∧ itL (ctxN (whlP h f g)) n y = (itL (ctxN h) n y).takeWhile (fun z=>!(z == f)):=by
 intro n
 induction n with
 | zero=>intro y _ _ hs;exact ⟨hs,rfl⟩
 | succ n ih =>
  intro y hy hyf hs
  by_cases y0 : 0 ≤ y
  ·rcases hy with hy | hy
   ·omega
   rcases hs with hs | hs
   ·omega
   rw [itL,itL,if_pos y0,if_pos y0,List.takeWhile_cons,if_pos (by simpa using hyf)]
   have hn:=whl_next hv h0 h1 hne g1 y hy hyf
   by_cases e : ctxN h y = f
   ·rw [if_pos e] at hn
    refine ⟨Or.inr (by rw [hn];exact stp_neg _ _ _ (by omega)),?_⟩
    have e1 : itL (ctxN (whlP h f g)) n (ctxN (whlP h f g) y) = []:=by
     rw [hn]
     cases n with
     | zero=>rfl
     | succ n=>rw [itL,if_neg (by omega)]
    have e2 : (itL (ctxN h) n (ctxN h y)).takeWhile (fun z=>!(z == f)) = []:=by
     rw [e]
     cases n with
     | zero=>rfl
     | succ n=>rw [itL,if_pos h0,List.takeWhile_cons,if_neg (by simp)]
    rw [e1,e2]
   ·rw [if_neg e] at hn
    obtain ⟨h2,h3⟩:=ih (ctxN h y) (whl_closed hv g1 y hy) e hs
    refine ⟨Or.inr (by rw [hn];exact h2),?_⟩
    rw [hn,h3]
  ·refine ⟨Or.inl (by omega),?_⟩
   rw [itL,itL,if_neg y0,if_neg y0]
   rfl
theorem whl_stp (hv : vH t h = true) (h0 : 0 ≤ f) (h1 : f < (h.length : Int)) (hne : f ≠ g) (g0 : 0 ≤ g) (g1 : g < (h.length : Int)) : stp (ctxN (whlP h f g)) (h.length + 1 + 1) f:=by
 right
 rw [whl_ctx hv h0 h1 hne g1 f h0 h1,raiN,if_pos rfl]
 exact (whl_it hv h0 h1 hne g1 _ g (Or.inr (whl_head hv g0 g1)) (fun e=>hne e.symm) (vH_stp hv g g1)).1
theorem whl_all (hv : vH t h = true) (h0 : 0 ≤ f) (h1 : f < (h.length : Int)) (hne : f ≠ g) (g0 : 0 ≤ g) (g1 : g < (h.length : Int)) : ∀ (n : Nat) (x : Int),x < (h.length : Int) → stp (ctxN h) n x → stp (ctxN (whlP h f g)) (n + (h.length + 1 + 1)) x:=by
 intro n
 induction n with
 | zero=>intro x _ hs;exact stp_neg _ _ _ hs
 | succ n ih =>
  intro x hx hs
  by_cases x0 : 0 ≤ x
  ·by_cases e : x = f
   ·subst e
    exact stp_le _ _ (by omega) (whl_stp hv h0 h1 hne g0 g1)
   ·rcases hs with hs | hs
    ·omega
    ·rw [show n + 1 + (h.length + 1 + 1) = (n + (h.length + 1 + 1)) + 1 by omega]
     right
     rw [whl_ctx hv h0 h1 hne g1 x x0 hx,raiN,if_neg e,cutN]
     split
     ·exact stp_neg _ _ _ (by omega)
     ·exact ih _ (fsH_ctx (vH_parts hv).1 x x0 hx).2 hs
  ·exact stp_neg _ _ _ (by omega)
theorem vH_whl (hv : vH t h = true) (h0 : 0 ≤ f) (h1 : f < (h.length : Int)) (g0 : 0 ≤ g) (g1 : g < (h.length : Int)) : vH t (whlP h f g) = true:=by
 by_cases hne : f = g
 ·unfold whlP
  rw [if_pos hne]
  exact hv
 obtain ⟨hfs,hes,ht,hn⟩:=vH_parts hv
 refine vH_mk ?_ (fun j hj=>?_) ht (by rw [whlP_len];exact hn)
 ·refine all_of (fun j hj=>?_)
  rw [whlP_len] at hj
  have h2:=all_at hfs j hj
  have e:=whl_at h0 h1 hne (whl_mem hv g1) (j : Int) (by omega) (by omega)
  simp only [fauAt,Int.toNat_natCast] at e
  unfold okF at h2 ⊢
  have hlk : ∀ a u,lnkB (whlP h f g) a u = lnkB h a u:=fun a u=>by unfold lnkB hasF;rw [whlP_len]
  rw [hlk,hlk,e]
  simp only [Bool.and_eq_true,decide_eq_true_eq] at h2 ⊢
  refine ⟨h2.1,h2.2.1,h2.2.2.1,?_⟩
  unfold raiN cutN
  split
  ·rename_i hjf
   unfold lnkB hasF
   simp only [Bool.or_eq_true,Bool.and_eq_true,beq_iff_eq,bne_iff_ne,decide_eq_true_eq]
   omega
  ·split
   ·unfold lnkB;simp
   ·exact h2.2.2.2
 ·rw [whlP_len] at hj
  exact ⟨_,whl_all hv h0 h1 hne g0 g1 _ _ (by omega) (vH_stp hv _ (by omega))⟩
theorem whl_again (hv : vH t h = true) (h0 : 0 ≤ f) (h1 : f < (h.length : Int)) (g0 : 0 ≤ g) (g1 : g < (h.length : Int)) : whlP (whlP h f g) f g = whlP h f g:=by
 by_cases hne : f = g
 ·unfold whlP
  rw [if_pos hne]
 have hv2:=vH_whl hv h0 h1 g0 g1
 have hl:=whlP_len h f g
 have hcl : ctxL (whlP h f g) g = (itL (ctxN h) (h.length + 1) g).takeWhile (fun z=>!(z == f)):=by
  rw [ctxL_it hv2 g (by rw [hl];exact g1),hl]
  exact (whl_it hv h0 h1 hne g1 _ g (Or.inr (whl_head hv g0 g1)) (fun e=>hne e.symm) (vH_stp hv g g1)).2
 have hin : ∀ y ∈ ctxL (whlP h f g) g,y ∈ ctxL h g ∧ y ≠ f:=by
  intro y hy
  rw [hcl] at hy
  constructor
  ·rw [ctxL_it hv g g1]
   exact (List.takeWhile_sublist _).subset hy
  ·have:=List.all_takeWhile (p:=fun z=>!(z == f)) (l:=itL (ctxN h) (h.length + 1) g)
   rw [List.all_eq_true] at this
   simpa using this y hy
 have hno : ∀ y ∈ ctxL (whlP h f g) g,ctxN (whlP h f g) y ≠ f:=by
  intro y hy
  obtain ⟨a,b⟩:=hin y hy
  rw [whl_next hv h0 h1 hne g1 y a b]
  split
  ·omega
  ·assumption
 have hw : ∀ H : List Fau,whlP H f g = setC (cutL f (ctxL H g) H) f g:=fun H=>by unfold whlP;rw [if_neg hne]
 have e : whlP (whlP h f g) f g = setC (whlP h f g) f g:=by rw [hw (whlP h f g),cutL_none f _ _ hno]
 rw [e]
 have hc : (fauAt (whlP h f g) f).f3 = g:=by
  have:=whl_ctx hv h0 h1 hne g1 f h0 h1
  rw [raiN,if_pos rfl] at this
  exact this
 unfold setC
 rw [show (⟨(fauAt (whlP h f g) f).f0,(fauAt (whlP h f g) f).f1,(fauAt (whlP h f g) f).f2,g,(fauAt (whlP h f g) f).f4⟩ : Fau) = fauAt (whlP h f g) f from fau_ext rfl rfl rfl hc.symm rfl]
 refine List.ext_getElem (by simp) (fun i a b=>?_)
 rw [List.getElem_set]
 split
 ·rename_i hi
  subst hi
  simp [fauAt,show f.toNat < (whlP h f g).length by omega]
 ·rfl
theorem whl_chain (hv : vH t h = true) (h0 : 0 ≤ f) (h1 : f < (h.length : Int)) (hne : f ≠ g) (g0 : 0 ≤ g) (g1 : g < (h.length : Int)) : ctxL (whlP h f g) f = f :: (ctxL h g).takeWhile (fun z=>!(z == f)):=by
 have hv2:=vH_whl hv h0 h1 g0 g1
 have hl:=whlP_len h f g
 have hs:=whl_stp hv h0 h1 hne g0 g1
 rw [ctxL_it hv2 f (by rw [hl];exact h1),ctxL_it hv g g1,hl]
 have hs2:=vH_stp hv2 f (by rw [hl];exact h1)
 rw [hl] at hs2
 rw [← itL_more _ _ (h.length + 1 + 1) _ hs2 (by omega),itL,if_pos h0,whl_ctx hv h0 h1 hne g1 f h0 h1,raiN,if_pos rfl]
 rw [(whl_it hv h0 h1 hne g1 _ g (Or.inr (whl_head hv g0 g1)) (fun e=>hne e.symm) (vH_stp hv g g1)).2]
end
end Go.Proofs.Ytmiholmfbjalfaa.P
namespace Go.Proofs.Ytmiholmfbjalfaa.P
open Go.RowKit Go.Proofs.YtmiholmfbjalfaaW.PrintWords Go.Proofs.YtmiholmfbjalfaaW.PrintLast Go.Proofs.YtmiholmfbjalfaaW.PrintMore
attribute [local go_sem] max2_int min2_int max_two min_two max_three min_three max_four min_four
set_option linter.unusedVariables false
set_option linter.unusedSimpArgs false
def spec_copyHeap.f (l0_0 : List (S43)) : Option ((List (S43))):=(some (([] : List (S43)) : List (S43))).bind fun y3=>(if y3.length + l0_0.length < 3518437208883 then (some (y3 ++ l0_0)) else (none))
set_option maxHeartbeats 8000000 in
set_option maxRecDepth 100000 in
theorem spec_copyHeap.calls (A0_0 : Option Addr) (c0_0 : Nat) (l0_0 : List (S43)) (r : List (S43)) (w : World) (hr0_0 : Kd.C k43 w A0_0 l0_0.length l0_0) (hc0_0 : l0_0.length ≤ c0_0) (h : spec_copyHeap.f l0_0 = some r) :
  Calls Try.prog 49 #[.agg #[.slice A0_0 l0_0.length c0_0]] w fun e w'=>∃ v0_ : Value,e = .returned (.agg #[v0_]) ∧ Kd.R k43 43 w' w.heap.size (fun _=>True) v0_ r ∧ Below w.heap.size w w':=by
 have hu28:=Try.underlying28
 have HR0_0:=a0_ hr0_0
 have HC0_0:=a0_ hc0_0
 clear hr0_0 hc0_0
 have HB:=a0_ (Below.refl w.heap.size w)
 have H : ((some (([] : List (S43)) : List (S43))).bind fun y3=>(if y3.length + l0_0.length < 3518437208883 then (some (y3 ++ l0_0)) else (none))) = some r:=h
 clear h
 obtain ⟨y3,hy3⟩ : ∃ y_ : List (S43),y_ = (([] : List (S43))):=⟨_,rfl⟩
 replace H : (if y3.length + l0_0.length < 3518437208883 then (some (y3 ++ l0_0)) else (none)) = some r:=by first | (rw [hy3];with_reducible exact H) | (have H2_:=(Option.bind_some _ _).symm.trans H;rw [hy3];with_reducible exact H2_) | (have H2_:=(Option.bind_some _ _).symm.trans H;with_reducible exact H2_) | with_reducible exact H | (rw [hy3];exact H) | exact H
 have Ny3:=a0_ hy3
 clear hy3
 by_cases c2 : y3.length + l0_0.length < 3518437208883
 ·rw [if_pos c2] at H
  have LMc2:=a0_ c2
  clear c2
  obtain ⟨y6,hy6⟩ : ∃ y_ : List (S43),y_ = (y3 ++ l0_0):=⟨_,rfl⟩
  replace H : (some y6) = some r:=by first | (rw [hy6];with_reducible exact H) | (have H2_:=(Option.bind_some _ _).symm.trans H;rw [hy6];with_reducible exact H2_) | (have H2_:=(Option.bind_some _ _).symm.trans H;with_reducible exact H2_) | with_reducible exact H | (rw [hy6];exact H) | exact H
  have Ny6:=a0_ hy6
  clear hy6
  obtain rfl:=Option.some.inj H
  go_enter Try.func49,Try.ntmps49
  go_wp2_with (first | ((with_reducible refine gate_dst (N:=1) rfl ?_);refine box_event ?hg (N:=1) ?hd (cs:=#[.slice A0_0 l0_0.length c0_0]) (t:=28) ?hr ?_;(case hd=>rfl);(case hg=>rfl);(case hr=>first | (go_simp;done) | (go_simp;rfl));intro gb1 hg w3 hbox hb;have BK1:=a0_ (hbox);have GW1:=a0_ ((by rw [hg];exact (below_size hb_) : w.heap.size ≤ gb1));have GE1:=a0_ ((by rw [hg];exact (below_size hb_) : w.heap.size ≤ gb1));replace HB:=a0_ (below_step hb_ hb);clear hb hbox hg) | ((with_reducible refine gate_dst (N:=2) rfl ?_);refine box_event ?hg (N:=2) ?hd (cs:=#[.slice none 0 0]) (t:=28) ?hr ?_;(case hd=>rfl);(case hg=>rfl);(case hr=>first | (go_simp;done) | (go_simp;rfl));intro gb2 hg w4 hbox hb;have n0_:=kb_ BK1 hb;have n1_:=a0_ (below_step hb_ hb);have n2_:=a0_ (hbox);have n3_:=a0_ ((by rw [hg];exact (below_size hb_) : w.heap.size ≤ gb2));have n4_:=a0_ ((by rw [hg];exact (below_size hb_) : w.heap.size ≤ gb2));have n5_:=a0_ ((by rw [hg];exact Nat.ne_of_lt (blk_lt (bb_ BK1.out)) : gb1 ≠ gb2));have n6_:=a0_ ((by rw [hg];exact Nat.ne_of_gt (blk_lt (bb_ BK1.out)) : gb2 ≠ gb1));clear BK1 HB;have BK1:=n0_;have HB:=n1_;have BK2:=n2_;have GW2:=n3_;have GE2:=n4_;have NB1_2:=n5_;have NB2_1:=n6_;clear n0_ n1_ n2_ n3_ n4_ n5_ n6_;clear hb hbox hg) | ((with_reducible refine gate_dst (N:=3) rfl ?_);refine Kd.R_lit k43 _ 43 ?hg (N:=3) ?hd (xs:=([] : List (S43))) (inner:=[]) (ok:=fun _=>True) (okp:=fun _=>True) ?hr ?hp (fun _ hk=>hk) trivial (Below.refl _ _) (Nat.le_refl _) (by simp) ?_;(case hd=>rfl);(case hg=>rfl);(case hr=>first | (go_simp;done) | (go_simp;rfl));(case hp=>exact (Reps.none _ _));intro v4 w5 ho6 hb hg_ hnew_;clear hg_ hnew_;(first | rw [← Ny3.out] at ho6 | (simp only [Int.reduceToNat] at ho6;rw [← Ny3.out] at ho6));have HO5:=a0_ (Kd.R_lower ho6 (below_size hb_));replace BK1:=kb_ BK1 hb;replace BK2:=kb_ BK2 hb;replace HB:=a0_ (below_step hb_ hb);clear hb ho6;have hnb7:=NB1_2.out;have hnc7:=NB2_1.out;have hcz8_0 : w5.cell? ⟨gb1,0,none⟩ = some (.slice A0_0 l0_0.length c0_0):=(blk_cell BK1.out 0).trans rfl;have hfz8_0:=blk_frozen BK1.out 0) | ((with_reducible refine gate_builtin (b:=.append) (xs:=#[.tmp 3,.tmp 5]) rfl ?_);at_builtin;refine Kd.R_append_rows k43 (w0:=w) w.heap.size rfl (.tmp 3) (.tmp 5) 26 43 (.agg #[(.int .i64 0),(.int .i64 0),(.int .i64 0),(.int .i64 0),(.bool false)]) 40 rfl Try.underlying26 info43 rfl (by decide) (by omega) v4 y3 l0_0 _ _ _ (fun _=>True) (fun _=>False) rfl rfl ?aO ?aR (fun _ _ h=>h) (fun _ h=>h.elim) ?aF ?aB ?aS ?aL ?_;(case aR=>exact cc_ (Kd.C_below HR0_0.out HB.out));(case aB=>exact hb_);(case aF=>exact (fun _ _=>trivial));(case aO=>exact (rr_ HO5.out));(case aS=>exact (below_size hb_));(case aL=>have:=LMc2.out;omega);intro v7 w9 ho hb hg hat;rw [← Ny6.out] at ho;replace BK1:=a0_ (blk_grown (bb_ BK1.out) hg (Kd.R_ne HO5.out BK1.out (by decide)));replace BK2:=a0_ (blk_grown (bb_ BK2.out) hg (Kd.R_ne HO5.out BK2.out (by decide)));have HO8:=a0_ (ho);replace HB:=a0_ (hb);clear HO5;clear ho hb hg hat;obtain ⟨Ao10,co10,eo10⟩:=Kd.R_slice HO8.out;subst eo10;have hcz11_0 : w9.cell? ⟨gb2,0,none⟩ = some (.slice none 0 0):=(blk_cell BK2.out 0).trans rfl;have hfz11_0:=blk_frozen BK2.out 0))
  refine bodyPost_ret (results_cell_row rfl _ _ gb2 28 #[.slice Ao10 y6.length co10] (0,0) _ rfl (by (with_reducible repeat (first | refine blk_drewN ?_ _ | refine blk_drew ?_ | refine blk_alloc ?_ _));refine blk_put (cs:=#[.slice none 0 0]) ?_ 0 _ rfl;(with_reducible repeat (first | refine blk_drewN ?_ _ | refine blk_drew ?_ | refine blk_alloc ?_ _));exact BK2.out) Try.underlying28 rfl (by kernel_rfl)) rfl ?_
  exact ⟨_,by first | rfl | (simp [errW_none,errW_some] <;> rfl) | (simp [*,errW_none,errW_some] <;> rfl),by (with_reducible repeat (first | apply Kd.R_alloc | apply Kd.R_drewN | apply Kd.R_drew));exact Kd.R_mono (Kd.R_far (p:=⟨gb2,0,none⟩) (Kd.R_types HO8.out BK2.out (by decide)) (fun _ hk=>hk.2) (.slice Ao10 y6.length co10)) (fun _ hk=>trivial),hb_⟩
 ·rw [if_neg c2] at H
  exact absurd H (by simp)
theorem spec_copyHeap_ev (h : List Fau) (hl : h.length ≤ 2097152) : spec_copyHeap.f h = some h:=by
 unfold spec_copyHeap.f
 rw [Option.bind_some,if_pos (by simp;omega)]
 rfl
end Go.Proofs.Ytmiholmfbjalfaa.P
namespace Go.Proofs.Ytmiholmfbjalfaa.P
open Go.RowKit Go.Proofs.YtmiholmfbjalfaaW.PrintWords Go.Proofs.YtmiholmfbjalfaaW.PrintLast Go.Proofs.YtmiholmfbjalfaaW.PrintMore
attribute [local go_sem] max2_int min2_int max_two min_two max_three min_three max_four min_four
set_option linter.unusedVariables false
set_option linter.unusedSimpArgs false
def spec_added.f (l0_0 : List (S43)) (a1 : Int) (a2 : Int) : Option ((List (S43))):=(spec_copyHeap.f l0_0).bind fun t3=>(if t3.length < 3518437208883 then (some (t3 ++ [(⟨a1,a2,(-1),(-1),false⟩ : S43)])) else (none))
set_option maxHeartbeats 8000000 in
set_option maxRecDepth 100000 in
theorem spec_added.calls (A0_0 : Option Addr) (c0_0 : Nat) (l0_0 : List (S43)) (a1 : Int) (a2 : Int) (r : List (S43)) (w : World) (hr0_0 : Kd.C k43 w A0_0 l0_0.length l0_0) (hc0_0 : l0_0.length ≤ c0_0) (h : spec_added.f l0_0 a1 a2 = some r) :
  Calls Try.prog 45 #[.agg #[.slice A0_0 l0_0.length c0_0],.int .i64 a1,.int .i64 a2] w fun e w'=>∃ v0_ : Value,e = .returned (.agg #[v0_]) ∧ Kd.R k43 43 w' w.heap.size (fun _=>True) v0_ r ∧ Below w.heap.size w w':=by
 have hu28:=Try.underlying28
 have hu43:=Try.underlying43
 have HR0_0:=a0_ hr0_0
 have HC0_0:=a0_ hc0_0
 clear hr0_0 hc0_0
 have HB:=a0_ (Below.refl w.heap.size w)
 have H : ((spec_copyHeap.f l0_0).bind fun t3=>(if t3.length < 3518437208883 then (some (t3 ++ [(⟨a1,a2,(-1),(-1),false⟩ : S43)])) else (none))) = some r:=h
 clear h
 replace H:=Option.bind_eq_some_iff.mp H
 obtain ⟨t3,A40,H⟩:=H
 try dsimp only at H
 have A4:=a0_ A40
 clear A40
 by_cases c5 : t3.length < 3518437208883
 ·rw [if_pos c5] at H
  have LMc5:=a0_ c5
  clear c5
  obtain ⟨y7,hy7⟩ : ∃ y_ : List (S43),y_ = (t3 ++ [(⟨a1,a2,(-1),(-1),false⟩ : S43)]):=⟨_,rfl⟩
  replace H : (some y7) = some r:=by first | (rw [hy7];with_reducible exact H) | (have H2_:=(Option.bind_some _ _).symm.trans H;rw [hy7];with_reducible exact H2_) | (have H2_:=(Option.bind_some _ _).symm.trans H;with_reducible exact H2_) | with_reducible exact H | (rw [hy7];exact H) | exact H
  have Ny7:=a0_ hy7
  clear hy7
  obtain rfl:=Option.some.inj H
  go_enter Try.func45,Try.ntmps45
  go_wp2_with (first | ((with_reducible refine gate_dst (N:=3) rfl ?_);refine box_event ?hg (N:=3) ?hd (cs:=#[.slice A0_0 l0_0.length c0_0]) (t:=28) ?hr ?_;(case hd=>rfl);(case hg=>rfl);(case hr=>first | (go_simp;done) | (go_simp;rfl));intro gb1 hg w6 hbox hb;have BK1:=a0_ (hbox);have GW1:=a0_ ((by rw [hg];exact (below_size hb_) : w.heap.size ≤ gb1));have GE1:=a0_ ((by rw [hg];exact (below_size hb_) : w.heap.size ≤ gb1));replace HB:=a0_ (below_step hb_ hb);clear hb hbox hg) | ((with_reducible refine gate_dst (N:=6) rfl ?_);refine box_event ?hg (N:=6) ?hd (cs:=#[.slice none 0 0]) (t:=28) ?hr ?_;(case hd=>rfl);(case hg=>rfl);(case hr=>first | (go_simp;done) | (go_simp;rfl));intro gb2 hg w7 hbox hb;have n0_:=kb_ BK1 hb;have n1_:=a0_ (below_step hb_ hb);have n2_:=a0_ (hbox);have n3_:=a0_ ((by rw [hg];exact (below_size hb_) : w.heap.size ≤ gb2));have n4_:=a0_ ((by rw [hg];exact (below_size hb_) : w.heap.size ≤ gb2));have n5_:=a0_ ((by rw [hg];exact Nat.ne_of_lt (blk_lt (bb_ BK1.out)) : gb1 ≠ gb2));have n6_:=a0_ ((by rw [hg];exact Nat.ne_of_gt (blk_lt (bb_ BK1.out)) : gb2 ≠ gb1));clear BK1 HB;have BK1:=n0_;have HB:=n1_;have BK2:=n2_;have GW2:=n3_;have GE2:=n4_;have NB1_2:=n5_;have NB2_1:=n6_;clear n0_ n1_ n2_ n3_ n4_ n5_ n6_;clear hb hbox hg;have hnb8:=NB1_2.out;have hnc8:=NB2_1.out;have hcz9_0 : w7.cell? ⟨gb1,0,none⟩ = some (.slice A0_0 l0_0.length c0_0):=(blk_cell BK1.out 0).trans rfl;have hfz9_0:=blk_frozen BK1.out 0) | ((with_reducible refine gate_callee (f:=49) rfl ?_);refine goesL_ (some 9) rfl rfl Try.func49 (by kernel_rfl) rfl #[.agg #[.slice A0_0 l0_0.length c0_0]] rfl lm_ ?_;(with_reducible refine (spec_copyHeap.calls _ _ l0_0 t3 _ ?side1 ?side2 A4.out).mono ?_);(case side1=>exact cc_ (Kd.C_below HR0_0.out HB.out));(case side2=>exact HC0_0.out);rintro e w10 ⟨v4,rfl,ho0,hb⟩;refine ⟨_,rfl,?_⟩;have HO5:=a0_ (Kd.R_lower ho0 (below_size hb_));replace BK1:=kb_ BK1 hb;replace BK2:=kb_ BK2 hb;replace HB:=a0_ (below_step hb_ hb);(try clear hb);(try clear ho0)) | ((with_reducible refine gate_dst (N:=7) rfl ?_);refine box_event ?hg (N:=7) ?hd (cs:=#[.slice none 0 0]) (t:=28) ?hr ?_;(case hd=>rfl);(case hg=>rfl);(case hr=>first | (go_simp;done) | (go_simp;rfl));intro gb6 hg w11 hbox hb;have n0_:=rb_ HO5 hb;have n1_:=kb_ BK1 hb;have n2_:=kb_ BK2 hb;have n3_:=a0_ (below_step hb_ hb);have n4_:=a0_ (hbox);have n5_:=a0_ ((by rw [hg];exact (below_size hb_) : w.heap.size ≤ gb6));have n6_:=a0_ ((by rw [hg];exact (below_size hb_) : w.heap.size ≤ gb6));have n7_:=a0_ ((by rw [hg];exact Nat.ne_of_lt (blk_lt (bb_ BK1.out)) : gb1 ≠ gb6));have n8_:=a0_ ((by rw [hg];exact Nat.ne_of_gt (blk_lt (bb_ BK1.out)) : gb6 ≠ gb1));have n9_:=a0_ ((by rw [hg];exact Nat.ne_of_lt (blk_lt (bb_ BK2.out)) : gb2 ≠ gb6));have n10_:=a0_ ((by rw [hg];exact Nat.ne_of_gt (blk_lt (bb_ BK2.out)) : gb6 ≠ gb2));clear HO5 BK1;clear BK2 HB;have HO5:=n0_;have BK1:=n1_;have BK2:=n2_;have HB:=n3_;have BK6:=n4_;have GW6:=n5_;have GE6:=n6_;have NB1_6:=n7_;have NB6_1:=n8_;have NB2_6:=n9_;have NB6_2:=n10_;clear n0_ n1_ n2_ n3_ n4_ n5_ n6_ n7_ n8_ n9_ n10_;clear hb hbox hg;obtain ⟨Ao12,co12,eo12⟩:=Kd.R_slice HO5.out;subst eo12;have hnb13:=NB6_1.out;have hnc13:=NB1_6.out;have hnb14:=NB6_2.out;have hnc14:=NB2_6.out;have hcz15_0 : w11.cell? ⟨gb6,0,none⟩ = some (.slice none 0 0):=(blk_cell BK6.out 0).trans rfl;have hfz15_0:=blk_frozen BK6.out 0) | ((with_reducible refine gate_builtin (b:=.append) (xs:=#[.tmp 11,.tmp 15]) rfl ?_);at_builtin;refine Kd.R_append k43 (w0:=w) w.heap.size rfl (.tmp 11) (.tmp 15) 26 43 (.agg #[(.int .i64 0),(.int .i64 0),(.int .i64 0),(.int .i64 0),(.bool false)]) 40 rfl Try.underlying26 info43 rfl (by decide) (by omega) (.slice Ao12 t3.length co12) t3 (⟨a1,a2,(-1),(-1),false⟩ : S43) [.int .i64 a1,.int .i64 a2,.int .i64 (-1),.int .i64 (-1),.bool false] (fun _=>True) (fun _=>False) rfl (by first | (go_simp;done) | (go_simp;rfl)) ?aP (fun _ hk=>hk.elim) ?aF ?aO ?aB ?aS ?aL ?_;(case aP=>exact k43_mkM _ _ _ (⟨a1,a2,(-1),(-1),false⟩ : S43));(case aB=>exact hb_);(case aF=>exact (fun _ _=>trivial));(case aO=>exact (by (with_reducible repeat (first | apply Kd.R_alloc | apply Kd.R_drewN | apply Kd.R_drew));exact Kd.R_mono (Kd.R_far (p:=⟨gb6,0,none⟩) (Kd.R_types HO5.out BK6.out (by decide)) (fun _ hk=>hk.2) (.slice Ao12 t3.length co12)) (fun _ hk=>trivial)));(case aS=>exact (below_size hb_));(case aL=>have:=LMc5.out;omega);intro v8 w16 ho hb hg hat;rw [← Ny7.out] at ho;replace BK1:=a0_ (blk_grown (g:=gb1) (o:=.cells #[.slice A0_0 l0_0.length c0_0] 28 (0,0)) (bff_ BK1.out) hg (Kd.R_ne HO5.out BK1.out (by decide)));replace BK2:=a0_ (blk_grown (g:=gb2) (o:=.cells #[.slice none 0 0] 28 (0,0)) (bff_ BK2.out) hg (Kd.R_ne HO5.out BK2.out (by decide)));replace BK6:=a0_ (blk_grown (g:=gb6) (o:=.cells #[.slice Ao12 t3.length co12] 28 (0,0)) (by (with_reducible repeat (first | refine blk_drewN ?_ _ | refine blk_drew ?_ | refine blk_alloc ?_ _));refine blk_put (cs:=#[.slice none 0 0]) ?_ 0 _ rfl;(with_reducible repeat (first | refine blk_drewN ?_ _ | refine blk_drew ?_ | refine blk_alloc ?_ _));exact BK6.out) hg (Kd.R_ne HO5.out BK6.out (by decide)));have HO9:=a0_ (ho);replace HB:=a0_ (hb);clear HO5;clear ho hb hg hat;obtain ⟨Ao17,co17,eo17⟩:=Kd.R_slice HO9.out;subst eo17;have hcz18_0 : w16.cell? ⟨gb6,0,none⟩ = some (.slice Ao12 t3.length co12):=(blk_cell BK6.out 0).trans rfl;have hfz18_0:=blk_frozen BK6.out 0;have hcz19_0 : w16.cell? ⟨gb2,0,none⟩ = some (.slice none 0 0):=(blk_cell BK2.out 0).trans rfl;have hfz19_0:=blk_frozen BK2.out 0))
  refine bodyPost_ret (results_cell_row rfl _ _ gb2 28 #[.slice Ao17 y7.length co17] (0,0) _ rfl (by (with_reducible repeat (first | refine blk_drewN ?_ _ | refine blk_drew ?_ | refine blk_alloc ?_ _));refine blk_put (cs:=#[.slice none 0 0]) ?_ 0 _ rfl;(with_reducible repeat (first | refine blk_drewN ?_ _ | refine blk_drew ?_ | refine blk_alloc ?_ _));refine blk_far ?_ NB2_6.out _;(with_reducible repeat (first | refine blk_drewN ?_ _ | refine blk_drew ?_ | refine blk_alloc ?_ _));exact BK2.out) Try.underlying28 rfl (by kernel_rfl)) rfl ?_
  exact ⟨_,by first | rfl | (simp [errW_none,errW_some] <;> rfl) | (simp [*,errW_none,errW_some] <;> rfl),by (with_reducible repeat (first | apply Kd.R_alloc | apply Kd.R_drewN | apply Kd.R_drew));exact Kd.R_mono (Kd.R_far (p:=⟨gb2,0,none⟩) (Kd.R_far (p:=⟨gb6,0,none⟩) (Kd.R_types (Kd.R_types HO9.out BK6.out (by decide)) BK2.out (by decide)) (fun _ hk=>hk.1.2) (.slice Ao17 y7.length co17)) (fun _ hk=>hk.2) (.slice Ao17 y7.length co17)) (fun _ hk=>trivial),hb_⟩
 ·rw [if_neg c5] at H
  exact absurd H (by simp)
theorem spec_added_ev (h : List Fau) (a c : Int) (hl : h.length ≤ 2097152) : spec_added.f h a c = some (h ++ [⟨a,c,-1,-1,false⟩]):=by
 unfold spec_added.f
 rw [spec_copyHeap_ev h hl]
 simp only [Option.bind_some]
 rw [if_pos (by omega)]
end Go.Proofs.Ytmiholmfbjalfaa.P
