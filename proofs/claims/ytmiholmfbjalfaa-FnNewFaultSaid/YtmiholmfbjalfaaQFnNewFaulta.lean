/- Texts under the proof of FnNewFault: helper words, the functions' contracts and the plain laws. No condition. -/
import Derived.Test.YtmiholmfbjalfaaProg
import Derived.Below
import Derived.Deep.Draws
import Derived.Deep.AppendLies
import Derived.Maps.AppendAt
import Derived.OwnWalk
import Derived.Laws.BytesArg
import Derived.Laws.MakeOwn
import Derived.Laws.OwnMore
import Derived.Deep.OwnRows
import Derived.Tactics
import Derived.Lib.ConvBytes
import Derived.Laws.Slices
import Derived.WalkKit
import Derived.KernelRfl
import Derived.RowKit3
import Derived.Deep.LoopGhost
import Derived.Deep.QuietTactic
import Derived.BigQuiet
import Derived.WideLaws
import Derived.Deep.DeepCutAuto
import Derived.Deep.CutBlock
import Derived.Deep.RegionHeld3
import Derived.Laws.Rows
import Derived.Lib.AppendStr
import Derived.ArgAppend
import Derived.Laws.IdiomCopy
import Derived.OrdersHeld
import Derived.Laws.BitsLemmas
import Derived.RowKit
import Derived.Shelf.Abstract
import Derived.Test.YtmiholmfbjalfaaQFnNewFaultwWords
import Derived.Test.YtmiholmfbjalfaaQFnNewFaultwLast
import Derived.Test.YtmiholmfbjalfaaQFnNewFaultwTab
import Derived.Test.YtmiholmfbjalfaaQFnNewFaultwFour
import Derived.Test.YtmiholmfbjalfaaQFnNewFaultwQPut
import Derived.Test.YtmiholmfbjalfaaQFnNewFaultwApart
import Derived.Test.YtmiholmfbjalfaaQFnNewFaultwArr
import Derived.Test.YtmiholmfbjalfaaQFnNewFaultwZeros
import Derived.Test.YtmiholmfbjalfaaQFnNewFaultwFoot
import Derived.Test.YtmiholmfbjalfaaQFnNewFaultwKept
import Derived.Test.YtmiholmfbjalfaaQFnNewFaultwShare
import Derived.Test.YtmiholmfbjalfaaQFnNewFaultwN
import Derived.Test.YtmiholmfbjalfaaQFnNewFaultwFootNe
import Derived.Test.YtmiholmfbjalfaaQFnNewFaultwAt
import Derived.Test.YtmiholmfbjalfaaQFnNewFaultwEqStruct
import Derived.Test.YtmiholmfbjalfaaQFnNewFaultwRepsOne
import Derived.Test.YtmiholmfbjalfaaQFnNewFaultwInv
import Derived.Test.YtmiholmfbjalfaaQFnNewFaultwInvWords
import Derived.Test.YtmiholmfbjalfaaQFnNewFaultwGuard
import Derived.Test.YtmiholmfbjalfaaQFnNewFaultwNEv
import Derived.Test.YtmiholmfbjalfaaQFnNewFaultwMore
import Derived.Test.YtmiholmfbjalfaaQFnNewFaultwMine
namespace Go.Proofs.Ytmiholmfbjalfaa.P
open Go.RowKit Go.Proofs.YtmiholmfbjalfaaW.PrintWords Go.Proofs.YtmiholmfbjalfaaW.PrintLast Go.Proofs.YtmiholmfbjalfaaW.PrintMore
theorem s1_ {α : Type} (l : List α) (i : Nat) (a : α) : l.toArray.setIfInBounds i a = (l.set i a).toArray := List.setIfInBounds_toArray l i a
theorem s2_ {α : Type} (a b : α) (l : List α) : (a :: l).set 0 b = b :: l := rfl
theorem s3_ {α : Type} (a b : α) (l : List α) (n : Nat) : (a :: l).set (n + 1) b = a :: l.set n b := rfl
theorem a0_ {P : Prop} (h : P) : Aside0 P := Aside0.mk h
theorem hbw_ {n : Nat} {w w' : World} (h : Below n w w' := by repeat (first | (with_reducible first | exact HB.out | apply below_alloc | apply pw_below_drewN | apply below_drew1 | refine below_set ?_ (Aside0.out (by assumption))) | exact HB.out)) : Below n w w' := h
theorem lm_ {P : Prop} (h : P := by (try simp only [List.map_toArray, List.map_cons, List.map_nil]); first | done | rfl | (simp only [List.length_drop, List.length_take]; rfl)) : P := h
theorem rr_ {P Q : Prop} (x : P) (h : P → Q := by intro x_; (with_reducible repeat (first | apply Kd.R_alloc | apply Kd.R_drewN | apply Kd.R_drew)); exact x_) : Q := h x
theorem rm_ {α : Type} {d : Kd α} {e : Nat} {w w' : World} {base : Nat} {ok ok' : Nat → Prop} {v : Value} {xs : List α} (x : d.R e w base ok v xs) (f : ∀ k, ok k → ok' k) (h : d.R e w base ok' v xs → d.R e w' base ok' v xs := by intro x_; (with_reducible repeat (first | apply Kd.R_alloc | apply Kd.R_drewN | apply Kd.R_drew)); exact x_) : d.R e w' base ok' v xs := h (Kd.R_mono x f)
theorem bb_ {P Q : Prop} (x : P) (h : P → Q := by intro x_; (with_reducible repeat (first | refine blk_drewN ?_ _ | refine blk_drew ?_ | refine blk_alloc ?_ _)); exact x_) : Q := h x
theorem cc_ {P Q : Prop} (x : P) (h : P → Q := by intro x_; repeat (first | exact x_ | (with_reducible refine Kd.C_alloc ?_ _) | (with_reducible refine Kd.C_drewN ?_ _) | (with_reducible refine Kd.C_drew ?_))) : Q := h x
theorem kb_ {w0 w w1 : World} {g : Nat} {o : Obj} (x : Aside0 (w0.heap[g]? = some o)) (hb : Below w.heap.size w w1) (h : w0.heap[g]? = some o → w.heap[g]? = some o := by intro x_; (with_reducible repeat (first | refine blk_drewN ?_ _ | refine blk_drew ?_ | refine blk_alloc ?_ _)); exact x_) : Aside0 (w1.heap[g]? = some o) := ⟨blk_below (h x.1) hb⟩
theorem kf_ {w0 w w1 : World} {g b : Nat} {t : TypeId} {cs : Array Value} (x : Aside0 (w0.heap[g]? = some (.cells cs t (0, 0)))) (ne : Aside0 (g ≠ b)) (hb : Below w.heap.size w w1) (h : w0.heap[g]? = some (.cells cs t (0, 0)) → g ≠ b → w.heap[g]? = some (.cells cs t (0, 0)) := by intro x_ n_; (with_reducible repeat (first | refine blk_drewN ?_ _ | refine blk_drew ?_ | refine blk_alloc ?_ _)); refine blk_far ?_ n_ _; (with_reducible repeat (first | refine blk_drewN ?_ _ | refine blk_drew ?_ | refine blk_alloc ?_ _)); exact x_) : Aside0 (w1.heap[g]? = some (.cells cs t (0, 0))) := ⟨blk_below (h x.1 ne.1) hb⟩
theorem rb_ {α : Type} {d : Kd α} {e : Nat} {w0 w w1 : World} {base : Nat} {ok : Nat → Prop} {v : Value} {xs : List α} (x : Aside0 (d.R e w0 base ok v xs)) (hb : Below w.heap.size w w1) (h : d.R e w0 base ok v xs → d.R e w base ok v xs := by intro x_; (with_reducible repeat (first | apply Kd.R_alloc | apply Kd.R_drewN | apply Kd.R_drew)); exact x_) : Aside0 (d.R e w1 base ok v xs) := ⟨Kd.R_below (h x.1) hb⟩
theorem hk_ {w W : World} {g : Nat} {row : Option Nat} (h : KeepBut w W g row := by repeat (first | (with_reducible first | exact HK.out | apply KeepBut.set_ | apply keep_drewN | apply keep_drew | apply keep_alloc | refine keep_far ?_ (Aside0.out (by assumption)) _) | exact HK.out)) : KeepBut w W g row := h
theorem bff_ {P Q : Prop} (x : P) (h : P → Q := by intro x_; repeat (first | (with_reducible first | exact x_ | refine blk_drewN ?_ _ | refine blk_drew ?_ | refine blk_alloc ?_ _ | refine blk_far ?_ (Aside0.out (by assumption)) _) | exact x_)) : Q := h x
theorem kk_ {w0 w w1 : World} {g g' : Nat} {row : Option Nat} {o : Obj} (hk : KeepBut w w1 g row) (x : Aside0 (w0.heap[g']? = some o)) (ne : Aside0 (g' ≠ g)) (hr : some g' ≠ row := by simp) (h : w0.heap[g']? = some o → w.heap[g']? = some o := by intro x_; repeat (first | (with_reducible first | exact x_ | refine blk_drewN ?_ _ | refine blk_drew ?_ | refine blk_alloc ?_ _ | refine blk_far ?_ (Aside0.out (by assumption)) _) | exact x_)) : Aside0 (w1.heap[g']? = some o) := ⟨KeepBut.blk hk (h x.1) ne.1 hr⟩
theorem rf_ {α : Type} {d : Kd α} {e : Nat} {w W : World} {base : Nat} {ok : Nat → Prop} {v : Value} {xs : List α} {g t : Nat} {cells : Array Value} (x : d.R e w base ok v xs) (b : w.heap[g]? = some (.cells cells t (0, 0))) (u : Value) (ht : ∀ q, q ∈ e :: d.E → q ≠ t := by decide) (h : d.R e (w.setCell ⟨g, 0, none⟩ u) base ok v xs → d.R e W base ok v xs := by intro x_; (with_reducible repeat (first | apply Kd.R_alloc | apply Kd.R_drewN | apply Kd.R_drew)); exact x_) : d.R e W base ok v xs := h (Kd.R_mono (Kd.R_far (p := ⟨g, 0, none⟩) (Kd.R_types x b ht) (fun _ hk => hk.2) u) (fun _ h_ => h_.1))
theorem nl_ {w : World} {n : Nat} {o : Obj} (g : Nat) (hg : n = w.heap.size) (x : w.heap[g]? = some o) : Aside0 (g ≠ n) := ⟨by rw [hg]; exact Nat.ne_of_lt (blk_lt x)⟩
theorem ng_ {w : World} {n : Nat} {o : Obj} (g : Nat) (hg : n = w.heap.size) (x : w.heap[g]? = some o) : Aside0 (n ≠ g) := ⟨by rw [hg]; exact Nat.ne_of_gt (blk_lt x)⟩
end Go.Proofs.Ytmiholmfbjalfaa.P
namespace Go.Proofs.Ytmiholmfbjalfaa.P
open Go.RowKit Go.Proofs.YtmiholmfbjalfaaW.PrintWords Go.Proofs.YtmiholmfbjalfaaW.PrintLast Go.Proofs.YtmiholmfbjalfaaW.PrintMore
attribute [local go_sem] max2_int min2_int max_two min_two max_three min_three max_four min_four
set_option linter.unusedVariables false
set_option linter.unusedSimpArgs false
def errW : Option Int → Value
 | none=>.nilIface
 | some c=>.iface 0 (.int .i64 c)
theorem errW_none : errW none = .nilIface:=rfl
theorem errW_some (c : Int) : errW (some c) = .iface 0 (.int .i64 c):=rfl
theorem info3 : (Try.prog.info? 3).map (fun i=>(i.zero,i.size,i.bytes)) = some (some (.int .i64 0),1,8):=by kernel_rfl
theorem info5 : (Try.prog.info? 5).map (fun i=>(i.zero,i.size,i.bytes)) = some (some (.int .u8 0),1,1):=by kernel_rfl
theorem info9 : (Try.prog.info? 9).map (fun i=>(i.zero,i.size,i.bytes)) = some (some (.string ⟨#[]⟩),1,16):=by kernel_rfl
theorem info43 : (Try.prog.info? 43).map (fun i=>(i.zero,i.size,i.bytes)) = some (some (.agg #[(.int .i64 0),(.int .i64 0),(.int .i64 0),(.int .i64 0),(.bool false)]),5,40):=by kernel_rfl
theorem info87 : (Try.prog.info? 87).map (fun i=>(i.zero,i.size,i.bytes)) = some (some (.agg #[(.string ⟨#[]⟩),(.int .i64 0)]),2,24):=by kernel_rfl
structure S87 where
 f0 : ByteArray
 f1 : Int
def z87 : S87:=⟨(⟨#[]⟩ : ByteArray),(0 : Int)⟩
def k87 : Kd S87:=Kd.iso (Kd.pair Kd.string (Kd.int .i64)) (fun x : S87=>(x.f0,x.f1))
theorem k87_open {w : World} {x : S87} {cs : List Value} (h : k87.K w x cs) : cs = [.string x.f0,.int .i64 x.f1]:=by
 obtain ⟨_,_,rfl,rfl,rfl⟩:=h
 exact rfl
theorem k87_openM {w : World} {base : Nat} {ok : Nat → Prop} {x : S87} {cs : List Value} (h : k87.M w base ok x cs) : cs = [.string x.f0,.int .i64 x.f1]:=by
 obtain ⟨_,_,rfl,rfl,rfl⟩:=h
 exact rfl
theorem k87_mk (w : World) (x : S87)  : k87.K w x [.string x.f0,.int .i64 x.f1]:=⟨[.string x.f0],[.int .i64 x.f1],rfl,rfl,rfl⟩
theorem k87_mkM (w : World) (base : Nat) (ok : Nat → Prop) (x : S87)  : k87.M w base ok x [.string x.f0,.int .i64 x.f1]:=⟨[.string x.f0],[.int .i64 x.f1],rfl,rfl,rfl⟩
def rd_T87 (xs : List S87) (i : Int) : S87:=xs.getD i.toNat z87
theorem at_T87 {w : World} {A : Option Addr} {n : Nat} {xs : List S87} (h : Kd.C k87 w A n xs) (i : Int) (h0 : 0 ≤ i) (h1 : i < n) : ∃ ad ,A = some ad ∧ w.cell? (ad.add (i.toNat * 2)) = some (.string (rd_T87 xs i).f0) ∧ w.cell? ⟨(ad.add (i.toNat * 2)).block,(ad.add (i.toNat * 2)).off + 1,none⟩ = some (.int .i64 (rd_T87 xs i).f1):=by
 obtain ⟨ad,c,e,_,hK,hc0⟩:=Kd.C_get h z87 i h0 h1
 have hc : ∀ j u,c[j]? = some u → w.cell? (ad.add (i.toNat * 2 + j)) = some u:=hc0
 obtain rfl:=k87_open hK
 exact ⟨ad,e,hc 0 _ rfl,by rw [← add_field _ _ 1 (by omega)];exact hc 1 _ rfl⟩
structure S43 where
 f0 : Int
 f1 : Int
 f2 : Int
 f3 : Int
 f4 : Bool
def z43 : S43:=⟨(0 : Int),(0 : Int),(0 : Int),(0 : Int),false⟩
def k43 : Kd S43:=Kd.iso (Kd.pair (Kd.int .i64) (Kd.pair (Kd.int .i64) (Kd.pair (Kd.int .i64) (Kd.pair (Kd.int .i64) Kd.bool)))) (fun x : S43=>(x.f0,x.f1,x.f2,x.f3,x.f4))
theorem k43_open {w : World} {x : S43} {cs : List Value} (h : k43.K w x cs) : cs = [.int .i64 x.f0,.int .i64 x.f1,.int .i64 x.f2,.int .i64 x.f3,.bool x.f4]:=by
 obtain ⟨_,_,rfl,rfl,⟨_,_,rfl,rfl,⟨_,_,rfl,rfl,⟨_,_,rfl,rfl,rfl⟩⟩⟩⟩:=h
 exact rfl
theorem k43_openM {w : World} {base : Nat} {ok : Nat → Prop} {x : S43} {cs : List Value} (h : k43.M w base ok x cs) : cs = [.int .i64 x.f0,.int .i64 x.f1,.int .i64 x.f2,.int .i64 x.f3,.bool x.f4]:=by
 obtain ⟨_,_,rfl,rfl,⟨_,_,rfl,rfl,⟨_,_,rfl,rfl,⟨_,_,rfl,rfl,rfl⟩⟩⟩⟩:=h
 exact rfl
theorem k43_mk (w : World) (x : S43)  : k43.K w x [.int .i64 x.f0,.int .i64 x.f1,.int .i64 x.f2,.int .i64 x.f3,.bool x.f4]:=⟨[.int .i64 x.f0],[.int .i64 x.f1,.int .i64 x.f2,.int .i64 x.f3,.bool x.f4],rfl,rfl,⟨[.int .i64 x.f1],[.int .i64 x.f2,.int .i64 x.f3,.bool x.f4],rfl,rfl,⟨[.int .i64 x.f2],[.int .i64 x.f3,.bool x.f4],rfl,rfl,⟨[.int .i64 x.f3],[.bool x.f4],rfl,rfl,rfl⟩⟩⟩⟩
theorem k43_mkM (w : World) (base : Nat) (ok : Nat → Prop) (x : S43)  : k43.M w base ok x [.int .i64 x.f0,.int .i64 x.f1,.int .i64 x.f2,.int .i64 x.f3,.bool x.f4]:=⟨[.int .i64 x.f0],[.int .i64 x.f1,.int .i64 x.f2,.int .i64 x.f3,.bool x.f4],rfl,rfl,⟨[.int .i64 x.f1],[.int .i64 x.f2,.int .i64 x.f3,.bool x.f4],rfl,rfl,⟨[.int .i64 x.f2],[.int .i64 x.f3,.bool x.f4],rfl,rfl,⟨[.int .i64 x.f3],[.bool x.f4],rfl,rfl,rfl⟩⟩⟩⟩
def rd_T43 (xs : List S43) (i : Int) : S43:=xs.getD i.toNat z43
theorem at_T43 {w : World} {A : Option Addr} {n : Nat} {xs : List S43} (h : Kd.C k43 w A n xs) (i : Int) (h0 : 0 ≤ i) (h1 : i < n) : ∃ ad ,A = some ad ∧ w.cell? (ad.add (i.toNat * 5)) = some (.int .i64 (rd_T43 xs i).f0) ∧ w.cell? ⟨(ad.add (i.toNat * 5)).block,(ad.add (i.toNat * 5)).off + 1,none⟩ = some (.int .i64 (rd_T43 xs i).f1) ∧ w.cell? ⟨(ad.add (i.toNat * 5)).block,(ad.add (i.toNat * 5)).off + 2,none⟩ = some (.int .i64 (rd_T43 xs i).f2) ∧ w.cell? ⟨(ad.add (i.toNat * 5)).block,(ad.add (i.toNat * 5)).off + 3,none⟩ = some (.int .i64 (rd_T43 xs i).f3) ∧ w.cell? ⟨(ad.add (i.toNat * 5)).block,(ad.add (i.toNat * 5)).off + 4,none⟩ = some (.bool (rd_T43 xs i).f4):=by
 obtain ⟨ad,c,e,_,hK,hc0⟩:=Kd.C_get h z43 i h0 h1
 have hc : ∀ j u,c[j]? = some u → w.cell? (ad.add (i.toNat * 5 + j)) = some u:=hc0
 obtain rfl:=k43_open hK
 exact ⟨ad,e,hc 0 _ rfl,by rw [← add_field _ _ 1 (by omega)];exact hc 1 _ rfl,by rw [← add_field _ _ 2 (by omega)];exact hc 2 _ rfl,by rw [← add_field _ _ 3 (by omega)];exact hc 3 _ rfl,by rw [← add_field _ _ 4 (by omega)];exact hc 4 _ rfl⟩
def rd_L6 (xs : List (List Int)) (i : Int) : (List Int):=xs.getD i.toNat ([] : List Int)
theorem at_L6 {w : World} {A : Option Addr} {n : Nat} {xs : List (List Int)} (h : Kd.C (Kd.slice 3 (Kd.int .i64)) w A n xs) (i : Int) (h0 : 0 ≤ i) (h1 : i < n) : ∃ ad A0 c0,A = some ad ∧ w.cell? (ad.add i.toNat) = some (.slice A0 (rd_L6 xs i).length c0) ∧ (rd_L6 xs i).length ≤ c0 ∧ (Kd.int .i64).C w A0 (rd_L6 xs i).length (rd_L6 xs i):=by
 obtain ⟨ad,c,e,_,hK,hc0⟩:=Kd.C_get h ([] : List Int) i h0 h1
 have hc : ∀ j u,c[j]? = some u → w.cell? (ad.add (i.toNat * 1 + j)) = some u:=hc0
 obtain ⟨A0,c0,rfl,l0,g0⟩:=hK
 exact ⟨ad,A0,c0,e,by have hq:=hc 0 _ rfl;rwa [Nat.mul_one,Nat.add_zero] at hq,l0,g0⟩
def rd_L7 (xs : List (List S43)) (i : Int) : (List S43):=xs.getD i.toNat ([] : List S43)
theorem at_L7 {w : World} {A : Option Addr} {n : Nat} {xs : List (List S43)} (h : Kd.C (Kd.slice 43 k43) w A n xs) (i : Int) (h0 : 0 ≤ i) (h1 : i < n) : ∃ ad A0 c0,A = some ad ∧ w.cell? (ad.add i.toNat) = some (.slice A0 (rd_L7 xs i).length c0) ∧ (rd_L7 xs i).length ≤ c0 ∧ k43.C w A0 (rd_L7 xs i).length (rd_L7 xs i):=by
 obtain ⟨ad,c,e,_,hK,hc0⟩:=Kd.C_get h ([] : List S43) i h0 h1
 have hc : ∀ j u,c[j]? = some u → w.cell? (ad.add (i.toNat * 1 + j)) = some u:=hc0
 obtain ⟨A0,c0,rfl,l0,g0⟩:=hK
 exact ⟨ad,A0,c0,e,by have hq:=hc 0 _ rfl;rwa [Nat.mul_one,Nat.add_zero] at hq,l0,g0⟩
structure S28 where
 f0 : (List S43)
def z28 : S28:=⟨([] : List S43)⟩
def k28 : Kd S28:=Kd.iso (Kd.slice 43 k43) (fun x : S28=>x.f0)
theorem k28_open {w : World} {x : S28} {cs : List Value} (h : k28.K w x cs) : ∃ A0 c0,cs = [.slice A0 x.f0.length c0] ∧ x.f0.length ≤ c0 ∧ k43.C w A0 x.f0.length x.f0:=by
 obtain ⟨A0,c0,rfl,l0,g0⟩:=h
 exact ⟨A0,c0,rfl,l0,g0⟩
theorem k28_openM {w : World} {base : Nat} {ok : Nat → Prop} {x : S28} {cs : List Value} (h : k28.M w base ok x cs) : ∃ v0,cs = [v0] ∧ k43.R 43 w base ok v0 x.f0:=by
 obtain ⟨v0,rfl,g0⟩:=h
 exact ⟨v0,rfl,g0⟩
theorem k28_mk (w : World) (x : S28) {A0 : Option Addr} {c0 : Nat} (l0 : x.f0.length ≤ c0) (g0 : k43.C w A0 x.f0.length x.f0) : k28.K w x [.slice A0 x.f0.length c0]:=⟨A0,c0,rfl,l0,g0⟩
theorem k28_mkM (w : World) (base : Nat) (ok : Nat → Prop) (x : S28) {v0 : Value} (g0 : k43.R 43 w base ok v0 x.f0) : k28.M w base ok x [v0]:=⟨v0,rfl,g0⟩
def rd_T28 (xs : List S28) (i : Int) : S28:=xs.getD i.toNat z28
theorem at_T28 {w : World} {A : Option Addr} {n : Nat} {xs : List S28} (h : Kd.C k28 w A n xs) (i : Int) (h0 : 0 ≤ i) (h1 : i < n) : ∃ ad A0 c0,A = some ad ∧ w.cell? (ad.add i.toNat) = some (.slice A0 (rd_T28 xs i).f0.length c0) ∧ (rd_T28 xs i).f0.length ≤ c0 ∧ k43.C w A0 (rd_T28 xs i).f0.length (rd_T28 xs i).f0:=by
 obtain ⟨ad,c,e,_,hK,hc0⟩:=Kd.C_get h z28 i h0 h1
 have hc : ∀ j u,c[j]? = some u → w.cell? (ad.add (i.toNat * 1 + j)) = some u:=hc0
 obtain ⟨A0,c0,rfl,l0,g0⟩:=k28_open hK
 exact ⟨ad,A0,c0,e,by have hq:=hc 0 _ rfl;rwa [Nat.mul_one,Nat.add_zero] at hq,l0,g0⟩
def rd_L9 (xs : List (List S87)) (i : Int) : (List S87):=xs.getD i.toNat ([] : List S87)
theorem at_L9 {w : World} {A : Option Addr} {n : Nat} {xs : List (List S87)} (h : Kd.C (Kd.slice 87 k87) w A n xs) (i : Int) (h0 : 0 ≤ i) (h1 : i < n) : ∃ ad A0 c0,A = some ad ∧ w.cell? (ad.add i.toNat) = some (.slice A0 (rd_L9 xs i).length c0) ∧ (rd_L9 xs i).length ≤ c0 ∧ k87.C w A0 (rd_L9 xs i).length (rd_L9 xs i):=by
 obtain ⟨ad,c,e,_,hK,hc0⟩:=Kd.C_get h ([] : List S87) i h0 h1
 have hc : ∀ j u,c[j]? = some u → w.cell? (ad.add (i.toNat * 1 + j)) = some u:=hc0
 obtain ⟨A0,c0,rfl,l0,g0⟩:=hK
 exact ⟨ad,A0,c0,e,by have hq:=hc 0 _ rfl;rwa [Nat.mul_one,Nat.add_zero] at hq,l0,g0⟩
structure S25 where
 f0 : (List S87)
def z25 : S25:=⟨([] : List S87)⟩
def k25 : Kd S25:=Kd.iso (Kd.slice 87 k87) (fun x : S25=>x.f0)
theorem k25_open {w : World} {x : S25} {cs : List Value} (h : k25.K w x cs) : ∃ A0 c0,cs = [.slice A0 x.f0.length c0] ∧ x.f0.length ≤ c0 ∧ k87.C w A0 x.f0.length x.f0:=by
 obtain ⟨A0,c0,rfl,l0,g0⟩:=h
 exact ⟨A0,c0,rfl,l0,g0⟩
theorem k25_openM {w : World} {base : Nat} {ok : Nat → Prop} {x : S25} {cs : List Value} (h : k25.M w base ok x cs) : ∃ v0,cs = [v0] ∧ k87.R 87 w base ok v0 x.f0:=by
 obtain ⟨v0,rfl,g0⟩:=h
 exact ⟨v0,rfl,g0⟩
theorem k25_mk (w : World) (x : S25) {A0 : Option Addr} {c0 : Nat} (l0 : x.f0.length ≤ c0) (g0 : k87.C w A0 x.f0.length x.f0) : k25.K w x [.slice A0 x.f0.length c0]:=⟨A0,c0,rfl,l0,g0⟩
theorem k25_mkM (w : World) (base : Nat) (ok : Nat → Prop) (x : S25) {v0 : Value} (g0 : k87.R 87 w base ok v0 x.f0) : k25.M w base ok x [v0]:=⟨v0,rfl,g0⟩
def rd_T25 (xs : List S25) (i : Int) : S25:=xs.getD i.toNat z25
theorem at_T25 {w : World} {A : Option Addr} {n : Nat} {xs : List S25} (h : Kd.C k25 w A n xs) (i : Int) (h0 : 0 ≤ i) (h1 : i < n) : ∃ ad A0 c0,A = some ad ∧ w.cell? (ad.add i.toNat) = some (.slice A0 (rd_T25 xs i).f0.length c0) ∧ (rd_T25 xs i).f0.length ≤ c0 ∧ k87.C w A0 (rd_T25 xs i).f0.length (rd_T25 xs i).f0:=by
 obtain ⟨ad,c,e,_,hK,hc0⟩:=Kd.C_get h z25 i h0 h1
 have hc : ∀ j u,c[j]? = some u → w.cell? (ad.add (i.toNat * 1 + j)) = some u:=hc0
 obtain ⟨A0,c0,rfl,l0,g0⟩:=k25_open hK
 exact ⟨ad,A0,c0,e,by have hq:=hc 0 _ rfl;rwa [Nat.mul_one,Nat.add_zero] at hq,l0,g0⟩
end Go.Proofs.Ytmiholmfbjalfaa.P
section
namespace Go.Proofs.Ytmiholmfbjalfaa.P
open Go.RowKit Go.Proofs.YtmiholmfbjalfaaW.PrintWords Go.Proofs.YtmiholmfbjalfaaW.PrintLast Go.Proofs.YtmiholmfbjalfaaW.PrintMore
attribute [local go_sem] max2_int min2_int max_two min_two max_three min_three max_four min_four
set_option linter.unusedVariables false
set_option linter.unusedSimpArgs false
def Ev {α : Type} (F : Nat → Option α) (x : α) : Prop:=∃ K,∀ k,K ≤ k → F k = some x
namespace Ev
variable {α β : Type}
theorem of_mono {F : Nat → Option α} {x : α} (hm : ∀ k,LeO (F k) (F (k + 1))) {K : Nat} (h : F K = some x) : Ev F x:=⟨K,fun _ hk=>at_rounds hm hk h⟩
theorem const {a : Option α} {x : α} (h : a = some x) : Ev (fun _=>a) x:=⟨0,fun _ _=>h⟩
theorem bind {F : Nat → Option α} {G : Nat → α → Option β} {x : α} {y : β} (h : Ev F x) (h2 : Ev (fun k=>G k x) y) : Ev (fun k=>(F k).bind (G k)) y:=by
 obtain ⟨K,hK⟩:=h
 obtain ⟨K2,hK2⟩:=h2
 refine ⟨max K K2,fun k hk=>?_⟩
 show (F k).bind (G k) = some y
 rw [hK k (Nat.le_trans (Nat.le_max_left _ _) hk)]
 exact hK2 k (Nat.le_trans (Nat.le_max_right _ _) hk)
theorem pos {F G : Nat → Option α} {x : α} {c : Prop} [Decidable c] (hc : c) (h : Ev F x) : Ev (fun k=>if c then F k else G k) x:=by
 obtain ⟨K,hK⟩:=h
 exact ⟨K,fun k hk=>by show (if c then F k else G k) = some x;rw [if_pos hc];exact hK k hk⟩
theorem neg {F G : Nat → Option α} {x : α} {c : Prop} [Decidable c] (hc : ¬ c) (h : Ev G x) : Ev (fun k=>if c then F k else G k) x:=by
 obtain ⟨K,hK⟩:=h
 exact ⟨K,fun k hk=>by show (if c then F k else G k) = some x;rw [if_neg hc];exact hK k hk⟩
theorem succ {F : Nat → Option α} {x : α} (h : Ev (fun k=>F (k + 1)) x) : Ev F x:=by
 obtain ⟨K,hK⟩:=h
 refine ⟨K + 1,fun k hk=>?_⟩
 obtain ⟨j,rfl⟩ : ∃ j,k = j + 1:=⟨k - 1,by omega⟩
 exact hK j (by omega)
theorem out {F : Nat → Option α} {x : α} (h : Ev F x) : ∃ k,F k = some x:=by
 obtain ⟨K,hK⟩:=h
 exact ⟨K,hK K (Nat.le_refl _)⟩
theorem congr {F G : Nat → Option α} {x : α} (h : Ev F x) (e : ∀ k,G k = F k) : Ev G x:=by
 obtain ⟨K,hK⟩:=h
 exact ⟨K,fun k hk=>(e k).trans (hK k hk)⟩
end Ev
theorem st_loop {σ ρ : Type} (L : Nat → σ → Int → Option ρ) (n : Nat) (S : Nat → σ) (v : ρ) (hstep : ∀ k i,i < n → L (k + 1) (S i) (i : Int) = L k (S (i + 1)) ((i + 1 : Nat) : Int)) (hend : ∀ k,L (k + 1) (S n) (n : Int) = some v) : L (n + 1) (S 0) 0 = some v:=by
 have key : ∀ d i k,i + d = n → L (d + 1 + k) (S i) (i : Int) = some v:=by
  intro d
  induction d with
  | zero =>
   intro i k hi
   obtain rfl : i = n:=by omega
   rw [show 0 + 1 + k = k + 1 by omega]
   exact hend k
  | succ d ih =>
   intro i k hi
   rw [show d + 1 + 1 + k = (d + 1 + k) + 1 by omega,hstep _ i (by omega)]
   exact ih (i + 1) k (by omega)
 have:=key n 0 0 (by omega)
 simpa using this
theorem fill_at {α β : Type} (xs : List α) (c : α → β) (z : α) (y : β) (i : Nat) (hi : i < xs.length) : (((xs.take i).map c) ++ List.replicate (xs.length - i) y).set i (c (xs.getD i z)) = ((xs.take (i + 1)).map c) ++ List.replicate (xs.length - (i + 1)) y:=by
 have h1 : xs.take (i + 1) = xs.take i ++ [xs.getD i z]:=by
  rw [List.take_succ_eq_append_getElem hi,List.getD_eq_getElem?_getD,List.getElem?_eq_getElem hi]
  rfl
 rw [h1,List.set_append_right _ _ (by simp;omega)]
 have h2 : i - ((xs.take i).map c).length = 0:=by simp;omega
 rw [h2,show xs.length - i = (xs.length - (i + 1)) + 1 by omega,List.replicate_succ,s2_,List.map_append,List.append_assoc]
 rfl
theorem fill_len {α β : Type} (xs : List α) (c : α → β) (y : β) (i : Nat) (hi : i ≤ xs.length) : (((xs.take i).map c) ++ List.replicate (xs.length - i) y).length = xs.length:=by
 simp
 omega
theorem rd_nat (l : List Int) (i : Nat) (hi : i < l.length) : rd l (i : Int) = l.getD i 0:=by simp [rd]
def marks (a : Int) (n : Nat) : List Int:=(List.range n).map (fun i : Nat=>a + (i : Int))
theorem marks_len (a : Int) (n : Nat) : (marks a n).length = n:=by simp [marks]
end Go.Proofs.Ytmiholmfbjalfaa.P
end
namespace Go.Proofs.Ytmiholmfbjalfaa.P
open Go.RowKit Go.Proofs.YtmiholmfbjalfaaW.PrintWords Go.Proofs.YtmiholmfbjalfaaW.PrintLast Go.Proofs.YtmiholmfbjalfaaW.PrintMore
attribute [local go_sem] max2_int min2_int max_two min_two max_three min_three max_four min_four
set_option linter.unusedVariables false
set_option linter.unusedSimpArgs false
abbrev Cls:=S87
def okName (s : ByteArray) : Bool:=s.data.toList.all (fun c=>decide (97 ≤ c.toNat) && decide (c.toNat ≤ 122)) && (decide (1 ≤ s.size) && decide (s.size ≤ 6))
def named (t : List Cls) (n : ByteArray) : Int:=idxP (fun x : Cls=>x.f0.toList == n.toList) t
def okCls (t : List Cls) (i : Nat) (x : Cls) : Bool:=okName x.f0 && (decide (named t x.f0 = (i : Int)) && (if i = 0 then decide (x.f1 = -1) else decide (0 ≤ x.f1) && decide (x.f1 ≤ (i : Int) - 1)))
def vT (t : List Cls) : Bool:=(List.range t.length).all (fun i=>okCls t i (t.getD i z87)) && (decide (1 ≤ t.length) && decide (t.length ≤ 8))
def smT (t : List Cls) : Bool:=t.all fun x=>decide (x.f0.size < 9223372036854775807)
def hasC (t : List Cls) (a : Int) : Bool:=decide (0 ≤ a) && decide (a < (t.length : Int))
def upF (t : List Cls) : Nat → Int → List Int
 | 0,_=>[]
 | n + 1,a=>if 0 ≤ a then a :: upF t n (rd_T87 t a).f1 else []
def abv (t : List Cls) (a : Int) : List Int:=upF t (a.toNat + 1) a
def isA (t : List Cls) (a b : Int) : Bool:=(abv t a).contains b
theorem vT_len {t : List Cls} (h : vT t = true) : 1 ≤ t.length ∧ t.length ≤ 8:=by
 unfold vT at h
 simp only [Bool.and_eq_true,decide_eq_true_eq] at h
 exact h.2
theorem vT_at {t : List Cls} (h : vT t = true) (i : Nat) (hi : i < t.length) : okCls t i (t.getD i z87) = true:=by
 unfold vT at h
 simp only [Bool.and_eq_true,List.all_eq_true,List.mem_range] at h
 exact h.1 i hi
theorem vT_name {t : List Cls} (h : vT t = true) (i : Nat) (hi : i < t.length) : okName (t.getD i z87).f0 = true ∧ named t (t.getD i z87).f0 = i:=by
 have:=vT_at h i hi
 unfold okCls at this
 simp only [Bool.and_eq_true,decide_eq_true_eq] at this
 exact ⟨this.1,this.2.1⟩
theorem vT_root {t : List Cls} (h : vT t = true) : (t.getD 0 z87).f1 = -1:=by
 have:=vT_at h 0 (by have:=vT_len h;omega)
 unfold okCls at this
 simp only [Bool.and_eq_true,decide_eq_true_eq,if_pos] at this
 exact this.2.2
theorem vT_par {t : List Cls} (h : vT t = true) (i : Nat) (h0 : 0 < i) (hi : i < t.length) : 0 ≤ (t.getD i z87).f1 ∧ (t.getD i z87).f1 ≤ (i : Int) - 1:=by
 have:=vT_at h i hi
 unfold okCls at this
 rw [if_neg (by omega)] at this
 simp only [Bool.and_eq_true,decide_eq_true_eq] at this
 exact this.2.2
theorem vT_par' {t : List Cls} (h : vT t = true) (a : Int) (h0 : 0 ≤ a) (ha : a < (t.length : Int)) : -1 ≤ (rd_T87 t a).f1 ∧ (rd_T87 t a).f1 < a:=by
 unfold rd_T87
 by_cases e : a = 0
 ·subst e
  have:=vT_root h
  simp only [Int.toNat_zero]
  omega
 ·have:=vT_par h a.toNat (by omega) (by omega)
  omega
theorem upF_more {t : List Cls} (h : vT t = true) : ∀ (n m : Nat) (a : Int),a < (t.length : Int) → a < (n : Int) → a < (m : Int) → upF t n a = upF t m a:=by
 intro n
 induction n with
 | zero=>intro m a ha hn hm;cases m with
  | zero=>rfl
  | succ m=>simp only [upF];rw [if_neg (by omega)]
 | succ n ih =>
  intro m a ha hn hm
  cases m with
  | zero=>simp only [upF];rw [if_neg (by omega)]
  | succ m =>
   simp only [upF]
   by_cases h0 : 0 ≤ a
   ·rw [if_pos h0,if_pos h0]
    have:=vT_par' h a h0 ha
    rw [ih m _ (by omega) (by omega) (by omega)]
   ·rw [if_neg h0,if_neg h0]
theorem abv_step {t : List Cls} (h : vT t = true) (a : Int) (h0 : 0 ≤ a) (ha : a < (t.length : Int)) : abv t a = a :: abv t (rd_T87 t a).f1:=by
 have:=vT_par' h a h0 ha
 unfold abv
 rw [upF,if_pos h0,upF_more h a.toNat ((rd_T87 t a).f1.toNat + 1) _ (by omega) (by omega) (by omega)]
theorem abv_neg (t : List Cls) (a : Int) (h0 : a < 0) : abv t a = []:=by
 unfold abv
 rw [upF,if_neg (by omega)]
theorem upF_len (t : List Cls) : ∀ (n : Nat) (a : Int),(upF t n a).length ≤ n:=by
 intro n
 induction n with
 | zero=>intro a;simp [upF]
 | succ n ih =>
  intro a
  simp only [upF]
  split
  ·have:=ih (rd_T87 t a).f1
   simp only [List.length_cons];omega
  ·simp
theorem vT_small {t : List Cls} (h : vT t = true) : smT t = true:=by
 unfold smT
 rw [List.all_eq_true]
 intro x hx
 obtain ⟨i,hi,rfl⟩:=List.getElem_of_mem hx
 have:=(vT_name h i hi).1
 unfold okName at this
 simp only [Bool.and_eq_true,decide_eq_true_eq] at this
 have h2 : (t.getD i z87) = t[i]:=by simp [hi]
 rw [h2] at this
 simp only [decide_eq_true_eq]
 omega
theorem smT_at {t : List Cls} (h : smT t = true) (i : Nat) (hi : i < t.length) : t[i].f0.size ≤ 9223372036854775806:=by
 unfold smT at h
 rw [List.all_eq_true] at h
 have:=h t[i] (List.getElem_mem hi)
 simp only [decide_eq_true_eq] at this
 omega
theorem hasC_iff {t : List Cls} {a : Int} : hasC t a = true ↔ 0 ≤ a ∧ a < (t.length : Int):=by
 unfold hasC;simp
theorem abv_len {t : List Cls} (h : vT t = true) (a : Int) (ha : a < (t.length : Int)) : (abv t a).length ≤ 8:=by
 have h1:=upF_len t (a.toNat + 1) a
 have h2:=vT_len h
 unfold abv
 by_cases h0 : 0 ≤ a
 ·omega
 ·rw [upF,if_neg h0];simp
end Go.Proofs.Ytmiholmfbjalfaa.P
namespace Go.Proofs.Ytmiholmfbjalfaa.P
open Go.RowKit Go.Proofs.YtmiholmfbjalfaaW.PrintWords Go.Proofs.YtmiholmfbjalfaaW.PrintLast Go.Proofs.YtmiholmfbjalfaaW.PrintMore
attribute [local go_sem] max2_int min2_int max_two min_two max_three min_three max_four min_four
set_option linter.unusedVariables false
set_option linter.unusedSimpArgs false
theorem filt_lt {α : Type} (p q : α → Bool) (l : List α) (hpq : ∀ x,q x = true → p x = true) (x : α) (hx : x ∈ l) (h1 : p x = true) (h2 : q x = false) : (l.filter q).length < (l.filter p).length:=by
 have hle : ∀ m : List α,(m.filter q).length ≤ (m.filter p).length:=by
  intro m
  induction m with
  | nil=>simp
  | cons y m ih =>
   rw [List.filter_cons,List.filter_cons]
   cases hq : q y with
   | true=>rw [hpq y hq];simpa using ih
   | false=>cases hp : p y <;> simp <;> omega
 induction l with
 | nil=>cases hx
 | cons y l ih =>
  rw [List.filter_cons,List.filter_cons]
  rcases List.mem_cons.1 hx with rfl | hx
  ·rw [h1,h2]
   have:=hle l
   simp
   omega
  ·have:=ih hx
   cases hq : q y with
   | true=>rw [hpq y hq];simpa using this
   | false=>cases hp : p y <;> simp <;> omega
def restN (n : Nat) (out : List Int) : Nat:=((List.range n).filter (fun i : Nat=>!out.contains (i : Int))).length
theorem restN_le (n : Nat) (out : List Int) : restN n out ≤ n:=by
 have:=List.length_filter_le (fun i : Nat=>!out.contains (i : Int)) (List.range n)
 unfold restN
 simpa using this
theorem restN_lt {n : Nat} {out : List Int} {f : Int} (h0 : 0 ≤ f) (h1 : f < n) (h2 : out.contains f = false) : restN n (out ++ [f]) < restN n out:=by
 have e : ((f.toNat : Nat) : Int) = f:=by omega
 refine filt_lt _ _ _ (fun x hx=>?_) f.toNat (by simp;omega) ?_ ?_
 ·rw [Bool.not_eq_true'] at hx ⊢
  cases h : out.contains (x : Int) with
  | false=>rfl
  | true =>
   rw [List.contains_iff_mem] at h
   rw [← hx]
   symm
   rw [List.contains_iff_mem]
   exact List.mem_append_left _ h
 ·rw [e,h2];rfl
 ·rw [e,Bool.not_eq_false',List.contains_iff_mem]
  exact List.mem_append_right _ (by simp)
theorem restN_zero {n : Nat} {out : List Int} {f : Int} (h0 : 0 ≤ f) (h1 : f < n) (h : restN n out = 0) : out.contains f = true:=by
 cases h2 : out.contains f with
 | true=>rfl
 | false=>have:=restN_lt h0 h1 h2;omega
def walkL (next : Int → Int) : Nat → List Int → Int → List Int
 | 0,out,_=>out
 | k + 1,out,f=>if 0 ≤ f ∧ out.contains f = false then walkL next k (out ++ [f]) (next f) else out
theorem walkL_len (next : Int → Int) : ∀ (d : Nat) (out : List Int) (f : Int),(walkL next d out f).length ≤ out.length + d:=by
 intro d
 induction d with
 | zero=>intro out f;simp [walkL]
 | succ d ih =>
  intro out f
  rw [walkL]
  split
  ·have:=ih (out ++ [f]) (next f)
   rw [List.length_append,List.length_singleton] at this
   omega
  ·omega
theorem walkL_mem (next : Int → Int) (n : Nat) (hn : ∀ x : Int,0 ≤ x → x < n → next x < n) : ∀ (d : Nat) (out : List Int) (f : Int),f < n → (∀ x ∈ out,0 ≤ x ∧ x < (n : Int)) → ∀ x ∈ walkL next d out f,0 ≤ x ∧ x < (n : Int):=by
 intro d
 induction d with
 | zero=>intro out f hf ho x hx;exact ho x hx
 | succ d ih =>
  intro out f hf ho x hx
  rw [walkL] at hx
  split at hx
  case isTrue h =>
   refine ih (out ++ [f]) (next f) (hn f h.1 hf) (fun y hy=>?_) x hx
   rcases List.mem_append.1 hy with hy | hy
   ·exact ho y hy
   ·obtain rfl : y = f:=by simpa using hy
    exact ⟨h.1,hf⟩
  case isFalse h=>exact ho x hx
theorem walkL_ge (next : Int → Int) : ∀ (d : Nat) (out : List Int) (f : Int),out.length ≤ (walkL next d out f).length:=by
 intro d
 induction d with
 | zero=>intro out f;exact Nat.le_refl _
 | succ d ih =>
  intro out f
  rw [walkL]
  split
  ·have:=ih (out ++ [f]) (next f)
   rw [List.length_append,List.length_singleton] at this
   omega
  ·omega
theorem walkL_pos (next : Int → Int) (d : Nat) (f : Int) (h0 : 0 ≤ f) : 1 ≤ (walkL next (d + 1) [] f).length:=by
 rw [walkL,if_pos ⟨h0,by simp⟩]
 have:=walkL_ge next d ([] ++ [f]) (next f)
 simpa using this
theorem walkL_congr (n1 n2 : Int → Int) (n : Nat) (he : ∀ x : Int,0 ≤ x → x < n → n1 x = n2 x) (hn : ∀ x : Int,0 ≤ x → x < n → n1 x < n) : ∀ (d : Nat) (out : List Int) (f : Int),f < n → walkL n1 d out f = walkL n2 d out f:=by
 intro d
 induction d with
 | zero=>intro out f hf;rfl
 | succ d ih =>
  intro out f hf
  rw [walkL,walkL]
  split
  case isTrue h=>rw [ih (out ++ [f]) (n1 f) (hn f h.1 hf),he f h.1 hf]
  case isFalse h=>rfl
end Go.Proofs.Ytmiholmfbjalfaa.P
namespace Go.Proofs.Ytmiholmfbjalfaa.P
open Go.RowKit Go.Proofs.YtmiholmfbjalfaaW.PrintWords Go.Proofs.YtmiholmfbjalfaaW.PrintLast Go.Proofs.YtmiholmfbjalfaaW.PrintMore
attribute [local go_sem] max2_int min2_int max_two min_two max_three min_three max_four min_four
set_option linter.unusedVariables false
set_option linter.unusedSimpArgs false
abbrev Fau:=S43
def hasF (h : List Fau) (f : Int) : Bool:=decide (0 ≤ f) && decide (f ≤ (h.length : Int) - 1)
def ctxN (h : List Fau) (g : Int) : Int:=(h.getD g.toNat z43).f3
def shwN (h : List Fau) (g : Int) : Int:=if 0 ≤ (h.getD g.toNat z43).f2 then (h.getD g.toNat z43).f2 else if (h.getD g.toNat z43).f4 = true then -1 else (h.getD g.toNat z43).f3
def lnkB (h : List Fau) (f u : Int) : Bool:=(u == -1) || (hasF h u && (u != f))
def okF (t : List Cls) (h : List Fau) (i : Nat) (x : Fau) : Bool:=hasC t x.f0 && ((decide (0 ≤ x.f1) && decide (x.f1 ≤ 99)) && (lnkB h (i : Int) x.f2 && lnkB h (i : Int) x.f3))
def fsH (t : List Cls) (h : List Fau) : Bool:=(List.range h.length).all (fun i=>okF t h i (h.getD i z43))
def ctxL (h : List Fau) (f : Int) : List Int:=walkL (ctxN h) h.length [] f
def shwL (h : List Fau) (f : Int) : List Int:=walkL (shwN h) h.length [] f
def lastI (l : List Int) : Int:=l.getD (l.length - 1) 0
def endB (h : List Fau) (f : Nat) : Bool:=decide (ctxN h (lastI (ctxL h (f : Int))) < 0)
def esH (h : List Fau) : Bool:=(List.range h.length).all (endB h)
def vH (t : List Cls) (h : List Fau) : Bool:=fsH t h && (esH h && (vT t && decide (h.length ≤ 24)))
theorem all_at {n : Nat} {p : Nat → Bool} (h : (List.range n).all p = true) (i : Nat) (hi : i < n) : p i = true:=by
 rw [List.all_eq_true] at h
 exact h i (by simpa using hi)
theorem all_of {n : Nat} {p : Nat → Bool} (h : ∀ j,j < n → p j = true) : (List.range n).all p = true:=by
 rw [List.all_eq_true]
 intro i hi
 exact h i (by simpa using hi)
theorem all_false {n : Nat} {p : Nat → Bool} {i : Nat} (hi : i < n) (h : p i = false) : (List.range n).all p = false:=by
 cases hv : (List.range n).all p with
 | false=>rfl
 | true=>rw [all_at hv i hi] at h;cases h
theorem lnkB_in {h : List Fau} {f u : Int} (hb : lnkB h f u = true) : -1 ≤ u ∧ u < (h.length : Int):=by
 unfold lnkB hasF at hb
 simp only [Bool.or_eq_true,Bool.and_eq_true,beq_iff_eq,decide_eq_true_eq] at hb
 omega
theorem fsH_ctx {t : List Cls} {h : List Fau} (hf : fsH t h = true) (x : Int) (h0 : 0 ≤ x) (h1 : x < (h.length : Int)) : -1 ≤ ctxN h x ∧ ctxN h x < (h.length : Int):=by
 have:=all_at hf x.toNat (by omega)
 unfold okF at this
 simp only [Bool.and_eq_true] at this
 exact lnkB_in this.2.2.2
theorem fsH_cause {t : List Cls} {h : List Fau} (hf : fsH t h = true) (x : Int) (h0 : 0 ≤ x) (h1 : x < (h.length : Int)) : -1 ≤ (h.getD x.toNat z43).f2 ∧ (h.getD x.toNat z43).f2 < (h.length : Int):=by
 have:=all_at hf x.toNat (by omega)
 unfold okF at this
 simp only [Bool.and_eq_true] at this
 exact lnkB_in this.2.2.1
theorem fsH_shw {t : List Cls} {h : List Fau} (hf : fsH t h = true) (x : Int) (h0 : 0 ≤ x) (h1 : x < (h.length : Int)) : -1 ≤ shwN h x ∧ shwN h x < (h.length : Int):=by
 have a:=fsH_ctx hf x h0 h1
 have b:=fsH_cause hf x h0 h1
 unfold ctxN at a
 unfold shwN
 split
 ·exact b
 ·split
  ·omega
  ·exact a
theorem vH_parts {t : List Cls} {h : List Fau} (hv : vH t h = true) : fsH t h = true ∧ esH h = true ∧ vT t = true ∧ h.length ≤ 24:=by
 unfold vH at hv
 simp only [Bool.and_eq_true,decide_eq_true_eq] at hv
 exact hv
theorem walkL_stop (next : Int → Int) (d : Nat) (out : List Int) (f : Int) (h : ¬ (0 ≤ f ∧ out.contains f = false)) : walkL next d out f = out:=by
 cases d with
 | zero=>rfl
 | succ d=>rw [walkL,if_neg h]
theorem ctxL_mem {h : List Fau} (hc : ∀ x : Int,0 ≤ x → x < (h.length : Int) → ctxN h x < (h.length : Int)) (f : Int) (hf : f < (h.length : Int)) : ∀ x ∈ ctxL h f,0 ≤ x ∧ x < (h.length : Int) :=
 walkL_mem (ctxN h) h.length hc h.length [] f hf (fun x hx=>absurd hx (by simp))
theorem ctxL_len (h : List Fau) (f : Int) : (ctxL h f).length ≤ h.length:=by
 have:=walkL_len (ctxN h) h.length [] f
 simpa [ctxL] using this
theorem ctxL_pos (h : List Fau) (f : Int) (h0 : 0 ≤ f) (hf : f < (h.length : Int)) : 1 ≤ (ctxL h f).length:=by
 unfold ctxL
 obtain ⟨n,hn⟩ : ∃ n,h.length = n + 1:=⟨h.length - 1,by omega⟩
 rw [hn]
 exact walkL_pos (ctxN h) n f h0
theorem shwL_mem {h : List Fau} (hc : ∀ x : Int,0 ≤ x → x < (h.length : Int) → shwN h x < (h.length : Int)) (f : Int) (hf : f < (h.length : Int)) : ∀ x ∈ shwL h f,0 ≤ x ∧ x < (h.length : Int) :=
 walkL_mem (shwN h) h.length hc h.length [] f hf (fun x hx=>absurd hx (by simp))
theorem shwL_len (h : List Fau) (f : Int) : (shwL h f).length ≤ h.length:=by
 have:=walkL_len (shwN h) h.length [] f
 simpa [shwL] using this
theorem shwL_pos (h : List Fau) (f : Int) (h0 : 0 ≤ f) (hf : f < (h.length : Int)) : 1 ≤ (shwL h f).length:=by
 unfold shwL
 obtain ⟨n,hn⟩ : ∃ n,h.length = n + 1:=⟨h.length - 1,by omega⟩
 rw [hn]
 exact walkL_pos (shwN h) n f h0
theorem lastI_mem {l : List Int} (h : 1 ≤ l.length) : lastI l ∈ l:=by
 unfold lastI
 rw [List.getD_eq_getElem?_getD,List.getElem?_eq_getElem (show l.length - 1 < l.length by omega)]
 exact List.getElem_mem _
end Go.Proofs.Ytmiholmfbjalfaa.P
namespace Go.Proofs.Ytmiholmfbjalfaa.P
open Go.RowKit Go.Proofs.YtmiholmfbjalfaaW.PrintWords Go.Proofs.YtmiholmfbjalfaaW.PrintLast Go.Proofs.YtmiholmfbjalfaaW.PrintMore
attribute [local go_sem] max2_int min2_int max_two min_two max_three min_three max_four min_four
set_option linter.unusedVariables false
set_option linter.unusedSimpArgs false
def fauAt (h : List Fau) (f : Int) : Fau:=h.getD f.toNat z43
def hidP (t : List Cls) (h : List Fau) (f : Int) (b : Bool) : List Fau × Bool:=if (vH t h && hasF h f) = true then (h.set f.toNat ⟨(fauAt h f).f0,(fauAt h f).f1,(fauAt h f).f2,(fauAt h f).f3,b⟩,true) else ([],false)
theorem hidP_len (t : List Cls) (h : List Fau) (f : Int) (b : Bool) : (hidP t h f b).1.length ≤ h.length:=by
 unfold hidP
 split
 ·simp
 ·simp
def cauP (t : List Cls) (h : List Fau) (f c : Int) : List Fau × Bool:=if ((vH t h && hasF h f) && ((c == -1) || (hasF h c && !(c == f)))) = true then (h.set f.toNat ⟨(fauAt h f).f0,(fauAt h f).f1,c,(fauAt h f).f3,true⟩,true) else ([],false)
theorem cauP_len (t : List Cls) (h : List Fau) (f c : Int) : (cauP t h f c).1.length ≤ h.length:=by
 unfold cauP
 split
 ·simp
 ·simp
def newP (t : List Cls) (h : List Fau) (a c : Int) : List Fau × Int × Bool:=if (vH t h && vH t (h ++ [⟨a,c,-1,-1,false⟩])) = true then (h ++ [⟨a,c,-1,-1,false⟩],(h.length : Int),true) else ([],-1,false)
theorem newP_len (t : List Cls) (h : List Fau) (a c : Int) : (newP t h a c).1.length ≤ h.length + 1:=by
 unfold newP
 split
 ·simp
 ·simp
def staP (t : List Cls) (e v : Int) (h : List Fau) : Bool × Int × Int × Bool:=if vT t = true then (if e = 0 then (false,0,0,true) else if e = 2 ∧ (vH t h && hasF h v) = true then (true,(fauAt h v).f0,(fauAt h v).f1,true) else (false,0,0,false)) else (false,0,0,false)
end Go.Proofs.Ytmiholmfbjalfaa.P
namespace Go.Proofs.Ytmiholmfbjalfaa.P
open Go.RowKit Go.Proofs.YtmiholmfbjalfaaW.PrintWords Go.Proofs.YtmiholmfbjalfaaW.PrintLast Go.Proofs.YtmiholmfbjalfaaW.PrintMore
attribute [local go_sem] max2_int min2_int max_two min_two max_three min_three max_four min_four
set_option linter.unusedVariables false
set_option linter.unusedSimpArgs false
def setC (h : List Fau) (x c : Int) : List Fau:=h.set x.toNat ⟨(fauAt h x).f0,(fauAt h x).f1,(fauAt h x).f2,c,(fauAt h x).f4⟩
def cutL (f : Int) : List Int → List Fau → List Fau
 | [],h=>h
 | x :: r,h=>cutL f r (if ctxN h x = f then setC h x (-1) else h)
def cutF (f : Int) : List Int → List Fau → List Fau
 | [],h=>h
 | x :: r,h=>if ctxN h x = f then setC h x (-1) else cutF f r h
def chainL (next : Int → Int) : Nat → List Int → Int → List Int
 | 0,_,_=>[]
 | k + 1,out,f=>if 0 ≤ f ∧ out.contains f = false then f :: chainL next k (out ++ [f]) (next f) else []
theorem walkL_chain (next : Int → Int) : ∀ (d : Nat) (out : List Int) (f : Int),walkL next d out f = out ++ chainL next d out f:=by
 intro d
 induction d with
 | zero=>intro out f;simp [walkL,chainL]
 | succ d ih =>
  intro out f
  rw [walkL,chainL]
  split
  ·rw [ih,List.append_assoc];rfl
  ·simp
def whlP (h : List Fau) (f g : Int) : List Fau:=if f = g then h else setC (cutL f (ctxL h g) h) f g
theorem setC_len (h : List Fau) (x c : Int) : (setC h x c).length = h.length:=by simp [setC]
theorem cutL_len (f : Int) : ∀ (r : List Int) (h : List Fau),(cutL f r h).length = h.length:=by
 intro r
 induction r with
 | nil=>intro h;rfl
 | cons x r ih =>
  intro h
  rw [cutL,ih]
  split
  ·exact setC_len _ _ _
  ·rfl
theorem ctxN_setC {h : List Fau} {x y c : Int} (hx : 0 ≤ x) (hy : 0 ≤ y) (hn : y ≠ x) : ctxN (setC h x c) y = ctxN h y:=by
 have : x.toNat ≠ y.toNat:=by omega
 simp [ctxN,setC,this]
theorem chain_free (h : List Fau) (n : Nat) (f : Int) (hf : 0 ≤ f) : ∀ (d : Nat) (out : List Int) (x : Int),out.contains f = true → (chainL (ctxN h) d out x ≠ [] → ctxN h (lastI (chainL (ctxN h) d out x)) < 0) → ∀ y ∈ chainL (ctxN h) d out x,ctxN h y ≠ f:=by
 intro d
 induction d with
 | zero=>intro out x _ _ y hy;simp [chainL] at hy
 | succ d ih =>
  intro out x ho hl y hy
  rw [chainL] at hy hl
  by_cases hc : 0 ≤ x ∧ out.contains x = false
  ·rw [if_pos hc] at hy hl
   have ho2 : (out ++ [x]).contains f = true:=by
    rw [List.contains_iff_mem] at ho ⊢
    exact List.mem_append_left _ ho
   have hlast : ∀ z r,chainL (ctxN h) d (out ++ [x]) (ctxN h x) = z :: r → lastI (x :: z :: r) = lastI (z :: r):=by
    intro z r _
    simp [lastI]
   cases hr : chainL (ctxN h) d (out ++ [x]) (ctxN h x) with
   | nil =>
    rw [hr] at hy hl
    obtain rfl : y = x:=by simpa using hy
    have:=hl (by simp)
    have e : lastI [y] = y:=by simp [lastI]
    rw [e] at this
    omega
   | cons z r =>
    rw [hr] at hy hl
    rcases List.mem_cons.1 hy with rfl | hy
    ·intro he
     rw [he] at hr
     cases d with
     | zero=>simp [chainL] at hr
     | succ d =>
      rw [chainL,if_neg (by rw [ho2];simp)] at hr
      cases hr
    ·refine ih (out ++ [x]) (ctxN h x) ho2 (fun _=>?_) y (by rw [hr];exact hy)
     rw [hr,← hlast z r hr]
     exact hl (by simp)
  ·rw [if_neg hc] at hy
   cases hy
theorem chain_mem (next : Int → Int) : ∀ (d : Nat) (out : List Int) (x : Int),∀ y ∈ chainL next d out x,0 ≤ y ∧ out.contains y = false:=by
 intro d
 induction d with
 | zero=>intro out x y hy;simp [chainL] at hy
 | succ d ih =>
  intro out x y hy
  rw [chainL] at hy
  by_cases hc : 0 ≤ x ∧ out.contains x = false
  ·rw [if_pos hc] at hy
   rcases List.mem_cons.1 hy with rfl | hy
   ·exact hc
   ·obtain ⟨h0,h1⟩:=ih _ _ y hy
    refine ⟨h0,?_⟩
    cases h2 : out.contains y with
    | false=>rfl
    | true =>
     rw [List.contains_iff_mem] at h2
     rw [show (out ++ [x]).contains y = true by rw [List.contains_iff_mem];exact List.mem_append_left _ h2] at h1
     cases h1
  ·rw [if_neg hc] at hy
   cases hy
theorem cutL_none (f : Int) : ∀ (r : List Int) (h : List Fau),(∀ y ∈ r,ctxN h y ≠ f) → cutL f r h = h:=by
 intro r
 induction r with
 | nil=>intro h _;rfl
 | cons x r ih =>
  intro h hn
  rw [cutL,if_neg (hn x (by simp))]
  exact ih h (fun y hy=>hn y (by simp [hy]))
theorem lastI_cons (x z : Int) (r : List Int) : lastI (x :: z :: r) = lastI (z :: r):=by simp [lastI]
theorem cut_one (h : List Fau) (f : Int) (hf : 0 ≤ f) (hs : ctxN h f ≠ f) : ∀ (d : Nat) (out : List Int) (x : Int),(chainL (ctxN h) d out x ≠ [] → ctxN h (lastI (chainL (ctxN h) d out x)) < 0) → cutL f (chainL (ctxN h) d out x) h = cutF f (chainL (ctxN h) d out x) h:=by
 intro d
 induction d with
 | zero=>intro out x _;rfl
 | succ d ih =>
  intro out x hl
  rw [chainL] at hl ⊢
  by_cases hc : 0 ≤ x ∧ out.contains x = false
  ·rw [if_pos hc] at hl ⊢
   rw [cutL,cutF]
   have hl2 : chainL (ctxN h) d (out ++ [x]) (ctxN h x) ≠ [] → ctxN h (lastI (chainL (ctxN h) d (out ++ [x]) (ctxN h x))) < 0:=by
    intro hne
    cases hr : chainL (ctxN h) d (out ++ [x]) (ctxN h x) with
    | nil=>exact absurd hr hne
    | cons z r =>
     rw [hr] at hl
     have:=hl (by simp)
     rw [lastI_cons] at this
     exact this
   by_cases he : ctxN h x = f
   ·rw [if_pos he,if_pos he]
    refine cutL_none f _ _ (fun y hy=>?_)
    have hm:=chain_mem _ _ _ _ y hy
    have hyx : y ≠ x:=by
     rintro rfl
     rw [show (out ++ [y]).contains y = true by rw [List.contains_iff_mem];simp] at hm
     cases hm.2
    rw [ctxN_setC hc.1 hm.1 hyx]
    rw [he] at hy hl2
    cases d with
    | zero=>simp [chainL] at hy
    | succ d =>
     rw [chainL] at hy hl2
     by_cases hc2 : 0 ≤ f ∧ (out ++ [x]).contains f = false
     ·rw [if_pos hc2] at hy hl2
      rcases List.mem_cons.1 hy with rfl | hy
      ·exact hs
      ·refine chain_free h h.length f hf d (out ++ [x] ++ [f]) (ctxN h f) (by rw [List.contains_iff_mem];simp) (fun hne=>?_) y hy
       cases hr : chainL (ctxN h) d (out ++ [x] ++ [f]) (ctxN h f) with
       | nil=>exact absurd hr hne
       | cons z r =>
        rw [hr] at hl2
        have:=hl2 (by simp)
        rw [lastI_cons] at this
        exact this
     ·rw [if_neg hc2] at hy
      cases hy
   ·rw [if_neg he,if_neg he]
    exact ih _ _ hl2
  ·rw [if_neg hc]
   rfl
end Go.Proofs.Ytmiholmfbjalfaa.P
namespace Go.Proofs.Ytmiholmfbjalfaa.P
open Go.RowKit Go.Proofs.YtmiholmfbjalfaaW.PrintWords Go.Proofs.YtmiholmfbjalfaaW.PrintLast Go.Proofs.YtmiholmfbjalfaaW.PrintMore
attribute [local go_sem] max2_int min2_int max_two min_two max_three min_three max_four min_four
set_option linter.unusedVariables false
set_option linter.unusedSimpArgs false
def stp (next : Int → Int) : Nat → Int → Prop
 | 0,x=>x < 0
 | n + 1,x=>x < 0 ∨ stp next n (next x)
def itL (next : Int → Int) : Nat → Int → List Int
 | 0,_=>[]
 | n + 1,x=>if 0 ≤ x then x :: itL next n (next x) else []
theorem stp_neg (next : Int → Int) (n : Nat) (x : Int) (h : x < 0) : stp next n x:=by
 cases n with
 | zero=>exact h
 | succ n=>exact Or.inl h
theorem stp_mono (next : Int → Int) : ∀ (n : Nat) (x : Int),stp next n x → stp next (n + 1) x:=by
 intro n
 induction n with
 | zero=>intro x h;exact Or.inl h
 | succ n ih =>
  intro x h
  rcases h with h | h
  ·exact Or.inl h
  ·exact Or.inr (ih _ h)
theorem stp_le (next : Int → Int) {n m : Nat} (x : Int) (h : n ≤ m) (hs : stp next n x) : stp next m x:=by
 obtain ⟨d,rfl⟩:=Nat.exists_eq_add_of_le h
 clear h
 induction d with
 | zero=>exact hs
 | succ d ih=>exact stp_mono next _ x ih
theorem chain_stp (next : Int → Int) : ∀ (d : Nat) (out : List Int) (x : Int),0 ≤ x → chainL next d out x ≠ [] → next (lastI (chainL next d out x)) < 0 → stp next (d + 1) x:=by
 intro d
 induction d with
 | zero=>intro out x _ hne;exact absurd rfl hne
 | succ d ih =>
  intro out x h0 hne hl
  rw [chainL] at hne hl
  by_cases hc : 0 ≤ x ∧ out.contains x = false
  ·rw [if_pos hc] at hne hl
   refine Or.inr ?_
   cases hr : chainL next d (out ++ [x]) (next x) with
   | nil =>
    rw [hr] at hl
    have e : lastI [x] = x:=by simp [lastI]
    rw [e] at hl
    exact stp_neg next _ _ hl
   | cons z r =>
    rw [hr,lastI_cons,← hr] at hl
    by_cases h1 : 0 ≤ next x
    ·exact ih (out ++ [x]) (next x) h1 (by rw [hr];simp) hl
    ·exact stp_neg next _ _ (by omega)
  ·rw [if_neg hc] at hne
   exact absurd rfl hne
theorem stp_least (next : Int → Int) (n : Nat) (x : Int) (h : stp next n x) : ∃ m,m ≤ n ∧ stp next m x ∧ (∀ k,k < m → ¬ stp next k x):=by
 induction n using Nat.strongRecOn with
 | ind n ih =>
  by_cases hk : ∃ k,k < n ∧ stp next k x
  ·obtain ⟨k,hk,hs⟩:=hk
   obtain ⟨m,hm,h1,h2⟩:=ih k hk hs
   exact ⟨m,by omega,h1,h2⟩
  ·exact ⟨n,Nat.le_refl _,h,fun k hkn hs=>hk ⟨k,hkn,hs⟩⟩
theorem itL_more (next : Int → Int) : ∀ (n m : Nat) (x : Int),stp next n x → n ≤ m → itL next m x = itL next n x:=by
 intro n
 induction n with
 | zero =>
  intro m x h _
  cases m with
  | zero=>rfl
  | succ m =>
   have h' : x < 0:=h
   simp only [itL]
   rw [if_neg (by omega)]
 | succ n ih =>
  intro m x h hm
  obtain ⟨m,rfl⟩ : ∃ j,m = j + 1:=⟨m - 1,by omega⟩
  rw [itL,itL]
  by_cases h0 : 0 ≤ x
  ·rw [if_pos h0,if_pos h0]
   rcases h with h | h
   ·omega
   ·rw [ih m _ h (by omega)]
  ·rw [if_neg h0,if_neg h0]
theorem chain_it (next : Int → Int) (N : Nat) (hn : ∀ x : Int,0 ≤ x → x < (N : Int) → next x < (N : Int)) : ∀ (d : Nat) (out : List Int) (x : Int) (n : Nat),x < (N : Int) → stp next n x → (∀ y ∈ out,¬ stp next n y) → restN N out ≤ d → chainL next d out x = itL next n x:=by
 intro d
 induction d with
 | zero =>
  intro out x n hx hs ho hr
  rw [chainL]
  by_cases h0 : 0 ≤ x
  ·have:=restN_zero (n:=N) (out:=out) h0 hx (by omega)
   rw [List.contains_iff_mem] at this
   exact absurd hs (ho x this)
  ·cases n with
   | zero=>rfl
   | succ n=>rw [itL,if_neg h0]
 | succ d ih =>
  intro out x n hx hs ho hr
  rw [chainL]
  by_cases h0 : 0 ≤ x
  ·have hno : out.contains x = false:=by
    cases hq : out.contains x with
    | false=>rfl
    | true=>rw [List.contains_iff_mem] at hq;exact absurd hs (ho x hq)
   rw [if_pos ⟨h0,hno⟩]
   obtain ⟨m,hm,h1,h2⟩:=stp_least next n x hs
   obtain ⟨k,rfl⟩ : ∃ k,m = k + 1:=⟨m - 1,by
    cases m with
    | zero=>simp [stp] at h1;omega
    | succ m=>omega⟩
   obtain ⟨n,rfl⟩ : ∃ j,n = j + 1:=⟨n - 1,by omega⟩
   rw [itL,if_pos h0]
   have h3 : stp next k (next x):=by
    rcases h1 with h1 | h1
    ·omega
    ·exact h1
   rw [itL_more next k n _ h3 (by omega)]
   rw [ih (out ++ [x]) (next x) k (hn x h0 hx) h3 (fun y hy=>?_) (by have:=restN_lt h0 hx hno;omega)]
   rcases List.mem_append.1 hy with hy | hy
   ·exact fun hs2=>ho y hy (stp_le next y (by omega) hs2)
   ·obtain rfl : y = x:=by simpa using hy
    exact h2 k (by omega)
  ·rw [if_neg (fun hh=>h0 hh.1)]
   cases n with
   | zero=>rfl
   | succ n=>rw [itL,if_neg h0]
theorem walk_it (next : Int → Int) (N : Nat) (hn : ∀ x : Int,0 ≤ x → x < (N : Int) → next x < (N : Int)) (x : Int) (n : Nat) (hx : x < (N : Int)) (hs : stp next n x) : walkL next N [] x = itL next n x:=by
 rw [walkL_chain,chain_it next N hn N [] x n hx hs (fun y hy=>absurd hy (by simp)) (restN_le _ _)]
 rfl
theorem itL_last (next : Int → Int) : ∀ (n : Nat) (x : Int),0 ≤ x → stp next n x → itL next n x ≠ [] ∧ next (lastI (itL next n x)) < 0:=by
 intro n
 induction n with
 | zero=>intro x h0 h;simp [stp] at h;omega
 | succ n ih =>
  intro x h0 h
  rw [itL,if_pos h0]
  refine ⟨by simp,?_⟩
  rcases h with h | h
  ·omega
  ·by_cases h1 : 0 ≤ next x
   ·obtain ⟨h2,h3⟩:=ih _ h1 h
    cases hr : itL next n (next x) with
    | nil=>exact absurd hr h2
    | cons z r=>rw [lastI_cons,← hr];exact h3
   ·have : itL next n (next x) = []:=by
     cases n with
     | zero=>rfl
     | succ n=>rw [itL,if_neg h1]
    rw [this]
    have e : lastI [x] = x:=by simp [lastI]
    rw [e]
    omega
theorem end_stp {h : List Fau} {f : Nat} (he : endB h f = true) (hl : f < h.length) : stp (ctxN h) (h.length + 1) (f : Int):=by
 unfold endB at he
 have he:=of_decide_eq_true he
 have hcl : ctxL h (f : Int) = chainL (ctxN h) h.length [] (f : Int):=by
  unfold ctxL
  rw [walkL_chain]
  rfl
 have hp:=ctxL_pos h (f : Int) (by omega) (by omega)
 rw [hcl] at he hp
 refine chain_stp _ _ [] _ (by omega) (fun hn=>?_) he
 rw [hn] at hp
 simp at hp
theorem stp_end {h : List Fau} {f : Nat} (n : Nat) (hc : ∀ x : Int,0 ≤ x → x < (h.length : Int) → ctxN h x < (h.length : Int)) (hs : stp (ctxN h) n (f : Int)) (hl : f < h.length) : endB h f = true:=by
 unfold endB ctxL
 rw [walk_it _ _ hc _ n (by omega) hs]
 exact decide_eq_true (itL_last _ n _ (by omega) hs).2
theorem vH_stp {t : List Cls} {h : List Fau} (hv : vH t h = true) (x : Int) (hx : x < (h.length : Int)) : stp (ctxN h) (h.length + 1) x:=by
 by_cases h0 : 0 ≤ x
 ·have:=end_stp (all_at (vH_parts hv).2.1 x.toNat (by omega)) (by omega)
  rwa [show ((x.toNat : Nat) : Int) = x by omega] at this
 ·exact stp_neg _ _ _ (by omega)
theorem ctxL_it {t : List Cls} {h : List Fau} (hv : vH t h = true) (x : Int) (hx : x < (h.length : Int)) : ctxL h x = itL (ctxN h) (h.length + 1) x :=
 walk_it _ _ (fun y a b=>(fsH_ctx (vH_parts hv).1 y a b).2) _ _ hx (vH_stp hv x hx)
theorem vH_mk {t : List Cls} {h : List Fau} (hf : fsH t h = true) (hs : ∀ f,f < h.length → ∃ n,stp (ctxN h) n (f : Int)) (ht : vT t = true) (hl : h.length ≤ 24) : vH t h = true:=by
 unfold vH
 rw [hf,ht,decide_eq_true hl,Bool.true_and,Bool.and_true,Bool.and_true]
 refine all_of (fun j hj=>?_)
 obtain ⟨n,hn⟩:=hs j hj
 exact stp_end n (fun y a b=>(fsH_ctx hf y a b).2) hn hj
theorem itL_mem (next : Int → Int) : ∀ (n : Nat) (x : Int),∀ y ∈ itL next n x,0 ≤ y:=by
 intro n
 induction n with
 | zero=>intro x y hy;simp [itL] at hy
 | succ n ih =>
  intro x y hy
  rw [itL] at hy
  split at hy
  ·rcases List.mem_cons.1 hy with rfl | hy
   ·assumption
   ·exact ih _ y hy
  ·simp at hy
theorem fauAt_set_ne {h : List Fau} {x y : Int} {v : Fau} (hx : 0 ≤ x) (hy : 0 ≤ y) (hn : y ≠ x) : fauAt (h.set x.toNat v) y = fauAt h y:=by
 have : x.toNat ≠ y.toNat:=by omega
 simp [fauAt,this]
theorem fauAt_set_eq {h : List Fau} {x : Int} {v : Fau} (h0 : 0 ≤ x) (h1 : x < (h.length : Int)) : fauAt (h.set x.toNat v) x = v:=by
 have : x.toNat < h.length:=by omega
 simp [fauAt,this]
theorem ctxN_fau (h : List Fau) (x : Int) : ctxN h x = (fauAt h x).f3:=rfl
theorem vH_same {t : List Cls} {h k : List Fau} (hv : vH t h = true) (hl : k.length = h.length) (he : ∀ x : Int,0 ≤ x → x < (h.length : Int) → (fauAt k x).f0 = (fauAt h x).f0 ∧ (fauAt k x).f1 = (fauAt h x).f1 ∧ (fauAt k x).f3 = (fauAt h x).f3 ∧ lnkB h x (fauAt k x).f2 = true) : vH t k = true:=by
 obtain ⟨hfs,hes,ht,hn⟩:=vH_parts hv
 have hc : ∀ x : Int,0 ≤ x → x < (h.length : Int) → ctxN h x = ctxN k x:=fun x a b=>(he x a b).2.2.1.symm
 refine vH_mk ?_ (fun f hf=>?_) ht (by omega)
 ·refine all_of (fun j hj=>?_)
  have h1:=all_at hfs j (by omega)
  obtain ⟨e0,e1,e3,e2⟩:=he (j : Int) (by omega) (by omega)
  unfold okF at h1 ⊢
  simp only [fauAt,Int.toNat_natCast] at e0 e1 e2 e3
  have hlk : ∀ a u,lnkB k a u = lnkB h a u:=fun a u=>by unfold lnkB hasF;rw [hl]
  rw [hlk,hlk,e0,e1,e3,e2]
  simp only [Bool.and_eq_true,decide_eq_true_eq] at h1 ⊢
  exact ⟨h1.1,h1.2.1,trivial,h1.2.2.2⟩
 ·refine ⟨h.length + 1,?_⟩
  have key : ∀ (n : Nat) (x : Int),x < (h.length : Int) → stp (ctxN h) n x → stp (ctxN k) n x:=by
   intro n
   induction n with
   | zero=>intro x _ hs;exact hs
   | succ n ih =>
    intro x hx hs
    by_cases h0 : 0 ≤ x
    ·rcases hs with hs | hs
     ·omega
     ·refine Or.inr ?_
      rw [← hc x h0 hx]
      exact ih _ (fsH_ctx hfs x h0 hx).2 hs
    ·exact Or.inl (by omega)
  exact key _ _ (by omega) (vH_stp hv _ (by omega))
theorem lnkB_old {t : List Cls} {h : List Fau} (hv : vH t h = true) (x : Int) (h0 : 0 ≤ x) (h1 : x < (h.length : Int)) : lnkB h x (fauAt h x).f2 = true:=by
 have:=all_at (vH_parts hv).1 x.toNat (by omega)
 unfold okF at this
 simp only [Bool.and_eq_true] at this
 have h2:=this.2.2.1
 rwa [show ((x.toNat : Nat) : Int) = x by omega] at h2
theorem set_len (h : List Fau) (x : Int) (v : Fau) : (h.set x.toNat v).length = h.length:=by simp
theorem vH_hide {t : List Cls} {h : List Fau} (hv : vH t h = true) (f : Int) (b : Bool) (h0 : 0 ≤ f) (h1 : f < (h.length : Int)) : vH t (h.set f.toNat ⟨(fauAt h f).f0,(fauAt h f).f1,(fauAt h f).f2,(fauAt h f).f3,b⟩) = true:=by
 refine vH_same hv (set_len _ _ _) (fun x a c=>?_)
 by_cases e : x = f
 ·subst e
  rw [fauAt_set_eq h0 h1]
  exact ⟨rfl,rfl,rfl,lnkB_old hv x a c⟩
 ·rw [fauAt_set_ne h0 a e]
  exact ⟨rfl,rfl,rfl,lnkB_old hv x a c⟩
theorem vH_cause {t : List Cls} {h : List Fau} (hv : vH t h = true) (f c : Int) (b : Bool) (h0 : 0 ≤ f) (h1 : f < (h.length : Int)) (hc : lnkB h f c = true) : vH t (h.set f.toNat ⟨(fauAt h f).f0,(fauAt h f).f1,c,(fauAt h f).f3,b⟩) = true:=by
 refine vH_same hv (set_len _ _ _) (fun x a d=>?_)
 by_cases e : x = f
 ·subst e
  rw [fauAt_set_eq h0 h1]
  exact ⟨rfl,rfl,rfl,hc⟩
 ·rw [fauAt_set_ne h0 a e]
  exact ⟨rfl,rfl,rfl,lnkB_old hv x a d⟩
theorem ctxL_set {h : List Fau} (f : Int) (v : Fau) (h0 : 0 ≤ f) (h1 : f < (h.length : Int)) (hv : v.f3 = (fauAt h f).f3) (x : Int) : ctxL (h.set f.toNat v) x = ctxL h x:=by
 have e : ctxN (h.set f.toNat v) = ctxN h:=by
  funext y
  unfold ctxN
  by_cases hy : y.toNat = f.toNat
  ·rw [hy]
   have : f.toNat < h.length:=by omega
   simp [this]
   rw [hv]
   simp [fauAt,this]
  ·have : f.toNat ≠ y.toNat:=fun hh=>hy hh.symm
   simp [this]
 unfold ctxL
 rw [e,set_len]
end Go.Proofs.Ytmiholmfbjalfaa.P
namespace Go.Proofs.Ytmiholmfbjalfaa.P
open Go.RowKit Go.Proofs.YtmiholmfbjalfaaW.PrintWords Go.Proofs.YtmiholmfbjalfaaW.PrintLast Go.Proofs.YtmiholmfbjalfaaW.PrintMore
attribute [local go_sem] max2_int min2_int max_two min_two max_three min_three max_four min_four
set_option linter.unusedVariables false
set_option linter.unusedSimpArgs false
def t8 : List Cls:=[⟨⟨#[97]⟩,-1⟩,⟨⟨#[98]⟩,0⟩,⟨⟨#[99]⟩,0⟩,⟨⟨#[100]⟩,0⟩,⟨⟨#[101]⟩,0⟩,⟨⟨#[102]⟩,0⟩,⟨⟨#[103]⟩,0⟩,⟨⟨#[104]⟩,0⟩]
theorem vT_t8 : vT t8 = true:=by
 have e : ∀ n : ByteArray,named t8 n = idxP (fun x : Cls=>decide (x.f0 = n)) t8:=fun n=>by
  unfold named
  congr 1
  funext x
  exact toL_beq
 unfold vT okCls
 simp only [e]
 decide
theorem vH_nil {t : List Cls} (ht : vT t = true) : vH t [] = true:=by
 unfold vH
 rw [ht]
 rfl
theorem vH_add {t : List Cls} {h : List Fau} (hv : vH t h = true) (a c : Int) (ha : hasC t a = true) (h0 : 0 ≤ c) (h1 : c ≤ 99) (hl : h.length < 24) : vH t (h ++ [⟨a,c,-1,-1,false⟩]) = true:=by
 obtain ⟨hfs,hes,ht,hn⟩:=vH_parts hv
 have hlen : (h ++ [(⟨a,c,-1,-1,false⟩ : Fau)]).length = h.length + 1:=by simp
 have hlo : ∀ i,i < h.length → (h ++ [(⟨a,c,-1,-1,false⟩ : Fau)]).getD i z43 = h.getD i z43:=fun i hi=>by simp [List.getD,List.getElem?_append_left hi]
 have hhi : (h ++ [(⟨a,c,-1,-1,false⟩ : Fau)]).getD h.length z43 = ⟨a,c,-1,-1,false⟩:=by simp [List.getD]
 have hlk : ∀ f u,lnkB h f u = true → lnkB (h ++ [(⟨a,c,-1,-1,false⟩ : Fau)]) f u = true:=by
  intro f u hu
  unfold lnkB hasF at hu ⊢
  rw [hlen]
  simp only [Bool.or_eq_true,Bool.and_eq_true,beq_iff_eq,bne_iff_ne,decide_eq_true_eq] at hu ⊢
  omega
 have hctx : ∀ x : Int,0 ≤ x → x < (h.length : Int) → ctxN (h ++ [(⟨a,c,-1,-1,false⟩ : Fau)]) x = ctxN h x:=fun x a0 a1=>by
  unfold ctxN
  rw [hlo _ (by omega)]
 refine vH_mk (all_of (fun j hj=>?_)) (fun f hf=>?_) ht (by rw [hlen];omega)
 ·rw [hlen] at hj
  by_cases e : j < h.length
  ·have h2:=all_at hfs j e
   rw [hlo j e]
   unfold okF at h2 ⊢
   simp only [Bool.and_eq_true,decide_eq_true_eq] at h2 ⊢
   exact ⟨h2.1,h2.2.1,hlk _ _ h2.2.2.1,hlk _ _ h2.2.2.2⟩
  ·obtain rfl : j = h.length:=by omega
   rw [hhi]
   unfold okF lnkB
   simp [ha,h0,h1]
 ·rw [hlen] at hf
  by_cases e : f < h.length
  ·refine ⟨h.length + 1,?_⟩
   have key : ∀ (n : Nat) (x : Int),x < (h.length : Int) → stp (ctxN h) n x → stp (ctxN (h ++ [(⟨a,c,-1,-1,false⟩ : Fau)])) n x:=by
    intro n
    induction n with
    | zero=>intro x _ hs;exact hs
    | succ n ih =>
     intro x hx hs
     by_cases x0 : 0 ≤ x
     ·rcases hs with hs | hs
      ·omega
      ·refine Or.inr ?_
       rw [hctx x x0 hx]
       exact ih _ (fsH_ctx hfs x x0 hx).2 hs
     ·exact Or.inl (by omega)
   exact key _ _ (by omega) (vH_stp hv _ (by omega))
  ·obtain rfl : f = h.length:=by omega
   refine ⟨1,Or.inr ?_⟩
   show ctxN _ _ < 0
   unfold ctxN
   rw [Int.toNat_natCast,hhi]
   show (-1 : Int) < 0
   omega
theorem hasC_t8 {a : Int} (h0 : 0 ≤ a) (h1 : a < 8) : hasC t8 a = true:=by
 unfold hasC
 rw [Bool.and_eq_true,decide_eq_true_eq,decide_eq_true_eq]
 have : t8.length = 8:=rfl
 omega
theorem lnk_of {h : List Fau} {f g : Int} (g0 : 0 ≤ g) (g1 : g < (h.length : Int)) (hne : f ≠ g) : lnkB h f g = true:=by
 unfold lnkB hasF
 simp only [Bool.or_eq_true,Bool.and_eq_true,beq_iff_eq,bne_iff_ne,decide_eq_true_eq]
 right
 refine ⟨⟨g0,by omega⟩,fun e=>hne e.symm⟩
end Go.Proofs.Ytmiholmfbjalfaa.P
namespace Go.Proofs.Ytmiholmfbjalfaa.P
open Go.RowKit Go.Proofs.YtmiholmfbjalfaaW.PrintWords Go.Proofs.YtmiholmfbjalfaaW.PrintLast Go.Proofs.YtmiholmfbjalfaaW.PrintMore
attribute [local go_sem] max2_int min2_int max_two min_two max_three min_three max_four min_four
set_option linter.unusedVariables false
set_option linter.unusedSimpArgs false
def shwP (t : List Cls) (h : List Fau) (f : Int) : Int:=if (vH t h && hasF h f) = true then shwN h f else -2
def ctxP (t : List Cls) (h : List Fau) (f : Int) : List Int:=if (vH t h && hasF h f) = true then ctxL h f else []
def shcP (t : List Cls) (h : List Fau) (f : Int) : List Int:=if (vH t h && hasF h f) = true then shwL h f else []
def oldP (t : List Cls) (h : List Fau) (f : Int) : Int:=if (vH t h && hasF h f) = true then lastI (shwL h f) else -1
theorem ctxP_len (t : List Cls) (h : List Fau) (f : Int) : (ctxP t h f).length ≤ h.length:=by
 unfold ctxP
 split
 ·exact ctxL_len h f
 ·simp
theorem shcP_len (t : List Cls) (h : List Fau) (f : Int) : (shcP t h f).length ≤ h.length:=by
 unfold shcP
 split
 ·exact shwL_len h f
 ·simp
theorem good_parts {t : List Cls} {h : List Fau} {f : Int} (hb : (vH t h && hasF h f) = true) : fsH t h = true ∧ 0 ≤ f ∧ f < (h.length : Int):=by
 rw [Bool.and_eq_true] at hb
 refine ⟨(vH_parts hb.1).1,?_⟩
 have h2:=hb.2
 unfold hasF at h2
 simp only [Bool.and_eq_true,decide_eq_true_eq] at h2
 omega
end Go.Proofs.Ytmiholmfbjalfaa.P
namespace Go.Proofs.Ytmiholmfbjalfaa.P
open Go.RowKit Go.Proofs.YtmiholmfbjalfaaW.PrintWords Go.Proofs.YtmiholmfbjalfaaW.PrintLast Go.Proofs.YtmiholmfbjalfaaW.PrintMore
attribute [local go_sem] max2_int min2_int max_two min_two max_three min_three max_four min_four
set_option linter.unusedVariables false
set_option linter.unusedSimpArgs false
def slices_Index_int.l0 : Nat → List Int → Int → Int → Int → Option (Int)
 | 0,_,_,_,_=>none
 | k + 1,x0,x1,x7,x8=>if x8 < x7 then (if 0 ≤ x8 then (if x8 < (x0.length : Int) then (if x1 = (rd x0 x8) then (some x8) else (slices_Index_int.l0 k x0 x1 x7 (wrap64 (x8 + 1)))) else (none)) else (none)) else (some (-1))
def slices_Index_int.f (k : Nat) (l0 : List Int) (a1 : Int) : Option (Int):=slices_Index_int.l0 k l0 a1 (l0.length : Int) 0
theorem slices_Index_int.mono_l : ∀ k,(∀ y0 y1 y2 y3,LeO (slices_Index_int.l0 k y0 y1 y2 y3) (slices_Index_int.l0 (k + 1) y0 y1 y2 y3))
 | 0=>fun _ _ _ _ r h=>by simp [slices_Index_int.l0] at h
 | k + 1=>by
  have ih0:=slices_Index_int.mono_l k
  ·intro y0 y1 y2 y3
   unfold slices_Index_int.l0
   repeat' first
   | (with_reducible exact ih0 _ _ _ _)
   | (with_reducible exact LeO.refl _)
   | (with_reducible exact LeO.none _)
   | (with_reducible refine LeO.ite ?_ ?_)
   | (with_reducible refine LeO.bind ?_ (fun _=>?_))
   | exact ih0 _ _ _ _
   | exact LeO.none _
   | refine LeO.ite ?_ ?_
   | refine LeO.bind ?_ (fun _=>?_)
theorem slices_Index_int.mono : ∀ a0 a1 k,LeO (slices_Index_int.f k a0 a1) (slices_Index_int.f (k + 1) a0 a1):=by
 intro a0 a1 k
 have ih0:=slices_Index_int.mono_l k
 unfold slices_Index_int.f
 repeat' first
   | (with_reducible exact ih0 _ _ _ _)
   | (with_reducible exact LeO.refl _)
   | (with_reducible exact LeO.none _)
   | (with_reducible refine LeO.ite ?_ ?_)
   | (with_reducible refine LeO.bind ?_ (fun _=>?_))
   | exact ih0 _ _ _ _
   | exact LeO.none _
   | refine LeO.ite ?_ ?_
   | refine LeO.bind ?_ (fun _=>?_)
set_option maxHeartbeats 8000000 in
set_option maxRecDepth 100000 in
theorem slices_Index_int.calls (k : Nat) (A0 : Option Addr) (c0 : Nat) (l0 : List Int) (a1 : Int) (r : Int) (w : World) (hr0 : Kd.C (Kd.int .i64) w A0 l0.length l0) (hc0 : l0.length ≤ c0) (h : slices_Index_int.f k l0 a1 = some r) :
  Calls Try.prog 80 #[.slice A0 l0.length c0,.int .i64 a1] w fun e w'=>e = .returned (.int .i64 r) ∧ Drawn0 w w':=by
 have HR0:=a0_ hr0
 have HC0:=a0_ hc0
 clear hr0 hc0
 have H : (slices_Index_int.l0 k l0 a1 (l0.length : Int) 0) = some r:=h
 clear h
 have H':=a0_ H
 clear H
 go_enter Try.func80,Try.ntmps80
 go_wp2
 go_loopg [8] k (fun kq v8 w'=>∃ (x8_1 : Int),v8 = .int .i64 x8_1 ∧ Aside0 (slices_Index_int.l0 kq l0 a1 (l0.length : Int) x8_1 = some r) ∧ Aside0 (kq ≤ k) ∧ Drawn0 w w')
 case atStart=>exact ⟨(0),(by first | rfl | (simp;done) | (simp [*];done)),H',⟨Nat.le_refl _⟩,by repeat (first | exact Drawn0.refl _ | apply Drawn0.step)⟩
 case round =>
  clear H'
  try clear p2
  obtain ⟨x8_1,rfl,HA,HK1,⟨m1,rfl⟩⟩:=hrel
  cases gk with
  | zero=>exact absurd HA.out (by simp [slices_Index_int.l0])
  | succ k1 =>
   have H:=HA.out
   clear HA
   simp only [slices_Index_int.l0] at H
   by_cases c3 : x8_1 < (l0.length : Int)
   ·rw [if_pos c3] at H
    have c3b0 : decide (x8_1 < (l0.length : Int)) = true:=decide_eq_true c3
    clear c3
    by_cases c4 : 0 ≤ x8_1
    ·rw [if_pos c4] at H
     have c4b0 : decide (0 ≤ x8_1) = true:=decide_eq_true c4
     clear c4
     by_cases c5 : x8_1 < (l0.length : Int)
     ·rw [if_pos c5] at H
      have c5b0 : decide (x8_1 < (l0.length : Int)) = true:=decide_eq_true c5
      clear c5
      by_cases c6 : a1 = (rd l0 x8_1)
      ·rw [if_pos c6] at H
       have c6b0 : (a1 == (rd l0 x8_1)) = true:=beq_iff_eq.mpr c6
       have c6b1 : (a1 != (rd l0 x8_1)) = false:=bne_eq_false_iff_eq.mpr c6
       clear c6
       obtain rfl:=Option.some.inj H
       have p1 : 0 ≤ (x8_1 : Int):=of_decide_eq_true (by first | (with_reducible assumption) | assumption)
       have q1 : x8_1 < (l0.length : Int):=of_decide_eq_true (by first | (with_reducible assumption) | assumption)
       obtain ⟨ad1,e1,hx1_0⟩:=Kd.at_int HR0.out x8_1 p1 q1
       cases e1
       replace p1:=eq_true p1
       replace q1:=eq_true q1
       go_wp2
       go_ret
       exact ⟨by first | rfl | (simp;done) | (simp [*];done),by repeat (first | exact Drawn0.refl _ | apply Drawn0.step)⟩
      ·rw [if_neg c6] at H
       have c6b0 : (a1 == (rd l0 x8_1)) = false:=beq_eq_false_iff_ne.mpr c6
       have c6b1 : (a1 != (rd l0 x8_1)) = true:=bne_iff_ne.mpr c6
       have H':=a0_ H
       clear H
       have p1 : 0 ≤ (x8_1 : Int):=of_decide_eq_true (by first | (with_reducible assumption) | assumption)
       have q1 : x8_1 < (l0.length : Int):=of_decide_eq_true (by first | (with_reducible assumption) | assumption)
       obtain ⟨ad1,e1,hx1_0⟩:=Kd.at_int HR0.out x8_1 p1 q1
       cases e1
       replace p1:=eq_true p1
       replace q1:=eq_true q1
       go_wp2
       go_roundg k1
       case measure=>have:=HK1.out;omega
       case rel=>exact ⟨(wrap64 (x8_1 + 1)),(by first | rfl | (simp;done) | (simp [*];done)),H',⟨by have:=HK1.out;omega⟩,by repeat (first | exact Drawn0.refl _ | apply Drawn0.step)⟩
     ·rw [if_neg c5] at H
      exact absurd H (by simp)
    ·rw [if_neg c4] at H
     exact absurd H (by simp)
   ·rw [if_neg c3] at H
    have c3b0 : decide (x8_1 < (l0.length : Int)) = false:=decide_eq_false c3
    clear c3
    obtain rfl:=Option.some.inj H
    go_wp2
    go_ret
    exact ⟨by first | rfl | (simp;done) | (simp [*];done),by repeat (first | exact Drawn0.refl _ | apply Drawn0.step)⟩
theorem slices_Index_int_l0 (l : List Int) (x : Int) (hs : l.length ≤ 9223372036854775807) (d : Nat) : ∀ (k : Nat) (i : Nat),i ≤ l.length → l.length - i = d → d < k → (∀ j (hj : j < l.length),j < i → decide (x = l[j]) = false) → slices_Index_int.l0 k l x (l.length : Int) (i : Int) = some (idxP (fun y=>decide (x = y)) l):=by
 induction d with
 | zero =>
  intro k i hi hd hk hA
  obtain ⟨k,rfl⟩ : ∃ m,k = m + 1:=⟨k - 1,by omega⟩
  simp only [slices_Index_int.l0]
  rw [if_neg (show ¬ (i : Int) < (l.length : Int) by omega),idxP_miss _ l (fun j hj=>hA j hj (by omega))]
 | succ d ih =>
  intro k i hi hd hk hA
  obtain ⟨k,rfl⟩ : ∃ m,k = m + 1:=⟨k - 1,by omega⟩
  have hlt : i < l.length:=by omega
  simp only [slices_Index_int.l0]
  have hrd : rd l (i : Int) = l[i]:=by simp [rd,hlt]
  rw [if_pos (show (i : Int) < (l.length : Int) by omega),if_pos (show (0 : Int) ≤ (i : Int) by omega),if_pos (show (i : Int) < (l.length : Int) by omega),hrd]
  by_cases h1 : x = l[i]
  ·rw [if_pos h1,idxP_hit (fun y=>decide (x = y)) l i hlt (decide_eq_true h1) hA]
  ·rw [if_neg h1,wrap_succ (n:=l.length) (by omega) (by omega) (by omega)]
   rw [show ((i : Int) + 1) = ((i + 1 : Nat) : Int) by omega]
   refine ih k (i + 1) (by omega) (by omega) (by omega) (fun j hj hji=>?_)
   by_cases e : j = i
   ·subst e;exact decide_eq_false h1
   ·exact hA j hj (by omega)
end Go.Proofs.Ytmiholmfbjalfaa.P
namespace Go.Proofs.Ytmiholmfbjalfaa.P
open Go.RowKit Go.Proofs.YtmiholmfbjalfaaW.PrintWords Go.Proofs.YtmiholmfbjalfaaW.PrintLast Go.Proofs.YtmiholmfbjalfaaW.PrintMore
attribute [local go_sem] max2_int min2_int max_two min_two max_three min_three max_four min_four
set_option linter.unusedVariables false
set_option linter.unusedSimpArgs false
def slices_Contains_int.f (k : Nat) (l0 : List Int) (a1 : Int) : Option (Bool):=(slices_Index_int.f k l0 a1).bind fun t1=>(some (decide (t1 ≥ 0)))
theorem slices_Contains_int.mono : ∀ a0 a1 k,LeO (slices_Contains_int.f k a0 a1) (slices_Contains_int.f (k + 1) a0 a1):=by
 intro a0 a1 k
 unfold slices_Contains_int.f
 repeat' first
   | (with_reducible exact slices_Index_int.mono _ _ _)
   | (with_reducible exact LeO.refl _)
   | (with_reducible exact LeO.none _)
   | (with_reducible refine LeO.ite ?_ ?_)
   | (with_reducible refine LeO.bind ?_ (fun _=>?_))
   | exact slices_Index_int.mono _ _ _
   | exact LeO.none _
   | refine LeO.ite ?_ ?_
   | refine LeO.bind ?_ (fun _=>?_)
set_option maxHeartbeats 8000000 in
set_option maxRecDepth 100000 in
theorem slices_Contains_int.calls (k : Nat) (A0 : Option Addr) (c0 : Nat) (l0 : List Int) (a1 : Int) (r : Bool) (w : World) (hr0 : Kd.C (Kd.int .i64) w A0 l0.length l0) (hc0 : l0.length ≤ c0) (h : slices_Contains_int.f k l0 a1 = some r) :
  Calls Try.prog 62 #[.slice A0 l0.length c0,.int .i64 a1] w fun e w'=>e = .returned (.bool r) ∧ Drawn0 w w':=by
 have HR0:=a0_ hr0
 have HC0:=a0_ hc0
 clear hr0 hc0
 have H : ((slices_Index_int.f k l0 a1).bind fun t1=>(some (decide (t1 ≥ 0)))) = some r:=h
 clear h
 replace H:=Option.bind_eq_some_iff.mp H
 obtain ⟨t1,A30,H⟩:=H
 replace H : (some (decide (t1 ≥ 0))) = some r:=H
 have A3:=a0_ A30
 clear A30
 obtain rfl:=Option.some.inj H
 go_enter Try.func62,Try.ntmps62
 go_wp2_with (first | ((with_reducible refine gate_callee (f:=80) rfl ?_);refine goesL_ (some 7) rfl rfl Try.func80 (by kernel_rfl) rfl #[.slice A0 l0.length c0,.int .i64 a1] rfl lm_ ?_;(with_reducible refine (slices_Index_int.calls k _ _ l0 a1 t1 _ ?side1 ?side2 A3.out).mono ?_);(case side1=>repeat (first | exact HR0.out | (with_reducible refine Kd.C_alloc ?_ _) | (with_reducible refine Kd.C_drewN ?_ _) | (with_reducible refine Kd.C_drew ?_)));(case side2=>exact HC0.out);rintro e w' ⟨rfl,⟨nd,rfl⟩⟩;refine ⟨_,rfl,?_⟩))
 go_ret
 exact ⟨by first | rfl | (simp;done) | (simp [*];done),by repeat (first | exact Drawn0.refl _ | apply Drawn0.step)⟩
theorem slices_Contains_int_ev (l : List Int) (x : Int) (hs : l.length ≤ 9223372036854775807) (k : Nat) (hk : l.length < k) : slices_Contains_int.f k l x = some (l.contains x):=by
 unfold slices_Contains_int.f slices_Index_int.f
 have h0:=slices_Index_int_l0 l x hs l.length k 0 (by omega) (by omega) hk (fun j _ hj=>absurd hj (Nat.not_lt_zero _))
 rw [show ((0 : Nat) : Int) = 0 from rfl] at h0
 rw [h0]
 simp only [Option.bind_some,Option.some.injEq]
 rw [idxP_nonneg]
 rw [Bool.eq_iff_iff,List.any_eq_true,List.contains_iff_mem]
 constructor
 ·rintro ⟨y,hy,e⟩
  have : x = y:=of_decide_eq_true e
  rw [this];exact hy
 ·intro hm;exact ⟨x,hm,decide_eq_true rfl⟩
end Go.Proofs.Ytmiholmfbjalfaa.P
namespace Go.Proofs.Ytmiholmfbjalfaa.P
open Go.RowKit Go.Proofs.YtmiholmfbjalfaaW.PrintWords Go.Proofs.YtmiholmfbjalfaaW.PrintLast Go.Proofs.YtmiholmfbjalfaaW.PrintMore
attribute [local go_sem] max2_int min2_int max_two min_two max_three min_three max_four min_four
set_option linter.unusedVariables false
set_option linter.unusedSimpArgs false
def slices_Clip_int.f (l0 : List Int) : Option (List Int):=if 0 ≤ (l0.length : Int) then (if (l0.length : Int) ≤ (l0.length : Int) then (some (l0.take ((l0.length : Int) : Int).toNat)) else (none)) else (none)
set_option maxHeartbeats 8000000 in
set_option maxRecDepth 100000 in
theorem slices_Clip_int.calls (P0_ : Nat → Prop) (u9000_ : Value) (l0 : List Int) (r : List Int) (w0 w : World) (hB : Below w0.heap.size w0 w) (ho0 : Kd.R (Kd.int .i64) 3 w w0.heap.size P0_ u9000_ l0) (h : slices_Clip_int.f l0 = some r) :
  Calls Try.prog 63 #[u9000_] w fun e w'=>∃ v0_ : Value,e = .returned (v0_) ∧ Kd.R (Kd.int .i64) 3 w' w0.heap.size (fun k_=>(P0_ k_ ∨ w.heap.size ≤ k_)) v0_ r ∧ Below w0.heap.size w0 w' ∧ Kept w w' (fun k_=>P0_ k_):=by
 have HO0:=a0_ (show Kd.R (Kd.int .i64) 3 w w0.heap.size (fun k_=>(P0_ k_ ∨ w.heap.size ≤ k_)) u9000_ l0 from Kd.R_mono ho0 (fun k_ hk=>(.inl hk)))
 have HK:=a0_ (Kept.refl w (fun k_=>P0_ k_))
 have HW0:=a0_ hB.size
 have HB:=a0_ hB
 clear hB
 have H : (if 0 ≤ (l0.length : Int) then (if (l0.length : Int) ≤ (l0.length : Int) then (some (l0.take ((l0.length : Int) : Int).toNat)) else (none)) else (none)) = some r:=h
 clear h
 by_cases c2 : 0 ≤ (l0.length : Int)
 ·rw [if_pos c2] at H
  have c2b0:=eq_true c2
  have c2b1 : decide (0 ≤ (l0.length : Int)) = true:=decide_eq_true c2
  clear c2
  by_cases c3 : (l0.length : Int) ≤ (l0.length : Int)
  ·rw [if_pos c3] at H
   have c3b0:=eq_true c3
   have c3b1 : decide ((l0.length : Int) ≤ (l0.length : Int)) = true:=decide_eq_true c3
   clear c3
   obtain ⟨y1,hy1⟩ : ∃ y_ : List Int,y_ = (l0.take ((l0.length : Int) : Int).toNat):=⟨_,rfl⟩
   replace H : (some y1) = some r:=by first | (rw [hy1];with_reducible exact H) | (have H2_:=(Option.bind_some _ _).symm.trans H;rw [hy1];with_reducible exact H2_) | (have H2_:=(Option.bind_some _ _).symm.trans H;with_reducible exact H2_) | with_reducible exact H | (rw [hy1];exact H) | exact H
   have Ny1:=a0_ hy1
   clear hy1
   obtain rfl:=Option.some.inj H
   obtain ⟨Ao4,co4,eo4⟩:=Kd.R_slice HO0.out
   subst eo4
   have q5 : l0.length ≤ co4:=(Kd.R_reads' HO0.out).2.1
   have hr5:=Kd.R_clip2 HO0.out (((l0.length : Int) : Int).toNat) (by omega)
   rw [← Ny1.out] at hr5
   clear HO0
   have HO3:=a0_ hr5
   clear hr5
   go_enter Try.func63,Try.ntmps63
   go_wp2
   go_ret
   exact ⟨_,by first | rfl | (simp [errW_none,errW_some] <;> rfl) | (simp [*,errW_none,errW_some] <;> rfl),by (with_reducible repeat (first | apply Kd.R_alloc | apply Kd.R_drewN | apply Kd.R_drew));exact HO3.out,hbw_,by repeat (first | (with_reducible first | exact HK.out | apply Kept.alloc | apply Kept.drewN | apply Kept.drew) | exact HK.out)⟩
  ·rw [if_neg c3] at H
   exact absurd H (by simp)
 ·rw [if_neg c2] at H
  exact absurd H (by simp)
theorem slices_Clip_int_ev (l : List Int) : slices_Clip_int.f l = some l:=by
 unfold slices_Clip_int.f
 rw [if_pos (by omega),if_pos (by omega)]
 simp
end Go.Proofs.Ytmiholmfbjalfaa.P
namespace Go.Proofs.Ytmiholmfbjalfaa.P
open Go.RowKit Go.Proofs.YtmiholmfbjalfaaW.PrintWords Go.Proofs.YtmiholmfbjalfaaW.PrintLast Go.Proofs.YtmiholmfbjalfaaW.PrintMore
attribute [local go_sem] max2_int min2_int max_two min_two max_three min_three max_four min_four
set_option linter.unusedVariables false
set_option linter.unusedSimpArgs false
set_option maxHeartbeats 4000000 in
set_option maxRecDepth 100000 in
theorem impl_walk.callsF (n : Nat) (next : Int → Int) (g : Nat) (ba lb : Array Value) (f0 : Int) (w : World) (eg : ∀ args w,(callFunc g args).run Try.prog w = .ok (.enter g args) w)
  (hf : f0 < (n : Int)) (hn : n ≤ 2097152) (hnx : ∀ x : Int,0 ≤ x → x < (n : Int) → next x < (n : Int)) (hp : ∀ x : Int,0 ≤ x → x < (n : Int) → ∀ W,Below w.heap.size w W → Calls Try.prog g (ba ++ #[.int .i64 x] ++ lb) W fun e w'=>e = .returned (.int .i64 (next x)) ∧ Below W.heap.size W w') :
  Calls Try.prog 36 #[.int .i64 f0,.func (.func g) ba lb] w fun e w'=>∃ v : Value,e = .returned v ∧ Kd.R (Kd.int .i64) 3 w' w.heap.size (fun _=>True) v (walkL next n [] f0) ∧ Below w.heap.size w w':=by
 have HP:=a0_ hp
 have HNX:=a0_ hnx
 have HN:=a0_ hn
 have HF:=a0_ hf
 have HRL:=a0_ (restN_le n [])
 clear hp hnx hf
 have HB:=a0_ (Below.refl w.heap.size w)
 go_enter Try.func36,Try.ntmps36
 go_wp2_with ((with_reducible refine gate_dst (N:=6) rfl ?_);refine Kd.R_lit (Kd.int .i64) _ 3 ?hg (N:=6) ?hd (xs:=([] : List Int)) (inner:=[]) (ok:=fun _=>True) (okp:=fun _=>True) ?hr ?hp (fun _ hk=>hk) trivial (Below.refl _ _) (Nat.le_refl _) (by simp) ?_;(case hd=>rfl);(case hg=>rfl);(case hr=>first | (go_simp;done) | (go_simp;rfl));(case hp=>exact (Reps.none _ _));intro v2 w4 ho5 hb hg_ hnew_;clear hg_ hnew_;have HO:=a0_ (Kd.R_lower ho5 (below_size HB.out));replace HB:=a0_ (below_step HB.out hb);clear hb ho5)
 go_loopg [0,5] n (fun gg s0 s5 wr=>∃ (f : Int) (out : List Int) (d : Nat),d ≤ gg ∧ s0 = .int .i64 f ∧ Aside0 (f < (n : Int)) ∧ Aside0 (restN n out ≤ d) ∧ Aside0 (out.length + d ≤ n) ∧ Aside0 (walkL next d out f = walkL next n [] f0) ∧ Aside0 (Kd.R (Kd.int .i64) 3 wr w.heap.size (fun _=>True) s5 out) ∧ Aside0 (Below w.heap.size w wr))
 case atStart=>exact ⟨f0,[],n,by omega,rfl,HF,HRL,⟨by simp⟩,⟨rfl⟩,HO,HB⟩
 case round =>
  clear HO HB HRL HF
  obtain ⟨f,out,d,hd,rfl,HF,HR,HL,HE,HO,HB⟩:=hrel
  obtain ⟨Ao,co,eo⟩:=Kd.R_slice HO.out
  subst eo
  have HRC:=Kd.R_reads' HO.out
  have hcap:=HRC.2.1
  have HCL:=a0_ (slices_Clip_int_ev out)
  have hco:=slices_Contains_int.calls (out.length + 1) Ao co out f (out.contains f) wr HRC.2.2 hcap (slices_Contains_int_ev out f (by have:=HL.out;omega) _ (by omega))
  by_cases h0 : 0 ≤ f
  ·have h0b:=eq_true h0
   cases hq : out.contains f with
   | true =>
    rw [hq] at hco
    have HS:=a0_ (walkL_stop next d out f (by rw [hq];simp))
    have HCO:=a0_ hco
    clear hco hq
    go_wp2_with (first
     | (go_at_call 62;refine (HCO.out).mono ?_;rintro e w' ⟨rfl,hd'⟩;have hb':=hd'.below;replace HO:=a0_ (Kd.R_below HO.out hb');replace HB:=a0_ (below_step HB.out hb');clear hb' hd')
     | (go_at_call 63;refine (slices_Clip_int.calls (fun _=>True) _ out out w _ HB.out HO.out HCL.out).mono ?_;rintro e w2 ⟨v9,rfl,ho9,hb9,hk9⟩))
    go_ret
    exact ⟨_,rfl,Kd.R_mono (by rw [← HE.out,HS.out];exact ho9) (fun _ _=>trivial),hb9⟩
   | false =>
    rw [hq] at hco
    have HCO:=a0_ hco
    obtain ⟨d',hd'⟩ : ∃ d',d = d' + 1:=⟨d - 1,by
     have h1:=restN_zero (n:=n) (out:=out) h0 HF.out
     have h2:=HR.out
     apply Classical.byContradiction
     intro hn0
     rw [h1 (by omega)] at hq
     cases hq⟩
    subst hd'
    have HR2:=a0_ (show restN n (out ++ [f]) ≤ d' by have h1:=restN_lt h0 HF.out hq;have h2:=HR.out;omega)
    have HE2:=a0_ (show walkL next d' (out ++ [f]) (next f) = walkL next n [] f0 by rw [← HE.out,walkL,if_pos ⟨h0,hq⟩])
    have HF2:=a0_ (HNX.out f h0 HF.out)
    have HCALL:=a0_ (HP.out f h0 HF.out)
    clear hco hq
    go_wp2_with (first
     | (go_at_call 62;refine (HCO.out).mono ?_;rintro e w' ⟨rfl,hd'⟩;have hb':=hd'.below;replace HO:=a0_ (Kd.R_below HO.out hb');replace HB:=a0_ (below_step HB.out hb');clear hb' hd')
     | ((with_reducible refine gate_builtin (b:=.append) (xs:=#[.tmp 18,.tmp 20]) rfl ?_);at_builtin;refine Kd.R_append (Kd.int .i64) (w0:=w) w.heap.size rfl (.tmp 18) (.tmp 20) 31 3 (.int .i64 0) 8 rfl Try.underlying31 info3 rfl (by decide) (by omega) _ _ f [.int .i64 f] (fun _=>True) (fun _=>False) rfl rfl rfl (fun _ hk=>hk.elim) (fun _ _=>trivial) HO.out HB.out (below_size HB.out) (by have:=HL.out;have:=HN.out;omega) ?_;intro v3 w3 ho hb hg3 hat;replace HO:=a0_ ho;replace HB:=a0_ hb;clear ho hb hg3 hat)
     | (go_at_fn g;refine (HCALL.out _ HB.out).mono ?_;rintro e w2 ⟨rfl,hb2⟩;replace HO:=a0_ (Kd.R_below HO.out hb2);replace HB:=a0_ (below_step HB.out hb2);clear hb2))
    go_roundg d'
    case measure=>omega
    case rel=>exact ⟨next f,out ++ [f],d',by omega,rfl,HF2,HR2,⟨by have:=HL.out;rw [List.length_append,List.length_singleton];omega⟩,HE2,HO,HB⟩
  ·have HS:=a0_ (walkL_stop next d out f (fun h=>h0 h.1))
   clear hco
   go_wp2_with (go_at_call 63;refine (slices_Clip_int.calls (fun _=>True) _ out out w _ HB.out HO.out HCL.out).mono ?_;rintro e w2 ⟨v9,rfl,ho9,hb9,hk9⟩)
   go_ret
   exact ⟨_,rfl,Kd.R_mono (by rw [← HE.out,HS.out];exact ho9) (fun _ _=>trivial),hb9⟩
end Go.Proofs.Ytmiholmfbjalfaa.P
namespace Go.Proofs.Ytmiholmfbjalfaa.P
open Go.RowKit Go.Proofs.YtmiholmfbjalfaaW.PrintWords Go.Proofs.YtmiholmfbjalfaaW.PrintLast Go.Proofs.YtmiholmfbjalfaaW.PrintMore
attribute [local go_sem] max2_int min2_int max_two min_two max_three min_three max_four min_four
set_option linter.unusedVariables false
set_option linter.unusedSimpArgs false
theorem impl_Heap_contexts_1.callsF (B : Nat) (A : Option Addr) (c : Nat) (h : List Fau) (x : Int) (w : World) (h0 : 0 ≤ x) (h1 : x < (h.length : Int)) (hB : w.heap[B]? = some (.cells #[.slice A h.length c] 28 (0,0))) (hr : Kd.C k43 w A h.length h) :
  Calls Try.prog 76 #[.int .i64 x,.pointer (some ⟨B,0,none⟩)] w fun e w'=>e = .returned (.int .i64 (ctxN h x)) ∧ Below w.heap.size w w':=by
 have hu37:=Try.underlying28
 have hu79:=Try.underlying43
 have hcell : w.cell? ⟨B,0,none⟩ = some (.slice A h.length c):=(blk_cell hB 0).trans rfl
 obtain ⟨ad,ea,hx0,hx1,hx2,hx3,hx4⟩:=at_T43 hr x h0 h1
 cases ea
 have hrd : (rd_T43 h x).f3 = ctxN h x:=by simp [rd_T43,ctxN]
 rw [hrd] at hx3
 have p0:=eq_true h0
 have p1:=eq_true h1
 clear hB hr hx0 hx1 hx2 hx4 hrd
 generalize ctxN h x = r at hx3 ⊢
 go_enter Try.func76,Try.ntmps76
 go_wp2
 go_ret
 exact ⟨rfl,Below.refl _ w⟩
end Go.Proofs.Ytmiholmfbjalfaa.P
namespace Go.Proofs.Ytmiholmfbjalfaa.P
open Go.RowKit Go.Proofs.YtmiholmfbjalfaaW.PrintWords Go.Proofs.YtmiholmfbjalfaaW.PrintLast Go.Proofs.YtmiholmfbjalfaaW.PrintMore
attribute [local go_sem] max2_int min2_int max_two min_two max_three min_three max_four min_four
set_option linter.unusedVariables false
set_option linter.unusedSimpArgs false
theorem impl_Heap_contexts.callsF (A : Option Addr) (c : Nat) (h : List Fau) (f : Int) (w : World) (hf : f < (h.length : Int)) (hn : h.length ≤ 2097152) (hc : ∀ x : Int,0 ≤ x → x < (h.length : Int) → ctxN h x < (h.length : Int)) (hr : Kd.C k43 w A h.length h) :
  Calls Try.prog 53 #[.agg #[.slice A h.length c],.int .i64 f] w fun e w'=>∃ v : Value,e = .returned v ∧ Kd.R (Kd.int .i64) 3 w' w.heap.size (fun _=>True) v (ctxL h f) ∧ Below w.heap.size w w':=by
 have hu37:=Try.underlying28
 have eg : ∀ args w,(callFunc 76 args).run Try.prog w = .ok (.enter 76 args) w:=enters_of Try.func76 (by kernel_rfl) rfl
 have HB:=a0_ (below1 w (.cells #[.slice A h.length c] 28))
 have BK:=a0_ (heap_new1 w (.cells #[.slice A h.length c] 28))
 have HW:=a0_ (fun (W : World) (hb : Below w.heap.size w W) (hB : W.heap[w.heap.size]? = some (.cells #[.slice A h.length c] 28 (0,0)))=>impl_walk.callsF h.length (ctxN h) 76 #[] #[.pointer (some ⟨w.heap.size,0,none⟩)] f W eg hf hn hc (fun x h0 h1 W' hW=>impl_Heap_contexts_1.callsF w.heap.size A c h x W' h0 h1 (blk_keptB hB hW) (Kd.C_below (Kd.C_below hr hb) hW)))
 unfold ctxL
 clear hr eg hc hf
 generalize walkL (ctxN h) h.length [] f = r at HW ⊢
 go_enter Try.func53,Try.ntmps53
 go_wp2_with (go_at_call 36;refine (HW.out _ HB.out BK.out).mono ?_;rintro e w2 ⟨v2,rfl,ho2,hb2⟩)
 go_ret
 exact ⟨_,rfl,Kd.R_lower ho2 (below_size HB.out),below_step HB.out hb2⟩
def ctxOkB (h : List Fau) : Bool:=(List.range h.length).all (fun i=>decide (ctxN h ((i : Nat) : Int) < (h.length : Int)))
def impl_Heap_contexts.f (l0_0 : List Fau) (a1 : Int) : Option (List Int):=if ctxOkB l0_0 = true ∧ (a1 < (l0_0.length : Int) ∧ l0_0.length ≤ 2097152) then some (ctxL l0_0 a1) else none
theorem ctxOkB_out {h : List Fau} (hb : ctxOkB h = true) (x : Int) (h0 : 0 ≤ x) (h1 : x < (h.length : Int)) : ctxN h x < (h.length : Int):=by
 have:=all_at hb x.toNat (by omega)
 rw [show ((x.toNat : Nat) : Int) = x by omega] at this
 exact of_decide_eq_true this
theorem ctxOkB_of {h : List Fau} (hb : ∀ x : Int,0 ≤ x → x < (h.length : Int) → ctxN h x < (h.length : Int)) : ctxOkB h = true:=all_of (fun i hi=>decide_eq_true (hb (i : Int) (by omega) (by omega)))
theorem impl_Heap_contexts.calls (A0_0 : Option Addr) (c0_0 : Nat) (l0_0 : List (S43)) (a1 : Int) (r : List Int) (w : World) (hr0_0 : Kd.C k43 w A0_0 l0_0.length l0_0) (hc0_0 : l0_0.length ≤ c0_0) (h : impl_Heap_contexts.f l0_0 a1 = some r) :
  Calls Try.prog 53 #[.agg #[.slice A0_0 l0_0.length c0_0],.int .i64 a1] w fun e w'=>∃ v0_ : Value,e = .returned (v0_) ∧ Kd.R (Kd.int .i64) 3 w' w.heap.size (fun _=>True) v0_ r ∧ Below w.heap.size w w':=by
 have hsm : ctxOkB l0_0 = true ∧ (a1 < (l0_0.length : Int) ∧ l0_0.length ≤ 2097152):=by
  apply Classical.byContradiction
  intro hn
  rw [impl_Heap_contexts.f,if_neg hn] at h
  cases h
 rw [impl_Heap_contexts.f,if_pos hsm] at h
 obtain rfl:=Option.some.inj h
 exact impl_Heap_contexts.callsF A0_0 c0_0 l0_0 a1 w hsm.2.1 hsm.2.2 (ctxOkB_out hsm.1) hr0_0
end Go.Proofs.Ytmiholmfbjalfaa.P
namespace Go.Proofs.Ytmiholmfbjalfaa.P
open Go.RowKit Go.Proofs.YtmiholmfbjalfaaW.PrintWords Go.Proofs.YtmiholmfbjalfaaW.PrintLast Go.Proofs.YtmiholmfbjalfaaW.PrintMore
attribute [local go_sem] max2_int min2_int max_two min_two max_three min_three max_four min_four
set_option linter.unusedVariables false
set_option linter.unusedSimpArgs false
def impl_within.f (a0 : Int) (a1 : Int) (a2 : Int) : Option (Bool):=if a0 ≥ a1 then (some (decide (a0 ≤ a2))) else (some false)
set_option maxHeartbeats 8000000 in
set_option maxRecDepth 100000 in
theorem impl_within.calls (a0 : Int) (a1 : Int) (a2 : Int) (r : Bool) (w : World) (h : impl_within.f a0 a1 a2 = some r) :
  Calls Try.prog 75 #[.int .i64 a0,.int .i64 a1,.int .i64 a2] w fun e w'=>e = .returned (.bool r) ∧ Drawn0 w w':=by
 have H : (if a0 ≥ a1 then (some (decide (a0 ≤ a2))) else (some false)) = some r:=h
 clear h
 by_cases c4 : a0 ≥ a1
 ·rw [if_pos c4] at H
  have c4b0 : decide (a1 ≤ a0) = true:=decide_eq_true c4
  clear c4
  obtain rfl:=Option.some.inj H
  go_enter Try.func75,Try.ntmps75
  go_wp2
  go_ret
  exact ⟨by first | rfl | (simp;done) | (simp [*];done),by repeat (first | exact Drawn0.refl _ | apply Drawn0.step)⟩
 ·rw [if_neg c4] at H
  have c4b0 : decide (a1 ≤ a0) = false:=decide_eq_false c4
  clear c4
  obtain rfl:=Option.some.inj H
  go_enter Try.func75,Try.ntmps75
  go_wp2
  go_ret
  exact ⟨by first | rfl | (simp;done) | (simp [*];done),by repeat (first | exact Drawn0.refl _ | apply Drawn0.step)⟩
theorem impl_within_ev (a b c : Int) : impl_within.f a b c = some (decide (b ≤ a) && decide (a ≤ c)):=by
 unfold impl_within.f
 by_cases h : a ≥ b
 ·rw [if_pos h,decide_eq_true (show b ≤ a from h),Bool.true_and]
 ·rw [if_neg h,decide_eq_false (show ¬ b ≤ a from h),Bool.false_and]
end Go.Proofs.Ytmiholmfbjalfaa.P
namespace Go.Proofs.Ytmiholmfbjalfaa.P
open Go.RowKit Go.Proofs.YtmiholmfbjalfaaW.PrintWords Go.Proofs.YtmiholmfbjalfaaW.PrintLast Go.Proofs.YtmiholmfbjalfaaW.PrintMore
attribute [local go_sem] max2_int min2_int max_two min_two max_three min_three max_four min_four
set_option linter.unusedVariables false
set_option linter.unusedSimpArgs false
def impl_Heap_has.f (l0_0 : List (S43)) (a1 : Int) : Option (Bool):=(impl_within.f a1 0 (wrap64 ((l0_0.length : Int) - 1))).bind fun t2=>(some t2)
set_option maxHeartbeats 8000000 in
set_option maxRecDepth 100000 in
theorem impl_Heap_has.calls (A0_0 : Option Addr) (c0_0 : Nat) (l0_0 : List (S43)) (a1 : Int) (r : Bool) (w : World) (hr0_0 : Kd.C k43 w A0_0 l0_0.length l0_0) (hc0_0 : l0_0.length ≤ c0_0) (h : impl_Heap_has.f l0_0 a1 = some r) :
  Calls Try.prog 51 #[.agg #[.slice A0_0 l0_0.length c0_0],.int .i64 a1] w fun e w'=>e = .returned (.bool r) ∧ Below w.heap.size w w':=by
 have hu28:=Try.underlying28
 have HR0_0:=a0_ hr0_0
 have HC0_0:=a0_ hc0_0
 clear hr0_0 hc0_0
 have HB:=a0_ (Below.refl w.heap.size w)
 have H : ((impl_within.f a1 0 (wrap64 ((l0_0.length : Int) - 1))).bind fun t2=>(some t2)) = some r:=h
 clear h
 replace H:=Option.bind_eq_some_iff.mp H
 obtain ⟨t2,A30,H⟩:=H
 replace H : (some t2) = some r:=H
 have A3:=a0_ A30
 clear A30
 obtain rfl:=Option.some.inj H
 go_enter Try.func51,Try.ntmps51
 go_wp2_with (first | ((with_reducible refine gate_dst (N:=2) rfl ?_);refine box_event ?hg (N:=2) ?hd (cs:=#[.slice A0_0 l0_0.length c0_0]) (t:=28) ?hr ?_;(case hd=>rfl);(case hg=>rfl);(case hr=>first | (go_simp;done) | (go_simp;rfl));intro gb1 hg w4 hbox hb;have BK1:=a0_ (hbox);have GW1:=a0_ ((by rw [hg];exact (below_size hbw_) : w.heap.size ≤ gb1));have GE1:=a0_ ((by rw [hg];exact (below_size hbw_) : w.heap.size ≤ gb1));replace HB:=a0_ (below_step hbw_ hb);clear hb hbox hg;have hcz5_0 : w4.cell? ⟨gb1,0,none⟩ = some (.slice A0_0 l0_0.length c0_0):=(blk_cell BK1.out 0).trans rfl;have hfz5_0:=blk_frozen BK1.out 0) | ((with_reducible refine gate_callee (f:=75) rfl ?_);refine goesL_ (some 10) rfl rfl Try.func75 (by kernel_rfl) rfl #[.int .i64 a1,.int .i64 0,.int .i64 (wrap64 ((l0_0.length : Int) - 1))] rfl lm_ ?_;(with_reducible refine (impl_within.calls a1 0 (wrap64 ((l0_0.length : Int) - 1)) t2 _ A3.out).mono ?_);rintro e w' ⟨rfl,⟨nd,rfl⟩⟩;refine ⟨_,rfl,?_⟩))
 go_ret
 exact ⟨by first | rfl | (simp [errW_none,errW_some] <;> rfl) | (simp [*,errW_none,errW_some] <;> rfl),hbw_⟩
theorem impl_Heap_has_ev (h : List Fau) (f : Int) (hl : h.length ≤ 9223372036854775807) : impl_Heap_has.f h f = some (hasF h f):=by
 unfold impl_Heap_has.f
 rw [wrap_in (by omega) (by omega),impl_within_ev]
 rfl
end Go.Proofs.Ytmiholmfbjalfaa.P
namespace Go.Proofs.Ytmiholmfbjalfaa.P
open Go.RowKit Go.Proofs.YtmiholmfbjalfaaW.PrintWords Go.Proofs.YtmiholmfbjalfaaW.PrintLast Go.Proofs.YtmiholmfbjalfaaW.PrintMore
attribute [local go_sem] max2_int min2_int max_two min_two max_three min_three max_four min_four
set_option linter.unusedVariables false
set_option linter.unusedSimpArgs false
theorem impl_ValidHeap_1.callsF (B : Nat) (A : Option Addr) (c : Nat) (h : List Fau) (f u : Int) (w : World) (hc : h.length ≤ c) (hB : w.heap[B]? = some (.cells #[.slice A h.length c] 28 (0,0))) (hr : Kd.C k43 w A h.length h) :
  Calls Try.prog 56 #[.int .i64 f,.int .i64 u,.pointer (some ⟨B,0,none⟩)] w fun e w'=>e = .returned (.bool (lnkB h f u)) ∧ Below w.heap.size w w':=by
 have hu37:=Try.underlying28
 have hcell : w.cell? ⟨B,0,none⟩ = some (.slice A h.length c):=(blk_cell hB 0).trans rfl
 have hcon:=impl_Heap_has.calls A c h u (hasF h u) w hr hc (impl_Heap_has_ev h u hr.2.1)
 unfold lnkB
 clear hB hr
 generalize hasF h u = q at hcon ⊢
 by_cases h1 : u = -1
 ·have hd1 : (u == -1) = true:=beq_iff_eq.2 h1
  clear h1
  rw [hd1,Bool.true_or]
  go_enter Try.func56,Try.ntmps56
  go_wp2
  go_ret
  exact ⟨rfl,Below.refl _ w⟩
 ·have hd1 : (u == -1) = false:=beq_eq_false_iff_ne.2 h1
  clear h1
  rw [hd1,Bool.false_or]
  cases q with
  | false =>
   go_enter Try.func56,Try.ntmps56
   go_wp2_with (go_at_call 51;refine hcon.mono ?_;rintro e w' ⟨rfl,hb'⟩)
   go_ret
   exact ⟨rfl,hb'⟩
  | true =>
   rw [Bool.true_and]
   cases h2 : (u != f) <;>
   ·go_enter Try.func56,Try.ntmps56
    go_wp2_with (go_at_call 51;refine hcon.mono ?_;rintro e w' ⟨rfl,hb'⟩)
    go_ret
    exact ⟨rfl,hb'⟩
end Go.Proofs.Ytmiholmfbjalfaa.P
namespace Go.Proofs.Ytmiholmfbjalfaa.P
open Go.RowKit Go.Proofs.YtmiholmfbjalfaaW.PrintWords Go.Proofs.YtmiholmfbjalfaaW.PrintLast Go.Proofs.YtmiholmfbjalfaaW.PrintMore
attribute [local go_sem] max2_int min2_int max_two min_two max_three min_three max_four min_four
set_option linter.unusedVariables false
set_option linter.unusedSimpArgs false
def impl_Tree_has.f (l0_0 : List (S87)) (a1 : Int) : Option (Bool):=(impl_within.f a1 0 (wrap64 ((l0_0.length : Int) - 1))).bind fun t2=>(some t2)
set_option maxHeartbeats 8000000 in
set_option maxRecDepth 100000 in
theorem impl_Tree_has.calls (A0_0 : Option Addr) (c0_0 : Nat) (l0_0 : List (S87)) (a1 : Int) (r : Bool) (w : World) (hr0_0 : Kd.C k87 w A0_0 l0_0.length l0_0) (hc0_0 : l0_0.length ≤ c0_0) (h : impl_Tree_has.f l0_0 a1 = some r) :
  Calls Try.prog 57 #[.agg #[.slice A0_0 l0_0.length c0_0],.int .i64 a1] w fun e w'=>e = .returned (.bool r) ∧ Below w.heap.size w w':=by
 have hu25:=Try.underlying25
 have HR0_0:=a0_ hr0_0
 have HC0_0:=a0_ hc0_0
 clear hr0_0 hc0_0
 have HB:=a0_ (Below.refl w.heap.size w)
 have H : ((impl_within.f a1 0 (wrap64 ((l0_0.length : Int) - 1))).bind fun t2=>(some t2)) = some r:=h
 clear h
 replace H:=Option.bind_eq_some_iff.mp H
 obtain ⟨t2,A30,H⟩:=H
 replace H : (some t2) = some r:=H
 have A3:=a0_ A30
 clear A30
 obtain rfl:=Option.some.inj H
 go_enter Try.func57,Try.ntmps57
 go_wp2_with (first | ((with_reducible refine gate_dst (N:=2) rfl ?_);refine box_event ?hg (N:=2) ?hd (cs:=#[.slice A0_0 l0_0.length c0_0]) (t:=25) ?hr ?_;(case hd=>rfl);(case hg=>rfl);(case hr=>first | (go_simp;done) | (go_simp;rfl));intro gb1 hg w4 hbox hb;have BK1:=a0_ (hbox);have GW1:=a0_ ((by rw [hg];exact (below_size hbw_) : w.heap.size ≤ gb1));have GE1:=a0_ ((by rw [hg];exact (below_size hbw_) : w.heap.size ≤ gb1));replace HB:=a0_ (below_step hbw_ hb);clear hb hbox hg;have hcz5_0 : w4.cell? ⟨gb1,0,none⟩ = some (.slice A0_0 l0_0.length c0_0):=(blk_cell BK1.out 0).trans rfl;have hfz5_0:=blk_frozen BK1.out 0) | ((with_reducible refine gate_callee (f:=75) rfl ?_);refine goesL_ (some 10) rfl rfl Try.func75 (by kernel_rfl) rfl #[.int .i64 a1,.int .i64 0,.int .i64 (wrap64 ((l0_0.length : Int) - 1))] rfl lm_ ?_;(with_reducible refine (impl_within.calls a1 0 (wrap64 ((l0_0.length : Int) - 1)) t2 _ A3.out).mono ?_);rintro e w' ⟨rfl,⟨nd,rfl⟩⟩;refine ⟨_,rfl,?_⟩))
 go_ret
 exact ⟨by first | rfl | (simp [errW_none,errW_some] <;> rfl) | (simp [*,errW_none,errW_some] <;> rfl),hbw_⟩
theorem impl_Tree_has_ev (t : List Cls) (a : Int) (hl : t.length ≤ 9223372036854775807) : impl_Tree_has.f t a = some (hasC t a):=by
 unfold impl_Tree_has.f impl_within.f hasC
 rw [wrap_pred (by omega) (by omega)]
 by_cases h0 : a ≥ 0
 ·rw [if_pos h0]
  have h0' : 0 ≤ a:=h0
  simp only [Option.bind_some,Option.some.injEq,decide_eq_true h0',Bool.true_and]
  by_cases h1 : a < (t.length : Int)
  ·rw [decide_eq_true h1,decide_eq_true (by omega)]
  ·rw [decide_eq_false h1,decide_eq_false (by omega)]
 ·rw [if_neg h0]
  have h0' : ¬ 0 ≤ a:=h0
  simp [decide_eq_false h0']
end Go.Proofs.Ytmiholmfbjalfaa.P
namespace Go.Proofs.Ytmiholmfbjalfaa.P
open Go.RowKit Go.Proofs.YtmiholmfbjalfaaW.PrintWords Go.Proofs.YtmiholmfbjalfaaW.PrintLast Go.Proofs.YtmiholmfbjalfaaW.PrintMore
attribute [local go_sem] max2_int min2_int max_two min_two max_three min_three max_four min_four
set_option linter.unusedVariables false
set_option linter.unusedSimpArgs false
def impl_codeOk.f (a0 : Int) : Option (Bool):=(impl_within.f a0 0 99).bind fun t1=>(some t1)
set_option maxHeartbeats 8000000 in
set_option maxRecDepth 100000 in
theorem impl_codeOk.calls (a0 : Int) (r : Bool) (w : World) (h : impl_codeOk.f a0 = some r) :
  Calls Try.prog 58 #[.int .i64 a0] w fun e w'=>e = .returned (.bool r) ∧ Drawn0 w w':=by
 have H : ((impl_within.f a0 0 99).bind fun t1=>(some t1)) = some r:=h
 clear h
 replace H:=Option.bind_eq_some_iff.mp H
 obtain ⟨t1,A20,H⟩:=H
 replace H : (some t1) = some r:=H
 have A2:=a0_ A20
 clear A20
 obtain rfl:=Option.some.inj H
 go_enter Try.func58,Try.ntmps58
 go_wp2_with (first | ((with_reducible refine gate_callee (f:=75) rfl ?_);refine goesL_ (some 4) rfl rfl Try.func75 (by kernel_rfl) rfl #[.int .i64 a0,.int .i64 0,.int .i64 99] rfl lm_ ?_;(with_reducible refine (impl_within.calls a0 0 99 t1 _ A2.out).mono ?_);rintro e w' ⟨rfl,⟨nd,rfl⟩⟩;refine ⟨_,rfl,?_⟩))
 go_ret
 exact ⟨by first | rfl | (simp;done) | (simp [*];done),by repeat (first | exact Drawn0.refl _ | apply Drawn0.step)⟩
theorem impl_codeOk_ev (a : Int) : impl_codeOk.f a = some (decide (0 ≤ a) && decide (a ≤ 99)):=by
 unfold impl_codeOk.f
 rw [impl_within_ev]
 rfl
end Go.Proofs.Ytmiholmfbjalfaa.P
namespace Go.Proofs.Ytmiholmfbjalfaa.P
open Go.RowKit Go.Proofs.YtmiholmfbjalfaaW.PrintWords Go.Proofs.YtmiholmfbjalfaaW.PrintLast Go.Proofs.YtmiholmfbjalfaaW.PrintMore
attribute [local go_sem] max2_int min2_int max_two min_two max_three min_three max_four min_four
set_option linter.unusedVariables false
set_option linter.unusedSimpArgs false
def impl_nameOk.l0 : Nat → ByteArray → Int → Int → Option (Bool)
 | 0,_,_,_=>none
 | k + 1,x0,x5,x6=>if x6 < x5 then (if 0 ≤ x6 then (if x6 < (x0.size : Int) then (if (bt x0 x6) < 97 then (some false) else (if (bt x0 x6) > 122 then (some false) else (impl_nameOk.l0 k x0 x5 (wrap64 (x6 + 1))))) else (none)) else (none)) else ((impl_within.f (x0.size : Int) 1 6).bind fun t1=>(some t1))
def impl_nameOk.f (k : Nat) (a0 : ByteArray) : Option (Bool):=impl_nameOk.l0 k a0 (a0.size : Int) 0
theorem impl_nameOk.mono_l : ∀ k,(∀ y0 y1 y2,LeO (impl_nameOk.l0 k y0 y1 y2) (impl_nameOk.l0 (k + 1) y0 y1 y2))
 | 0=>fun _ _ _ r h=>by simp [impl_nameOk.l0] at h
 | k + 1=>by
  have ih0:=impl_nameOk.mono_l k
  ·intro y0 y1 y2
   unfold impl_nameOk.l0
   repeat' first
   | (with_reducible exact ih0 _ _ _)
   | (with_reducible exact LeO.refl _)
   | (with_reducible exact LeO.none _)
   | (with_reducible refine LeO.ite ?_ ?_)
   | (with_reducible refine LeO.bind ?_ (fun _=>?_))
   | exact ih0 _ _ _
   | exact LeO.none _
   | refine LeO.ite ?_ ?_
   | refine LeO.bind ?_ (fun _=>?_)
theorem impl_nameOk.mono : ∀ a0 k,LeO (impl_nameOk.f k a0) (impl_nameOk.f (k + 1) a0):=by
 intro a0 k
 have ih0:=impl_nameOk.mono_l k
 unfold impl_nameOk.f
 repeat' first
   | (with_reducible exact ih0 _ _ _)
   | (with_reducible exact LeO.refl _)
   | (with_reducible exact LeO.none _)
   | (with_reducible refine LeO.ite ?_ ?_)
   | (with_reducible refine LeO.bind ?_ (fun _=>?_))
   | exact ih0 _ _ _
   | exact LeO.none _
   | refine LeO.ite ?_ ?_
   | refine LeO.bind ?_ (fun _=>?_)
set_option maxHeartbeats 8000000 in
set_option maxRecDepth 100000 in
theorem impl_nameOk.calls (k : Nat) (a0 : ByteArray) (r : Bool) (w : World) (h : impl_nameOk.f k a0 = some r) :
  Calls Try.prog 77 #[.string a0] w fun e w'=>e = .returned (.bool r) ∧ Drawn0 w w':=by
 have H : (impl_nameOk.l0 k a0 (a0.size : Int) 0) = some r:=h
 clear h
 have H':=a0_ H
 clear H
 go_enter Try.func77,Try.ntmps77
 go_wp2
 go_loopg [6] k (fun kq v6 w'=>∃ (x6_1 : Int),v6 = .int .i64 x6_1 ∧ Aside0 (impl_nameOk.l0 kq a0 (a0.size : Int) x6_1 = some r) ∧ Aside0 (kq ≤ k) ∧ Drawn0 w w')
 case atStart=>exact ⟨(0),(by first | rfl | (simp;done) | (simp [*];done)),H',⟨Nat.le_refl _⟩,by repeat (first | exact Drawn0.refl _ | apply Drawn0.step)⟩
 case round =>
  clear H'
  obtain ⟨x6_1,rfl,HA,HK1,⟨m1,rfl⟩⟩:=hrel
  cases gk with
  | zero=>exact absurd HA.out (by simp [impl_nameOk.l0])
  | succ k1 =>
   have H:=HA.out
   clear HA
   simp only [impl_nameOk.l0] at H
   by_cases c2 : x6_1 < (a0.size : Int)
   ·rw [if_pos c2] at H
    have c2b0 : decide (x6_1 < (a0.size : Int)) = true:=decide_eq_true c2
    clear c2
    by_cases c3 : 0 ≤ x6_1
    ·rw [if_pos c3] at H
     have c3b0 : decide (0 ≤ x6_1) = true:=decide_eq_true c3
     clear c3
     by_cases c4 : x6_1 < (a0.size : Int)
     ·rw [if_pos c4] at H
      have c4b0 : decide (x6_1 < (a0.size : Int)) = true:=decide_eq_true c4
      clear c4
      by_cases c6 : (bt a0 x6_1) < 97
      ·rw [if_pos c6] at H
       have c6b0 : decide ((bt a0 x6_1) < 97) = true:=decide_eq_true c6
       clear c6
       obtain rfl:=Option.some.inj H
       have p5 : 0 ≤ (x6_1 : Int):=of_decide_eq_true (by first | (with_reducible assumption) | assumption)
       have q5 : x6_1 < (a0.size : Int):=of_decide_eq_true (by first | (with_reducible assumption) | assumption)
       have hx5:=bt_at a0 x6_1
       replace p5:=eq_true p5
       replace q5:=eq_true q5
       go_wp2
       go_ret
       exact ⟨by first | rfl | (simp;done) | (simp [*];done),by repeat (first | exact Drawn0.refl _ | apply Drawn0.step)⟩
      ·rw [if_neg c6] at H
       have c6b0 : decide ((bt a0 x6_1) < 97) = false:=decide_eq_false c6
       clear c6
       by_cases c8 : (bt a0 x6_1) > 122
       ·rw [if_pos c8] at H
        have c8b0 : decide (122 < (bt a0 x6_1)) = true:=decide_eq_true c8
        clear c8
        obtain rfl:=Option.some.inj H
        have p5 : 0 ≤ (x6_1 : Int):=of_decide_eq_true (by first | (with_reducible assumption) | assumption)
        have q5 : x6_1 < (a0.size : Int):=of_decide_eq_true (by first | (with_reducible assumption) | assumption)
        have hx5:=bt_at a0 x6_1
        replace p5:=eq_true p5
        replace q5:=eq_true q5
        have p7 : 0 ≤ (x6_1 : Int):=of_decide_eq_true (by first | (with_reducible assumption) | assumption)
        have q7 : x6_1 < (a0.size : Int):=of_decide_eq_true (by first | (with_reducible assumption) | assumption)
        have hx7:=bt_at a0 x6_1
        replace p7:=eq_true p7
        replace q7:=eq_true q7
        go_wp2
        go_ret
        exact ⟨by first | rfl | (simp;done) | (simp [*];done),by repeat (first | exact Drawn0.refl _ | apply Drawn0.step)⟩
       ·rw [if_neg c8] at H
        have c8b0 : decide (122 < (bt a0 x6_1)) = false:=decide_eq_false c8
        clear c8
        have H':=a0_ H
        clear H
        have p5 : 0 ≤ (x6_1 : Int):=of_decide_eq_true (by first | (with_reducible assumption) | assumption)
        have q5 : x6_1 < (a0.size : Int):=of_decide_eq_true (by first | (with_reducible assumption) | assumption)
        have hx5:=bt_at a0 x6_1
        replace p5:=eq_true p5
        replace q5:=eq_true q5
        have p7 : 0 ≤ (x6_1 : Int):=of_decide_eq_true (by first | (with_reducible assumption) | assumption)
        have q7 : x6_1 < (a0.size : Int):=of_decide_eq_true (by first | (with_reducible assumption) | assumption)
        have hx7:=bt_at a0 x6_1
        replace p7:=eq_true p7
        replace q7:=eq_true q7
        go_wp2
        go_roundg k1
        case measure=>have:=HK1.out;omega
        case rel=>exact ⟨(wrap64 (x6_1 + 1)),(by first | rfl | (simp;done) | (simp [*];done)),H',⟨by have:=HK1.out;omega⟩,by repeat (first | exact Drawn0.refl _ | apply Drawn0.step)⟩
     ·rw [if_neg c4] at H
      exact absurd H (by simp)
    ·rw [if_neg c3] at H
     exact absurd H (by simp)
   ·rw [if_neg c2] at H
    have c2b0 : decide (x6_1 < (a0.size : Int)) = false:=decide_eq_false c2
    clear c2
    replace H:=Option.bind_eq_some_iff.mp H
    obtain ⟨t1,A90,H⟩:=H
    replace H : (some t1) = some r:=H
    have A9:=a0_ A90
    clear A90
    obtain rfl:=Option.some.inj H
    go_wp2_with (first | ((with_reducible refine gate_callee (f:=75) rfl ?_);refine goesL_ (some 22) rfl rfl Try.func75 (by kernel_rfl) rfl #[.int .i64 (a0.size : Int),.int .i64 1,.int .i64 6] rfl lm_ ?_;(with_reducible refine (impl_within.calls (a0.size : Int) 1 6 t1 _ A9.out).mono ?_);rintro e w' ⟨rfl,⟨nd,rfl⟩⟩;refine ⟨_,rfl,?_⟩))
    go_ret
    exact ⟨by first | rfl | (simp;done) | (simp [*];done),by repeat (first | exact Drawn0.refl _ | apply Drawn0.step)⟩
theorem impl_nameOk_l0 (s : ByteArray) (hs : s.size ≤ 9223372036854775807) (d : Nat) : ∀ (k : Nat) (i : Nat),i ≤ s.size → s.size - i = d → d < k → impl_nameOk.l0 k s (s.size : Int) (i : Int) = some ((s.data.toList.drop i).all (fun c=>decide (97 ≤ c.toNat) && decide (c.toNat ≤ 122)) && (decide (1 ≤ s.size) && decide (s.size ≤ 6))):=by
 induction d with
 | zero =>
  intro k i hi hd hk
  obtain ⟨k,rfl⟩ : ∃ m,k = m + 1:=⟨k - 1,by omega⟩
  simp only [impl_nameOk.l0]
  rw [if_neg (by omega)]
  have : s.data.toList.drop i = []:=by
   apply List.drop_eq_nil_of_le
   have : s.data.toList.length = s.size:=toL_len s
   omega
  rw [this]
  simp only [impl_within.f,List.all_nil,Bool.true_and]
  by_cases h1 : 1 ≤ s.size
  ·rw [if_pos (show (s.size : Int) ≥ 1 by omega)]
   by_cases h2 : s.size ≤ 6
   ·simp [h1,h2];omega
   ·simp [h2];omega
  ·rw [if_neg (show ¬ (s.size : Int) ≥ 1 by omega)];simp [h1]
 | succ d ih =>
  intro k i hi hd hk
  obtain ⟨k,rfl⟩ : ∃ m,k = m + 1:=⟨k - 1,by omega⟩
  have hlt : i < s.size:=by omega
  have hl : s.data.toList.length = s.size:=toL_len s
  simp only [impl_nameOk.l0]
  rw [if_pos (show (i : Int) < (s.size : Int) by omega),if_pos (show (0 : Int) ≤ (i : Int) by omega),if_pos (show (i : Int) < (s.size : Int) by omega),bt_getElem s i hlt]
  have hd2 : s.data.toList.drop i = s[i] :: s.data.toList.drop (i + 1):=by
   rw [List.drop_eq_getElem_cons (by omega)]
   congr 1
  rw [hd2,List.all_cons]
  by_cases h1 : (s[i].toNat : Int) < 97
  ·rw [if_pos h1];have : ¬ 97 ≤ s[i].toNat:=by omega
   simp [this]
  ·rw [if_neg h1]
   by_cases h2 : (s[i].toNat : Int) > 122
   ·rw [if_pos h2];have : ¬ s[i].toNat ≤ 122:=by omega
    simp [this]
   ·rw [if_neg h2,wrap_succ (n:=s.size) (by omega) (by omega) (by omega)]
    have:=ih k (i + 1) (by omega) (by omega) (by omega)
    rw [show ((i : Int) + 1) = ((i + 1 : Nat) : Int) by omega,this]
    have a : 97 ≤ s[i].toNat:=by omega
    have b : s[i].toNat ≤ 122:=by omega
    simp [a,b]
theorem impl_nameOk_ev (s : ByteArray) (hs : s.size ≤ 9223372036854775807) : impl_nameOk.f (s.size + 1) s = some (okName s):=by
 unfold impl_nameOk.f okName
 have:=impl_nameOk_l0 s hs s.size (s.size + 1) 0 (by omega) (by omega) (by omega)
 simpa using this
end Go.Proofs.Ytmiholmfbjalfaa.P
namespace Go.Proofs.Ytmiholmfbjalfaa.P
open Go.RowKit Go.Proofs.YtmiholmfbjalfaaW.PrintWords Go.Proofs.YtmiholmfbjalfaaW.PrintLast Go.Proofs.YtmiholmfbjalfaaW.PrintMore
attribute [local go_sem] max2_int min2_int max_two min_two max_three min_three max_four min_four
set_option linter.unusedVariables false
set_option linter.unusedSimpArgs false
set_option maxHeartbeats 2000000 in
theorem slices_IndexFunc_Class.callsF (A : Option Addr) (c : Nat) (l : List S87) (g : Nat) (lb : Array Value) (p : S87 → Bool) (w : World) (eg : ∀ args w,(callFunc g args).run Try.prog w = .ok (.enter g args) w)
  (hr : Kd.C k87 w A l.length l) (hc : l.length ≤ c) (hp : ∀ x,x ∈ l → ∀ W,Below w.heap.size w W → Calls Try.prog g (#[.agg #[.string x.f0,.int .i64 x.f1]] ++ lb) W fun e w'=>e = .returned (.bool (p x)) ∧ Below W.heap.size W w') :
  Calls Try.prog 85 #[.slice A l.length c,.func (.func g) #[] lb] w fun e w'=>e = .returned (.int .i64 (idxP p l)) ∧ Below w.heap.size w w':=by
 have HR:=a0_ hr
 have HP:=a0_ hp
 have hmax : l.length ≤ 9223372036854775807:=hr.2.1
 clear hr hp hc
 go_enter Try.func85,Try.ntmps85
 go_wp2
 go_loopg [5,8] l.length (fun gg _ s8 wr=>∃ kk : Nat,kk ≤ l.length ∧ l.length - kk ≤ gg ∧ s8 = .int .i64 kk ∧ Aside0 (Below w.heap.size w wr) ∧ Aside0 (∀ j (hj : j < l.length),j < kk → p l[j] = false))
 case atStart=>exact ⟨0,Nat.zero_le _,by omega,rfl,⟨Below.refl _ w⟩,⟨fun j _ hj=>absurd hj (Nat.not_lt_zero _)⟩⟩
 case round =>
  obtain ⟨kk,hkk,hg,rfl,BW,HA⟩:=hrel
  by_cases hlt : kk < l.length
  ·have hltz : (kk : Int) < (l.length : Int):=by omega
   obtain ⟨ad,ea,hx0,hx1⟩:=at_T87 HR.out (kk : Int) (by omega) (by omega)
   cases ea
   have hrd : rd_T87 l (kk : Int) = l[kk]:=by simp [rd_T87,hlt]
   rw [hrd] at hx0 hx1
   rw [Int.toNat_natCast] at hx0 hx1
   replace hx0:=(BW.out.cell (World.block_lt_of_cell? w _ hx0)).trans hx0
   replace hx1:=(BW.out.cell (World.block_lt_of_cell? w _ hx1)).trans hx1
   have hcall:=HP.out l[kk] (List.getElem_mem hlt) wr BW.out
   clear hrd
   generalize hy : l[kk] = y at hx0 hx1 hcall
   have B:=a0_ hy
   clear hy
   cases hq : p y with
   | true =>
    rw [hq] at hcall
    go_wp2_with (go_at_fn g;refine hcall.mono ?_;rintro e w' ⟨rfl,hb'⟩)
    go_ret
    refine ⟨?_,below_step BW.out hb'⟩
    rw [idxP_hit p l kk hlt (by rw [B.out];exact hq) HA.out];rfl
   | false =>
    rw [hq] at hcall
    go_wp2_with (go_at_fn g;refine hcall.mono ?_;rintro e w' ⟨rfl,hb'⟩)
    go_roundg (l.length - (kk + 1))
    case measure=>omega
    case rel =>
     refine ⟨kk + 1,by omega,by omega,by go_num,⟨below_step BW.out hb'⟩,⟨fun j hj hjk=>?_⟩⟩
     by_cases e : j = kk
     ·subst e
      rw [B.out];exact hq
     ·exact HA.out j hj (by omega)
  ·have hltz : ¬ (kk : Int) < (l.length : Int):=by omega
   have : kk = l.length:=by omega
   subst this
   go_wp2
   go_ret
   refine ⟨?_,BW.out⟩
   rw [idxP_miss p l (fun j hj=>HA.out j hj hj)];rfl
end Go.Proofs.Ytmiholmfbjalfaa.P
namespace Go.Proofs.Ytmiholmfbjalfaa.P
open Go.RowKit Go.Proofs.YtmiholmfbjalfaaW.PrintWords Go.Proofs.YtmiholmfbjalfaaW.PrintLast Go.Proofs.YtmiholmfbjalfaaW.PrintMore
attribute [local go_sem] max2_int min2_int max_two min_two max_three min_three max_four min_four
set_option linter.unusedVariables false
set_option linter.unusedSimpArgs false
theorem impl_Tree_named_1.callsF (B : Nat) (nm : ByteArray) (x : S87) (w : World) (hB : w.heap[B]? = some (.cells #[.string nm] 9 (0,0))) :
  Calls Try.prog 86 #[.agg #[.string x.f0,.int .i64 x.f1],.pointer (some ⟨B,0,none⟩)] w fun e w'=>e = .returned (.bool (x.f0.toList == nm.toList)) ∧ Below w.heap.size w w':=by
 have hc : w.cell? ⟨B,0,none⟩ = some (.string nm):=(blk_cell hB 0).trans rfl
 have hlt : B < w.heap.size:=(Array.getElem?_eq_some_iff.1 hB).1
 have hne : B ≠ w.heap.size:=by omega
 clear hB
 go_enter Try.func86,Try.ntmps86
 go_wp2
 all_goals (go_ret;exact ⟨by simp_all,(Below.refl _ w).alloc (Nat.le_refl _) _⟩)
end Go.Proofs.Ytmiholmfbjalfaa.P
namespace Go.Proofs.Ytmiholmfbjalfaa.P
open Go.RowKit Go.Proofs.YtmiholmfbjalfaaW.PrintWords Go.Proofs.YtmiholmfbjalfaaW.PrintLast Go.Proofs.YtmiholmfbjalfaaW.PrintMore
attribute [local go_sem] max2_int min2_int max_two min_two max_three min_three max_four min_four
set_option linter.unusedVariables false
set_option linter.unusedSimpArgs false
def impl_Tree_named.f (l0_0 : List (S87)) (a1 : ByteArray) : Option Int:=some (idxP (fun x : S87=>x.f0.toList == a1.toList) l0_0)
set_option maxHeartbeats 2000000 in
theorem impl_Tree_named.calls (A0_0 : Option Addr) (c0_0 : Nat) (l0_0 : List (S87)) (a1 : ByteArray) (r : Int) (w : World) (hr0_0 : Kd.C k87 w A0_0 l0_0.length l0_0) (hc0_0 : l0_0.length ≤ c0_0) (h : impl_Tree_named.f l0_0 a1 = some r) :
  Calls Try.prog 78 #[.agg #[.slice A0_0 l0_0.length c0_0],.string a1] w fun e w'=>e = .returned (.int .i64 r) ∧ Below w.heap.size w w':=by
 obtain rfl:=Option.some.inj h
 clear h
 have hu31:=Try.underlying25
 have eg : ∀ args w,(callFunc 86 args).run Try.prog w = .ok (.enter 86 args) w:=enters_of Try.func86 (by kernel_rfl) rfl
 have hcon:=fun (W : World) (hb : Below w.heap.size w W) (hB : W.heap[w.heap.size + 1]? = some (.cells #[.string a1] 9 (0,0)))=>slices_IndexFunc_Class.callsF A0_0 c0_0 l0_0 86 #[.pointer (some ⟨w.heap.size + 1,0,none⟩)] (fun x=>x.f0.toList == a1.toList) W eg (Kd.C_below hr0_0 hb) hc0_0 (fun x _ W' hW=>by
  have:=impl_Tree_named_1.callsF (w.heap.size + 1) a1 x W' (blk_keptB hB hW)
  simpa using this)
 clear hr0_0 hc0_0
 generalize idxP (fun x : S87=>x.f0.toList == a1.toList) l0_0 = r at hcon ⊢
 have HC:=a0_ hcon
 clear hcon
 go_enter Try.func78,Try.ntmps78
 go_wp2_with (go_at_call 85;refine (HC.out _ ?hb ?hB).mono ?_;(case hb=>exact below2 w _ _);(case hB=>exact heap_new2 w _ _);rintro e w' ⟨rfl,hb'⟩)
 go_ret
 exact ⟨rfl,(below2 w _ _).trans (hb'.mono (by simp;omega))⟩
end Go.Proofs.Ytmiholmfbjalfaa.P
namespace Go.Proofs.Ytmiholmfbjalfaa.P
open Go.RowKit Go.Proofs.YtmiholmfbjalfaaW.PrintWords Go.Proofs.YtmiholmfbjalfaaW.PrintLast Go.Proofs.YtmiholmfbjalfaaW.PrintMore
attribute [local go_sem] max2_int min2_int max_two min_two max_three min_three max_four min_four
set_option linter.unusedVariables false
set_option linter.unusedSimpArgs false
def impl_ValidTree.f (l0_0 : List (S87)) : Option Bool:=if smT l0_0 = true then some (vT l0_0) else none
set_option maxHeartbeats 4000000 in
set_option maxRecDepth 100000 in
theorem impl_ValidTree.calls (A0_0 : Option Addr) (c0_0 : Nat) (l0_0 : List (S87)) (r : Bool) (w : World) (hr0_0 : Kd.C k87 w A0_0 l0_0.length l0_0) (hc0_0 : l0_0.length ≤ c0_0) (h : impl_ValidTree.f l0_0 = some r) :
  Calls Try.prog 59 #[.agg #[.slice A0_0 l0_0.length c0_0]] w fun e w'=>e = .returned (.bool r) ∧ Below w.heap.size w w':=by
 have hu31:=Try.underlying25
 have hsm : smT l0_0 = true:=by
  apply Classical.byContradiction
  intro hn
  rw [impl_ValidTree.f,if_neg hn] at h
  cases h
 rw [impl_ValidTree.f,if_pos hsm] at h
 have HRr:=a0_ (Option.some.inj h)
 have HSM:=a0_ hsm
 have HR:=a0_ hr0_0
 have hmax : l0_0.length ≤ 9223372036854775807:=hr0_0.2.1
 clear h hsm hr0_0
 go_enter Try.func59,Try.ntmps59
 go_wp2
 go_loopg [8] l0_0.length (fun gg s8 wr=>∃ kk : Nat,kk ≤ l0_0.length ∧ l0_0.length - kk ≤ gg ∧ s8 = .int .i64 kk ∧ Aside0 (Below w.heap.size w wr) ∧ Aside0 (wr.heap[w.heap.size]? = some (.cells #[.slice A0_0 l0_0.length c0_0] 25 (0,0))) ∧ Aside0 (∀ j,j < kk → okCls l0_0 j (l0_0.getD j z87) = true))
 case atStart=>exact ⟨0,Nat.zero_le _,by omega,rfl,⟨below1 w _⟩,⟨heap_new1 w _⟩,⟨fun j hj=>absurd hj (Nat.not_lt_zero _)⟩⟩
 case round =>
  obtain ⟨kk,hkk,hg,rfl,BW,BK,HA⟩:=hrel
  have hcz : wr.cell? ⟨w.heap.size,0,none⟩ = some (.slice A0_0 l0_0.length c0_0):=(blk_cell BK.out 0).trans rfl
  by_cases hlt : kk < l0_0.length
  ·have hltz : (kk : Int) < (l0_0.length : Int):=by omega
   obtain ⟨ad,ea,hx0,hx1⟩:=at_T87 HR.out (kk : Int) (by omega) (by omega)
   cases ea
   have hrd : rd_T87 l0_0 (kk : Int) = l0_0[kk]:=by simp [rd_T87,hlt]
   rw [hrd] at hx0 hx1
   rw [Int.toNat_natCast] at hx0 hx1
   replace hx0:=(BW.out.cell (World.block_lt_of_cell? w _ hx0)).trans hx0
   replace hx1:=(BW.out.cell (World.block_lt_of_cell? w _ hx1)).trans hx1
   clear hrd
   generalize hy : l0_0[kk] = y at hx0 hx1
   have B:=a0_ hy
   clear hy
   go_upto_region 4 with (fail)
   have hW1:=a0_ (below_alloc BW.out (.cells #[.string y.f0,.int .i64 y.f1] 87))
   have hW2:=a0_ (blk_alloc BK.out (.cells #[.string y.f0,.int .i64 y.f1] 87))
   have hW3:=(blk_cell hW2.out 0).trans rfl
   have hW4:=(blk_cell (heap_new1 wr (.cells #[.string y.f0,.int .i64 y.f1] 87)) 0).trans rfl
   have hW5:=(blk_cell (heap_new1 wr (.cells #[.string y.f0,.int .i64 y.f1] 87)) 1).trans rfl
   clear hcz hx0 hx1 BW BK
   generalize wr.alloc (.cells #[.string y.f0,.int .i64 y.f1] 87) = W1 at hW1 hW2 hW3 hW4 hW5 ⊢
   generalize wr.heap.size = gb at hW4 hW5 ⊢
   have hy1 : y.f0.size ≤ 9223372036854775806:=by rw [← B.out];exact smT_at HSM.out kk hlt
   have A1:=a0_ (impl_nameOk_ev y.f0 (by omega))
   have hcn0:=fun (W : World) (hW : Below w.heap.size w W)=>impl_Tree_named.calls (some ad) c0_0 l0_0 y.f0 (named l0_0 y.f0) W (Kd.C_below HR.out hW) hc0_0 rfl
   have hok : okCls l0_0 kk (l0_0.getD kk z87) = okCls l0_0 kk y:=by
    rw [← B.out];simp [List.getD,hlt]
   have hdef : okCls l0_0 kk y = (okName y.f0 && (decide (named l0_0 y.f0 = (kk : Int)) && (if kk = 0 then decide (y.f1 = -1) else decide (0 ≤ y.f1) && decide (y.f1 ≤ (kk : Int) - 1)))):=rfl
   generalize named l0_0 y.f0 = nn at hcn0 hdef
   have HCN:=a0_ hcn0
   have HOK:=a0_ hok
   have HDF:=a0_ hdef
   clear hcn0 hok hdef hy1
   go_cut [45] (fun v45 wc=>v45 = .bool (!okCls l0_0 kk y) ∧ Aside0 (Below w.heap.size w wc) ∧ Aside0 (wc.heap[w.heap.size]? = some (.cells #[.slice (some ad) l0_0.length c0_0] 25 (0,0))))
   case first =>
    have hw1 : IntKind.i64.wrap ((kk : Int) - 1) = (kk : Int) - 1:=by rw [IntKind.wrap_i64];omega
    have A2:=a0_ (show impl_within.f y.f1 0 ((kk : Int) - 1) = some (decide (0 ≤ y.f1) && decide (y.f1 ≤ (kk : Int) - 1)) by
     unfold impl_within.f
     by_cases h0 : 0 ≤ y.f1
     ·rw [if_pos h0];simp [h0]
     ·rw [if_neg h0];simp [h0])
    cases hb1 : okName y.f0 with
    | false =>
     rw [hb1] at A1
     have BV : okCls l0_0 kk y = false:=by rw [HDF.out,hb1];rfl
     clear HDF HOK
     go_wp2_with (first
     | (go_at_call 77;(with_reducible refine (impl_nameOk.calls _ y.f0 _ _ A1.out).mono ?_);rintro e w' ⟨rfl,hd⟩;have hb:=drawn_below hd;replace hW3:=pw_cell_below hb hW3;replace hW4:=pw_cell_below hb hW4;replace hW5:=pw_cell_below hb hW5;replace hW1:=a0_ (below_step hW1.out hb);replace hW2:=a0_ (blk_keptB hW2.out hb);clear hb hd)
     | (go_at_call 78;(with_reducible refine (HCN.out _ hW1.out).mono ?_);rintro e w' ⟨rfl,hb⟩;replace hW3:=pw_cell_below hb hW3;replace hW4:=pw_cell_below hb hW4;replace hW5:=pw_cell_below hb hW5;replace hW1:=a0_ (below_step hW1.out hb);replace hW2:=a0_ (blk_keptB hW2.out hb);clear hb)
     | (go_at_call 75;(with_reducible refine (impl_within.calls y.f1 0 ((kk : Int) - 1) _ _ A2.out).mono ?_);rintro e w' ⟨rfl,hd⟩;have hb:=drawn_below hd;replace hW3:=pw_cell_below hb hW3;replace hW4:=pw_cell_below hb hW4;replace hW5:=pw_cell_below hb hW5;replace hW1:=a0_ (below_step hW1.out hb);replace hW2:=a0_ (blk_keptB hW2.out hb);clear hb hd))
     go_meet
     case rel=>exact ⟨by (rw [BV]);first | rfl | (simp [*];done),⟨hW1.out⟩,⟨hW2.out⟩⟩
    | true =>
     rw [hb1] at A1
     by_cases hb2 : nn ≠ (kk : Int)
     ·have BV : okCls l0_0 kk y = false:=by rw [HDF.out,hb1,decide_eq_false hb2];rfl
      have d2 : (nn != (kk : Int)) = true:=bne_iff_ne.2 hb2
      have d2' : (nn == (kk : Int)) = false:=beq_eq_false_iff_ne.2 hb2
      clear HDF HOK hb2
      go_wp2_with (first
     | (go_at_call 77;(with_reducible refine (impl_nameOk.calls _ y.f0 _ _ A1.out).mono ?_);rintro e w' ⟨rfl,hd⟩;have hb:=drawn_below hd;replace hW3:=pw_cell_below hb hW3;replace hW4:=pw_cell_below hb hW4;replace hW5:=pw_cell_below hb hW5;replace hW1:=a0_ (below_step hW1.out hb);replace hW2:=a0_ (blk_keptB hW2.out hb);clear hb hd)
     | (go_at_call 78;(with_reducible refine (HCN.out _ hW1.out).mono ?_);rintro e w' ⟨rfl,hb⟩;replace hW3:=pw_cell_below hb hW3;replace hW4:=pw_cell_below hb hW4;replace hW5:=pw_cell_below hb hW5;replace hW1:=a0_ (below_step hW1.out hb);replace hW2:=a0_ (blk_keptB hW2.out hb);clear hb)
     | (go_at_call 75;(with_reducible refine (impl_within.calls y.f1 0 ((kk : Int) - 1) _ _ A2.out).mono ?_);rintro e w' ⟨rfl,hd⟩;have hb:=drawn_below hd;replace hW3:=pw_cell_below hb hW3;replace hW4:=pw_cell_below hb hW4;replace hW5:=pw_cell_below hb hW5;replace hW1:=a0_ (below_step hW1.out hb);replace hW2:=a0_ (blk_keptB hW2.out hb);clear hb hd))
      go_meet
      case rel=>exact ⟨by (rw [BV]);first | rfl | (simp [*];done),⟨hW1.out⟩,⟨hW2.out⟩⟩
     ·have hnm : nn = (kk : Int):=Classical.byContradiction fun hn=>hb2 hn
      have d2 : (nn != (kk : Int)) = false:=bne_eq_false_iff_eq.2 hnm
      have d2' : (nn == (kk : Int)) = true:=beq_iff_eq.2 hnm
      have BV0 : okCls l0_0 kk y = (if kk = 0 then decide (y.f1 = -1) else decide (0 ≤ y.f1) && decide (y.f1 ≤ (kk : Int) - 1)):=by rw [HDF.out,hb1,decide_eq_true hnm];rfl
      clear HDF HOK hb2 hnm
      by_cases hk0 : kk = 0
      ·have BV : okCls l0_0 kk y = decide (y.f1 = -1):=by rw [BV0,if_pos hk0]
       have e0 : ((kk : Int) == 0) = true:=beq_iff_eq.2 (by omega)
       have e1 : decide (0 < (kk : Int)) = false:=decide_eq_false (by omega)
       have e1n : decide (0 < kk) = false:=decide_eq_false (by omega)
       clear BV0
       by_cases hp : y.f1 = -1
       ·have e2 : (y.f1 != -1) = false:=by rw [hp];rfl
        have e3 : (y.f1 == -1) = true:=by rw [hp];rfl
        rw [decide_eq_true hp] at BV
        clear hp hk0
        go_wp2_with (first
     | (go_at_call 77;(with_reducible refine (impl_nameOk.calls _ y.f0 _ _ A1.out).mono ?_);rintro e w' ⟨rfl,hd⟩;have hb:=drawn_below hd;replace hW3:=pw_cell_below hb hW3;replace hW4:=pw_cell_below hb hW4;replace hW5:=pw_cell_below hb hW5;replace hW1:=a0_ (below_step hW1.out hb);replace hW2:=a0_ (blk_keptB hW2.out hb);clear hb hd)
     | (go_at_call 78;(with_reducible refine (HCN.out _ hW1.out).mono ?_);rintro e w' ⟨rfl,hb⟩;replace hW3:=pw_cell_below hb hW3;replace hW4:=pw_cell_below hb hW4;replace hW5:=pw_cell_below hb hW5;replace hW1:=a0_ (below_step hW1.out hb);replace hW2:=a0_ (blk_keptB hW2.out hb);clear hb)
     | (go_at_call 75;(with_reducible refine (impl_within.calls y.f1 0 ((kk : Int) - 1) _ _ A2.out).mono ?_);rintro e w' ⟨rfl,hd⟩;have hb:=drawn_below hd;replace hW3:=pw_cell_below hb hW3;replace hW4:=pw_cell_below hb hW4;replace hW5:=pw_cell_below hb hW5;replace hW1:=a0_ (below_step hW1.out hb);replace hW2:=a0_ (blk_keptB hW2.out hb);clear hb hd))
        go_meet
        case rel=>exact ⟨by (rw [BV]);first | rfl | (simp [*];done),⟨hW1.out⟩,⟨hW2.out⟩⟩
       ·have e2 : (y.f1 != -1) = true:=bne_iff_ne.2 hp
        have e3 : (y.f1 == -1) = false:=beq_eq_false_iff_ne.2 hp
        rw [decide_eq_false hp] at BV
        clear hp hk0
        go_wp2_with (first
     | (go_at_call 77;(with_reducible refine (impl_nameOk.calls _ y.f0 _ _ A1.out).mono ?_);rintro e w' ⟨rfl,hd⟩;have hb:=drawn_below hd;replace hW3:=pw_cell_below hb hW3;replace hW4:=pw_cell_below hb hW4;replace hW5:=pw_cell_below hb hW5;replace hW1:=a0_ (below_step hW1.out hb);replace hW2:=a0_ (blk_keptB hW2.out hb);clear hb hd)
     | (go_at_call 78;(with_reducible refine (HCN.out _ hW1.out).mono ?_);rintro e w' ⟨rfl,hb⟩;replace hW3:=pw_cell_below hb hW3;replace hW4:=pw_cell_below hb hW4;replace hW5:=pw_cell_below hb hW5;replace hW1:=a0_ (below_step hW1.out hb);replace hW2:=a0_ (blk_keptB hW2.out hb);clear hb)
     | (go_at_call 75;(with_reducible refine (impl_within.calls y.f1 0 ((kk : Int) - 1) _ _ A2.out).mono ?_);rintro e w' ⟨rfl,hd⟩;have hb:=drawn_below hd;replace hW3:=pw_cell_below hb hW3;replace hW4:=pw_cell_below hb hW4;replace hW5:=pw_cell_below hb hW5;replace hW1:=a0_ (below_step hW1.out hb);replace hW2:=a0_ (blk_keptB hW2.out hb);clear hb hd))
        go_meet
        case rel=>exact ⟨by (rw [BV]);first | rfl | (simp [*];done),⟨hW1.out⟩,⟨hW2.out⟩⟩
      ·have BV : okCls l0_0 kk y = (decide (0 ≤ y.f1) && decide (y.f1 ≤ (kk : Int) - 1)):=by rw [BV0,if_neg hk0]
       have e0 : ((kk : Int) == 0) = false:=beq_eq_false_iff_ne.2 (by omega)
       have e1 : decide (0 < (kk : Int)) = true:=decide_eq_true (by omega)
       have e1n : decide (0 < kk) = true:=decide_eq_true (by omega)
       rw [← BV] at A2
       clear BV BV0 hk0
       cases BV : okCls l0_0 kk y with
       | false =>
        rw [BV] at A2
        go_wp2_with (first
     | (go_at_call 77;(with_reducible refine (impl_nameOk.calls _ y.f0 _ _ A1.out).mono ?_);rintro e w' ⟨rfl,hd⟩;have hb:=drawn_below hd;replace hW3:=pw_cell_below hb hW3;replace hW4:=pw_cell_below hb hW4;replace hW5:=pw_cell_below hb hW5;replace hW1:=a0_ (below_step hW1.out hb);replace hW2:=a0_ (blk_keptB hW2.out hb);clear hb hd)
     | (go_at_call 78;(with_reducible refine (HCN.out _ hW1.out).mono ?_);rintro e w' ⟨rfl,hb⟩;replace hW3:=pw_cell_below hb hW3;replace hW4:=pw_cell_below hb hW4;replace hW5:=pw_cell_below hb hW5;replace hW1:=a0_ (below_step hW1.out hb);replace hW2:=a0_ (blk_keptB hW2.out hb);clear hb)
     | (go_at_call 75;(with_reducible refine (impl_within.calls y.f1 0 ((kk : Int) - 1) _ _ A2.out).mono ?_);rintro e w' ⟨rfl,hd⟩;have hb:=drawn_below hd;replace hW3:=pw_cell_below hb hW3;replace hW4:=pw_cell_below hb hW4;replace hW5:=pw_cell_below hb hW5;replace hW1:=a0_ (below_step hW1.out hb);replace hW2:=a0_ (blk_keptB hW2.out hb);clear hb hd))
        go_meet
        case rel=>exact ⟨by (rw [BV]);first | rfl | (simp [*];done),⟨hW1.out⟩,⟨hW2.out⟩⟩
       | true =>
        rw [BV] at A2
        go_wp2_with (first
     | (go_at_call 77;(with_reducible refine (impl_nameOk.calls _ y.f0 _ _ A1.out).mono ?_);rintro e w' ⟨rfl,hd⟩;have hb:=drawn_below hd;replace hW3:=pw_cell_below hb hW3;replace hW4:=pw_cell_below hb hW4;replace hW5:=pw_cell_below hb hW5;replace hW1:=a0_ (below_step hW1.out hb);replace hW2:=a0_ (blk_keptB hW2.out hb);clear hb hd)
     | (go_at_call 78;(with_reducible refine (HCN.out _ hW1.out).mono ?_);rintro e w' ⟨rfl,hb⟩;replace hW3:=pw_cell_below hb hW3;replace hW4:=pw_cell_below hb hW4;replace hW5:=pw_cell_below hb hW5;replace hW1:=a0_ (below_step hW1.out hb);replace hW2:=a0_ (blk_keptB hW2.out hb);clear hb)
     | (go_at_call 75;(with_reducible refine (impl_within.calls y.f1 0 ((kk : Int) - 1) _ _ A2.out).mono ?_);rintro e w' ⟨rfl,hd⟩;have hb:=drawn_below hd;replace hW3:=pw_cell_below hb hW3;replace hW4:=pw_cell_below hb hW4;replace hW5:=pw_cell_below hb hW5;replace hW1:=a0_ (below_step hW1.out hb);replace hW2:=a0_ (blk_keptB hW2.out hb);clear hb hd))
        go_meet
        case rel=>exact ⟨by (rw [BV]);first | rfl | (simp [*];done),⟨hW1.out⟩,⟨hW2.out⟩⟩
   case rest =>
    obtain ⟨rfl,hW,hK⟩:=hcut
    have hb:=HOK.out
    cases BV : okCls l0_0 kk y with
    | false =>
     go_wp2
     go_ret
     refine ⟨?_,hW.out⟩
     rw [← HRr.out]
     have : vT l0_0 = false:=by
      cases hv : vT l0_0 with
      | false=>rfl
      | true=>have:=vT_at hv kk hlt;rw [HOK.out,BV] at this;cases this
     rw [this];rfl
    | true =>
     go_wp2
     go_roundg (l0_0.length - (kk + 1))
     case measure=>omega
     case rel =>
      refine ⟨kk + 1,by omega,by omega,by go_num,⟨hW.out⟩,⟨hK.out⟩,⟨fun j hj=>?_⟩⟩
      by_cases e : j = kk
      ·subst e;rw [HOK.out,BV]
      ·exact HA.out j (by omega)
  ·have hltz : ¬ (kk : Int) < (l0_0.length : Int):=by omega
   have : kk = l0_0.length:=by omega
   subst this
   have A3:=a0_ (show impl_within.f (l0_0.length : Int) 1 8 = some (vT l0_0) by
    have hall : (List.range l0_0.length).all (fun i=>okCls l0_0 i (l0_0.getD i z87)) = true:=by
     rw [List.all_eq_true];intro i hi;exact HA.out i (by simpa using hi)
    unfold impl_within.f vT
    rw [hall]
    by_cases h1 : (1 : Int) ≤ l0_0.length
    ·rw [if_pos h1]
     have h1' : 1 ≤ l0_0.length:=by omega
     by_cases h8 : l0_0.length ≤ 8
     ·simp [h1',h8];omega
     ·simp [h8];omega
    ·rw [if_neg h1]
     have h1' : ¬ 1 ≤ l0_0.length:=by omega
     simp [h1'])
   rw [HRr.out] at A3
   go_wp2_with (go_at_call 75;(with_reducible refine (impl_within.calls (l0_0.length : Int) 1 8 _ _ A3.out).mono ?_);rintro e w' ⟨rfl,⟨nd,rfl⟩⟩)
   go_ret
   exact ⟨rfl,pw_below_drewN BW.out _⟩
end Go.Proofs.Ytmiholmfbjalfaa.P
namespace Go.Proofs.Ytmiholmfbjalfaa.P
open Go.RowKit Go.Proofs.YtmiholmfbjalfaaW.PrintWords Go.Proofs.YtmiholmfbjalfaaW.PrintLast Go.Proofs.YtmiholmfbjalfaaW.PrintMore
attribute [local go_sem] max2_int min2_int max_two min_two max_three min_three max_four min_four
set_option linter.unusedVariables false
set_option linter.unusedSimpArgs false
def impl_ValidHeap.f (l0_0 : List Cls) (l1_0 : List Fau) : Option Bool:=if smT l0_0 = true ∧ l1_0.length ≤ 2097152 then some (vH l0_0 l1_0) else none
set_option maxHeartbeats 4000000 in
set_option maxRecDepth 100000 in
theorem impl_ValidHeap.calls (A0_0 : Option Addr) (c0_0 : Nat) (l0_0 : List (S87)) (A1_0 : Option Addr) (c1_0 : Nat) (l1_0 : List (S43)) (r : Bool) (w : World) (hr0_0 : Kd.C k87 w A0_0 l0_0.length l0_0) (hc0_0 : l0_0.length ≤ c0_0) (hr1_0 : Kd.C k43 w A1_0 l1_0.length l1_0) (hc1_0 : l1_0.length ≤ c1_0) (h : impl_ValidHeap.f l0_0 l1_0 = some r) :
  Calls Try.prog 30 #[.agg #[.slice A0_0 l0_0.length c0_0],.agg #[.slice A1_0 l1_0.length c1_0]] w fun e w'=>e = .returned (.bool r) ∧ Below w.heap.size w w':=by
 have hu31:=Try.underlying25
 have hu37:=Try.underlying28
 have hu79:=Try.underlying43
 have hsm : smT l0_0 = true ∧ l1_0.length ≤ 2097152:=by
  apply Classical.byContradiction
  intro hn
  rw [impl_ValidHeap.f,if_neg hn] at h
  cases h
 rw [impl_ValidHeap.f,if_pos hsm] at h
 have HR:=a0_ (Option.some.inj h)
 have hlm:=hsm.2
 have HV:=a0_ (fun (W : World) (hb : Below w.heap.size w W)=>impl_ValidTree.calls A0_0 c0_0 l0_0 (vT l0_0) W (Kd.C_below hr0_0 hb) hc0_0 (by rw [impl_ValidTree.f,if_pos hsm.1]))
 have HH:=a0_ (fun (a : Int) (W : World) (hb : Below w.heap.size w W)=>impl_Tree_has.calls A0_0 c0_0 l0_0 a (hasC l0_0 a) W (Kd.C_below hr0_0 hb) hc0_0 (impl_Tree_has_ev l0_0 a hr0_0.2.1))
 have HL:=a0_ (fun (f u : Int) (W : World) (hb : Below w.heap.size w W) (hB : W.heap[w.heap.size + 1]? = some (.cells #[.slice A1_0 l1_0.length c1_0] 28 (0,0)))=>impl_ValidHeap_1.callsF (w.heap.size + 1) A1_0 c1_0 l1_0 f u W hc1_0 hB (Kd.C_below hr1_0 hb))
 have HX:=a0_ (fun (hf : fsH l0_0 l1_0 = true) (f : Int) (h1 : f < (l1_0.length : Int)) (W : World) (hb : Below w.heap.size w W)=>impl_Heap_contexts.callsF A1_0 c1_0 l1_0 f W h1 hsm.2 (fun x h0 h1=>(fsH_ctx hf x h0 h1).2) (Kd.C_below hr1_0 hb))
 have eg : ∀ args w,(callFunc 56 args).run Try.prog w = .ok (.enter 56 args) w:=enters_of Try.func56 (by kernel_rfl) rfl
 have HRD:=a0_ hr1_0
 have HC1:=a0_ hc1_0
 clear h hsm hr0_0 hr1_0
 have BK1:=a0_ (heap_old2 w (.cells #[.slice A0_0 l0_0.length c0_0] 25) (.cells #[.slice A1_0 l1_0.length c1_0] 28))
 have BK2:=a0_ (heap_new2 w (.cells #[.slice A0_0 l0_0.length c0_0] 25) (.cells #[.slice A1_0 l1_0.length c1_0] 28))
 have HB:=a0_ (below2 w (.cells #[.slice A0_0 l0_0.length c0_0] 25) (.cells #[.slice A1_0 l1_0.length c1_0] 28))
 have hcell:=(blk_cell BK1.out 0).trans rfl
 have hcell2:=(blk_cell BK2.out 0).trans rfl
 go_enter Try.func30,Try.ntmps30
 go_wp2
 clear hcell hcell2
 go_loopg [14] l1_0.length (fun gg s14 wr=>∃ kk : Nat,kk ≤ l1_0.length ∧ l1_0.length - kk ≤ gg ∧ s14 = .int .i64 kk ∧ Aside0 (Below w.heap.size w wr) ∧ Aside0 (wr.heap[w.heap.size]? = some (.cells #[.slice A0_0 l0_0.length c0_0] 25 (0,0))) ∧ Aside0 (wr.heap[w.heap.size + 1]? = some (.cells #[.slice A1_0 l1_0.length c1_0] 28 (0,0))) ∧ Aside0 (∀ j,j < kk → okF l0_0 l1_0 j (l1_0.getD j z43) = true))
 case atStart=>exact ⟨0,Nat.zero_le _,by omega,rfl,HB,BK1,BK2,⟨fun j hj=>absurd hj (Nat.not_lt_zero _)⟩⟩
 case round =>
  clear HB BK1 BK2
  obtain ⟨kk,hkk,hg,rfl,HB,BK1,BK2,HA⟩:=hrel
  by_cases hlt : kk < l1_0.length
  ·have hltz : (kk : Int) < (l1_0.length : Int):=by omega
   obtain ⟨ad,ea,hx0,hx1,hx2,hx3,hx4⟩:=at_T43 HRD.out (kk : Int) (by omega) (by omega)
   cases ea
   have hrd : rd_T43 l1_0 (kk : Int) = l1_0.getD kk z43:=by simp [rd_T43]
   rw [hrd] at hx0 hx1 hx2 hx3 hx4
   rw [Int.toNat_natCast] at hx0 hx1 hx2 hx3 hx4
   replace hx0:=(HB.out.cell (World.block_lt_of_cell? w _ hx0)).trans hx0
   replace hx1:=(HB.out.cell (World.block_lt_of_cell? w _ hx1)).trans hx1
   replace hx2:=(HB.out.cell (World.block_lt_of_cell? w _ hx2)).trans hx2
   replace hx3:=(HB.out.cell (World.block_lt_of_cell? w _ hx3)).trans hx3
   replace hx4:=(HB.out.cell (World.block_lt_of_cell? w _ hx4)).trans hx4
   clear hrd
   have hdf : okF l0_0 l1_0 kk (l1_0.getD kk z43) = (hasC l0_0 (l1_0.getD kk z43).f0 && ((decide (0 ≤ (l1_0.getD kk z43).f1) && decide ((l1_0.getD kk z43).f1 ≤ 99)) && (lnkB l1_0 (kk : Int) (l1_0.getD kk z43).f2 && lnkB l1_0 (kk : Int) (l1_0.getD kk z43).f3))):=rfl
   have hrf : ∀ b,okF l0_0 l1_0 kk (l1_0.getD kk z43) = b → b = false → vH l0_0 l1_0 = false:=fun b e1 e2=>by unfold vH fsH;rw [all_false hlt (e1.trans e2)];rfl
   generalize hy : l1_0.getD kk z43 = y at hx0 hx1 hx2 hx3 hx4 hdf hrf
   have NB:=a0_ hy
   clear hy
   obtain ⟨y0,y1,y2,y3,y4⟩:=y
   go_upto_region 5 with (fail)
   have HB1:=a0_ (below_alloc HB.out (.cells #[.int .i64 y0,.int .i64 y1,.int .i64 y2,.int .i64 y3,.bool y4] 43))
   have BKA:=a0_ (blk_alloc BK1.out (.cells #[.int .i64 y0,.int .i64 y1,.int .i64 y2,.int .i64 y3,.bool y4] 43))
   have BKB:=a0_ (blk_alloc BK2.out (.cells #[.int .i64 y0,.int .i64 y1,.int .i64 y2,.int .i64 y3,.bool y4] 43))
   have BY:=a0_ (heap_new1 wr (.cells #[.int .i64 y0,.int .i64 y1,.int .i64 y2,.int .i64 y3,.bool y4] 43))
   clear HB BK1 BK2 hx0 hx1 hx2 hx3 hx4
   generalize wr.alloc (.cells #[.int .i64 y0,.int .i64 y1,.int .i64 y2,.int .i64 y3,.bool y4] 43) = W1 at HB1 BKA BKB BY ⊢
   generalize wr.heap.size = gb at BY ⊢
   have HB:=HB1
   have BK1:=BKA
   have BK2:=BKB
   clear HB1 BKA BKB
   have hcell:=(blk_cell BK1.out 0).trans rfl
   have hx0:=(blk_cell BY.out 0).trans rfl
   have hx1:=(blk_cell BY.out 1).trans rfl
   have hx2:=(blk_cell BY.out 2).trans rfl
   have hx3:=(blk_cell BY.out 3).trans rfl
   replace HH:=a0_ (fun (_ : Unit)=>HH.out y0)
   have HC:=a0_ (impl_codeOk_ev y1)
   have HL2:=a0_ (HL.out (kk : Int) y2)
   have HL3:=a0_ (HL.out (kk : Int) y3)
   simp only at hdf
   generalize hasC l0_0 y0 = q1 at HH hdf
   generalize (decide (0 ≤ y1) && decide (y1 ≤ 99)) = q2 at HC hdf
   generalize lnkB l1_0 (kk : Int) y2 = q3 at HL2 hdf
   generalize lnkB l1_0 (kk : Int) y3 = q4 at HL3 hdf
   cases q1 with
   | false =>
    have HRF:=a0_ (hrf _ hdf rfl)
    clear hdf hrf HV HX
    go_wp2_with (first | (go_at_call 57;(with_reducible refine (HH.out () _ HB.out).mono ?_);rintro e w' ⟨rfl,hb'⟩;replace BK1:=a0_ (blk_keptB BK1.out hb');replace BK2:=a0_ (blk_keptB BK2.out hb');replace BY:=a0_ (blk_keptB BY.out hb');replace HB:=a0_ (below_step HB.out hb');clear hb';have hx0:=(blk_cell BY.out 0).trans rfl;have hx1:=(blk_cell BY.out 1).trans rfl;have hx2:=(blk_cell BY.out 2).trans rfl;have hx3:=(blk_cell BY.out 3).trans rfl) | (go_at_call 58;(with_reducible refine (impl_codeOk.calls _ _ _ HC.out).mono ?_);rintro e w' ⟨rfl,hd'⟩;have hb':=hd'.below;replace BK1:=a0_ (blk_keptB BK1.out hb');replace BK2:=a0_ (blk_keptB BK2.out hb');replace BY:=a0_ (blk_keptB BY.out hb');replace HB:=a0_ (below_step HB.out hb');clear hb' hd';have hx0:=(blk_cell BY.out 0).trans rfl;have hx1:=(blk_cell BY.out 1).trans rfl;have hx2:=(blk_cell BY.out 2).trans rfl;have hx3:=(blk_cell BY.out 3).trans rfl) | (go_at_fn 56;(with_reducible refine (HL2.out _ HB.out BK2.out).mono ?_);rintro e w' ⟨rfl,hb'⟩;replace BK1:=a0_ (blk_keptB BK1.out hb');replace BK2:=a0_ (blk_keptB BK2.out hb');replace BY:=a0_ (blk_keptB BY.out hb');replace HB:=a0_ (below_step HB.out hb');clear hb';have hx0:=(blk_cell BY.out 0).trans rfl;have hx1:=(blk_cell BY.out 1).trans rfl;have hx2:=(blk_cell BY.out 2).trans rfl;have hx3:=(blk_cell BY.out 3).trans rfl) | (go_at_fn 56;(with_reducible refine (HL3.out _ HB.out BK2.out).mono ?_);rintro e w' ⟨rfl,hb'⟩;replace BK1:=a0_ (blk_keptB BK1.out hb');replace BK2:=a0_ (blk_keptB BK2.out hb');replace BY:=a0_ (blk_keptB BY.out hb');replace HB:=a0_ (below_step HB.out hb');clear hb';have hx0:=(blk_cell BY.out 0).trans rfl;have hx1:=(blk_cell BY.out 1).trans rfl;have hx2:=(blk_cell BY.out 2).trans rfl;have hx3:=(blk_cell BY.out 3).trans rfl))
    go_ret
    exact ⟨by rw [← HR.out,HRF.out];rfl,HB.out⟩
   | true =>
    cases q2 with
    | false =>
     have HRF:=a0_ (hrf _ hdf rfl)
     clear hdf hrf HV HX
     go_wp2_with (first | (go_at_call 57;(with_reducible refine (HH.out () _ HB.out).mono ?_);rintro e w' ⟨rfl,hb'⟩;replace BK1:=a0_ (blk_keptB BK1.out hb');replace BK2:=a0_ (blk_keptB BK2.out hb');replace BY:=a0_ (blk_keptB BY.out hb');replace HB:=a0_ (below_step HB.out hb');clear hb';have hx0:=(blk_cell BY.out 0).trans rfl;have hx1:=(blk_cell BY.out 1).trans rfl;have hx2:=(blk_cell BY.out 2).trans rfl;have hx3:=(blk_cell BY.out 3).trans rfl) | (go_at_call 58;(with_reducible refine (impl_codeOk.calls _ _ _ HC.out).mono ?_);rintro e w' ⟨rfl,hd'⟩;have hb':=hd'.below;replace BK1:=a0_ (blk_keptB BK1.out hb');replace BK2:=a0_ (blk_keptB BK2.out hb');replace BY:=a0_ (blk_keptB BY.out hb');replace HB:=a0_ (below_step HB.out hb');clear hb' hd';have hx0:=(blk_cell BY.out 0).trans rfl;have hx1:=(blk_cell BY.out 1).trans rfl;have hx2:=(blk_cell BY.out 2).trans rfl;have hx3:=(blk_cell BY.out 3).trans rfl) | (go_at_fn 56;(with_reducible refine (HL2.out _ HB.out BK2.out).mono ?_);rintro e w' ⟨rfl,hb'⟩;replace BK1:=a0_ (blk_keptB BK1.out hb');replace BK2:=a0_ (blk_keptB BK2.out hb');replace BY:=a0_ (blk_keptB BY.out hb');replace HB:=a0_ (below_step HB.out hb');clear hb';have hx0:=(blk_cell BY.out 0).trans rfl;have hx1:=(blk_cell BY.out 1).trans rfl;have hx2:=(blk_cell BY.out 2).trans rfl;have hx3:=(blk_cell BY.out 3).trans rfl) | (go_at_fn 56;(with_reducible refine (HL3.out _ HB.out BK2.out).mono ?_);rintro e w' ⟨rfl,hb'⟩;replace BK1:=a0_ (blk_keptB BK1.out hb');replace BK2:=a0_ (blk_keptB BK2.out hb');replace BY:=a0_ (blk_keptB BY.out hb');replace HB:=a0_ (below_step HB.out hb');clear hb';have hx0:=(blk_cell BY.out 0).trans rfl;have hx1:=(blk_cell BY.out 1).trans rfl;have hx2:=(blk_cell BY.out 2).trans rfl;have hx3:=(blk_cell BY.out 3).trans rfl))
     go_ret
     exact ⟨by rw [← HR.out,HRF.out];rfl,HB.out⟩
    | true =>
     cases q3 with
     | false =>
      have HRF:=a0_ (hrf _ hdf rfl)
      clear hdf hrf HV HX
      go_wp2_with (first | (go_at_call 57;(with_reducible refine (HH.out () _ HB.out).mono ?_);rintro e w' ⟨rfl,hb'⟩;replace BK1:=a0_ (blk_keptB BK1.out hb');replace BK2:=a0_ (blk_keptB BK2.out hb');replace BY:=a0_ (blk_keptB BY.out hb');replace HB:=a0_ (below_step HB.out hb');clear hb';have hx0:=(blk_cell BY.out 0).trans rfl;have hx1:=(blk_cell BY.out 1).trans rfl;have hx2:=(blk_cell BY.out 2).trans rfl;have hx3:=(blk_cell BY.out 3).trans rfl) | (go_at_call 58;(with_reducible refine (impl_codeOk.calls _ _ _ HC.out).mono ?_);rintro e w' ⟨rfl,hd'⟩;have hb':=hd'.below;replace BK1:=a0_ (blk_keptB BK1.out hb');replace BK2:=a0_ (blk_keptB BK2.out hb');replace BY:=a0_ (blk_keptB BY.out hb');replace HB:=a0_ (below_step HB.out hb');clear hb' hd';have hx0:=(blk_cell BY.out 0).trans rfl;have hx1:=(blk_cell BY.out 1).trans rfl;have hx2:=(blk_cell BY.out 2).trans rfl;have hx3:=(blk_cell BY.out 3).trans rfl) | (go_at_fn 56;(with_reducible refine (HL2.out _ HB.out BK2.out).mono ?_);rintro e w' ⟨rfl,hb'⟩;replace BK1:=a0_ (blk_keptB BK1.out hb');replace BK2:=a0_ (blk_keptB BK2.out hb');replace BY:=a0_ (blk_keptB BY.out hb');replace HB:=a0_ (below_step HB.out hb');clear hb';have hx0:=(blk_cell BY.out 0).trans rfl;have hx1:=(blk_cell BY.out 1).trans rfl;have hx2:=(blk_cell BY.out 2).trans rfl;have hx3:=(blk_cell BY.out 3).trans rfl) | (go_at_fn 56;(with_reducible refine (HL3.out _ HB.out BK2.out).mono ?_);rintro e w' ⟨rfl,hb'⟩;replace BK1:=a0_ (blk_keptB BK1.out hb');replace BK2:=a0_ (blk_keptB BK2.out hb');replace BY:=a0_ (blk_keptB BY.out hb');replace HB:=a0_ (below_step HB.out hb');clear hb';have hx0:=(blk_cell BY.out 0).trans rfl;have hx1:=(blk_cell BY.out 1).trans rfl;have hx2:=(blk_cell BY.out 2).trans rfl;have hx3:=(blk_cell BY.out 3).trans rfl))
      go_ret
      exact ⟨by rw [← HR.out,HRF.out];rfl,HB.out⟩
     | true =>
      cases q4 with
      | false =>
       have HRF:=a0_ (hrf _ hdf rfl)
       clear hdf hrf HV HX
       go_wp2_with (first | (go_at_call 57;(with_reducible refine (HH.out () _ HB.out).mono ?_);rintro e w' ⟨rfl,hb'⟩;replace BK1:=a0_ (blk_keptB BK1.out hb');replace BK2:=a0_ (blk_keptB BK2.out hb');replace BY:=a0_ (blk_keptB BY.out hb');replace HB:=a0_ (below_step HB.out hb');clear hb';have hx0:=(blk_cell BY.out 0).trans rfl;have hx1:=(blk_cell BY.out 1).trans rfl;have hx2:=(blk_cell BY.out 2).trans rfl;have hx3:=(blk_cell BY.out 3).trans rfl) | (go_at_call 58;(with_reducible refine (impl_codeOk.calls _ _ _ HC.out).mono ?_);rintro e w' ⟨rfl,hd'⟩;have hb':=hd'.below;replace BK1:=a0_ (blk_keptB BK1.out hb');replace BK2:=a0_ (blk_keptB BK2.out hb');replace BY:=a0_ (blk_keptB BY.out hb');replace HB:=a0_ (below_step HB.out hb');clear hb' hd';have hx0:=(blk_cell BY.out 0).trans rfl;have hx1:=(blk_cell BY.out 1).trans rfl;have hx2:=(blk_cell BY.out 2).trans rfl;have hx3:=(blk_cell BY.out 3).trans rfl) | (go_at_fn 56;(with_reducible refine (HL2.out _ HB.out BK2.out).mono ?_);rintro e w' ⟨rfl,hb'⟩;replace BK1:=a0_ (blk_keptB BK1.out hb');replace BK2:=a0_ (blk_keptB BK2.out hb');replace BY:=a0_ (blk_keptB BY.out hb');replace HB:=a0_ (below_step HB.out hb');clear hb';have hx0:=(blk_cell BY.out 0).trans rfl;have hx1:=(blk_cell BY.out 1).trans rfl;have hx2:=(blk_cell BY.out 2).trans rfl;have hx3:=(blk_cell BY.out 3).trans rfl) | (go_at_fn 56;(with_reducible refine (HL3.out _ HB.out BK2.out).mono ?_);rintro e w' ⟨rfl,hb'⟩;replace BK1:=a0_ (blk_keptB BK1.out hb');replace BK2:=a0_ (blk_keptB BK2.out hb');replace BY:=a0_ (blk_keptB BY.out hb');replace HB:=a0_ (below_step HB.out hb');clear hb';have hx0:=(blk_cell BY.out 0).trans rfl;have hx1:=(blk_cell BY.out 1).trans rfl;have hx2:=(blk_cell BY.out 2).trans rfl;have hx3:=(blk_cell BY.out 3).trans rfl))
       go_ret
       exact ⟨by rw [← HR.out,HRF.out];rfl,HB.out⟩
      | true =>
       have HDF:=a0_ hdf
       clear hdf hrf HV HX
       go_wp2_with (first | (go_at_call 57;(with_reducible refine (HH.out () _ HB.out).mono ?_);rintro e w' ⟨rfl,hb'⟩;replace BK1:=a0_ (blk_keptB BK1.out hb');replace BK2:=a0_ (blk_keptB BK2.out hb');replace BY:=a0_ (blk_keptB BY.out hb');replace HB:=a0_ (below_step HB.out hb');clear hb';have hx0:=(blk_cell BY.out 0).trans rfl;have hx1:=(blk_cell BY.out 1).trans rfl;have hx2:=(blk_cell BY.out 2).trans rfl;have hx3:=(blk_cell BY.out 3).trans rfl) | (go_at_call 58;(with_reducible refine (impl_codeOk.calls _ _ _ HC.out).mono ?_);rintro e w' ⟨rfl,hd'⟩;have hb':=hd'.below;replace BK1:=a0_ (blk_keptB BK1.out hb');replace BK2:=a0_ (blk_keptB BK2.out hb');replace BY:=a0_ (blk_keptB BY.out hb');replace HB:=a0_ (below_step HB.out hb');clear hb' hd';have hx0:=(blk_cell BY.out 0).trans rfl;have hx1:=(blk_cell BY.out 1).trans rfl;have hx2:=(blk_cell BY.out 2).trans rfl;have hx3:=(blk_cell BY.out 3).trans rfl) | (go_at_fn 56;(with_reducible refine (HL2.out _ HB.out BK2.out).mono ?_);rintro e w' ⟨rfl,hb'⟩;replace BK1:=a0_ (blk_keptB BK1.out hb');replace BK2:=a0_ (blk_keptB BK2.out hb');replace BY:=a0_ (blk_keptB BY.out hb');replace HB:=a0_ (below_step HB.out hb');clear hb';have hx0:=(blk_cell BY.out 0).trans rfl;have hx1:=(blk_cell BY.out 1).trans rfl;have hx2:=(blk_cell BY.out 2).trans rfl;have hx3:=(blk_cell BY.out 3).trans rfl) | (go_at_fn 56;(with_reducible refine (HL3.out _ HB.out BK2.out).mono ?_);rintro e w' ⟨rfl,hb'⟩;replace BK1:=a0_ (blk_keptB BK1.out hb');replace BK2:=a0_ (blk_keptB BK2.out hb');replace BY:=a0_ (blk_keptB BY.out hb');replace HB:=a0_ (below_step HB.out hb');clear hb';have hx0:=(blk_cell BY.out 0).trans rfl;have hx1:=(blk_cell BY.out 1).trans rfl;have hx2:=(blk_cell BY.out 2).trans rfl;have hx3:=(blk_cell BY.out 3).trans rfl))
       go_roundg (l1_0.length - (kk + 1))
       case measure=>omega
       case rel =>
        refine ⟨kk + 1,by omega,by omega,by go_num,HB,BK1,BK2,⟨fun j hj=>?_⟩⟩
        by_cases e : j = kk
        ·subst e;rw [NB.out];exact HDF.out
        ·exact HA.out j (by omega)
  ·have hltz : ¬ (kk : Int) < (l1_0.length : Int):=by omega
   have : kk = l1_0.length:=by omega
   subst this
   have hfs : fsH l0_0 l1_0 = true:=all_of HA.out
   replace HX:=a0_ (HX.out hfs)
   have HCT:=a0_ (fsH_ctx hfs)
   have hrr : r = (esH l1_0 && (vT l0_0 && decide (l1_0.length ≤ 24))):=by rw [← HR.out];unfold vH;rw [hfs,Bool.true_and]
   have HRR:=a0_ hrr
   have hcell:=(blk_cell BK1.out 0).trans rfl
   have hcell2:=(blk_cell BK2.out 0).trans rfl
   clear HA HR hfs hrr HH HL
   go_wp2
   clear hcell hcell2
   go_loopg [50] l1_0.length (fun gg s50 wr=>∃ kk : Nat,kk ≤ l1_0.length ∧ l1_0.length - kk ≤ gg ∧ s50 = .int .i64 kk ∧ Aside0 (Below w.heap.size w wr) ∧ Aside0 (wr.heap[w.heap.size]? = some (.cells #[.slice A0_0 l0_0.length c0_0] 25 (0,0))) ∧ Aside0 (wr.heap[w.heap.size + 1]? = some (.cells #[.slice A1_0 l1_0.length c1_0] 28 (0,0))) ∧ Aside0 (∀ j,j < kk → endB l1_0 j = true))
   case atStart=>exact ⟨0,Nat.zero_le _,by omega,rfl,HB,BK1,BK2,⟨fun j hj=>absurd hj (Nat.not_lt_zero _)⟩⟩
   case round =>
    clear HB BK1 BK2 hltz
    obtain ⟨kk,hkk,hg,rfl,HB,BK1,BK2,HA⟩:=hrel
    have hcell:=(blk_cell BK1.out 0).trans rfl
    have hcell2:=(blk_cell BK2.out 0).trans rfl
    by_cases hlt : kk < l1_0.length
    ·have hltz : (kk : Int) < (l1_0.length : Int):=by omega
     have hX:=HX.out (kk : Int) hltz
     have hpos:=ctxL_pos l1_0 (kk : Int) (by omega) hltz
     have hlen:=ctxL_len l1_0 (kk : Int)
     have hmem:=ctxL_mem (fun x h0 h1=>(HCT.out x h0 h1).2) (kk : Int) hltz
     have hlast:=hmem _ (lastI_mem hpos)
     have hdf : endB l1_0 kk = decide (ctxN l1_0 (lastI (ctxL l1_0 (kk : Int))) < 0):=rfl
     have hlo:=HCT.out _ hlast.1 hlast.2
     have hrdl : rd (ctxL l1_0 (kk : Int)) (((ctxL l1_0 (kk : Int)).length : Int) - 1) = lastI (ctxL l1_0 (kk : Int)):=by
      unfold lastI
      rw [show (((ctxL l1_0 (kk : Int)).length : Int) - 1) = (((ctxL l1_0 (kk : Int)).length - 1 : Nat) : Int) by omega]
      exact rd_nat _ _ (by omega)
     generalize hL : ctxL l1_0 (kk : Int) = L at hX hpos hlen hlast hdf hlo hrdl
     generalize hz : lastI L = la at hlast hdf hlo hrdl
     obtain ⟨ad,ea,hx0,hx1,hx2,hx3,hx4⟩:=at_T43 HRD.out la hlast.1 hlast.2
     cases ea
     have hrd : (rd_T43 l1_0 la).f3 = ctxN l1_0 la:=by simp [rd_T43,ctxN]
     rw [hrd] at hx3
     have HX3:=a0_ hx3
     have HXX:=a0_ hX
     generalize ctxN l1_0 la = cx at HX3 hdf hlo
     clear hx0 hx1 hx2 hx3 hx4 hrd hmem hL hz hX
     obtain ⟨ix,hix⟩ : ∃ ix,ix = (L.length : Int) - 1:=⟨_,rfl⟩
     have hw1 : wrap64 ((L.length : Int) - 1) = ix:=(wrap_in (by omega) (by omega)).trans hix.symm
     have hw2 : IntKind.i64.wrap ((L.length : Int) - 1) = ix:=(i64_w _).trans hw1
     rw [← hix] at hrdl
     have HRL:=a0_ hrdl
     have hl0:=eq_true hlast.1
     have hl1:=eq_true hlast.2
     have hl2 : 0 ≤ ix:=by omega
     have hl3 : ix < (L.length : Int):=by omega
     clear hix
     have HLO:=a0_ hlo
     have HDF:=a0_ hdf
     clear hrdl hlast hlo hdf
     go_upto_region 12 with (go_at_call 53;refine (HXX.out _ HB.out).mono ?_;rintro e w2 ⟨v9,rfl,ho9,hb9⟩;replace BK1:=a0_ (blk_keptB BK1.out hb9);replace BK2:=a0_ (blk_keptB BK2.out hb9);replace HB:=a0_ (below_step HB.out hb9);obtain ⟨Ao,co,eo⟩:=Kd.R_slice ho9;subst eo;have HO9:=a0_ ho9;clear ho9 hb9)
     obtain ⟨ae,eae,hy0⟩:=Kd.at_int (Kd.R_reads' HO9.out).2.2 ix hl2 hl3
     cases eae
     rw [HRL.out] at hy0
     have hx3:=(HB.out.cell (World.block_lt_of_cell? w _ HX3.out)).trans HX3.out
     have hcell2:=(blk_cell BK2.out 0).trans rfl
     cases hq : (cx != -1) with
     | true =>
      have HRF:=a0_ (show r = false by
       have hc : cx ≠ -1:=bne_iff_ne.1 hq
       have hd:=HDF.out
       rw [decide_eq_false (show ¬ cx < 0 by have:=HLO.out;omega)] at hd
       rw [HRR.out];unfold esH;rw [all_false hlt hd];rfl)
      clear hlt
      go_quiet (fail)
      go_wp2
      go_ret
      exact ⟨by rw [HRF.out];rfl,pw_below_drewN HB.out _⟩
     | false =>
      have HDT:=a0_ (show endB l1_0 kk = true by
       have hc : cx = -1:=bne_eq_false_iff_eq.1 hq
       rw [HDF.out]
       exact decide_eq_true (by omega))
      go_quiet (fail)
      go_wp2
      go_roundg (l1_0.length - (kk + 1))
      case measure=>omega
      case rel =>
       refine ⟨kk + 1,by omega,by omega,by go_num,⟨pw_below_drewN HB.out _⟩,⟨blk_drewN BK1.out _⟩,⟨blk_drewN BK2.out _⟩,⟨fun j hj=>?_⟩⟩
       by_cases e : j = kk
       ·subst e;exact HDT.out
       ·exact HA.out j (by omega)
    ·have hltz : ¬ (kk : Int) < (l1_0.length : Int):=by omega
     have : kk = l1_0.length:=by omega
     subst this
     have hes : esH l1_0 = true:=all_of HA.out
     have hrr:=HRR.out
     rw [hes,Bool.true_and] at hrr
     have hd24 : decide (l1_0.length ≤ 24) = decide ((l1_0.length : Int) ≤ 24):=decide_eq_decide.2 (by omega)
     rw [hd24] at hrr
     clear HA hes HX HCT HRR hd24
     cases hv : vT l0_0 with
     | false =>
      rw [hv] at HV hrr
      clear hv
      go_wp2_with (go_at_call 59;refine (HV.out _ HB.out).mono ?_;rintro e w1 ⟨rfl,hb1⟩;replace HB:=a0_ (below_step HB.out hb1);replace BK2:=a0_ (blk_keptB BK2.out hb1);clear hb1;have hcell2:=(blk_cell BK2.out 0).trans rfl)
      go_ret
      exact ⟨by rw [hrr];rfl,HB.out⟩
     | true =>
      rw [hv,Bool.true_and] at hrr
      rw [hv] at HV
      have HRR:=a0_ hrr
      clear hv hrr
      go_wp2_with (go_at_call 59;refine (HV.out _ HB.out).mono ?_;rintro e w1 ⟨rfl,hb1⟩;replace HB:=a0_ (below_step HB.out hb1);replace BK2:=a0_ (blk_keptB BK2.out hb1);clear hb1;have hcell2:=(blk_cell BK2.out 0).trans rfl)
      go_ret
      exact ⟨by rw [HRR.out];rfl,HB.out⟩
theorem impl_ValidHeap_ev (t : List Cls) (h : List Fau) (hs : smT t = true) (hl : h.length ≤ 2097152) : impl_ValidHeap.f t h = some (vH t h):=by rw [impl_ValidHeap.f,if_pos ⟨hs,hl⟩]
end Go.Proofs.Ytmiholmfbjalfaa.P
namespace Go.Proofs.Ytmiholmfbjalfaa.P
open Go.RowKit Go.Proofs.YtmiholmfbjalfaaW.PrintWords Go.Proofs.YtmiholmfbjalfaaW.PrintLast Go.Proofs.YtmiholmfbjalfaaW.PrintMore
attribute [local go_sem] max2_int min2_int max_two min_two max_three min_three max_four min_four
set_option linter.unusedVariables false
set_option linter.unusedSimpArgs false
set_option maxHeartbeats 2000000 in
theorem slices_IndexFunc_int.callsF (A : Option Addr) (c : Nat) (l : List Int) (g : Nat) (lb : Array Value) (p : Int → Bool) (w : World) (eg : ∀ args w,(callFunc g args).run Try.prog w = .ok (.enter g args) w)
  (hr : Kd.C (Kd.int .i64) w A l.length l) (hc : l.length ≤ c) (hp : ∀ x,x ∈ l → ∀ W,Below w.heap.size w W → Calls Try.prog g (#[.int .i64 x] ++ lb) W fun e w'=>e = .returned (.bool (p x)) ∧ Below W.heap.size W w') :
  Calls Try.prog 79 #[.slice A l.length c,.func (.func g) #[] lb] w fun e w'=>e = .returned (.int .i64 (idxP p l)) ∧ Below w.heap.size w w':=by
 have HR:=a0_ hr
 have HP:=a0_ hp
 have hmax : l.length ≤ 9223372036854775807:=hr.2.1
 clear hr hp hc
 go_enter Try.func79,Try.ntmps79
 go_wp2
 go_loopg [5,8] l.length (fun gg _ s8 wr=>∃ kk : Nat,kk ≤ l.length ∧ l.length - kk ≤ gg ∧ s8 = .int .i64 kk ∧ Aside0 (Below w.heap.size w wr) ∧ Aside0 (∀ j (hj : j < l.length),j < kk → p l[j] = false))
 case atStart=>exact ⟨0,Nat.zero_le _,by omega,rfl,⟨Below.refl _ w⟩,⟨fun j _ hj=>absurd hj (Nat.not_lt_zero _)⟩⟩
 case round =>
  obtain ⟨kk,hkk,hg,rfl,BW,HA⟩:=hrel
  by_cases hlt : kk < l.length
  ·have hltz : (kk : Int) < (l.length : Int):=by omega
   obtain ⟨ad,ea,hx0⟩:=Kd.at_int HR.out (kk : Int) (by omega) (by omega)
   cases ea
   have hrd : rd l (kk : Int) = l[kk]:=by simp [rd,hlt]
   rw [hrd] at hx0
   rw [Int.toNat_natCast] at hx0
   replace hx0:=(BW.out.cell (World.block_lt_of_cell? w _ hx0)).trans hx0
   have hcall:=HP.out l[kk] (List.getElem_mem hlt) wr BW.out
   clear hrd
   generalize hy : l[kk] = y at hx0 hcall
   have B:=a0_ hy
   clear hy
   cases hq : p y with
   | true =>
    rw [hq] at hcall
    go_wp2_with (go_at_fn g;refine hcall.mono ?_;rintro e w' ⟨rfl,hb'⟩)
    go_ret
    refine ⟨?_,below_step BW.out hb'⟩
    rw [idxP_hit p l kk hlt (by rw [B.out];exact hq) HA.out];rfl
   | false =>
    rw [hq] at hcall
    go_wp2_with (go_at_fn g;refine hcall.mono ?_;rintro e w' ⟨rfl,hb'⟩)
    go_roundg (l.length - (kk + 1))
    case measure=>omega
    case rel =>
     refine ⟨kk + 1,by omega,by omega,by go_num,⟨below_step BW.out hb'⟩,⟨fun j hj hjk=>?_⟩⟩
     by_cases e : j = kk
     ·subst e
      rw [B.out];exact hq
     ·exact HA.out j hj (by omega)
  ·have hltz : ¬ (kk : Int) < (l.length : Int):=by omega
   have : kk = l.length:=by omega
   subst this
   go_wp2
   go_ret
   refine ⟨?_,BW.out⟩
   rw [idxP_miss p l (fun j hj=>HA.out j hj hj)];rfl
end Go.Proofs.Ytmiholmfbjalfaa.P
namespace Go.Proofs.Ytmiholmfbjalfaa.P
open Go.RowKit Go.Proofs.YtmiholmfbjalfaaW.PrintWords Go.Proofs.YtmiholmfbjalfaaW.PrintLast Go.Proofs.YtmiholmfbjalfaaW.PrintMore
attribute [local go_sem] max2_int min2_int max_two min_two max_three min_three max_four min_four
set_option linter.unusedVariables false
set_option linter.unusedSimpArgs false
set_option maxHeartbeats 2000000 in
theorem slices_ContainsFunc_int.callsF (A : Option Addr) (c : Nat) (l : List Int) (g : Nat) (lb : Array Value) (p : Int → Bool) (w : World) (eg : ∀ args w,(callFunc g args).run Try.prog w = .ok (.enter g args) w)
  (hr : Kd.C (Kd.int .i64) w A l.length l) (hc : l.length ≤ c) (hp : ∀ x,x ∈ l → ∀ W,Below w.heap.size w W → Calls Try.prog g (#[.int .i64 x] ++ lb) W fun e w'=>e = .returned (.bool (p x)) ∧ Below W.heap.size W w') :
  Calls Try.prog 60 #[.slice A l.length c,.func (.func g) #[] lb] w fun e w'=>e = .returned (.bool (l.any p)) ∧ Below w.heap.size w w':=by
 have hcon:=slices_IndexFunc_int.callsF A c l g lb p w eg hr hc hp
 rw [← idxP_nonneg]
 clear eg hr hc hp
 generalize idxP p l = r at hcon ⊢
 go_enter Try.func60,Try.ntmps60
 go_wp2_with (go_at_call 79;refine hcon.mono ?_;rintro e w' ⟨rfl,hb'⟩)
 go_ret
 exact ⟨rfl,hb'⟩
end Go.Proofs.Ytmiholmfbjalfaa.P
namespace Go.Proofs.Ytmiholmfbjalfaa.P
open Go.RowKit Go.Proofs.YtmiholmfbjalfaaW.PrintWords Go.Proofs.YtmiholmfbjalfaaW.PrintLast Go.Proofs.YtmiholmfbjalfaaW.PrintMore
attribute [local go_sem] max2_int min2_int max_two min_two max_three min_three max_four min_four
set_option linter.unusedVariables false
set_option linter.unusedSimpArgs false
theorem impl_faultsIn_1.callsF (B : Nat) (A : Option Addr) (c : Nat) (h : List Fau) (f : Int) (w : World) (hc : h.length ≤ c) (hB : w.heap[B]? = some (.cells #[.slice A h.length c] 28 (0,0))) (hr : Kd.C k43 w A h.length h) :
  Calls Try.prog 61 #[.int .i64 f,.pointer (some ⟨B,0,none⟩)] w fun e w'=>e = .returned (.bool (!hasF h f)) ∧ Below w.heap.size w w':=by
 have hu37:=Try.underlying28
 have hcell : w.cell? ⟨B,0,none⟩ = some (.slice A h.length c):=(blk_cell hB 0).trans rfl
 have hcon:=impl_Heap_has.calls A c h f (hasF h f) w hr hc (impl_Heap_has_ev h f hr.2.1)
 clear hB hr
 generalize hasF h f = q at hcon ⊢
 go_enter Try.func61,Try.ntmps61
 go_wp2_with (go_at_call 51;refine hcon.mono ?_;rintro e w' ⟨rfl,hb'⟩)
 go_ret
 exact ⟨rfl,hb'⟩
end Go.Proofs.Ytmiholmfbjalfaa.P
namespace Go.Proofs.Ytmiholmfbjalfaa.P
open Go.RowKit Go.Proofs.YtmiholmfbjalfaaW.PrintWords Go.Proofs.YtmiholmfbjalfaaW.PrintLast Go.Proofs.YtmiholmfbjalfaaW.PrintMore
attribute [local go_sem] max2_int min2_int max_two min_two max_three min_three max_four min_four
set_option linter.unusedVariables false
set_option linter.unusedSimpArgs false
def impl_faultsIn.f (l0_0 : List Cls) (l1_0 : List Fau) (l2 : List Int) : Option Bool:=if smT l0_0 = true ∧ l1_0.length ≤ 2097152 then some (vH l0_0 l1_0 && !(l2.any (fun f=>!hasF l1_0 f))) else none
set_option maxHeartbeats 2000000 in
set_option maxRecDepth 100000 in
theorem impl_faultsIn.calls (A0_0 : Option Addr) (c0_0 : Nat) (l0_0 : List (S87)) (A1_0 : Option Addr) (c1_0 : Nat) (l1_0 : List (S43)) (A2 : Option Addr) (c2 : Nat) (l2 : List Int) (r : Bool) (w : World) (hr0_0 : Kd.C k87 w A0_0 l0_0.length l0_0) (hc0_0 : l0_0.length ≤ c0_0) (hr1_0 : Kd.C k43 w A1_0 l1_0.length l1_0) (hc1_0 : l1_0.length ≤ c1_0) (hr2 : Kd.C (Kd.int .i64) w A2 l2.length l2) (hc2 : l2.length ≤ c2) (h : impl_faultsIn.f l0_0 l1_0 l2 = some r) :
  Calls Try.prog 35 #[.agg #[.slice A0_0 l0_0.length c0_0],.agg #[.slice A1_0 l1_0.length c1_0],.slice A2 l2.length c2] w fun e w'=>e = .returned (.bool r) ∧ Below w.heap.size w w':=by
 have hu33:=Try.underlying25
 have hu37:=Try.underlying28
 have hsm : smT l0_0 = true ∧ l1_0.length ≤ 2097152:=by
  apply Classical.byContradiction
  intro hn
  rw [impl_faultsIn.f,if_neg hn] at h
  cases h
 rw [impl_faultsIn.f,if_pos hsm] at h
 obtain rfl:=Option.some.inj h
 clear h
 have HV:=a0_ (fun (W : World) (hb : Below w.heap.size w W)=>impl_ValidHeap.calls A0_0 c0_0 l0_0 A1_0 c1_0 l1_0 (vH l0_0 l1_0) W (Kd.C_below hr0_0 hb) hc0_0 (Kd.C_below hr1_0 hb) hc1_0 (by rw [impl_ValidHeap.f,if_pos hsm]))
 have eg : ∀ args w,(callFunc 61 args).run Try.prog w = .ok (.enter 61 args) w:=enters_of Try.func61 (by kernel_rfl) rfl
 have HC:=a0_ (fun (W : World) (hb : Below w.heap.size w W) (hB : W.heap[w.heap.size + 1]? = some (.cells #[.slice A1_0 l1_0.length c1_0] 28 (0,0)))=>slices_ContainsFunc_int.callsF A2 c2 l2 61 #[.pointer (some ⟨w.heap.size + 1,0,none⟩)] (fun f=>!hasF l1_0 f) W eg (Kd.C_below hr2 hb) hc2 (fun x _ W' hW=>impl_faultsIn_1.callsF (w.heap.size + 1) A1_0 c1_0 l1_0 x W' hc1_0 (blk_keptB hB hW) (Kd.C_below (Kd.C_below hr1_0 hb) hW)))
 have BK1:=a0_ (heap_old2 w (.cells #[.slice A0_0 l0_0.length c0_0] 25) (.cells #[.slice A1_0 l1_0.length c1_0] 28))
 have BK2:=a0_ (heap_new2 w (.cells #[.slice A0_0 l0_0.length c0_0] 25) (.cells #[.slice A1_0 l1_0.length c1_0] 28))
 have HB:=a0_ (below2 w (.cells #[.slice A0_0 l0_0.length c0_0] 25) (.cells #[.slice A1_0 l1_0.length c1_0] 28))
 have hcell:=(blk_cell BK1.out 0).trans rfl
 have hcell2:=(blk_cell BK2.out 0).trans rfl
 clear hr0_0 hr1_0 hr2 hsm eg
 generalize (l2.any fun f=>!hasF l1_0 f) = q at HC ⊢
 cases hv : vH l0_0 l1_0 with
 | false =>
  rw [hv] at HV
  clear HC hv
  go_enter Try.func35,Try.ntmps35
  go_wp2_with (go_at_call 30;refine (HV.out _ HB.out).mono ?_;rintro e w' ⟨rfl,hb'⟩)
  go_ret
  exact ⟨rfl,below_step HB.out hb'⟩
 | true =>
  rw [hv] at HV
  clear hv
  go_enter Try.func35,Try.ntmps35
  go_wp2_with (first
   | (go_at_call 30;refine (HV.out _ HB.out).mono ?_;rintro e w' ⟨rfl,hb'⟩;replace HB:=a0_ (below_step HB.out hb');replace BK2:=a0_ (blk_keptB BK2.out hb');clear hb')
   | (go_at_call 60;refine (HC.out _ HB.out BK2.out).mono ?_;rintro e w2 ⟨rfl,hb2⟩))
  go_ret
  exact ⟨by simp,below_step HB.out hb2⟩
theorem impl_faultsIn_ev (t : List Cls) (h : List Fau) (f : Int) (hs : smT t = true) (hl : h.length ≤ 2097152) : impl_faultsIn.f t h [f] = some (vH t h && hasF h f):=by
 rw [impl_faultsIn.f,if_pos ⟨hs,hl⟩]
 simp
theorem hasF_in {h : List Fau} {f : Int} (hb : hasF h f = true) : 0 ≤ f ∧ f < (h.length : Int):=by
 unfold hasF at hb
 simp only [Bool.and_eq_true,decide_eq_true_eq] at hb
 omega
end Go.Proofs.Ytmiholmfbjalfaa.P
namespace Go.Proofs.Ytmiholmfbjalfaa.P
open Go.RowKit Go.Proofs.YtmiholmfbjalfaaW.PrintWords Go.Proofs.YtmiholmfbjalfaaW.PrintLast Go.Proofs.YtmiholmfbjalfaaW.PrintMore
attribute [local go_sem] max2_int min2_int max_two min_two max_three min_three max_four min_four
set_option linter.unusedVariables false
set_option linter.unusedSimpArgs false
def impl_Heap_shown.f (l0_0 : List (S43)) (a1 : Int) : Option (Int):=if 0 ≤ a1 then (if a1 < (l0_0.length : Int) then (if ((rd_T43 l0_0 a1).f2) ≥ 0 then (some ((rd_T43 l0_0 a1).f2)) else (if (rd_T43 l0_0 a1).f4 = true then (some (-1)) else (some ((rd_T43 l0_0 a1).f3)))) else (none)) else (none)
set_option maxHeartbeats 8000000 in
set_option maxRecDepth 100000 in
theorem impl_Heap_shown.calls (A0_0 : Option Addr) (c0_0 : Nat) (l0_0 : List (S43)) (a1 : Int) (r : Int) (w : World) (hr0_0 : Kd.C k43 w A0_0 l0_0.length l0_0) (hc0_0 : l0_0.length ≤ c0_0) (h : impl_Heap_shown.f l0_0 a1 = some r) :
  Calls Try.prog 37 #[.agg #[.slice A0_0 l0_0.length c0_0],.int .i64 a1] w fun e w'=>e = .returned (.int .i64 r) ∧ Below w.heap.size w w':=by
 have hu28:=Try.underlying28
 have hu43:=Try.underlying43
 have HR0_0:=a0_ hr0_0
 have HC0_0:=a0_ hc0_0
 clear hr0_0 hc0_0
 have HB:=a0_ (Below.refl w.heap.size w)
 have H : (if 0 ≤ a1 then (if a1 < (l0_0.length : Int) then (if ((rd_T43 l0_0 a1).f2) ≥ 0 then (some ((rd_T43 l0_0 a1).f2)) else (if (rd_T43 l0_0 a1).f4 = true then (some (-1)) else (some ((rd_T43 l0_0 a1).f3)))) else (none)) else (none)) = some r:=h
 clear h
 by_cases c3 : 0 ≤ a1
 ·rw [if_pos c3] at H
  have c3b0 : decide (0 ≤ a1) = true:=decide_eq_true c3
  clear c3
  by_cases c4 : a1 < (l0_0.length : Int)
  ·rw [if_pos c4] at H
   have c4b0 : decide (a1 < (l0_0.length : Int)) = true:=decide_eq_true c4
   clear c4
   by_cases c5 : ((rd_T43 l0_0 a1).f2) ≥ 0
   ·rw [if_pos c5] at H
    have c5b0 : decide (0 ≤ ((rd_T43 l0_0 a1).f2)) = true:=decide_eq_true c5
    clear c5
    obtain rfl:=Option.some.inj H
    go_enter Try.func37,Try.ntmps37
    go_wp2_with (first | ((with_reducible refine gate_dst (N:=2) rfl ?_);refine box_event ?hg (N:=2) ?hd (cs:=#[.slice A0_0 l0_0.length c0_0]) (t:=28) ?hr ?_;(case hd=>rfl);(case hg=>rfl);(case hr=>first | (go_simp;done) | (go_simp;rfl));intro gb1 hg w6 hbox hb;have BK1:=a0_ (hbox);have GW1:=a0_ ((by rw [hg];exact (below_size hbw_) : w.heap.size ≤ gb1));have GE1:=a0_ ((by rw [hg];exact (below_size hbw_) : w.heap.size ≤ gb1));replace HB:=a0_ (below_step hbw_ hb);clear hb hbox hg;have hcz7_0 : w6.cell? ⟨gb1,0,none⟩ = some (.slice A0_0 l0_0.length c0_0):=(blk_cell BK1.out 0).trans rfl;have hfz7_0:=blk_frozen BK1.out 0;have p2 : 0 ≤ (a1 : Int):=of_decide_eq_true (by first | (with_reducible assumption) | assumption);have q2 : a1 < (l0_0.length : Int):=of_decide_eq_true (by first | (with_reducible assumption) | assumption);obtain ⟨ad2,e2,hx2_0,hx2_1,hx2_2,hx2_3,hx2_4⟩:=at_T43 HR0_0.out a1 p2 q2;cases e2;replace hx2_0:=(HB.out.cell (World.block_lt_of_cell? w _ hx2_0)).trans hx2_0;replace hx2_1:=(HB.out.cell (World.block_lt_of_cell? w _ hx2_1)).trans hx2_1;replace hx2_2:=(HB.out.cell (World.block_lt_of_cell? w _ hx2_2)).trans hx2_2;replace hx2_3:=(HB.out.cell (World.block_lt_of_cell? w _ hx2_3)).trans hx2_3;replace hx2_4:=(HB.out.cell (World.block_lt_of_cell? w _ hx2_4)).trans hx2_4;replace p2:=eq_true p2;replace q2:=eq_true q2) | ((with_reducible refine gate_dst (N:=5) rfl ?_);refine box_event ?hg (N:=5) ?hd (cs:=#[.int .i64 0,.int .i64 0,.int .i64 0,.int .i64 0,.bool false]) (t:=43) ?hr ?_;(case hd=>rfl);(case hg=>rfl);(case hr=>first | (go_simp;done) | (go_simp;rfl));intro gb3 hg w8 hbox hb;have n0_:=kb_ BK1 hb;have n1_:=a0_ (below_step hbw_ hb);have n2_:=a0_ (hbox);have n3_:=a0_ ((by rw [hg];exact (below_size hbw_) : w.heap.size ≤ gb3));have n4_:=a0_ ((by rw [hg];exact (below_size hbw_) : w.heap.size ≤ gb3));have n5_:=a0_ ((by rw [hg];exact Nat.ne_of_lt (blk_lt (bb_ BK1.out)) : gb1 ≠ gb3));have n6_:=a0_ ((by rw [hg];exact Nat.ne_of_gt (blk_lt (bb_ BK1.out)) : gb3 ≠ gb1));clear BK1 HB;have BK1:=n0_;have HB:=n1_;have BK3:=n2_;have GW3:=n3_;have GE3:=n4_;have NB1_3:=n5_;have NB3_1:=n6_;clear n0_ n1_ n2_ n3_ n4_ n5_ n6_;clear hb hbox hg;have hnb9:=NB3_1.out;have hnc9:=NB1_3.out;have hcz10_0 : w8.cell? ⟨gb3,0,none⟩ = some (.int .i64 0):=(blk_cell BK3.out 0).trans rfl;have hcz10_1 : w8.cell? ⟨gb3,1,none⟩ = some (.int .i64 0):=(blk_cell BK3.out 1).trans rfl;have hcz10_2 : w8.cell? ⟨gb3,2,none⟩ = some (.int .i64 0):=(blk_cell BK3.out 2).trans rfl;have hcz10_3 : w8.cell? ⟨gb3,3,none⟩ = some (.int .i64 0):=(blk_cell BK3.out 3).trans rfl;have hcz10_4 : w8.cell? ⟨gb3,4,none⟩ = some (.bool false):=(blk_cell BK3.out 4).trans rfl;have hfz10_0:=blk_frozen BK3.out 0;have hfz10_1:=blk_frozen BK3.out 1;have hfz10_2:=blk_frozen BK3.out 2;have hfz10_3:=blk_frozen BK3.out 3;have hfz10_4:=blk_frozen BK3.out 4))
    go_ret
    exact ⟨by first | rfl | (simp [errW_none,errW_some] <;> rfl) | (simp [*,errW_none,errW_some] <;> rfl),hbw_⟩
   ·rw [if_neg c5] at H
    have c5b0 : decide (0 ≤ ((rd_T43 l0_0 a1).f2)) = false:=decide_eq_false c5
    clear c5
    obtain ⟨bq11,hbq11⟩ : ∃ b_ : Bool,b_ = ((rd_T43 l0_0 a1).f4):=⟨_,rfl⟩
    replace H : (if bq11 = true then (some (-1)) else (some ((rd_T43 l0_0 a1).f3))) = some r:=by rw [← hbq11] at H;exact H
    have Nbq11:=a0_ hbq11
    clear hbq11
    by_cases c12 : bq11 = true
    ·subst c12
     have H1 : (some (-1)) = some r:=by rw [if_pos rfl] at H;exact H
     clear H
     have H:=H1
     clear H1
     obtain rfl:=Option.some.inj H
     go_enter Try.func37,Try.ntmps37
     go_wp2_with (first | ((with_reducible refine gate_dst (N:=2) rfl ?_);refine box_event ?hg (N:=2) ?hd (cs:=#[.slice A0_0 l0_0.length c0_0]) (t:=28) ?hr ?_;(case hd=>rfl);(case hg=>rfl);(case hr=>first | (go_simp;done) | (go_simp;rfl));intro gb1 hg w13 hbox hb;have BK1:=a0_ (hbox);have GW1:=a0_ ((by rw [hg];exact (below_size hbw_) : w.heap.size ≤ gb1));have GE1:=a0_ ((by rw [hg];exact (below_size hbw_) : w.heap.size ≤ gb1));replace HB:=a0_ (below_step hbw_ hb);clear hb hbox hg;have hcz14_0 : w13.cell? ⟨gb1,0,none⟩ = some (.slice A0_0 l0_0.length c0_0):=(blk_cell BK1.out 0).trans rfl;have hfz14_0:=blk_frozen BK1.out 0;have p2 : 0 ≤ (a1 : Int):=of_decide_eq_true (by first | (with_reducible assumption) | assumption);have q2 : a1 < (l0_0.length : Int):=of_decide_eq_true (by first | (with_reducible assumption) | assumption);obtain ⟨ad2,e2,hx2_0,hx2_1,hx2_2,hx2_3,hx2_4⟩:=at_T43 HR0_0.out a1 p2 q2;(try rw [← Nbq11.out] at hx2_4);cases e2;replace hx2_0:=(HB.out.cell (World.block_lt_of_cell? w _ hx2_0)).trans hx2_0;replace hx2_1:=(HB.out.cell (World.block_lt_of_cell? w _ hx2_1)).trans hx2_1;replace hx2_2:=(HB.out.cell (World.block_lt_of_cell? w _ hx2_2)).trans hx2_2;replace hx2_3:=(HB.out.cell (World.block_lt_of_cell? w _ hx2_3)).trans hx2_3;replace hx2_4:=(HB.out.cell (World.block_lt_of_cell? w _ hx2_4)).trans hx2_4;replace p2:=eq_true p2;replace q2:=eq_true q2) | ((with_reducible refine gate_dst (N:=5) rfl ?_);refine box_event ?hg (N:=5) ?hd (cs:=#[.int .i64 0,.int .i64 0,.int .i64 0,.int .i64 0,.bool false]) (t:=43) ?hr ?_;(case hd=>rfl);(case hg=>rfl);(case hr=>first | (go_simp;done) | (go_simp;rfl));intro gb3 hg w15 hbox hb;have n0_:=kb_ BK1 hb;have n1_:=a0_ (below_step hbw_ hb);have n2_:=a0_ (hbox);have n3_:=a0_ ((by rw [hg];exact (below_size hbw_) : w.heap.size ≤ gb3));have n4_:=a0_ ((by rw [hg];exact (below_size hbw_) : w.heap.size ≤ gb3));have n5_:=a0_ ((by rw [hg];exact Nat.ne_of_lt (blk_lt (bb_ BK1.out)) : gb1 ≠ gb3));have n6_:=a0_ ((by rw [hg];exact Nat.ne_of_gt (blk_lt (bb_ BK1.out)) : gb3 ≠ gb1));clear BK1 HB;have BK1:=n0_;have HB:=n1_;have BK3:=n2_;have GW3:=n3_;have GE3:=n4_;have NB1_3:=n5_;have NB3_1:=n6_;clear n0_ n1_ n2_ n3_ n4_ n5_ n6_;clear hb hbox hg;have hnb16:=NB3_1.out;have hnc16:=NB1_3.out;have hcz17_0 : w15.cell? ⟨gb3,0,none⟩ = some (.int .i64 0):=(blk_cell BK3.out 0).trans rfl;have hcz17_1 : w15.cell? ⟨gb3,1,none⟩ = some (.int .i64 0):=(blk_cell BK3.out 1).trans rfl;have hcz17_2 : w15.cell? ⟨gb3,2,none⟩ = some (.int .i64 0):=(blk_cell BK3.out 2).trans rfl;have hcz17_3 : w15.cell? ⟨gb3,3,none⟩ = some (.int .i64 0):=(blk_cell BK3.out 3).trans rfl;have hcz17_4 : w15.cell? ⟨gb3,4,none⟩ = some (.bool false):=(blk_cell BK3.out 4).trans rfl;have hfz17_0:=blk_frozen BK3.out 0;have hfz17_1:=blk_frozen BK3.out 1;have hfz17_2:=blk_frozen BK3.out 2;have hfz17_3:=blk_frozen BK3.out 3;have hfz17_4:=blk_frozen BK3.out 4))
     go_ret
     exact ⟨by first | rfl | (simp [errW_none,errW_some] <;> rfl) | (simp [*,errW_none,errW_some] <;> rfl),hbw_⟩
    ·replace c12:=Bool.eq_false_iff.mpr c12
     subst c12
     have H1 : (some ((rd_T43 l0_0 a1).f3)) = some r:=by rw [if_neg (show ¬ (false = true) by decide)] at H;exact H
     clear H
     have H:=H1
     clear H1
     obtain rfl:=Option.some.inj H
     go_enter Try.func37,Try.ntmps37
     go_wp2_with (first | ((with_reducible refine gate_dst (N:=2) rfl ?_);refine box_event ?hg (N:=2) ?hd (cs:=#[.slice A0_0 l0_0.length c0_0]) (t:=28) ?hr ?_;(case hd=>rfl);(case hg=>rfl);(case hr=>first | (go_simp;done) | (go_simp;rfl));intro gb1 hg w18 hbox hb;have BK1:=a0_ (hbox);have GW1:=a0_ ((by rw [hg];exact (below_size hbw_) : w.heap.size ≤ gb1));have GE1:=a0_ ((by rw [hg];exact (below_size hbw_) : w.heap.size ≤ gb1));replace HB:=a0_ (below_step hbw_ hb);clear hb hbox hg;have hcz19_0 : w18.cell? ⟨gb1,0,none⟩ = some (.slice A0_0 l0_0.length c0_0):=(blk_cell BK1.out 0).trans rfl;have hfz19_0:=blk_frozen BK1.out 0;have p2 : 0 ≤ (a1 : Int):=of_decide_eq_true (by first | (with_reducible assumption) | assumption);have q2 : a1 < (l0_0.length : Int):=of_decide_eq_true (by first | (with_reducible assumption) | assumption);obtain ⟨ad2,e2,hx2_0,hx2_1,hx2_2,hx2_3,hx2_4⟩:=at_T43 HR0_0.out a1 p2 q2;(try rw [← Nbq11.out] at hx2_4);cases e2;replace hx2_0:=(HB.out.cell (World.block_lt_of_cell? w _ hx2_0)).trans hx2_0;replace hx2_1:=(HB.out.cell (World.block_lt_of_cell? w _ hx2_1)).trans hx2_1;replace hx2_2:=(HB.out.cell (World.block_lt_of_cell? w _ hx2_2)).trans hx2_2;replace hx2_3:=(HB.out.cell (World.block_lt_of_cell? w _ hx2_3)).trans hx2_3;replace hx2_4:=(HB.out.cell (World.block_lt_of_cell? w _ hx2_4)).trans hx2_4;replace p2:=eq_true p2;replace q2:=eq_true q2) | ((with_reducible refine gate_dst (N:=5) rfl ?_);refine box_event ?hg (N:=5) ?hd (cs:=#[.int .i64 0,.int .i64 0,.int .i64 0,.int .i64 0,.bool false]) (t:=43) ?hr ?_;(case hd=>rfl);(case hg=>rfl);(case hr=>first | (go_simp;done) | (go_simp;rfl));intro gb3 hg w20 hbox hb;have n0_:=kb_ BK1 hb;have n1_:=a0_ (below_step hbw_ hb);have n2_:=a0_ (hbox);have n3_:=a0_ ((by rw [hg];exact (below_size hbw_) : w.heap.size ≤ gb3));have n4_:=a0_ ((by rw [hg];exact (below_size hbw_) : w.heap.size ≤ gb3));have n5_:=a0_ ((by rw [hg];exact Nat.ne_of_lt (blk_lt (bb_ BK1.out)) : gb1 ≠ gb3));have n6_:=a0_ ((by rw [hg];exact Nat.ne_of_gt (blk_lt (bb_ BK1.out)) : gb3 ≠ gb1));clear BK1 HB;have BK1:=n0_;have HB:=n1_;have BK3:=n2_;have GW3:=n3_;have GE3:=n4_;have NB1_3:=n5_;have NB3_1:=n6_;clear n0_ n1_ n2_ n3_ n4_ n5_ n6_;clear hb hbox hg;have hnb21:=NB3_1.out;have hnc21:=NB1_3.out;have hcz22_0 : w20.cell? ⟨gb3,0,none⟩ = some (.int .i64 0):=(blk_cell BK3.out 0).trans rfl;have hcz22_1 : w20.cell? ⟨gb3,1,none⟩ = some (.int .i64 0):=(blk_cell BK3.out 1).trans rfl;have hcz22_2 : w20.cell? ⟨gb3,2,none⟩ = some (.int .i64 0):=(blk_cell BK3.out 2).trans rfl;have hcz22_3 : w20.cell? ⟨gb3,3,none⟩ = some (.int .i64 0):=(blk_cell BK3.out 3).trans rfl;have hcz22_4 : w20.cell? ⟨gb3,4,none⟩ = some (.bool false):=(blk_cell BK3.out 4).trans rfl;have hfz22_0:=blk_frozen BK3.out 0;have hfz22_1:=blk_frozen BK3.out 1;have hfz22_2:=blk_frozen BK3.out 2;have hfz22_3:=blk_frozen BK3.out 3;have hfz22_4:=blk_frozen BK3.out 4))
     go_ret
     exact ⟨by first | rfl | (simp [errW_none,errW_some] <;> rfl) | (simp [*,errW_none,errW_some] <;> rfl),hbw_⟩
  ·rw [if_neg c4] at H
   exact absurd H (by simp)
 ·rw [if_neg c3] at H
  exact absurd H (by simp)
theorem impl_Heap_shown_ev (h : List Fau) (f : Int) (h0 : 0 ≤ f) (hf : f < (h.length : Int)) : impl_Heap_shown.f h f = some (shwN h f):=by
 unfold impl_Heap_shown.f shwN
 have hrd : rd_T43 h f = h.getD f.toNat z43:=by simp [rd_T43]
 rw [if_pos h0,if_pos hf,hrd]
 generalize h.getD f.toNat z43 = x
 by_cases h1 : x.f2 ≥ 0
 ·rw [if_pos h1,if_pos h1]
 ·rw [if_neg h1,if_neg h1]
  cases x.f4 <;> rfl
end Go.Proofs.Ytmiholmfbjalfaa.P
namespace Go.Proofs.Ytmiholmfbjalfaa.P
open Go.RowKit Go.Proofs.YtmiholmfbjalfaaW.PrintWords Go.Proofs.YtmiholmfbjalfaaW.PrintLast Go.Proofs.YtmiholmfbjalfaaW.PrintMore
attribute [local go_sem] max2_int min2_int max_two min_two max_three min_three max_four min_four
set_option linter.unusedVariables false
set_option linter.unusedSimpArgs false
def impl_ShownChain.f (l0_0 : List Cls) (l1_0 : List Fau) (a2 : Int) : Option (List Int):=if smT l0_0 = true ∧ l1_0.length ≤ 2097152 then some (shcP l0_0 l1_0 a2) else none
set_option maxHeartbeats 2000000 in
set_option maxRecDepth 100000 in
theorem impl_ShownChain.calls (A0_0 : Option Addr) (c0_0 : Nat) (l0_0 : List (S87)) (A1_0 : Option Addr) (c1_0 : Nat) (l1_0 : List (S43)) (a2 : Int) (r : List Int) (w : World) (hr0_0 : Kd.C k87 w A0_0 l0_0.length l0_0) (hc0_0 : l0_0.length ≤ c0_0) (hr1_0 : Kd.C k43 w A1_0 l1_0.length l1_0) (hc1_0 : l1_0.length ≤ c1_0) (h : impl_ShownChain.f l0_0 l1_0 a2 = some r) :
  Calls Try.prog 11 #[.agg #[.slice A0_0 l0_0.length c0_0],.agg #[.slice A1_0 l1_0.length c1_0],.int .i64 a2] w fun e w'=>∃ v0_ : Value,e = .returned (v0_) ∧ Kd.R (Kd.int .i64) 3 w' w.heap.size (fun _=>True) v0_ r ∧ Below w.heap.size w w':=by
 have hu33:=Try.underlying25
 have hu37:=Try.underlying28
 have hsm : smT l0_0 = true ∧ l1_0.length ≤ 2097152:=by
  apply Classical.byContradiction
  intro hn
  rw [impl_ShownChain.f,if_neg hn] at h
  cases h
 rw [impl_ShownChain.f,if_pos hsm] at h
 obtain rfl:=Option.some.inj h
 clear h
 obtain ⟨y3,hy3⟩ : ∃ y_ : List Int,y_ = [a2]:=⟨_,rfl⟩
 have Ny3:=a0_ hy3
 have HF:=a0_ (fun (A : Option Addr) (c : Nat) (W : World) (hb : Below w.heap.size w W) (hr : Kd.C (Kd.int .i64) W A y3.length y3) (hc : y3.length ≤ c)=>impl_faultsIn.calls A0_0 c0_0 l0_0 A1_0 c1_0 l1_0 A c y3 (vH l0_0 l1_0 && hasF l1_0 a2) W (Kd.C_below hr0_0 hb) hc0_0 (Kd.C_below hr1_0 hb) hc1_0 hr hc (by rw [hy3];exact impl_faultsIn_ev l0_0 l1_0 a2 hsm.1 hsm.2))
 have eg : ∀ args w,(callFunc 37 args).run Try.prog w = .ok (.enter 37 args) w:=enters_of Try.func37 (by kernel_rfl) rfl
 have HW:=a0_ (fun (hf : fsH l0_0 l1_0 = true) (h1 : a2 < (l1_0.length : Int)) (W : World) (hb : Below w.heap.size w W)=>impl_walk.callsF l1_0.length (shwN l1_0) 37 #[.agg #[.slice A1_0 l1_0.length c1_0]] #[] a2 W eg h1 hsm.2 (fun x h0 h1=>(fsH_shw hf x h0 h1).2) (fun x h0 h1 W' hW=>by
  have:=impl_Heap_shown.calls A1_0 c1_0 l1_0 x (shwN l1_0 x) W' (Kd.C_below (Kd.C_below hr1_0 hb) hW) hc1_0 (impl_Heap_shown_ev l1_0 x h0 h1)
  simpa using this))
 have BK1:=a0_ (heap_old2 w (.cells #[.slice A0_0 l0_0.length c0_0] 25) (.cells #[.slice A1_0 l1_0.length c1_0] 28))
 have BK2:=a0_ (heap_new2 w (.cells #[.slice A0_0 l0_0.length c0_0] 25) (.cells #[.slice A1_0 l1_0.length c1_0] 28))
 have HB:=a0_ (below2 w (.cells #[.slice A0_0 l0_0.length c0_0] 25) (.cells #[.slice A1_0 l1_0.length c1_0] 28))
 have hcell:=(blk_cell BK1.out 0).trans rfl
 have hcell2:=(blk_cell BK2.out 0).trans rfl
 have hlm:=hsm.2
 clear hr0_0 hr1_0 hsm eg hy3
 unfold shcP
 cases hq : (vH l0_0 l1_0 && hasF l1_0 a2) with
 | false =>
  rw [hq] at HF
  clear HW hq
  go_enter Try.func11,Try.ntmps11
  go_wp2_with (first | ((with_reducible refine gate_dst (N:=10) rfl ?_);refine Kd.R_lit (Kd.int .i64) _ 3 ?hg (N:=10) ?hd (xs:=([a2] : List Int)) (inner:=[.int .i64 a2]) (ok:=fun _=>True) (okp:=fun _=>True) ?hr ?hp (fun _ hk=>hk) trivial (Below.refl _ _) (Nat.le_refl _) (by simp) ?_;(case hd=>rfl);(case hg=>rfl);(case hr=>first | (go_simp;done) | (go_simp;rfl));(case hp=>exact (Reps.one (show Kd.M (Kd.int .i64) _ _ _ a2 [.int .i64 a2] from rfl) (Reps.none _ _)));intro v4 w12 ho13 hb hg_ hnew_;clear hg_ hnew_;rw [← Ny3.out] at ho13;have HO5:=a0_ ho13;replace BK2:=a0_ (blk_keptB BK2.out hb);replace HB:=a0_ (below_step HB.out hb);clear hb ho13;obtain ⟨Ao14,co14,eo14⟩:=Kd.R_slice HO5.out;subst eo14) | (go_at_call 35;refine (HF.out _ _ _ HB.out (Kd.R_reads' HO5.out).2.2 (Kd.R_reads' HO5.out).2.1).mono ?_;rintro e w' ⟨rfl,hb'⟩;replace BK2:=a0_ (blk_keptB BK2.out hb');replace HB:=a0_ (below_step HB.out hb');clear hb';have hcell2:=(blk_cell BK2.out 0).trans rfl))
  go_ret
  exact ⟨_,rfl,Kd.R_nil _ _ _ _ _,HB.out⟩
 | true =>
  obtain ⟨hfs,h0,h1⟩:=good_parts hq
  rw [hq] at HF
  replace HW:=a0_ (HW.out hfs h1)
  change Aside0 (∀ (W : World) (hb : Below w.heap.size w W),Calls _ _ _ W fun e w'=>∃ v : Value,e = .returned v ∧ Kd.R (Kd.int .i64) 3 w' W.heap.size (fun _=>True) v (shwL l1_0 a2) ∧ Below W.heap.size W w') at HW
  rw [if_pos rfl]
  clear hq hfs h0 h1
  go_enter Try.func11,Try.ntmps11
  go_wp2_with (first | ((with_reducible refine gate_dst (N:=10) rfl ?_);refine Kd.R_lit (Kd.int .i64) _ 3 ?hg (N:=10) ?hd (xs:=([a2] : List Int)) (inner:=[.int .i64 a2]) (ok:=fun _=>True) (okp:=fun _=>True) ?hr ?hp (fun _ hk=>hk) trivial (Below.refl _ _) (Nat.le_refl _) (by simp) ?_;(case hd=>rfl);(case hg=>rfl);(case hr=>first | (go_simp;done) | (go_simp;rfl));(case hp=>exact (Reps.one (show Kd.M (Kd.int .i64) _ _ _ a2 [.int .i64 a2] from rfl) (Reps.none _ _)));intro v4 w12 ho13 hb hg_ hnew_;clear hg_ hnew_;rw [← Ny3.out] at ho13;have HO5:=a0_ ho13;replace BK2:=a0_ (blk_keptB BK2.out hb);replace HB:=a0_ (below_step HB.out hb);clear hb ho13;obtain ⟨Ao14,co14,eo14⟩:=Kd.R_slice HO5.out;subst eo14) | (go_at_call 35;refine (HF.out _ _ _ HB.out (Kd.R_reads' HO5.out).2.2 (Kd.R_reads' HO5.out).2.1).mono ?_;rintro e w' ⟨rfl,hb'⟩;replace BK2:=a0_ (blk_keptB BK2.out hb');replace HB:=a0_ (below_step HB.out hb');clear hb';have hcell2:=(blk_cell BK2.out 0).trans rfl) | (go_at_call 36;refine (HW.out _ HB.out).mono ?_;rintro e w2 ⟨v2,rfl,ho2,hb2⟩;have HO2:=a0_ (Kd.R_lower ho2 (below_size HB.out));replace HB:=a0_ (below_step HB.out hb2);clear ho2 hb2))
  go_ret
  exact ⟨_,rfl,HO2.out,HB.out⟩
theorem impl_ShownChain_ev (t : List Cls) (h : List Fau) (f : Int) (hs : smT t = true) (hl : h.length ≤ 2097152) : impl_ShownChain.f t h f = some (shcP t h f):=by rw [impl_ShownChain.f,if_pos ⟨hs,hl⟩]
end Go.Proofs.Ytmiholmfbjalfaa.P
namespace Go.Proofs.Ytmiholmfbjalfaa.P
open Go.RowKit Go.Proofs.YtmiholmfbjalfaaW.PrintWords Go.Proofs.YtmiholmfbjalfaaW.PrintLast Go.Proofs.YtmiholmfbjalfaaW.PrintMore
attribute [local go_sem] max2_int min2_int max_two min_two max_three min_three max_four min_four
set_option linter.unusedVariables false
set_option linter.unusedSimpArgs false
def laws_equalInts.l0 : Nat → List Int → List Int → Int → Option (Bool)
 | 0,_,_,_=>none
 | k + 1,x0,x1,x5=>if x5 < (x0.length : Int) then (if 0 ≤ x5 then (if x5 < (x1.length : Int) then (if (rd x0 x5) = (rd x1 x5) then (laws_equalInts.l0 k x0 x1 (wrap64 (x5 + 1))) else (some false)) else (none)) else (none)) else (some true)
def laws_equalInts.f (k : Nat) (l0 : List Int) (l1 : List Int) : Option (Bool):=if (l0.length : Int) = (l1.length : Int) then (laws_equalInts.l0 k l0 l1 0) else (some false)
theorem laws_equalInts.mono_l : ∀ k,(∀ y0 y1 y2,LeO (laws_equalInts.l0 k y0 y1 y2) (laws_equalInts.l0 (k + 1) y0 y1 y2))
 | 0=>fun _ _ _ r h=>by simp [laws_equalInts.l0] at h
 | k + 1=>by
  have ih0:=laws_equalInts.mono_l k
  ·intro y0 y1 y2
   unfold laws_equalInts.l0
   repeat' first
   | (with_reducible exact ih0 _ _ _)
   | (with_reducible exact LeO.refl _)
   | (with_reducible exact LeO.none _)
   | (with_reducible refine LeO.ite ?_ ?_)
   | (with_reducible refine LeO.bind ?_ (fun _=>?_))
   | exact ih0 _ _ _
   | exact LeO.none _
   | refine LeO.ite ?_ ?_
   | refine LeO.bind ?_ (fun _=>?_)
theorem laws_equalInts.mono : ∀ a0 a1 k,LeO (laws_equalInts.f k a0 a1) (laws_equalInts.f (k + 1) a0 a1):=by
 intro a0 a1 k
 have ih0:=laws_equalInts.mono_l k
 unfold laws_equalInts.f
 repeat' first
   | (with_reducible exact ih0 _ _ _)
   | (with_reducible exact LeO.refl _)
   | (with_reducible exact LeO.none _)
   | (with_reducible refine LeO.ite ?_ ?_)
   | (with_reducible refine LeO.bind ?_ (fun _=>?_))
   | exact ih0 _ _ _
   | exact LeO.none _
   | refine LeO.ite ?_ ?_
   | refine LeO.bind ?_ (fun _=>?_)
set_option maxHeartbeats 8000000 in
set_option maxRecDepth 100000 in
theorem laws_equalInts.calls (k : Nat) (A0 : Option Addr) (c0 : Nat) (l0 : List Int) (A1 : Option Addr) (c1 : Nat) (l1 : List Int) (r : Bool) (w : World) (hr0 : Kd.C (Kd.int .i64) w A0 l0.length l0) (hc0 : l0.length ≤ c0) (hr1 : Kd.C (Kd.int .i64) w A1 l1.length l1) (hc1 : l1.length ≤ c1) (h : laws_equalInts.f k l0 l1 = some r) :
  Calls Try.prog 12 #[.slice A0 l0.length c0,.slice A1 l1.length c1] w fun e w'=>e = .returned (.bool r) ∧ Drawn0 w w':=by
 have HR0:=a0_ hr0
 have HC0:=a0_ hc0
 clear hr0 hc0
 have HR1:=a0_ hr1
 have HC1:=a0_ hc1
 clear hr1 hc1
 have H : (if (l0.length : Int) = (l1.length : Int) then (laws_equalInts.l0 k l0 l1 0) else (some false)) = some r:=h
 clear h
 by_cases c3 : (l0.length : Int) = (l1.length : Int)
 ·rw [if_pos c3] at H
  have c3b0 : ((l0.length : Int) == (l1.length : Int)) = true:=beq_iff_eq.mpr c3
  have c3b1 : ((l0.length : Int) != (l1.length : Int)) = false:=bne_eq_false_iff_eq.mpr c3
  have c3b2 : (l0.length == l1.length) = true:=by first | simpa using c3 | (simp at c3 ⊢;omega)
  clear c3
  have H':=a0_ H
  clear H
  go_enter Try.func12,Try.ntmps12
  go_wp2
  repeat (go_quiet (fail);try go_wp2)
  go_loopg [5] k (fun kq v5 w'=>∃ (x5_1 : Int),v5 = .int .i64 x5_1 ∧ Aside0 (laws_equalInts.l0 kq l0 l1 x5_1 = some r) ∧ Aside0 (kq ≤ k) ∧ Drawn0 w w')
  case atStart=>exact ⟨(0),(by first | rfl | (simp;done) | (simp [*];done)),H',⟨Nat.le_refl _⟩,by repeat (first | exact Drawn0.refl _ | apply Drawn0.step)⟩
  case round =>
   clear H'
   try clear c1
   try clear p2
   try clear c3
   try clear c3b0
   try clear c3b1
   try clear c3b2
   obtain ⟨x5_1,rfl,HA,HK1,⟨m1,rfl⟩⟩:=hrel
   cases gk with
   | zero=>exact absurd HA.out (by simp [laws_equalInts.l0])
   | succ k1 =>
    have H:=HA.out
    clear HA
    simp only [laws_equalInts.l0] at H
    by_cases c4 : x5_1 < (l0.length : Int)
    ·rw [if_pos c4] at H
     have c4b0 : decide (x5_1 < (l0.length : Int)) = true:=decide_eq_true c4
     clear c4
     by_cases c5 : 0 ≤ x5_1
     ·rw [if_pos c5] at H
      have c5b0 : decide (0 ≤ x5_1) = true:=decide_eq_true c5
      clear c5
      by_cases c6 : x5_1 < (l1.length : Int)
      ·rw [if_pos c6] at H
       have c6b0 : decide (x5_1 < (l1.length : Int)) = true:=decide_eq_true c6
       clear c6
       by_cases c7 : (rd l0 x5_1) = (rd l1 x5_1)
       ·rw [if_pos c7] at H
        have c7b0 : ((rd l0 x5_1) == (rd l1 x5_1)) = true:=beq_iff_eq.mpr c7
        have c7b1 : ((rd l0 x5_1) != (rd l1 x5_1)) = false:=bne_eq_false_iff_eq.mpr c7
        clear c7
        have H':=a0_ H
        clear H
        have p1 : 0 ≤ (x5_1 : Int):=of_decide_eq_true (by first | (with_reducible assumption) | assumption)
        have q1 : x5_1 < (l0.length : Int):=of_decide_eq_true (by first | (with_reducible assumption) | assumption)
        obtain ⟨ad1,e1,hx1_0⟩:=Kd.at_int HR0.out x5_1 p1 q1
        cases e1
        replace p1:=eq_true p1
        replace q1:=eq_true q1
        have p2 : 0 ≤ (x5_1 : Int):=of_decide_eq_true (by first | (with_reducible assumption) | assumption)
        have q2 : x5_1 < (l1.length : Int):=of_decide_eq_true (by first | (with_reducible assumption) | assumption)
        obtain ⟨ad2,e2,hx2_0⟩:=Kd.at_int HR1.out x5_1 p2 q2
        cases e2
        replace p2:=eq_true p2
        replace q2:=eq_true q2
        go_wp2
        repeat (go_quiet (fail);try go_wp2)
        go_roundg k1
        case measure=>have:=HK1.out;omega
        case rel=>exact ⟨(wrap64 (x5_1 + 1)),(by first | rfl | (simp;done) | (simp [*];done)),H',⟨by have:=HK1.out;omega⟩,by repeat (first | exact Drawn0.refl _ | apply Drawn0.step)⟩
       ·rw [if_neg c7] at H
        have c7b0 : ((rd l0 x5_1) == (rd l1 x5_1)) = false:=beq_eq_false_iff_ne.mpr c7
        have c7b1 : ((rd l0 x5_1) != (rd l1 x5_1)) = true:=bne_iff_ne.mpr c7
        obtain rfl:=Option.some.inj H
        have p1 : 0 ≤ (x5_1 : Int):=of_decide_eq_true (by first | (with_reducible assumption) | assumption)
        have q1 : x5_1 < (l0.length : Int):=of_decide_eq_true (by first | (with_reducible assumption) | assumption)
        obtain ⟨ad1,e1,hx1_0⟩:=Kd.at_int HR0.out x5_1 p1 q1
        cases e1
        replace p1:=eq_true p1
        replace q1:=eq_true q1
        have p2 : 0 ≤ (x5_1 : Int):=of_decide_eq_true (by first | (with_reducible assumption) | assumption)
        have q2 : x5_1 < (l1.length : Int):=of_decide_eq_true (by first | (with_reducible assumption) | assumption)
        obtain ⟨ad2,e2,hx2_0⟩:=Kd.at_int HR1.out x5_1 p2 q2
        cases e2
        replace p2:=eq_true p2
        replace q2:=eq_true q2
        go_wp2
        repeat (go_quiet (fail);try go_wp2)
        go_ret
        exact ⟨by first | rfl | (simp;done) | (simp [*];done),by repeat (first | exact Drawn0.refl _ | apply Drawn0.step)⟩
      ·rw [if_neg c6] at H
       exact absurd H (by simp)
     ·rw [if_neg c5] at H
      exact absurd H (by simp)
    ·rw [if_neg c4] at H
     have c4b0 : decide (x5_1 < (l0.length : Int)) = false:=decide_eq_false c4
     clear c4
     obtain rfl:=Option.some.inj H
     go_wp2
     repeat (go_quiet (fail);try go_wp2)
     go_ret
     exact ⟨by first | rfl | (simp;done) | (simp [*];done),by repeat (first | exact Drawn0.refl _ | apply Drawn0.step)⟩
 ·rw [if_neg c3] at H
  have c3b0 : ((l0.length : Int) == (l1.length : Int)) = false:=beq_eq_false_iff_ne.mpr c3
  have c3b1 : ((l0.length : Int) != (l1.length : Int)) = true:=bne_iff_ne.mpr c3
  have c3b2 : (l0.length == l1.length) = false:=by first | simpa using c3 | (simp at c3 ⊢;omega)
  obtain rfl:=Option.some.inj H
  go_enter Try.func12,Try.ntmps12
  go_wp2
  repeat (go_quiet (fail);try go_wp2)
  go_ret
  exact ⟨by first | rfl | (simp;done) | (simp [*];done),by repeat (first | exact Drawn0.refl _ | apply Drawn0.step)⟩
theorem laws_equalInts_ev (l : List Int) (hl : l.length ≤ 9223372036854775806) : Ev (fun k=>laws_equalInts.f k l l) true:=by
 have key : ∀ d j,j + d = l.length → Ev (fun k=>laws_equalInts.l0 k l l (j : Int)) true:=by
  intro d
  induction d with
  | zero =>
   intro j hj
   refine Ev.succ ?_
   simp only [laws_equalInts.l0]
   exact Ev.neg (by omega) (Ev.const rfl)
  | succ d ih =>
   intro j hj
   refine Ev.succ ?_
   simp only [laws_equalInts.l0]
   refine Ev.pos (by omega) (Ev.pos (by omega) (Ev.pos (by omega) (Ev.pos trivial ?_)))
   rw [wrap_succ (i:=(j : Int)) (n:=l.length) (by omega) (by omega) (by omega)]
   exact ih (j + 1) (by omega)
 exact Ev.pos rfl (key l.length 0 (by omega))
end Go.Proofs.Ytmiholmfbjalfaa.P
namespace Go.Proofs.Ytmiholmfbjalfaa.P
open Go.RowKit Go.Proofs.YtmiholmfbjalfaaW.PrintWords Go.Proofs.YtmiholmfbjalfaaW.PrintLast Go.Proofs.YtmiholmfbjalfaaW.PrintMore
attribute [local go_sem] max2_int min2_int max_two min_two max_three min_three max_four min_four
set_option linter.unusedVariables false
set_option linter.unusedSimpArgs false
def byL (b : List Int) : Prop:=b.length ≤ 2000 ∧ ∀ x ∈ b,0 ≤ x ∧ x ≤ 255
theorem byL_rd {b : List Int} (h : byL b) (i : Int) : 0 ≤ rd b i ∧ rd b i ≤ 255:=by
 unfold rd
 by_cases hi : i.toNat < b.length
 ·rw [List.getD_eq_getElem?_getD,List.getElem?_eq_getElem hi]
  exact h.2 _ (List.getElem_mem hi)
 ·rw [List.getD_eq_getElem?_getD,List.getElem?_eq_none (by omega)]
  show (0 : Int) ≤ 0 ∧ (0 : Int) ≤ 255
  omega
theorem xor_nonneg (x y : Int) (h0 : 0 ≤ x) (h1 : x < 4611686018427387904) (g0 : 0 ≤ y) (g1 : y < 4611686018427387904) : 0 ≤ Go.bits .xor .i64 x y:=by
 obtain ⟨a,rfl⟩:=Int.eq_ofNat_of_zero_le h0
 obtain ⟨b,rfl⟩:=Int.eq_ofNat_of_zero_le g0
 have ha : a < 2 ^ 62:=by omega
 have hb : b < 2 ^ 62:=by omega
 have ha' : a % 2 ^ 64 = a:=Nat.mod_eq_of_lt (by omega)
 have hb' : b % 2 ^ 64 = b:=Nat.mod_eq_of_lt (by omega)
 have hx:=Nat.xor_lt_two_pow ha hb
 have e : Go.bits .xor .i64 (a : Int) (b : Int) = ((a ^^^ b : Nat) : Int):=by
  have hk : IntKind.bits .i64 = 64:=rfl
  simp only [Go.bits,hk,BitVec.ofInt_natCast,BitVec.toNat_xor,BitVec.toNat_ofNat,ha',hb']
  rw [Go.IntKind.wrap_i64]
  generalize a ^^^ b = c at hx
  omega
 rw [e]
 omega
theorem tmod_in {x n : Int} (h0 : 0 ≤ x) (hn : 1 ≤ n) : 0 ≤ Int.tmod x n ∧ Int.tmod x n < n:=⟨Int.tmod_nonneg n h0,Int.tmod_lt_of_pos x (by omega)⟩
end Go.Proofs.Ytmiholmfbjalfaa.P
namespace Go.Proofs.Ytmiholmfbjalfaa.P
open Go.RowKit Go.Proofs.YtmiholmfbjalfaaW.PrintWords Go.Proofs.YtmiholmfbjalfaaW.PrintLast Go.Proofs.YtmiholmfbjalfaaW.PrintMore
attribute [local go_sem] max2_int min2_int max_two min_two max_three min_three max_four min_four
set_option linter.unusedVariables false
set_option linter.unusedSimpArgs false
def IsS76 (w0 W : World) (g : Nat) (f0 : List Int) (f1 : Int) : Prop:=∃ A0 c0,W.heap[g]? = some (.cells #[.slice A0 f0.length c0,.int .i64 f1] 76 (0,0)) ∧ w0.heap.size ≤ g ∧ Kd.C (Kd.int .u8) w0 A0 f0.length f0
theorem IsS76.grown {w0 W : World} {g : Nat} {f0 : List Int} {f1 : Int} {W1 : World} {row : Option Nat} (h : IsS76 w0 W g f0 f1) (hw : W.grownBy W1 row) (hne : some g ≠ row) : IsS76 w0 W1 g f0 f1:=by
 obtain ⟨A0,c0,hb,hg,hr0⟩:=h
 exact ⟨A0,c0,blk_grown hb hw hne,hg,hr0⟩
theorem IsS76.own_neN {w0 W : World} {g : Nat} {f0 : List Int} {f1 : Int} {α : Type} {d : Kd α} {e : Nat} {base : Nat} {ok : Nat → Prop} {v : Value} {xs : List α} (h : IsS76 w0 W g f0 f1) (ho : Kd.N d e W base ok v xs) (ht : e ≠ 76) : some g ≠ v.ownBlock:=by
 obtain ⟨A0,c0,hb,hg,hr0⟩:=h
 exact Kd.N_ne ho hb ht
theorem IsS76.fresh {w0 W : World} {g : Nat} {f0 : List Int} {f1 : Int} (h : IsS76 w0 W g f0 f1) : ∀ k,W.heap.size ≤ k → k ≠ g:=by
 obtain ⟨A0,c0,hb,hg,hr0⟩:=h
 exact Kd.freshB hb
theorem IsS76.kept {w0 W : World} {g : Nat} {f0 : List Int} {f1 : Int} {W1 : World} {S : Nat → Prop} (h : IsS76 w0 W g f0 f1) (hk : Kept W W1 S) (hne : ¬ S g) : IsS76 w0 W1 g f0 f1:=by
 obtain ⟨A0,c0,hb,hg,hr0⟩:=h
 exact ⟨A0,c0,blk_kept hb hk hne,hg,hr0⟩
theorem IsS76.below {w0 W : World} {g : Nat} {f0 : List Int} {f1 : Int} {W1 : World} (h : IsS76 w0 W g f0 f1) (hw : Below W.heap.size W W1) : IsS76 w0 W1 g f0 f1:=h.grown (grown_of_below hw none) (by simp)
theorem IsS76.alloc {w0 W : World} {g : Nat} {f0 : List Int} {f1 : Int} (h : IsS76 w0 W g f0 f1) (o : Obj) : IsS76 w0 (W.alloc o) g f0 f1:=h.below (below_alloc (Below.refl _ _) o)
theorem IsS76.drewN {w0 W : World} {g : Nat} {f0 : List Int} {f1 : Int} (h : IsS76 w0 W g f0 f1) (m : Nat) : IsS76 w0 (W.drewN m) g f0 f1:=h
theorem IsS76.drew {w0 W : World} {g : Nat} {f0 : List Int} {f1 : Int} (h : IsS76 w0 W g f0 f1) : IsS76 w0 W.drew g f0 f1:=h
theorem IsS76.at_ {w0 W : World} {g : Nat} {f0 : List Int} {f1 : Int} {w' : World} {m : Nat} (hq : W.drewN m = w') (h : IsS76 w0 W g f0 f1) : IsS76 w0 w' g f0 f1:=by subst hq;exact IsS76.drewN h m
theorem IsS76.apart {w0 W : World} {g : Nat} {f0 : List Int} {f1 : Int} {α : Type} {d : Kd α} {e : Nat} {base : Nat} {ok : Nat → Prop} {v : Value} {xs : List α} (h : IsS76 w0 W g f0 f1) (ho : d.R e W base ok v xs) (ht : ∀ q,q ∈ e :: d.E → q ≠ 76) : d.R e W base (fun k=>ok k ∧ k ≠ g) v xs:=by
 obtain ⟨A0,c0,hb,hg,hr0⟩:=h
 exact Kd.R_types ho hb ht
theorem IsS76.own_ne {w0 W : World} {g : Nat} {f0 : List Int} {f1 : Int} {α : Type} {d : Kd α} {e : Nat} {base : Nat} {ok : Nat → Prop} {v : Value} {xs : List α} (h : IsS76 w0 W g f0 f1) (ho : d.R e W base ok v xs) (ht : e ≠ 76) : some g ≠ v.ownBlock:=by
 obtain ⟨A0,c0,hb,hg,hr0⟩:=h
 exact Kd.R_ne ho hb ht
theorem IsS76.apartQ {w0 W : World} {g : Nat} {f0 : List Int} {f1 : Int} {α : Type} {d : Kd α} {e : Nat} {base : Nat} {ok : Nat → Prop} {v : Value} {xs : List α} (h : IsS76 w0 W g f0 f1) (ho : d.Q e W base ok v xs) (ht : ∀ q,q ∈ e :: d.E → q ≠ 76) : d.Q e W base (fun k=>ok k ∧ k ≠ g) v xs:=by
 obtain ⟨A0,c0,hb,hg,hr0⟩:=h
 exact Kd.Q_types ho hb ht
theorem IsS76.own_neQ {w0 W : World} {g : Nat} {f0 : List Int} {f1 : Int} {α : Type} {d : Kd α} {e : Nat} {base : Nat} {ok : Nat → Prop} {v : Value} {xs : List α} (h : IsS76 w0 W g f0 f1) (ho : d.Q e W base ok v xs) (ht : e ≠ 76) : some g ≠ v.ownBlock:=by
 obtain ⟨A0,c0,hb,hg,hr0⟩:=h
 exact Kd.Q_ne ho hb ht
theorem IsS76.apartS {w0 W : World} {g : Nat} {f0 : List Int} {f1 : Int} {α : Type} {d : Kd α} {e : Nat} {base : Nat} {ok : Nat → Prop} {v : Value} {xs : List α} (h : IsS76 w0 W g f0 f1) (ho : d.S e W base ok v xs) (ht : ∀ q,q ∈ e :: d.E → q ≠ 76) : d.S e W base (fun k=>ok k ∧ k ≠ g) v xs:=by
 obtain ⟨A0,c0,hb,hg,hr0⟩:=h
 exact Kd.S_types ho hb ht
theorem IsS76.own_neS {w0 W : World} {g : Nat} {f0 : List Int} {f1 : Int} {α : Type} {d : Kd α} {e : Nat} {base : Nat} {ok : Nat → Prop} {v : Value} {xs : List α} (h : IsS76 w0 W g f0 f1) (ho : d.S e W base ok v xs) (ht : e ≠ 76) : some g ≠ v.ownBlock:=by
 obtain ⟨A0,c0,hb,hg,hr0⟩:=h
 exact Kd.S_ne ho hb ht
theorem IsS76.lt {w0 W : World} {g : Nat} {f0 : List Int} {f1 : Int} (h : IsS76 w0 W g f0 f1) : g < W.heap.size:=by
 obtain ⟨A0,c0,hb,hg,hr0⟩:=h
 exact blk_lt hb
theorem IsS76.ge {w0 W : World} {g : Nat} {f0 : List Int} {f1 : Int} (h : IsS76 w0 W g f0 f1) : w0.heap.size ≤ g:=by
 obtain ⟨A0,c0,hb,hg,hr0⟩:=h
 exact hg
theorem IsS76.ne_blk {w0 W : World} {g : Nat} {f0 : List Int} {f1 : Int} {a : Nat} {cs : Array Value} {t : TypeId} {fr : Nat × Nat} (h : IsS76 w0 W g f0 f1) (hb2 : W.heap[a]? = some (.cells cs t fr)) (ht : t ≠ 76) : g ≠ a:=by
 obtain ⟨A0,c0,hb,hg,hr0⟩:=h
 rintro rfl
 rw [hb] at hb2
 injection hb2 with hb2
 injection hb2 with _ ht2
 exact ht ht2.symm
theorem IsS76.far {w0 W : World} {g : Nat} {f0 : List Int} {f1 : Int} {p : Addr} (h : IsS76 w0 W g f0 f1) (hne : g ≠ p.block) (u : Value) : IsS76 w0 (W.setCell p u) g f0 f1:=by
 obtain ⟨A0,c0,hb,hg,hr0⟩:=h
 exact ⟨A0,c0,blk_far hb hne u,hg,hr0⟩
theorem cellS76_0 {W : World} {g : Nat} {A0 : Option Addr} {c0 : Nat} {f0 : List Int} {f1 : Int} (h : W.heap[g]? = some (.cells #[.slice A0 f0.length c0,.int .i64 f1] 76 (0,0))) : W.cell? ⟨g,0,none⟩ = some (.slice A0 f0.length c0):=(blk_cell h 0).trans rfl
theorem cellS76_1 {W : World} {g : Nat} {A0 : Option Addr} {c0 : Nat} {f0 : List Int} {f1 : Int} (h : W.heap[g]? = some (.cells #[.slice A0 f0.length c0,.int .i64 f1] 76 (0,0))) : W.cell? ⟨g,1,none⟩ = some (.int .i64 f1):=(blk_cell h 1).trans rfl
theorem IsS76.set_1 {w0 W : World} {g : Nat} {f0 : List Int} {f1 : Int} (h : IsS76 w0 W g f0 f1) (x : Int) : IsS76 w0 (W.setCell ⟨g,1,none⟩ (.int .i64 x)) g f0 x:=by
 obtain ⟨A0,c0,hb,hg,hr0⟩:=h
 exact ⟨A0,c0,by simpa using blk_set hb 1 (.int .i64 x),hg,hr0⟩
theorem IsS76.new (w0 W : World) (A0 : Option Addr) (c0 : Nat) (f0 : List Int) (f1 : Int) (hB : Below w0.heap.size w0 W) (hr0 : Kd.C (Kd.int .u8) w0 A0 f0.length f0) : IsS76 w0 (W.alloc (.cells #[.slice A0 f0.length c0,.int .i64 f1] 76)) W.heap.size f0 f1:=⟨A0,c0,by simpa using heap_alloc_new W _,hB.size,hr0⟩
def spec_reader_pick.j0 : Nat → Int → Bool → List Int → Int → Option (Int × Int)
 | 0,_,_,_,_=>none
 | k + 1,x1,x24,x1000,x1001=>if x24 = true then (some (0,x1001)) else (if (wrap64 (x1001 - 1)) < (x1000.length : Int) then (if 0 ≤ (wrap64 (x1001 - 1)) then (if x1 = 0 then (none) else (some (Int.tmod (wrap64 (rd x1000 (wrap64 (x1001 - 1)))) x1,x1001))) else (none)) else (if (x1000.length : Int) = 0 then (none) else (if 0 ≤ (Int.tmod (wrap64 (x1001 - 1)) (x1000.length : Int)) then (if (Int.tmod (wrap64 (x1001 - 1)) (x1000.length : Int)) < (x1000.length : Int) then (if 0 ≤ (Int.tmod (wrap64 ((wrap64 ((wrap64 (x1001 - 1)) * 7)) + 3)) (x1000.length : Int)) then (if (Int.tmod (wrap64 ((wrap64 ((wrap64 (x1001 - 1)) * 7)) + 3)) (x1000.length : Int)) < (x1000.length : Int) then (if x1 = 0 then (none) else (some (Int.tmod (Go.bits .xor .i64 (wrap64 ((wrap64 ((wrap64 ((wrap64 ((wrap64 (rd x1000 (Int.tmod (wrap64 (x1001 - 1)) (x1000.length : Int)))) * 131)) + (wrap64 ((wrap64 (rd x1000 (Int.tmod (wrap64 ((wrap64 ((wrap64 (x1001 - 1)) * 7)) + 3)) (x1000.length : Int)))) * 1117)))) + (wrap64 ((wrap64 (x1001 - 1)) * 29)))) + (wrap64 ((wrap64 (Int.tdiv (wrap64 (x1001 - 1)) (x1000.length : Int))) * 53)))) (wrap64 (Int.tdiv (wrap64 ((wrap64 ((wrap64 ((wrap64 ((wrap64 (rd x1000 (Int.tmod (wrap64 (x1001 - 1)) (x1000.length : Int)))) * 131)) + (wrap64 ((wrap64 (rd x1000 (Int.tmod (wrap64 ((wrap64 ((wrap64 (x1001 - 1)) * 7)) + 3)) (x1000.length : Int)))) * 1117)))) + (wrap64 ((wrap64 (x1001 - 1)) * 29)))) + (wrap64 ((wrap64 (Int.tdiv (wrap64 (x1001 - 1)) (x1000.length : Int))) * 53)))) 64))) x1,x1001))) else (none)) else (none)) else (none)) else (none))))
def spec_reader_pick.f (k : Nat) (s0_0 : List Int) (s0_1 : Int) (a1 : Int) : Option (Int × Int):=if a1 < 1 then (spec_reader_pick.j0 k a1 true s0_0 (wrap64 (s0_1 + 1))) else (spec_reader_pick.j0 k a1 ((s0_0.length : Int) == 0) s0_0 (wrap64 (s0_1 + 1)))
theorem spec_reader_pick.mono_l : ∀ k,(∀ y0 y1 y2 y3,LeO (spec_reader_pick.j0 k y0 y1 y2 y3) (spec_reader_pick.j0 (k + 1) y0 y1 y2 y3))
 | 0=>fun _ _ _ _ r h=>by simp [spec_reader_pick.j0] at h
 | k + 1=>by
  have ih0:=spec_reader_pick.mono_l k
  ·intro y0 y1 y2 y3
   unfold spec_reader_pick.j0
   repeat' first
   | (with_reducible exact ih0 _ _ _ _)
   | (with_reducible exact LeO.refl _)
   | (with_reducible exact LeO.none _)
   | (with_reducible refine LeO.ite ?_ ?_)
   | (with_reducible refine LeO.bind ?_ (fun _=>?_))
   | exact ih0 _ _ _ _
   | exact LeO.none _
   | refine LeO.ite ?_ ?_
   | refine LeO.bind ?_ (fun _=>?_)
theorem spec_reader_pick.mono : ∀ a0 a1 a2 k,LeO (spec_reader_pick.f k a0 a1 a2) (spec_reader_pick.f (k + 1) a0 a1 a2):=by
 intro a0 a1 a2 k
 have ih0:=spec_reader_pick.mono_l k
 unfold spec_reader_pick.f
 repeat' first
   | (with_reducible exact ih0 _ _ _ _)
   | (with_reducible exact LeO.refl _)
   | (with_reducible exact LeO.none _)
   | (with_reducible refine LeO.ite ?_ ?_)
   | (with_reducible refine LeO.bind ?_ (fun _=>?_))
   | exact ih0 _ _ _ _
   | exact LeO.none _
   | refine LeO.ite ?_ ?_
   | refine LeO.bind ?_ (fun _=>?_)
set_option maxHeartbeats 8000000 in
set_option maxRecDepth 100000 in
theorem spec_reader_pick.calls (k : Nat) (g : Nat) (s0_0 : List Int) (s0_1 : Int) (a1 : Int) (r1 : Int) (r2 : Int) (w0 w : World) (hI : IsS76 w0 w g s0_0 s0_1) (hB : Below w0.heap.size w0 w) (h : spec_reader_pick.f k s0_0 s0_1 a1 = some (r1,r2)) :
  Calls Try.prog 48 #[.pointer (some ⟨g,0,none⟩),.int .i64 a1] w fun e w'=>e = .returned (.int .i64 r1) ∧ IsS76 w0 w' g s0_0 r2 ∧ Below w0.heap.size w0 w' ∧ KeepBut w w' g none:=by
 have HI0:=a0_ hI
 have HK:=a0_ (KeepBut.refl w g none)
 have HL:=a0_ hB.size
 clear hI
 have HW0:=a0_ hB.size
 have HB:=a0_ hB
 clear hB
 have H : (if a1 < 1 then (spec_reader_pick.j0 k a1 true s0_0 (wrap64 (s0_1 + 1))) else (spec_reader_pick.j0 k a1 ((s0_0.length : Int) == 0) s0_0 (wrap64 (s0_1 + 1)))) = some (r1,r2):=h
 clear h
 have HC3:=a0_ H
 clear H
 obtain ⟨ASz4_0,cSz4_0,HGz4,hgz4,HSz4_0⟩:=HI0.out
 have hcz4_0:=cellS76_0 HGz4
 have hcz4_1:=cellS76_1 HGz4
 have hfz4_1:=blk_frozen HGz4 1
 clear HGz4 hgz4
 go_enter Try.func48,Try.ntmps48
 go_upto_region 2 with (fail)
 repeat (go_quiet (fail);go_upto_region 2 with (fail))
 go_cut [24] (fun v24 wc=>∃ (kq : Nat) (x24_2 : Bool),v24 = .bool x24_2 ∧ Aside0 (spec_reader_pick.j0 kq a1 x24_2 s0_0 (wrap64 (s0_1 + 1)) = some (r1,r2)) ∧ Aside0 (kq ≤ k) ∧ Aside0 (IsS76 w0 wc g s0_0 (wrap64 (s0_1 + 1))) ∧ Aside0 (KeepBut w wc g none) ∧ Aside0 (Below w0.heap.size w0 wc))
 case first =>
  have H:=HC3.out
  clear HC3
  by_cases c5 : a1 < 1
  ·rw [if_pos c5] at H
   have c5b0 : decide (a1 < 1) = true:=decide_eq_true c5
   clear c5
   (first | rw [c5b0] | (simp only [i64_w,i32_w];rw [c5b0]) | skip)
   have H':=a0_ H
   clear H
   go_wp2
   repeat (go_quiet (fail);try go_wp2)
   go_meet
   case rel=>exact ⟨_,(true),(by first | rfl | (simp;done) | (simp [*];done)),H',⟨by first | omega | exact Nat.le_refl _⟩,⟨by repeat (first | (with_reducible first | exact HI0.out | apply IsS76.alloc | apply IsS76.drewN | apply IsS76.drew | apply IsS76.set_1) | exact HI0.out)⟩,⟨hk_⟩,⟨by repeat (first | (with_reducible first | exact HB.out | apply below_alloc | apply pw_below_drewN | apply below_drew1 | refine below_set ?_ (IsS76.ge HI0.out)) | exact HB.out)⟩⟩
  ·rw [if_neg c5] at H
   have c5b0 : decide (a1 < 1) = false:=decide_eq_false c5
   clear c5
   (first | rw [c5b0] | (simp only [i64_w,i32_w];rw [c5b0]) | skip)
   have H':=a0_ H
   clear H
   obtain ⟨ASz6_0,cSz6_0,HGz6,hgz6,HSz6_0⟩:=HI0.out
   have hcz6_0:=cellS76_0 HGz6
   have hcz6_1:=cellS76_1 HGz6
   have hfz6_1:=blk_frozen HGz6 1
   clear HGz6 hgz6
   go_wp2
   repeat (go_quiet (fail);try go_wp2)
   go_meet
   case rel=>exact ⟨_,(((s0_0.length : Int) == 0)),(by first | rfl | (simp;done) | (simp [*];done)),H',⟨by first | omega | exact Nat.le_refl _⟩,⟨by repeat (first | (with_reducible first | exact HI0.out | apply IsS76.alloc | apply IsS76.drewN | apply IsS76.drew | apply IsS76.set_1) | exact HI0.out)⟩,⟨hk_⟩,⟨by repeat (first | (with_reducible first | exact HB.out | apply below_alloc | apply pw_below_drewN | apply below_drew1 | refine below_set ?_ (IsS76.ge HI0.out)) | exact HB.out)⟩⟩
 case rest =>
  clear HC3
  try clear p2
  try clear c4
  try clear c5
  try clear c5b0
  try clear p6
  try clear hcz4_0
  try clear hcz4_1
  try clear hcz6_0
  try clear hcz6_1
  try clear hfz4_1
  try clear hfz6_1
  obtain ⟨kq,x24_2,rfl,HA,HJ2,HI0,HK,HB⟩:=hcut
  cases kq with
  | zero=>exact absurd HA.out (by simp [spec_reader_pick.j0])
  | succ kj2 =>
   have H:=HA.out
   clear HA
   simp only [spec_reader_pick.j0] at H
   by_cases c7 : x24_2 = true
   ·subst c7
    have H1 : (some (0,(wrap64 (s0_1 + 1)))) = some (r1,r2):=by rw [if_pos rfl] at H;exact H
    clear H
    have H:=H1
    clear H1
    simp only [Option.some.injEq,Prod.mk.injEq] at H
    obtain ⟨rfl,rfl⟩:=H
    go_wp2
    repeat (go_quiet (fail);try go_wp2)
    go_ret
    exact ⟨by first | rfl | (simp [errW_none,errW_some] <;> rfl) | (simp [*,errW_none,errW_some] <;> rfl),by repeat (first | (with_reducible first | exact HI0.out | apply IsS76.alloc | apply IsS76.drewN | apply IsS76.drew | apply IsS76.set_1) | exact HI0.out),by repeat (first | (with_reducible first | exact HB.out | apply below_alloc | apply pw_below_drewN | apply below_drew1 | refine below_set ?_ (IsS76.ge HI0.out)) | exact HB.out),hk_⟩
   ·replace c7:=Bool.eq_false_iff.mpr c7
    subst c7
    have H1 : (if (wrap64 ((wrap64 (s0_1 + 1)) - 1)) < (s0_0.length : Int) then (if 0 ≤ (wrap64 ((wrap64 (s0_1 + 1)) - 1)) then (if a1 = 0 then (none) else (some (Int.tmod (wrap64 (rd s0_0 (wrap64 ((wrap64 (s0_1 + 1)) - 1)))) a1,(wrap64 (s0_1 + 1))))) else (none)) else (if (s0_0.length : Int) = 0 then (none) else (if 0 ≤ (Int.tmod (wrap64 ((wrap64 (s0_1 + 1)) - 1)) (s0_0.length : Int)) then (if (Int.tmod (wrap64 ((wrap64 (s0_1 + 1)) - 1)) (s0_0.length : Int)) < (s0_0.length : Int) then (if 0 ≤ (Int.tmod (wrap64 ((wrap64 ((wrap64 ((wrap64 (s0_1 + 1)) - 1)) * 7)) + 3)) (s0_0.length : Int)) then (if (Int.tmod (wrap64 ((wrap64 ((wrap64 ((wrap64 (s0_1 + 1)) - 1)) * 7)) + 3)) (s0_0.length : Int)) < (s0_0.length : Int) then (if a1 = 0 then (none) else (some (Int.tmod (Go.bits .xor .i64 (wrap64 ((wrap64 ((wrap64 ((wrap64 ((wrap64 (rd s0_0 (Int.tmod (wrap64 ((wrap64 (s0_1 + 1)) - 1)) (s0_0.length : Int)))) * 131)) + (wrap64 ((wrap64 (rd s0_0 (Int.tmod (wrap64 ((wrap64 ((wrap64 ((wrap64 (s0_1 + 1)) - 1)) * 7)) + 3)) (s0_0.length : Int)))) * 1117)))) + (wrap64 ((wrap64 ((wrap64 (s0_1 + 1)) - 1)) * 29)))) + (wrap64 ((wrap64 (Int.tdiv (wrap64 ((wrap64 (s0_1 + 1)) - 1)) (s0_0.length : Int))) * 53)))) (wrap64 (Int.tdiv (wrap64 ((wrap64 ((wrap64 ((wrap64 ((wrap64 (rd s0_0 (Int.tmod (wrap64 ((wrap64 (s0_1 + 1)) - 1)) (s0_0.length : Int)))) * 131)) + (wrap64 ((wrap64 (rd s0_0 (Int.tmod (wrap64 ((wrap64 ((wrap64 ((wrap64 (s0_1 + 1)) - 1)) * 7)) + 3)) (s0_0.length : Int)))) * 1117)))) + (wrap64 ((wrap64 ((wrap64 (s0_1 + 1)) - 1)) * 29)))) + (wrap64 ((wrap64 (Int.tdiv (wrap64 ((wrap64 (s0_1 + 1)) - 1)) (s0_0.length : Int))) * 53)))) 64))) a1,(wrap64 (s0_1 + 1))))) else (none)) else (none)) else (none)) else (none)))) = some (r1,r2):=by rw [if_neg (show ¬ (false = true) by decide)] at H;exact H
    clear H
    have H:=H1
    clear H1
    by_cases c8 : (wrap64 ((wrap64 (s0_1 + 1)) - 1)) < (s0_0.length : Int)
    ·rw [if_pos c8] at H
     have c8b0 : decide ((wrap64 ((wrap64 (s0_1 + 1)) - 1)) < (s0_0.length : Int)) = true:=decide_eq_true c8
     clear c8
     obtain ⟨ji9,hji9⟩ : ∃ j_ : Int,(wrap64 ((wrap64 (s0_1 + 1)) - 1)) = j_:=⟨_,rfl⟩
     replace H : (if 0 ≤ (ji9) then (if a1 = 0 then (none) else (some (Int.tmod (wrap64 (rd s0_0 (ji9))) a1,(wrap64 (s0_1 + 1))))) else (none)) = some (r1,r2):=by first | (rw [hji9] at H;exact H) | (simp only [hji9] at H ⊢;exact H)
     (try rw [hji9] at c8b0)
     have hji9w : (IntKind.i64.wrap ((wrap64 (s0_1 + 1)) - 1)) = ji9:=(i64_w _).trans hji9
     by_cases c10 : 0 ≤ (ji9)
     ·rw [if_pos c10] at H
      have c10b0 : decide (0 ≤ (ji9)) = true:=decide_eq_true c10
      clear c10
      by_cases c11 : a1 = 0
      ·rw [if_pos c11] at H
       exact absurd H (by simp)
      ·rw [if_neg c11] at H
       have c11b0 : (a1 == 0) = false:=beq_eq_false_iff_ne.mpr c11
       have c11b1 : (a1 != 0) = true:=bne_iff_ne.mpr c11
       simp only [Option.some.injEq,Prod.mk.injEq] at H
       obtain ⟨rfl,rfl⟩:=H
       obtain ⟨ASz12_0,cSz12_0,HGz12,hgz12,HSz12_0⟩:=HI0.out
       have hcz12_0:=cellS76_0 HGz12
       have hcz12_1:=cellS76_1 HGz12
       have hfz12_1:=blk_frozen HGz12 1
       clear HGz12 hgz12
       have p1 : 0 ≤ ((ji9) : Int):=of_decide_eq_true (by first | (with_reducible assumption) | assumption)
       have q1 : (ji9) < (s0_0.length : Int):=of_decide_eq_true (by first | (with_reducible assumption) | assumption)
       obtain ⟨ad1,e1,hx1_0⟩:=Kd.at_int HSz12_0 (ji9) p1 q1
       cases e1
       replace hx1_0:=pw_cell_below HB.out hx1_0
       replace p1:=eq_true p1
       replace q1:=eq_true q1
       go_wp2
       repeat (go_quiet (fail);try go_wp2)
       go_ret
       exact ⟨by first | rfl | (simp [errW_none,errW_some] <;> rfl) | (simp only [← hji9];first | rfl | (simp [errW_none,errW_some] <;> rfl)) | (simp [*,errW_none,errW_some] <;> rfl),by repeat (first | (with_reducible first | exact HI0.out | apply IsS76.alloc | apply IsS76.drewN | apply IsS76.drew | apply IsS76.set_1) | exact HI0.out),by repeat (first | (with_reducible first | exact HB.out | apply below_alloc | apply pw_below_drewN | apply below_drew1 | refine below_set ?_ (IsS76.ge HI0.out)) | exact HB.out),hk_⟩
     ·rw [if_neg c10] at H
      exact absurd H (by simp)
    ·rw [if_neg c8] at H
     have c8b0 : decide ((wrap64 ((wrap64 (s0_1 + 1)) - 1)) < (s0_0.length : Int)) = false:=decide_eq_false c8
     clear c8
     by_cases c13 : (s0_0.length : Int) = 0
     ·rw [if_pos c13] at H
      exact absurd H (by simp)
     ·rw [if_neg c13] at H
      have c13b0 : ((s0_0.length : Int) == 0) = false:=beq_eq_false_iff_ne.mpr c13
      have c13b1 : ((s0_0.length : Int) != 0) = true:=bne_iff_ne.mpr c13
      have c13b2 : ¬ (s0_0 = []):=fun h_=>c13 (by rw [h_];rfl)
      obtain ⟨ji14,hji14⟩ : ∃ j_ : Int,(Int.tmod (wrap64 ((wrap64 (s0_1 + 1)) - 1)) (s0_0.length : Int)) = j_:=⟨_,rfl⟩
      replace H : (if 0 ≤ (ji14) then (if (ji14) < (s0_0.length : Int) then (if 0 ≤ (Int.tmod (wrap64 ((wrap64 ((wrap64 ((wrap64 (s0_1 + 1)) - 1)) * 7)) + 3)) (s0_0.length : Int)) then (if (Int.tmod (wrap64 ((wrap64 ((wrap64 ((wrap64 (s0_1 + 1)) - 1)) * 7)) + 3)) (s0_0.length : Int)) < (s0_0.length : Int) then (if a1 = 0 then (none) else (some (Int.tmod (Go.bits .xor .i64 (wrap64 ((wrap64 ((wrap64 ((wrap64 ((wrap64 (rd s0_0 (ji14))) * 131)) + (wrap64 ((wrap64 (rd s0_0 (Int.tmod (wrap64 ((wrap64 ((wrap64 ((wrap64 (s0_1 + 1)) - 1)) * 7)) + 3)) (s0_0.length : Int)))) * 1117)))) + (wrap64 ((wrap64 ((wrap64 (s0_1 + 1)) - 1)) * 29)))) + (wrap64 ((wrap64 (Int.tdiv (wrap64 ((wrap64 (s0_1 + 1)) - 1)) (s0_0.length : Int))) * 53)))) (wrap64 (Int.tdiv (wrap64 ((wrap64 ((wrap64 ((wrap64 ((wrap64 (rd s0_0 (ji14))) * 131)) + (wrap64 ((wrap64 (rd s0_0 (Int.tmod (wrap64 ((wrap64 ((wrap64 ((wrap64 (s0_1 + 1)) - 1)) * 7)) + 3)) (s0_0.length : Int)))) * 1117)))) + (wrap64 ((wrap64 ((wrap64 (s0_1 + 1)) - 1)) * 29)))) + (wrap64 ((wrap64 (Int.tdiv (wrap64 ((wrap64 (s0_1 + 1)) - 1)) (s0_0.length : Int))) * 53)))) 64))) a1,(wrap64 (s0_1 + 1))))) else (none)) else (none)) else (none)) else (none)) = some (r1,r2):=by first | (rw [hji14] at H;exact H) | (simp only [hji14] at H ⊢;exact H)
      by_cases c15 : 0 ≤ (ji14)
      ·rw [if_pos c15] at H
       have c15b0 : decide (0 ≤ (ji14)) = true:=decide_eq_true c15
       clear c15
       by_cases c16 : (ji14) < (s0_0.length : Int)
       ·rw [if_pos c16] at H
        have c16b0 : decide ((ji14) < (s0_0.length : Int)) = true:=decide_eq_true c16
        clear c16
        obtain ⟨ji17,hji17⟩ : ∃ j_ : Int,(Int.tmod (wrap64 ((wrap64 ((wrap64 ((wrap64 (s0_1 + 1)) - 1)) * 7)) + 3)) (s0_0.length : Int)) = j_:=⟨_,rfl⟩
        replace H : (if 0 ≤ (ji17) then (if (ji17) < (s0_0.length : Int) then (if a1 = 0 then (none) else (some (Int.tmod (Go.bits .xor .i64 (wrap64 ((wrap64 ((wrap64 ((wrap64 ((wrap64 (rd s0_0 (ji14))) * 131)) + (wrap64 ((wrap64 (rd s0_0 (ji17))) * 1117)))) + (wrap64 ((wrap64 ((wrap64 (s0_1 + 1)) - 1)) * 29)))) + (wrap64 ((wrap64 (Int.tdiv (wrap64 ((wrap64 (s0_1 + 1)) - 1)) (s0_0.length : Int))) * 53)))) (wrap64 (Int.tdiv (wrap64 ((wrap64 ((wrap64 ((wrap64 ((wrap64 (rd s0_0 (ji14))) * 131)) + (wrap64 ((wrap64 (rd s0_0 (ji17))) * 1117)))) + (wrap64 ((wrap64 ((wrap64 (s0_1 + 1)) - 1)) * 29)))) + (wrap64 ((wrap64 (Int.tdiv (wrap64 ((wrap64 (s0_1 + 1)) - 1)) (s0_0.length : Int))) * 53)))) 64))) a1,(wrap64 (s0_1 + 1))))) else (none)) else (none)) = some (r1,r2):=by first | (rw [hji17] at H;exact H) | (simp only [hji17] at H ⊢;exact H)
        by_cases c18 : 0 ≤ (ji17)
        ·rw [if_pos c18] at H
         have c18b0 : decide (0 ≤ (ji17)) = true:=decide_eq_true c18
         clear c18
         by_cases c19 : (ji17) < (s0_0.length : Int)
         ·rw [if_pos c19] at H
          have c19b0 : decide ((ji17) < (s0_0.length : Int)) = true:=decide_eq_true c19
          clear c19
          by_cases c20 : a1 = 0
          ·rw [if_pos c20] at H
           exact absurd H (by simp)
          ·rw [if_neg c20] at H
           have c20b0 : (a1 == 0) = false:=beq_eq_false_iff_ne.mpr c20
           have c20b1 : (a1 != 0) = true:=bne_iff_ne.mpr c20
           simp only [Option.some.injEq,Prod.mk.injEq] at H
           obtain ⟨rfl,rfl⟩:=H
           obtain ⟨ASz21_0,cSz21_0,HGz21,hgz21,HSz21_0⟩:=HI0.out
           have hcz21_0:=cellS76_0 HGz21
           have hcz21_1:=cellS76_1 HGz21
           have hfz21_1:=blk_frozen HGz21 1
           clear HGz21 hgz21
           have p2 : 0 ≤ ((ji14) : Int):=of_decide_eq_true (by first | (with_reducible assumption) | assumption)
           have q2 : (ji14) < (s0_0.length : Int):=of_decide_eq_true (by first | (with_reducible assumption) | assumption)
           obtain ⟨ad2,e2,hx2_0⟩:=Kd.at_int HSz21_0 (ji14) p2 q2
           cases e2
           replace hx2_0:=pw_cell_below HB.out hx2_0
           replace p2:=eq_true p2
           replace q2:=eq_true q2
           have p3 : 0 ≤ ((ji17) : Int):=of_decide_eq_true (by first | (with_reducible assumption) | assumption)
           have q3 : (ji17) < (s0_0.length : Int):=of_decide_eq_true (by first | (with_reducible assumption) | assumption)
           obtain ⟨ad3,e3,hx3_0⟩:=Kd.at_int HSz21_0 (ji17) p3 q3
           obtain rfl : ad2 = ad3:=(by injection e3)
           replace hx3_0:=pw_cell_below HB.out hx3_0
           replace p3:=eq_true p3
           replace q3:=eq_true q3
           go_wp2
           repeat (go_quiet (fail);try go_wp2)
           go_ret
           exact ⟨by first | rfl | (simp [errW_none,errW_some] <;> rfl) | (simp only [← hji14,← hji17];first | rfl | (simp [errW_none,errW_some] <;> rfl)) | (simp [*,errW_none,errW_some] <;> rfl),by repeat (first | (with_reducible first | exact HI0.out | apply IsS76.alloc | apply IsS76.drewN | apply IsS76.drew | apply IsS76.set_1) | exact HI0.out),by repeat (first | (with_reducible first | exact HB.out | apply below_alloc | apply pw_below_drewN | apply below_drew1 | refine below_set ?_ (IsS76.ge HI0.out)) | exact HB.out),hk_⟩
         ·rw [if_neg c19] at H
          exact absurd H (by simp)
        ·rw [if_neg c18] at H
         exact absurd H (by simp)
       ·rw [if_neg c16] at H
        exact absurd H (by simp)
      ·rw [if_neg c15] at H
       exact absurd H (by simp)
theorem spec_pick_ev (b : List Int) (p n : Int) (hb : byL b) (h0 : 0 ≤ p) (hp : p ≤ 1099511627776) : ∃ x,Ev (fun k=>spec_reader_pick.f k b p n) (x,p + 1) ∧ 0 ≤ x ∧ (1 ≤ n → x < n) ∧ (n < 1 → x = 0):=by
 have e1 : wrap64 (p + 1) = p + 1:=wrap_in (by omega) (by omega)
 have e2 : wrap64 (p + 1 - 1) = p:=by rw [show p + 1 - 1 = p by omega];exact wrap_in (by omega) (by omega)
 unfold spec_reader_pick.f
 rw [e1]
 by_cases hn : n < 1
 ·refine ⟨0,Ev.pos hn (Ev.succ ?_),Int.le_refl _,fun h=>by omega,fun _=>rfl⟩
  simp only [spec_reader_pick.j0]
  exact Ev.pos trivial (Ev.const rfl)
 by_cases hz : ((b.length : Int) == 0) = true
 ·refine ⟨0,Ev.neg hn (Ev.succ ?_),Int.le_refl _,fun h=>by omega,fun _=>rfl⟩
  rw [hz]
  simp only [spec_reader_pick.j0]
  exact Ev.pos trivial (Ev.const rfl)
 have hz2 : ((b.length : Int) == 0) = false:=by simpa using hz
 have hz3 : 1 ≤ (b.length : Int):=by
  have:=beq_eq_false_iff_ne.1 hz2
  omega
 have hl:=hb.1
 have hn1 : 1 ≤ n:=by omega
 by_cases hlt : p < (b.length : Int)
 ·have hr:=byL_rd hb p
  have hm:=tmod_in hr.1 hn1
  refine ⟨Int.tmod (rd b p) n,Ev.neg hn (Ev.succ ?_),hm.1,fun _=>hm.2,fun h=>by omega⟩
  rw [hz2]
  simp only [spec_reader_pick.j0,e2]
  refine Ev.neg (by simp) (Ev.pos hlt (Ev.pos h0 (Ev.neg (by omega) (Ev.const ?_))))
  rw [wrap_in (i:=rd b p) (by omega) (by omega)]
 ·have m1:=tmod_in h0 hz3
  have e7 : wrap64 (wrap64 (p * 7) + 3) = p * 7 + 3:=by rw [wrap_in (i:=p * 7) (by omega) (by omega),wrap_in (by omega) (by omega)]
  have m2:=tmod_in (x:=p * 7 + 3) (by omega) hz3
  have r1:=byL_rd hb (Int.tmod p (b.length : Int))
  have r2:=byL_rd hb (Int.tmod (p * 7 + 3) (b.length : Int))
  have dq : 0 ≤ Int.tdiv p (b.length : Int) ∧ Int.tdiv p (b.length : Int) ≤ p:=by
   rw [Int.tdiv_eq_ediv_of_nonneg h0]
   exact ⟨Int.ediv_nonneg h0 (by omega),Int.ediv_le_self _ h0⟩
  generalize hx1 : rd b (Int.tmod p (b.length : Int)) = x1 at r1
  generalize hx2 : rd b (Int.tmod (p * 7 + 3) (b.length : Int)) = x2 at r2
  generalize hx3 : Int.tdiv p (b.length : Int) = x3 at dq
  have es : wrap64 (wrap64 (wrap64 (wrap64 (wrap64 x1 * 131) + wrap64 (wrap64 x2 * 1117)) + wrap64 (p * 29)) + wrap64 (wrap64 x3 * 53)) = x1 * 131 + x2 * 1117 + p * 29 + x3 * 53:=by
   rw [wrap_in (i:=x1) (by omega) (by omega),wrap_in (i:=x2) (by omega) (by omega),wrap_in (i:=x3) (by omega) (by omega),wrap_in (i:=x1 * 131) (by omega) (by omega),wrap_in (i:=x2 * 1117) (by omega) (by omega),wrap_in (i:=x3 * 53) (by omega) (by omega),wrap_in (i:=p * 29) (by omega) (by omega),wrap_in (i:=x1 * 131 + x2 * 1117) (by omega) (by omega),wrap_in (i:=x1 * 131 + x2 * 1117 + p * 29) (by omega) (by omega),wrap_in (by omega) (by omega)]
  obtain ⟨s,hs⟩ : ∃ s,s = x1 * 131 + x2 * 1117 + p * 29 + x3 * 53:=⟨_,rfl⟩
  have s0 : 0 ≤ s ∧ s ≤ 999999999999999:=by omega
  have d0 : 0 ≤ Int.tdiv s 64 ∧ Int.tdiv s 64 ≤ s:=by
   rw [Int.tdiv_eq_ediv_of_nonneg s0.1]
   exact ⟨Int.ediv_nonneg s0.1 (by omega),Int.ediv_le_self _ s0.1⟩
  have hxr:=xor_nonneg s (Int.tdiv s 64) s0.1 (by omega) d0.1 (by omega)
  have hm:=tmod_in hxr hn1
  refine ⟨Int.tmod (Go.bits .xor .i64 s (Int.tdiv s 64)) n,Ev.neg hn (Ev.succ ?_),hm.1,fun _=>hm.2,fun h=>by omega⟩
  rw [hz2]
  simp only [spec_reader_pick.j0,e2,e7,hx1,hx2,hx3,es,← hs]
  refine Ev.neg (by simp) (Ev.neg hlt (Ev.neg (by omega) (Ev.pos m1.1 (Ev.pos m1.2 (Ev.pos m2.1 (Ev.pos m2.2 (Ev.neg (by omega) (Ev.const ?_))))))))
  rw [wrap_in (i:=Int.tdiv s 64) (by omega) (by omega)]
end Go.Proofs.Ytmiholmfbjalfaa.P
namespace Go.Proofs.Ytmiholmfbjalfaa.P
open Go.RowKit Go.Proofs.YtmiholmfbjalfaaW.PrintWords Go.Proofs.YtmiholmfbjalfaaW.PrintLast Go.Proofs.YtmiholmfbjalfaaW.PrintMore
theorem is0_ {w0 W : World} {g : Nat} {f0 : List Int} {f1 : Int} (h : IsS76 w0 W g f0 f1 := by repeat (first | (with_reducible first | exact HI0.out | apply IsS76.alloc | apply IsS76.drewN | apply IsS76.drew | apply IsS76.set_1 | refine IsS76.far ?_ (Aside0.out (by assumption)) _) | exact HI0.out)) : IsS76 w0 W g f0 f1 := h
theorem hbi0_ {n : Nat} {w w' : World} (h : Below n w w' := by repeat (first | (with_reducible first | exact HB.out | apply below_alloc | apply pw_below_drewN | apply below_drew1 | refine below_set ?_ (IsS76.ge HI0.out) | refine below_set ?_ (Aside0.out (by assumption))) | exact HB.out)) : Below n w w' := h
theorem is5_ {w0 W : World} {g : Nat} {f0 : List Int} {f1 : Int} (h : IsS76 w0 W g f0 f1 := by repeat (first | (with_reducible first | exact HI5.out | apply IsS76.alloc | apply IsS76.drewN | apply IsS76.drew | apply IsS76.set_1 | refine IsS76.far ?_ (Aside0.out (by assumption)) _) | exact HI5.out)) : IsS76 w0 W g f0 f1 := h
theorem hbi5_ {n : Nat} {w w' : World} (h : Below n w w' := by repeat (first | (with_reducible first | exact HB.out | apply below_alloc | apply pw_below_drewN | apply below_drew1 | refine below_set ?_ (IsS76.ge HI5.out) | refine below_set ?_ (Aside0.out (by assumption))) | exact HB.out)) : Below n w w' := h
end Go.Proofs.Ytmiholmfbjalfaa.P
namespace Go.Proofs.Ytmiholmfbjalfaa.P
open Go.RowKit Go.Proofs.YtmiholmfbjalfaaW.PrintWords Go.Proofs.YtmiholmfbjalfaaW.PrintLast Go.Proofs.YtmiholmfbjalfaaW.PrintMore
attribute [local go_sem] max2_int min2_int max_two min_two max_three min_three max_four min_four
set_option linter.unusedVariables false
set_option linter.unusedSimpArgs false
def spec_reader_one.f (k : Nat) (s0_0 : List Int) (s0_1 : Int) (l1 : List Int) : Option (Int × Int):=(spec_reader_pick.f k s0_0 s0_1 (l1.length : Int)).bind fun bt1=>(if 0 ≤ bt1.1 then (if bt1.1 < (l1.length : Int) then (some (rd l1 bt1.1,bt1.2)) else (none)) else (none))
theorem spec_reader_one.mono : ∀ a0 a1 a2 k,LeO (spec_reader_one.f k a0 a1 a2) (spec_reader_one.f (k + 1) a0 a1 a2):=by
 intro a0 a1 a2 k
 unfold spec_reader_one.f
 repeat' first
   | (with_reducible exact spec_reader_pick.mono _ _ _ _)
   | (with_reducible exact LeO.refl _)
   | (with_reducible exact LeO.none _)
   | (with_reducible refine LeO.ite ?_ ?_)
   | (with_reducible refine LeO.bind ?_ (fun _=>?_))
   | exact spec_reader_pick.mono _ _ _ _
   | exact LeO.none _
   | refine LeO.ite ?_ ?_
   | refine LeO.bind ?_ (fun _=>?_)
set_option maxHeartbeats 8000000 in
set_option maxRecDepth 100000 in
theorem spec_reader_one.calls (k : Nat) (g : Nat) (s0_0 : List Int) (s0_1 : Int) (A1 : Option Addr) (c1 : Nat) (l1 : List Int) (r1 : Int) (r2 : Int) (w0 w : World) (hI : IsS76 w0 w g s0_0 s0_1) (hB : Below w0.heap.size w0 w) (hr1 : Kd.C (Kd.int .i64) w A1 l1.length l1) (hc1 : l1.length ≤ c1) (hf1 : ∀ ad,A1 = some ad → 0 < l1.length → ad.block ≠ g) (h : spec_reader_one.f k s0_0 s0_1 l1 = some (r1,r2)) :
  Calls Try.prog 42 #[.pointer (some ⟨g,0,none⟩),.slice A1 l1.length c1] w fun e w'=>e = .returned (.int .i64 r1) ∧ IsS76 w0 w' g s0_0 r2 ∧ Below w0.heap.size w0 w' ∧ KeepBut w w' g none:=by
 have HR1:=a0_ hr1
 have HC1:=a0_ hc1
 clear hr1 hc1
 have HI0:=a0_ hI
 have HK:=a0_ (KeepBut.refl w g none)
 have HL:=a0_ hB.size
 clear hI
 have HW0:=a0_ hB.size
 have HB:=a0_ hB
 clear hB
 have H : ((spec_reader_pick.f k s0_0 s0_1 (l1.length : Int)).bind fun bt1=>(if 0 ≤ bt1.1 then (if bt1.1 < (l1.length : Int) then (some (rd l1 bt1.1,bt1.2)) else (none)) else (none))) = some (r1,r2):=h
 clear h
 replace H:=Option.bind_eq_some_iff.mp H
 obtain ⟨⟨t1,t2⟩,A30,H⟩:=H
 try dsimp only at H
 have A3:=a0_ A30
 clear A30
 by_cases c4 : 0 ≤ t1
 ·rw [if_pos c4] at H
  have c4b0 : decide (0 ≤ t1) = true:=decide_eq_true c4
  clear c4
  by_cases c5 : t1 < (l1.length : Int)
  ·rw [if_pos c5] at H
   have c5b0 : decide (t1 < (l1.length : Int)) = true:=decide_eq_true c5
   clear c5
   simp only [Option.some.injEq,Prod.mk.injEq] at H
   obtain ⟨rfl,rfl⟩:=H
   go_enter Try.func42,Try.ntmps42
   go_wp2_with (first | ((with_reducible refine gate_callee (f:=48) rfl ?_);refine goesL_ (some 9) rfl rfl Try.func48 (by kernel_rfl) rfl #[.pointer (some ⟨g,0,none⟩),.int .i64 (l1.length : Int)] rfl lm_ ?_;(with_reducible refine (spec_reader_pick.calls k g s0_0 s0_1 (l1.length : Int) t1 t2 w0 _ ?side1 ?side2 A3.out).mono ?_);(case side1=>exact is0_);(case side2=>exact hbi0_);rintro e w6 ⟨rfl,hi,hb,hk⟩;refine ⟨_,rfl,?_⟩;replace HK:=a0_ (KeepBut.trans (w:=w) hk_ hk (.inl rfl));replace HI0:=a0_ (hi);replace HB:=a0_ (hb);(try clear hb);have p3 : 0 ≤ (t1 : Int):=of_decide_eq_true (by first | (with_reducible assumption) | assumption);have q3 : t1 < (l1.length : Int):=of_decide_eq_true (by first | (with_reducible assumption) | assumption);obtain ⟨ad3,e3,hx3_0⟩:=Kd.at_int HR1.out t1 p3 q3;cases e3;replace hx3_0:=keep_cell HK.out hx3_0 (by first | (rw [add_block];exact hf1 _ rfl (by omega)) | exact hf1 _ rfl (by omega) | exact hf1 ad3 rfl (by omega));replace p3:=eq_true p3;replace q3:=eq_true q3))
   go_ret
   exact ⟨by first | rfl | (simp [errW_none,errW_some] <;> rfl) | (simp [*,errW_none,errW_some] <;> rfl),is0_,hbi0_,hk_⟩
  ·rw [if_neg c5] at H
   exact absurd H (by simp)
 ·rw [if_neg c4] at H
  exact absurd H (by simp)
theorem spec_one_ev (b : List Int) (p : Int) (l : List Int) (hb : byL b) (h0 : 0 ≤ p) (hp : p ≤ 1099511627776) (hl : 1 ≤ l.length) : ∃ x,Ev (fun k=>spec_reader_one.f k b p l) (x,p + 1) ∧ x ∈ l:=by
 obtain ⟨x,hx,x0,x1,_⟩:=spec_pick_ev b p (l.length : Int) hb h0 hp
 have hlt:=x1 (by omega)
 have hn : x.toNat < l.length:=by omega
 refine ⟨rd l x,Ev.bind hx (Ev.pos x0 (Ev.pos hlt (Ev.const rfl))),?_⟩
 unfold rd
 rw [List.getD_eq_getElem?_getD,List.getElem?_eq_getElem hn]
 exact List.getElem_mem hn
end Go.Proofs.Ytmiholmfbjalfaa.P
namespace Go.Proofs.Ytmiholmfbjalfaa.P
open Go.RowKit Go.Proofs.YtmiholmfbjalfaaW.PrintWords Go.Proofs.YtmiholmfbjalfaaW.PrintLast Go.Proofs.YtmiholmfbjalfaaW.PrintMore
attribute [local go_sem] max2_int min2_int max_two min_two max_three min_three max_four min_four
set_option linter.unusedVariables false
set_option linter.unusedSimpArgs false
def spec_aClass.f (k : Nat) (s0_0 : List Int) (s0_1 : Int) (l1_0 : List (S87)) : Option (Int × Int):=(spec_reader_pick.f k s0_0 s0_1 16).bind fun bt2=>(if bt2.1 = 0 then ((spec_reader_one.f k s0_0 bt2.2 (([(-1),(l1_0.length : Int),8] : List Int))).bind fun bt7=>(some (bt7.1,bt7.2))) else ((spec_reader_pick.f k s0_0 bt2.2 (l1_0.length : Int)).bind fun bt9=>(some (bt9.1,bt9.2))))
theorem spec_aClass.mono : ∀ a0 a1 a2 k,LeO (spec_aClass.f k a0 a1 a2) (spec_aClass.f (k + 1) a0 a1 a2):=by
 intro a0 a1 a2 k
 unfold spec_aClass.f
 repeat' first
   | (with_reducible exact spec_reader_one.mono _ _ _ _)
   | (with_reducible exact spec_reader_pick.mono _ _ _ _)
   | (with_reducible exact LeO.refl _)
   | (with_reducible exact LeO.none _)
   | (with_reducible refine LeO.ite ?_ ?_)
   | (with_reducible refine LeO.bind ?_ (fun _=>?_))
   | exact spec_reader_one.mono _ _ _ _
   | exact spec_reader_pick.mono _ _ _ _
   | exact LeO.none _
   | refine LeO.ite ?_ ?_
   | refine LeO.bind ?_ (fun _=>?_)
set_option maxHeartbeats 8000000 in
set_option maxRecDepth 100000 in
theorem spec_aClass.calls (k : Nat) (g : Nat) (s0_0 : List Int) (s0_1 : Int) (A1_0 : Option Addr) (c1_0 : Nat) (l1_0 : List (S87)) (r1 : Int) (r2 : Int) (w0 w : World) (hI : IsS76 w0 w g s0_0 s0_1) (hB : Below w0.heap.size w0 w) (hr1_0 : ∀ W_,KeepBut w W_ g none → Kd.C k87 W_ A1_0 l1_0.length l1_0) (hc1_0 : l1_0.length ≤ c1_0) (h : spec_aClass.f k s0_0 s0_1 l1_0 = some (r1,r2)) :
  Calls Try.prog 41 #[.pointer (some ⟨g,0,none⟩),.agg #[.slice A1_0 l1_0.length c1_0]] w fun e w'=>e = .returned (.int .i64 r1) ∧ IsS76 w0 w' g s0_0 r2 ∧ Below w0.heap.size w0 w' ∧ KeepBut w w' g none:=by
 have hu25:=Try.underlying25
 have HR1_0:=a0_ hr1_0
 have HC1_0:=a0_ hc1_0
 clear hr1_0 hc1_0
 have HI0:=a0_ hI
 have HK:=a0_ (KeepBut.refl w g none)
 have HL:=a0_ hB.size
 clear hI
 have HW0:=a0_ hB.size
 have HB:=a0_ hB
 clear hB
 have H : ((spec_reader_pick.f k s0_0 s0_1 16).bind fun bt2=>(if bt2.1 = 0 then ((spec_reader_one.f k s0_0 bt2.2 (([(-1),(l1_0.length : Int),8] : List Int))).bind fun bt7=>(some (bt7.1,bt7.2))) else ((spec_reader_pick.f k s0_0 bt2.2 (l1_0.length : Int)).bind fun bt9=>(some (bt9.1,bt9.2))))) = some (r1,r2):=h
 clear h
 replace H:=Option.bind_eq_some_iff.mp H
 obtain ⟨⟨t2,t3⟩,A30,H⟩:=H
 try dsimp only at H
 have A3:=a0_ A30
 clear A30
 by_cases c4 : t2 = 0
 ·rw [if_pos c4] at H
  have c4b0 : (t2 == 0) = true:=beq_iff_eq.mpr c4
  have c4b1 : (t2 != 0) = false:=bne_eq_false_iff_eq.mpr c4
  clear c4
  obtain ⟨y4,hy4⟩ : ∃ y_ : List Int,y_ = (([(-1),(l1_0.length : Int),8] : List Int)):=⟨_,rfl⟩
  replace H : ((spec_reader_one.f k s0_0 t3 y4).bind fun bt7=>(some (bt7.1,bt7.2))) = some (r1,r2):=by first | (rw [hy4];with_reducible exact H) | (have H2_:=(Option.bind_some _ _).symm.trans H;rw [hy4];with_reducible exact H2_) | (have H2_:=(Option.bind_some _ _).symm.trans H;with_reducible exact H2_) | with_reducible exact H | (rw [hy4];exact H) | exact H
  have Ny4:=a0_ hy4
  clear hy4
  replace H:=Option.bind_eq_some_iff.mp H
  obtain ⟨⟨t7,t8⟩,A50,H⟩:=H
  replace H : (some (t7,t8)) = some (r1,r2):=H
  have A5:=a0_ A50
  clear A50
  simp only [Option.some.injEq,Prod.mk.injEq] at H
  obtain ⟨rfl,rfl⟩:=H
  go_enter Try.func41,Try.ntmps41
  go_wp2_with (first | ((with_reducible refine gate_dst (N:=3) rfl ?_);refine box_event ?hg (N:=3) ?hd (cs:=#[.slice A1_0 l1_0.length c1_0]) (t:=25) ?hr ?_;(case hd=>rfl);(case hg=>rfl);(case hr=>first | (go_simp;done) | (go_simp;rfl));intro gb1 hg w6 hbox hb;have n0_:=a0_ (IsS76.below is0_ hb);have n1_:=a0_ (KeepBut.trans (w:=w) hk_ (KeepBut.of_below hb g none) (.inl rfl));have n2_:=a0_ (below_step hbi0_ hb);have n3_:=a0_ (hbox);have n4_:=a0_ ((by rw [hg];exact (keep_size (w:=w) (g:=g) (row:=none) hk_) : w.heap.size ≤ gb1));have n5_:=a0_ ((Nat.le_trans HW0.out (by rw [hg];exact (keep_size (w:=w) (g:=g) (row:=none) hk_) : w.heap.size ≤ gb1) : w0.heap.size ≤ gb1));have n6_:=a0_ ((by rw [hg];exact Nat.ne_of_lt (IsS76.lt (is0_ : IsS76 w0 _ g s0_0 s0_1)) : g ≠ gb1));have n7_:=a0_ ((by rw [hg];exact Nat.ne_of_gt (IsS76.lt (is0_ : IsS76 w0 _ g s0_0 s0_1)) : gb1 ≠ g));clear HI0 HK HB;have HI0:=n0_;have HK:=n1_;have HB:=n2_;have BK1:=n3_;have GW1:=n4_;have GE1:=n5_;have NB0_1:=n6_;have NB1_0:=n7_;clear n0_ n1_ n2_ n3_ n4_ n5_ n6_ n7_;clear hb hbox hg) | ((with_reducible refine gate_callee (f:=48) rfl ?_);refine goesL_ (some 6) rfl rfl Try.func48 (by kernel_rfl) rfl #[.pointer (some ⟨g,0,none⟩),.int .i64 16] rfl lm_ ?_;(with_reducible refine (spec_reader_pick.calls k g s0_0 s0_1 16 t2 t3 w0 _ ?side1 ?side2 A3.out).mono ?_);(case side1=>exact is0_);(case side2=>exact hbi0_);rintro e w7 ⟨rfl,hi,hb,hk⟩;refine ⟨_,rfl,?_⟩;replace BK1:=kk_ hk BK1 NB1_0;replace HK:=a0_ (KeepBut.trans (w:=w) hk_ hk (.inl rfl));replace HI0:=a0_ (hi);replace HB:=a0_ (hb);(try clear hb);have hnb8:=NB1_0.out;have hnc8:=NB0_1.out;have hcz9_0 : w7.cell? ⟨gb1,0,none⟩ = some (.slice A1_0 l1_0.length c1_0):=(blk_cell BK1.out 0).trans rfl;have hfz9_0:=blk_frozen BK1.out 0) | ((with_reducible refine gate_dst (N:=12) rfl ?_);refine Kd.R_lit (Kd.int .i64) _ 3 ?hg (N:=12) ?hd (xs:=([(-1),(l1_0.length : Int),8] : List Int)) (inner:=[.int .i64 (-1),.int .i64 (l1_0.length : Int),.int .i64 8]) (ok:=fun _=>True) (okp:=fun _=>True) ?hr ?hp (fun _ hk=>hk) trivial (Below.refl _ _) (Nat.le_refl _) (by simp) ?_;(case hd=>rfl);(case hg=>rfl);(case hr=>first | (go_simp;done) | (go_simp;rfl));(case hp=>exact (Reps.one (show Kd.M (Kd.int .i64) _ _ _ (-1) [.int .i64 (-1)] from rfl) (Reps.one (show Kd.M (Kd.int .i64) _ _ _ (l1_0.length : Int) [.int .i64 (l1_0.length : Int)] from rfl) (Reps.one (show Kd.M (Kd.int .i64) _ _ _ 8 [.int .i64 8] from rfl) (Reps.none _ _)))));intro v5 w10 ho11 hb hg_ hnew_;clear hg_ hnew_;(first | rw [← Ny4.out] at ho11 | (simp only [Int.reduceToNat] at ho11;rw [← Ny4.out] at ho11));have n0_:=a0_ (Kd.R_lower ho11 (keep_size (w:=w) (g:=g) (row:=none) hk_));have n1_:=a0_ (IsS76.below is0_ hb);have n2_:=kb_ BK1 hb;have n3_:=a0_ (KeepBut.trans (w:=w) hk_ (KeepBut.of_below hb g none) (.inl rfl));have n4_:=a0_ (below_step hbi0_ hb);clear HI0 BK1;clear HK HB;have HO6:=n0_;have HI0:=n1_;have BK1:=n2_;have HK:=n3_;have HB:=n4_;clear n0_ n1_ n2_ n3_ n4_;clear hb ho11;obtain ⟨Ao12,co12,eo12⟩:=Kd.R_slice HO6.out;subst eo12) | ((with_reducible refine gate_callee (f:=42) rfl ?_);refine goesL_ (some 13) rfl rfl Try.func42 (by kernel_rfl) rfl #[.pointer (some ⟨g,0,none⟩),.slice Ao12 y4.length co12] rfl lm_ ?_;(with_reducible refine (spec_reader_one.calls k g s0_0 t3 _ _ y4 t7 t8 w0 _ ?side1 ?side2 ?side3 ?side4 ?side5 A5.out).mono ?_);(case side1=>exact is0_);(case side2=>exact hbi0_);(case side3=>exact cc_ (Kd.R_reads' HO6.out).2.2);(case side4=>exact (Kd.R_reads' HO6.out).2.1);(case side5=>exact far_slice (IsS76.own_ne HI0.out HO6.out (by decide)));rintro e w13 ⟨rfl,hi,hb,hk⟩;refine ⟨_,rfl,?_⟩;replace BK1:=kk_ hk BK1 NB1_0;replace HO6:=a0_ (Kd.R_mono (Kd.R_keep (IsS76.apart (is0_ : IsS76 w0 _ g s0_0 t3) (rr_ HO6.out) (by decide)) hk (fun _ h=>h.2)) (fun _ h=>h.1));replace HK:=a0_ (KeepBut.trans (w:=w) hk_ hk (.inl rfl));replace HI0:=a0_ (hi);replace HB:=a0_ (hb);(try clear hb);(try clear hb2);(try clear hk);(try clear hi)))
  go_ret
  exact ⟨by first | rfl | (simp [errW_none,errW_some] <;> rfl) | (simp [*,errW_none,errW_some] <;> rfl),is0_,hbi0_,hk_⟩
 ·rw [if_neg c4] at H
  have c4b0 : (t2 == 0) = false:=beq_eq_false_iff_ne.mpr c4
  have c4b1 : (t2 != 0) = true:=bne_iff_ne.mpr c4
  replace H:=Option.bind_eq_some_iff.mp H
  obtain ⟨⟨t9,t10⟩,A140,H⟩:=H
  replace H : (some (t9,t10)) = some (r1,r2):=H
  have A14:=a0_ A140
  clear A140
  simp only [Option.some.injEq,Prod.mk.injEq] at H
  obtain ⟨rfl,rfl⟩:=H
  go_enter Try.func41,Try.ntmps41
  go_wp2_with (first | ((with_reducible refine gate_dst (N:=3) rfl ?_);refine box_event ?hg (N:=3) ?hd (cs:=#[.slice A1_0 l1_0.length c1_0]) (t:=25) ?hr ?_;(case hd=>rfl);(case hg=>rfl);(case hr=>first | (go_simp;done) | (go_simp;rfl));intro gb1 hg w15 hbox hb;have n0_:=a0_ (IsS76.below is0_ hb);have n1_:=a0_ (KeepBut.trans (w:=w) hk_ (KeepBut.of_below hb g none) (.inl rfl));have n2_:=a0_ (below_step hbi0_ hb);have n3_:=a0_ (hbox);have n4_:=a0_ ((by rw [hg];exact (keep_size (w:=w) (g:=g) (row:=none) hk_) : w.heap.size ≤ gb1));have n5_:=a0_ ((Nat.le_trans HW0.out (by rw [hg];exact (keep_size (w:=w) (g:=g) (row:=none) hk_) : w.heap.size ≤ gb1) : w0.heap.size ≤ gb1));have n6_:=a0_ ((by rw [hg];exact Nat.ne_of_lt (IsS76.lt (is0_ : IsS76 w0 _ g s0_0 s0_1)) : g ≠ gb1));have n7_:=a0_ ((by rw [hg];exact Nat.ne_of_gt (IsS76.lt (is0_ : IsS76 w0 _ g s0_0 s0_1)) : gb1 ≠ g));clear HI0 HK HB;have HI0:=n0_;have HK:=n1_;have HB:=n2_;have BK1:=n3_;have GW1:=n4_;have GE1:=n5_;have NB0_1:=n6_;have NB1_0:=n7_;clear n0_ n1_ n2_ n3_ n4_ n5_ n6_ n7_;clear hb hbox hg) | ((with_reducible refine gate_callee (f:=48) rfl ?_);refine goesL_ (some 6) rfl rfl Try.func48 (by kernel_rfl) rfl #[.pointer (some ⟨g,0,none⟩),.int .i64 16] rfl lm_ ?_;(with_reducible refine (spec_reader_pick.calls k g s0_0 s0_1 16 t2 t3 w0 _ ?side1 ?side2 A3.out).mono ?_);(case side1=>exact is0_);(case side2=>exact hbi0_);rintro e w16 ⟨rfl,hi,hb,hk⟩;refine ⟨_,rfl,?_⟩;replace BK1:=kk_ hk BK1 NB1_0;replace HK:=a0_ (KeepBut.trans (w:=w) hk_ hk (.inl rfl));replace HI0:=a0_ (hi);replace HB:=a0_ (hb);(try clear hb);have hnb17:=NB1_0.out;have hnc17:=NB0_1.out;have hcz18_0 : w16.cell? ⟨gb1,0,none⟩ = some (.slice A1_0 l1_0.length c1_0):=(blk_cell BK1.out 0).trans rfl;have hfz18_0:=blk_frozen BK1.out 0) | ((with_reducible refine gate_callee (f:=48) rfl ?_);refine goesL_ (some 18) rfl rfl Try.func48 (by kernel_rfl) rfl #[.pointer (some ⟨g,0,none⟩),.int .i64 (l1_0.length : Int)] rfl lm_ ?_;(with_reducible refine (spec_reader_pick.calls k g s0_0 t3 (l1_0.length : Int) t9 t10 w0 _ ?side1 ?side2 A14.out).mono ?_);(case side1=>exact is0_);(case side2=>exact hbi0_);rintro e w19 ⟨rfl,hi,hb,hk⟩;refine ⟨_,rfl,?_⟩;replace BK1:=kk_ hk BK1 NB1_0;replace HK:=a0_ (KeepBut.trans (w:=w) hk_ hk (.inl rfl));replace HI0:=a0_ (hi);replace HB:=a0_ (hb);(try clear hb);(try clear hb2);(try clear hk);(try clear hi)))
  go_ret
  exact ⟨by first | rfl | (simp [errW_none,errW_some] <;> rfl) | (simp [*,errW_none,errW_some] <;> rfl),is0_,hbi0_,hk_⟩
theorem spec_aClass_ev (b : List Int) (p : Int) (t : List Cls) (hb : byL b) (h0 : 0 ≤ p) (hp : p ≤ 1099511627000) : ∃ x q,Ev (fun k=>spec_aClass.f k b p t) (x,q) ∧ p ≤ q ∧ q ≤ p + 2 ∧ (t.length ≤ 8 → -1 ≤ x ∧ x ≤ 8):=by
 obtain ⟨y,hy,y0,y1,_⟩:=spec_pick_ev b p 16 hb h0 (by omega)
 by_cases c0 : y = 0
 ·obtain ⟨s,hs,hsm⟩:=spec_one_ev b (p + 1) [(-1),(t.length : Int),8] hb (by omega) (by omega) (by simp)
  simp only [List.mem_cons,List.not_mem_nil,or_false] at hsm
  exact ⟨_,_,Ev.bind hy (Ev.pos c0 (Ev.bind hs (Ev.const rfl))),by omega,by omega,fun h=>by simp only;omega⟩
 ·obtain ⟨s,hs,s0,s1,s2⟩:=spec_pick_ev b (p + 1) (t.length : Int) hb (by omega) (by omega)
  exact ⟨_,_,Ev.bind hy (Ev.neg c0 (Ev.bind hs (Ev.const rfl))),by omega,by omega,fun h=>by simp only;omega⟩
end Go.Proofs.Ytmiholmfbjalfaa.P
namespace Go.Proofs.Ytmiholmfbjalfaa.P
open Go.RowKit Go.Proofs.YtmiholmfbjalfaaW.PrintWords Go.Proofs.YtmiholmfbjalfaaW.PrintLast Go.Proofs.YtmiholmfbjalfaaW.PrintMore
attribute [local go_sem] max2_int min2_int max_two min_two max_three min_three max_four min_four
set_option linter.unusedVariables false
set_option linter.unusedSimpArgs false
def gT (t : List Cls) : Prop:=(∀ x ∈ t,x.f0.size ≤ 7) ∧ ∀ j,j < t.length → (j = 0 → (t.getD j z87).f1 = -1) ∧ (0 < j → 0 ≤ (t.getD j z87).f1 ∧ (t.getD j z87).f1 ≤ (j : Int) - 1)
theorem smT_mk {t : List Cls} (h : ∀ x ∈ t,x.f0.size ≤ 7) : smT t = true:=by
 unfold smT
 rw [List.all_eq_true]
 intro x hx
 have:=h x hx
 exact decide_eq_true (by omega)
theorem gT_snoc {t : List Cls} (h : gT t) (hl : 1 ≤ t.length) (x : Cls) (hx : x.f0.size ≤ 7) (h0 : 0 ≤ x.f1) (h1 : x.f1 ≤ (t.length : Int) - 1) : gT (t ++ [x]):=by
 refine ⟨fun y hy=>?_,fun j hj=>?_⟩
 ·rcases List.mem_append.1 hy with hy | hy
  ·exact h.1 y hy
  ·obtain rfl : y = x:=by simpa using hy
   exact hx
 ·rw [List.length_append,List.length_singleton] at hj
  by_cases e : j < t.length
  ·have : (t ++ [x]).getD j z87 = t.getD j z87:=by simp [List.getD,List.getElem?_append_left e]
   rw [this]
   exact h.2 j e
  ·obtain rfl : j = t.length:=by omega
   have : (t ++ [x]).getD t.length z87 = x:=by simp [List.getD]
   rw [this]
   exact ⟨fun h=>by omega,fun _=>⟨h0,h1⟩⟩
theorem set_mem {α : Type} {l : List α} {i : Nat} {v x : α} (h : x ∈ l.set i v) : x = v ∨ x ∈ l:=by
 rcases List.mem_or_eq_of_mem_set h with h | h
 ·exact Or.inr h
 ·exact Or.inl h
end Go.Proofs.Ytmiholmfbjalfaa.P
