/- Texts under the proof of FnExactPushExit: helper words, the functions' contracts and the plain laws. No condition. -/
import Derived.Test.YtjcodcimodnbjaaProg
import Derived.Below
import Derived.Deep.Draws
import Derived.Deep.AppendLies
import Derived.Maps.AppendAt
import Derived.OwnWalk
import Derived.Laws.BytesArg
import Derived.Laws.MakeOwn
import Derived.Laws.OwnMore
import Derived.Deep.OwnRows
import Derived.Tactics
import Derived.Lib.ConvBytes
import Derived.Laws.Slices
import Derived.WalkKit
import Derived.KernelRfl
import Derived.RowKit3
import Derived.Deep.LoopGhost
import Derived.Deep.QuietTactic
import Derived.BigQuiet
import Derived.WideLaws
import Derived.Deep.DeepCutAuto
import Derived.Deep.CutBlock
import Derived.Deep.RegionHeld3
import Derived.Laws.Rows
import Derived.Lib.AppendStr
import Derived.ArgAppend
import Derived.Laws.IdiomCopy
import Derived.OrdersHeld
import Derived.Laws.BitsLemmas
import Derived.RowKit
import Derived.Shelf.Abstract
import Derived.Test.YtjcodcimodnbjaaWWords
import Derived.Test.YtjcodcimodnbjaaWLast
import Derived.Test.YtjcodcimodnbjaaWTab
import Derived.Test.YtjcodcimodnbjaaWFour
import Derived.Test.YtjcodcimodnbjaaWQPut
import Derived.Test.YtjcodcimodnbjaaWApart
import Derived.Test.YtjcodcimodnbjaaWArr
import Derived.Test.YtjcodcimodnbjaaWZeros
import Derived.Test.YtjcodcimodnbjaaWFoot
import Derived.Test.YtjcodcimodnbjaaWKept
import Derived.Test.YtjcodcimodnbjaaWShare
import Derived.Test.YtjcodcimodnbjaaWN
import Derived.Test.YtjcodcimodnbjaaWFootNe
import Derived.Test.YtjcodcimodnbjaaWAt
import Derived.Test.YtjcodcimodnbjaaWEqStruct
import Derived.Test.YtjcodcimodnbjaaWRepsOne
import Derived.Test.YtjcodcimodnbjaaWInv
import Derived.Test.YtjcodcimodnbjaaWInvWords
import Derived.Test.YtjcodcimodnbjaaWGuard
import Derived.Test.YtjcodcimodnbjaaWNEv
import Derived.Test.YtjcodcimodnbjaaWMore
import Derived.Test.YtjcodcimodnbjaaWMine
namespace Go.Proofs.Ytjcodcimodnbjaa.P
open Go.RowKit Go.Proofs.YtjcodcimodnbjaaW.PrintWords Go.Proofs.YtjcodcimodnbjaaW.PrintLast Go.Proofs.YtjcodcimodnbjaaW.PrintMore
theorem s1_ {α : Type} (l : List α) (i : Nat) (a : α) : l.toArray.setIfInBounds i a = (l.set i a).toArray := List.setIfInBounds_toArray l i a
theorem s2_ {α : Type} (a b : α) (l : List α) : (a :: l).set 0 b = b :: l := rfl
theorem s3_ {α : Type} (a b : α) (l : List α) (n : Nat) : (a :: l).set (n + 1) b = a :: l.set n b := rfl
theorem a0_ {P : Prop} (h : P) : Aside0 P := Aside0.mk h
theorem hb_ {n : Nat} {w w' : World} (h : Below n w w' := by repeat (first | (with_reducible first | exact HB.out | apply below_alloc | apply pw_below_drewN | apply below_drew1 | refine below_set ?_ (Aside0.out (by assumption))) | exact HB.out)) : Below n w w' := h
theorem lm_ {P : Prop} (h : P := by (try simp only [List.map_toArray, List.map_cons, List.map_nil]); first | done | rfl | (simp only [List.length_drop, List.length_take]; rfl)) : P := h
theorem rr_ {P Q : Prop} (x : P) (h : P → Q := by intro x_; (with_reducible repeat (first | apply Kd.R_alloc | apply Kd.R_drewN | apply Kd.R_drew)); exact x_) : Q := h x
theorem bb_ {P Q : Prop} (x : P) (h : P → Q := by intro x_; (with_reducible repeat (first | refine blk_drewN ?_ _ | refine blk_drew ?_ | refine blk_alloc ?_ _)); exact x_) : Q := h x
theorem cc_ {P Q : Prop} (x : P) (h : P → Q := by intro x_; repeat (first | exact x_ | (with_reducible refine Kd.C_alloc ?_ _) | (with_reducible refine Kd.C_drewN ?_ _) | (with_reducible refine Kd.C_drew ?_))) : Q := h x
end Go.Proofs.Ytjcodcimodnbjaa.P
namespace Go.Proofs.Ytjcodcimodnbjaa.P
open Go.RowKit Go.Proofs.YtjcodcimodnbjaaW.PrintWords Go.Proofs.YtjcodcimodnbjaaW.PrintLast Go.Proofs.YtjcodcimodnbjaaW.PrintMore
attribute [local go_sem] max2_int min2_int max_two min_two max_three min_three max_four min_four
set_option linter.unusedVariables false
set_option linter.unusedSimpArgs false
def errW : Option Int → Value
 | none=>.nilIface
 | some c=>.iface 0 (.int .i64 c)
theorem errW_none : errW none = .nilIface:=rfl
theorem errW_some (c : Int) : errW (some c) = .iface 0 (.int .i64 c):=rfl
theorem info3 : (Try.prog.info? 3).map (fun i=>(i.zero,i.size,i.bytes)) = some (some (.int .i64 0),1,8):=by kernel_rfl
theorem info5 : (Try.prog.info? 5).map (fun i=>(i.zero,i.size,i.bytes)) = some (some (.int .u8 0),1,1):=by kernel_rfl
theorem info38 : (Try.prog.info? 38).map (fun i=>(i.zero,i.size,i.bytes)) = some (some (.agg #[(.int .i64 0),(.int .i64 0),(.int .i64 0)]),3,24):=by kernel_rfl
theorem info76 : (Try.prog.info? 76).map (fun i=>(i.zero,i.size,i.bytes)) = some (some (.agg #[(.string ⟨#[]⟩),(.int .i64 0)]),2,24):=by kernel_rfl
structure S73 where
 f0 : ByteArray
 f1 : Int
def z73 : S73:=⟨(⟨#[]⟩ : ByteArray),(0 : Int)⟩
def k73 : Kd S73:=Kd.iso (Kd.pair Kd.string (Kd.int .i64)) (fun x : S73=>(x.f0,x.f1))
theorem k73_heap : Kd.Heap k73:=Kd.heap_iso _ (Kd.heap_pair Kd.heap_string (Kd.heap_int .i64))
theorem k73_open {w : World} {x : S73} {cs : List Value} (h : k73.K w x cs) : cs = [.string x.f0,.int .i64 x.f1]:=by
 obtain ⟨_,_,rfl,rfl,rfl⟩:=h
 exact rfl
theorem k73_openM {w : World} {base : Nat} {ok : Nat → Prop} {x : S73} {cs : List Value} (h : k73.M w base ok x cs) : cs = [.string x.f0,.int .i64 x.f1]:=by
 obtain ⟨_,_,rfl,rfl,rfl⟩:=h
 exact rfl
theorem k73_mk (w : World) (x : S73)  : k73.K w x [.string x.f0,.int .i64 x.f1]:=⟨[.string x.f0],[.int .i64 x.f1],rfl,rfl,rfl⟩
theorem k73_mkM (w : World) (base : Nat) (ok : Nat → Prop) (x : S73)  : k73.M w base ok x [.string x.f0,.int .i64 x.f1]:=⟨[.string x.f0],[.int .i64 x.f1],rfl,rfl,rfl⟩
theorem k73_mkF (W : World) (ok : Nat → Prop) (x : S73) : Kd.FK k73 W ok x [.string x.f0,.int .i64 x.f1]:=fun W2 _=>k73_mk W2 x
def rd_T73 (xs : List S73) (i : Int) : S73:=xs.getD i.toNat z73
theorem at_T73 {w : World} {A : Option Addr} {n : Nat} {xs : List S73} (h : Kd.C k73 w A n xs) (i : Int) (h0 : 0 ≤ i) (h1 : i < n) : ∃ ad ,A = some ad ∧ w.cell? (ad.add (i.toNat * 2)) = some (.string (rd_T73 xs i).f0) ∧ w.cell? ⟨(ad.add (i.toNat * 2)).block,(ad.add (i.toNat * 2)).off + 1,none⟩ = some (.int .i64 (rd_T73 xs i).f1):=by
 obtain ⟨ad,c,e,_,hK,hc0⟩:=Kd.C_get h z73 i h0 h1
 have hc : ∀ j u,c[j]? = some u → w.cell? (ad.add (i.toNat * 2 + j)) = some u:=hc0
 obtain rfl:=k73_open hK
 exact ⟨ad,e,hc 0 _ rfl,by rw [← add_field _ _ 1 (by omega)];exact hc 1 _ rfl⟩
structure S27 where
 f0 : Int
 f1 : Int
 f2 : Int
def z27 : S27:=⟨(0 : Int),(0 : Int),(0 : Int)⟩
def k27 : Kd S27:=Kd.iso (Kd.pair (Kd.int .i64) (Kd.pair (Kd.int .i64) (Kd.int .i64))) (fun x : S27=>(x.f0,x.f1,x.f2))
theorem k27_heap : Kd.Heap k27:=Kd.heap_iso _ (Kd.heap_pair (Kd.heap_int .i64) (Kd.heap_pair (Kd.heap_int .i64) (Kd.heap_int .i64)))
theorem k27_open {w : World} {x : S27} {cs : List Value} (h : k27.K w x cs) : cs = [.int .i64 x.f0,.int .i64 x.f1,.int .i64 x.f2]:=by
 obtain ⟨_,_,rfl,rfl,⟨_,_,rfl,rfl,rfl⟩⟩:=h
 exact rfl
theorem k27_openM {w : World} {base : Nat} {ok : Nat → Prop} {x : S27} {cs : List Value} (h : k27.M w base ok x cs) : cs = [.int .i64 x.f0,.int .i64 x.f1,.int .i64 x.f2]:=by
 obtain ⟨_,_,rfl,rfl,⟨_,_,rfl,rfl,rfl⟩⟩:=h
 exact rfl
theorem k27_mk (w : World) (x : S27)  : k27.K w x [.int .i64 x.f0,.int .i64 x.f1,.int .i64 x.f2]:=⟨[.int .i64 x.f0],[.int .i64 x.f1,.int .i64 x.f2],rfl,rfl,⟨[.int .i64 x.f1],[.int .i64 x.f2],rfl,rfl,rfl⟩⟩
theorem k27_mkM (w : World) (base : Nat) (ok : Nat → Prop) (x : S27)  : k27.M w base ok x [.int .i64 x.f0,.int .i64 x.f1,.int .i64 x.f2]:=⟨[.int .i64 x.f0],[.int .i64 x.f1,.int .i64 x.f2],rfl,rfl,⟨[.int .i64 x.f1],[.int .i64 x.f2],rfl,rfl,rfl⟩⟩
theorem k27_mkF (W : World) (ok : Nat → Prop) (x : S27) : Kd.FK k27 W ok x [.int .i64 x.f0,.int .i64 x.f1,.int .i64 x.f2]:=fun W2 _=>k27_mk W2 x
def rd_T27 (xs : List S27) (i : Int) : S27:=xs.getD i.toNat z27
theorem at_T27 {w : World} {A : Option Addr} {n : Nat} {xs : List S27} (h : Kd.C k27 w A n xs) (i : Int) (h0 : 0 ≤ i) (h1 : i < n) : ∃ ad ,A = some ad ∧ w.cell? (ad.add (i.toNat * 3)) = some (.int .i64 (rd_T27 xs i).f0) ∧ w.cell? ⟨(ad.add (i.toNat * 3)).block,(ad.add (i.toNat * 3)).off + 1,none⟩ = some (.int .i64 (rd_T27 xs i).f1) ∧ w.cell? ⟨(ad.add (i.toNat * 3)).block,(ad.add (i.toNat * 3)).off + 2,none⟩ = some (.int .i64 (rd_T27 xs i).f2):=by
 obtain ⟨ad,c,e,_,hK,hc0⟩:=Kd.C_get h z27 i h0 h1
 have hc : ∀ j u,c[j]? = some u → w.cell? (ad.add (i.toNat * 3 + j)) = some u:=hc0
 obtain rfl:=k27_open hK
 exact ⟨ad,e,hc 0 _ rfl,by rw [← add_field _ _ 1 (by omega)];exact hc 1 _ rfl,by rw [← add_field _ _ 2 (by omega)];exact hc 2 _ rfl⟩
structure S38 where
 f0 : Int
 f1 : Int
 f2 : Int
def z38 : S38:=⟨(0 : Int),(0 : Int),(0 : Int)⟩
def k38 : Kd S38:=Kd.iso (Kd.pair (Kd.int .i64) (Kd.pair (Kd.int .i64) (Kd.int .i64))) (fun x : S38=>(x.f0,x.f1,x.f2))
theorem k38_heap : Kd.Heap k38:=Kd.heap_iso _ (Kd.heap_pair (Kd.heap_int .i64) (Kd.heap_pair (Kd.heap_int .i64) (Kd.heap_int .i64)))
theorem k38_open {w : World} {x : S38} {cs : List Value} (h : k38.K w x cs) : cs = [.int .i64 x.f0,.int .i64 x.f1,.int .i64 x.f2]:=by
 obtain ⟨_,_,rfl,rfl,⟨_,_,rfl,rfl,rfl⟩⟩:=h
 exact rfl
theorem k38_openM {w : World} {base : Nat} {ok : Nat → Prop} {x : S38} {cs : List Value} (h : k38.M w base ok x cs) : cs = [.int .i64 x.f0,.int .i64 x.f1,.int .i64 x.f2]:=by
 obtain ⟨_,_,rfl,rfl,⟨_,_,rfl,rfl,rfl⟩⟩:=h
 exact rfl
theorem k38_mk (w : World) (x : S38)  : k38.K w x [.int .i64 x.f0,.int .i64 x.f1,.int .i64 x.f2]:=⟨[.int .i64 x.f0],[.int .i64 x.f1,.int .i64 x.f2],rfl,rfl,⟨[.int .i64 x.f1],[.int .i64 x.f2],rfl,rfl,rfl⟩⟩
theorem k38_mkM (w : World) (base : Nat) (ok : Nat → Prop) (x : S38)  : k38.M w base ok x [.int .i64 x.f0,.int .i64 x.f1,.int .i64 x.f2]:=⟨[.int .i64 x.f0],[.int .i64 x.f1,.int .i64 x.f2],rfl,rfl,⟨[.int .i64 x.f1],[.int .i64 x.f2],rfl,rfl,rfl⟩⟩
theorem k38_mkF (W : World) (ok : Nat → Prop) (x : S38) : Kd.FK k38 W ok x [.int .i64 x.f0,.int .i64 x.f1,.int .i64 x.f2]:=fun W2 _=>k38_mk W2 x
def rd_T38 (xs : List S38) (i : Int) : S38:=xs.getD i.toNat z38
theorem at_T38 {w : World} {A : Option Addr} {n : Nat} {xs : List S38} (h : Kd.C k38 w A n xs) (i : Int) (h0 : 0 ≤ i) (h1 : i < n) : ∃ ad ,A = some ad ∧ w.cell? (ad.add (i.toNat * 3)) = some (.int .i64 (rd_T38 xs i).f0) ∧ w.cell? ⟨(ad.add (i.toNat * 3)).block,(ad.add (i.toNat * 3)).off + 1,none⟩ = some (.int .i64 (rd_T38 xs i).f1) ∧ w.cell? ⟨(ad.add (i.toNat * 3)).block,(ad.add (i.toNat * 3)).off + 2,none⟩ = some (.int .i64 (rd_T38 xs i).f2):=by
 obtain ⟨ad,c,e,_,hK,hc0⟩:=Kd.C_get h z38 i h0 h1
 have hc : ∀ j u,c[j]? = some u → w.cell? (ad.add (i.toNat * 3 + j)) = some u:=hc0
 obtain rfl:=k38_open hK
 exact ⟨ad,e,hc 0 _ rfl,by rw [← add_field _ _ 1 (by omega)];exact hc 1 _ rfl,by rw [← add_field _ _ 2 (by omega)];exact hc 2 _ rfl⟩
structure S76 where
 f0 : ByteArray
 f1 : Int
def z76 : S76:=⟨(⟨#[]⟩ : ByteArray),(0 : Int)⟩
def k76 : Kd S76:=Kd.iso (Kd.pair Kd.string (Kd.int .i64)) (fun x : S76=>(x.f0,x.f1))
theorem k76_heap : Kd.Heap k76:=Kd.heap_iso _ (Kd.heap_pair Kd.heap_string (Kd.heap_int .i64))
theorem k76_open {w : World} {x : S76} {cs : List Value} (h : k76.K w x cs) : cs = [.string x.f0,.int .i64 x.f1]:=by
 obtain ⟨_,_,rfl,rfl,rfl⟩:=h
 exact rfl
theorem k76_openM {w : World} {base : Nat} {ok : Nat → Prop} {x : S76} {cs : List Value} (h : k76.M w base ok x cs) : cs = [.string x.f0,.int .i64 x.f1]:=by
 obtain ⟨_,_,rfl,rfl,rfl⟩:=h
 exact rfl
theorem k76_mk (w : World) (x : S76)  : k76.K w x [.string x.f0,.int .i64 x.f1]:=⟨[.string x.f0],[.int .i64 x.f1],rfl,rfl,rfl⟩
theorem k76_mkM (w : World) (base : Nat) (ok : Nat → Prop) (x : S76)  : k76.M w base ok x [.string x.f0,.int .i64 x.f1]:=⟨[.string x.f0],[.int .i64 x.f1],rfl,rfl,rfl⟩
theorem k76_mkF (W : World) (ok : Nat → Prop) (x : S76) : Kd.FK k76 W ok x [.string x.f0,.int .i64 x.f1]:=fun W2 _=>k76_mk W2 x
def rd_T76 (xs : List S76) (i : Int) : S76:=xs.getD i.toNat z76
theorem at_T76 {w : World} {A : Option Addr} {n : Nat} {xs : List S76} (h : Kd.C k76 w A n xs) (i : Int) (h0 : 0 ≤ i) (h1 : i < n) : ∃ ad ,A = some ad ∧ w.cell? (ad.add (i.toNat * 2)) = some (.string (rd_T76 xs i).f0) ∧ w.cell? ⟨(ad.add (i.toNat * 2)).block,(ad.add (i.toNat * 2)).off + 1,none⟩ = some (.int .i64 (rd_T76 xs i).f1):=by
 obtain ⟨ad,c,e,_,hK,hc0⟩:=Kd.C_get h z76 i h0 h1
 have hc : ∀ j u,c[j]? = some u → w.cell? (ad.add (i.toNat * 2 + j)) = some u:=hc0
 obtain rfl:=k76_open hK
 exact ⟨ad,e,hc 0 _ rfl,by rw [← add_field _ _ 1 (by omega)];exact hc 1 _ rfl⟩
def rd_L6 (xs : List (List S76)) (i : Int) : (List S76):=xs.getD i.toNat ([] : List S76)
theorem at_L6 {w : World} {A : Option Addr} {n : Nat} {xs : List (List S76)} (h : Kd.C (Kd.slice 76 k76) w A n xs) (i : Int) (h0 : 0 ≤ i) (h1 : i < n) : ∃ ad A0 c0,A = some ad ∧ w.cell? (ad.add i.toNat) = some (.slice A0 (rd_L6 xs i).length c0) ∧ (rd_L6 xs i).length ≤ c0 ∧ k76.C w A0 (rd_L6 xs i).length (rd_L6 xs i):=by
 obtain ⟨ad,c,e,_,hK,hc0⟩:=Kd.C_get h ([] : List S76) i h0 h1
 have hc : ∀ j u,c[j]? = some u → w.cell? (ad.add (i.toNat * 1 + j)) = some u:=hc0
 obtain ⟨A0,c0,rfl,l0,g0⟩:=hK
 exact ⟨ad,A0,c0,e,by have hq:=hc 0 _ rfl;rwa [Nat.mul_one,Nat.add_zero] at hq,l0,g0⟩
structure S35 where
 f0 : (List S76)
def z35 : S35:=⟨([] : List S76)⟩
def k35 : Kd S35:=Kd.iso (Kd.slice 76 k76) (fun x : S35=>x.f0)
theorem k35_heap : Kd.Heap k35:=Kd.heap_iso _ (Kd.heap_slice 76 k76_heap)
theorem k35_open {w : World} {x : S35} {cs : List Value} (h : k35.K w x cs) : ∃ A0 c0,cs = [.slice A0 x.f0.length c0] ∧ x.f0.length ≤ c0 ∧ k76.C w A0 x.f0.length x.f0:=by
 obtain ⟨A0,c0,rfl,l0,g0⟩:=h
 exact ⟨A0,c0,rfl,l0,g0⟩
theorem k35_openM {w : World} {base : Nat} {ok : Nat → Prop} {x : S35} {cs : List Value} (h : k35.M w base ok x cs) : ∃ v0,cs = [v0] ∧ k76.R 76 w base ok v0 x.f0:=by
 obtain ⟨v0,rfl,g0⟩:=h
 exact ⟨v0,rfl,g0⟩
theorem k35_mk (w : World) (x : S35) {A0 : Option Addr} {c0 : Nat} (l0 : x.f0.length ≤ c0) (g0 : k76.C w A0 x.f0.length x.f0) : k35.K w x [.slice A0 x.f0.length c0]:=⟨A0,c0,rfl,l0,g0⟩
theorem k35_mkM (w : World) (base : Nat) (ok : Nat → Prop) (x : S35) {v0 : Value} (g0 : k76.R 76 w base ok v0 x.f0) : k35.M w base ok x [v0]:=⟨v0,rfl,g0⟩
theorem k35_openF {W : World} {ok : Nat → Prop} {x : S35} {cs : List Value} (h : Kd.FK k35 W ok x cs) : ∃ A0 c0,cs = [.slice A0 x.f0.length c0] ∧ x.f0.length ≤ c0 ∧ Kd.F k76 W ok A0 x.f0.length x.f0:=by
 obtain ⟨A0,c0,rfl,l0,_⟩:=k35_open (Kd.FK_now h)
 exact ⟨A0,c0,rfl,l0,(fun W' hW=>by obtain ⟨A0_,c0_,he,l0_,g0_⟩:=k35_open (h W' hW);injection (Option.some.inj (show some (Value.slice A0 x.f0.length c0) = some (Value.slice A0_ x.f0.length c0_) from congrArg (fun l=>l[0]?) he)) with ha_ _ _;rw [ha_];exact g0_)⟩
theorem k35_mkF (W : World) (ok : Nat → Prop) (x : S35) {A0 : Option Addr} {c0 : Nat} (l0 : x.f0.length ≤ c0) (g0 : Kd.F k76 W ok A0 x.f0.length x.f0) : Kd.FK k35 W ok x [.slice A0 x.f0.length c0]:=fun W2 hW=>k35_mk W2 x l0 (g0 W2 hW)
def rd_T35 (xs : List S35) (i : Int) : S35:=xs.getD i.toNat z35
theorem at_T35 {w : World} {A : Option Addr} {n : Nat} {xs : List S35} (h : Kd.C k35 w A n xs) (i : Int) (h0 : 0 ≤ i) (h1 : i < n) : ∃ ad A0 c0,A = some ad ∧ w.cell? (ad.add i.toNat) = some (.slice A0 (rd_T35 xs i).f0.length c0) ∧ (rd_T35 xs i).f0.length ≤ c0 ∧ k76.C w A0 (rd_T35 xs i).f0.length (rd_T35 xs i).f0:=by
 obtain ⟨ad,c,e,_,hK,hc0⟩:=Kd.C_get h z35 i h0 h1
 have hc : ∀ j u,c[j]? = some u → w.cell? (ad.add (i.toNat * 1 + j)) = some u:=hc0
 obtain ⟨A0,c0,rfl,l0,g0⟩:=k35_open hK
 exact ⟨ad,A0,c0,e,by have hq:=hc 0 _ rfl;rwa [Nat.mul_one,Nat.add_zero] at hq,l0,g0⟩
def rd_L9 (xs : List (List S38)) (i : Int) : (List S38):=xs.getD i.toNat ([] : List S38)
theorem at_L9 {w : World} {A : Option Addr} {n : Nat} {xs : List (List S38)} (h : Kd.C (Kd.slice 38 k38) w A n xs) (i : Int) (h0 : 0 ≤ i) (h1 : i < n) : ∃ ad A0 c0,A = some ad ∧ w.cell? (ad.add i.toNat) = some (.slice A0 (rd_L9 xs i).length c0) ∧ (rd_L9 xs i).length ≤ c0 ∧ k38.C w A0 (rd_L9 xs i).length (rd_L9 xs i):=by
 obtain ⟨ad,c,e,_,hK,hc0⟩:=Kd.C_get h ([] : List S38) i h0 h1
 have hc : ∀ j u,c[j]? = some u → w.cell? (ad.add (i.toNat * 1 + j)) = some u:=hc0
 obtain ⟨A0,c0,rfl,l0,g0⟩:=hK
 exact ⟨ad,A0,c0,e,by have hq:=hc 0 _ rfl;rwa [Nat.mul_one,Nat.add_zero] at hq,l0,g0⟩
def rd_L11 (xs : List (List Int)) (i : Int) : (List Int):=xs.getD i.toNat ([] : List Int)
theorem at_L11 {w : World} {A : Option Addr} {n : Nat} {xs : List (List Int)} (h : Kd.C (Kd.slice 3 (Kd.int .i64)) w A n xs) (i : Int) (h0 : 0 ≤ i) (h1 : i < n) : ∃ ad A0 c0,A = some ad ∧ w.cell? (ad.add i.toNat) = some (.slice A0 (rd_L11 xs i).length c0) ∧ (rd_L11 xs i).length ≤ c0 ∧ (Kd.int .i64).C w A0 (rd_L11 xs i).length (rd_L11 xs i):=by
 obtain ⟨ad,c,e,_,hK,hc0⟩:=Kd.C_get h ([] : List Int) i h0 h1
 have hc : ∀ j u,c[j]? = some u → w.cell? (ad.add (i.toNat * 1 + j)) = some u:=hc0
 obtain ⟨A0,c0,rfl,l0,g0⟩:=hK
 exact ⟨ad,A0,c0,e,by have hq:=hc 0 _ rfl;rwa [Nat.mul_one,Nat.add_zero] at hq,l0,g0⟩
structure S135 where
 f0 : Int
 f1 : Int
 f2 : Int
 f3 : Int
def z135 : S135:=⟨(0 : Int),(0 : Int),(0 : Int),(0 : Int)⟩
def k135 : Kd S135:=Kd.iso (Kd.pair (Kd.int .i64) (Kd.pair (Kd.int .i64) (Kd.pair (Kd.int .i64) (Kd.int .i64)))) (fun x : S135=>(x.f0,x.f1,x.f2,x.f3))
theorem k135_heap : Kd.Heap k135:=Kd.heap_iso _ (Kd.heap_pair (Kd.heap_int .i64) (Kd.heap_pair (Kd.heap_int .i64) (Kd.heap_pair (Kd.heap_int .i64) (Kd.heap_int .i64))))
theorem k135_open {w : World} {x : S135} {cs : List Value} (h : k135.K w x cs) : cs = [.int .i64 x.f0,.int .i64 x.f1,.int .i64 x.f2,.int .i64 x.f3]:=by
 obtain ⟨_,_,rfl,rfl,⟨_,_,rfl,rfl,⟨_,_,rfl,rfl,rfl⟩⟩⟩:=h
 exact rfl
theorem k135_openM {w : World} {base : Nat} {ok : Nat → Prop} {x : S135} {cs : List Value} (h : k135.M w base ok x cs) : cs = [.int .i64 x.f0,.int .i64 x.f1,.int .i64 x.f2,.int .i64 x.f3]:=by
 obtain ⟨_,_,rfl,rfl,⟨_,_,rfl,rfl,⟨_,_,rfl,rfl,rfl⟩⟩⟩:=h
 exact rfl
theorem k135_mk (w : World) (x : S135)  : k135.K w x [.int .i64 x.f0,.int .i64 x.f1,.int .i64 x.f2,.int .i64 x.f3]:=⟨[.int .i64 x.f0],[.int .i64 x.f1,.int .i64 x.f2,.int .i64 x.f3],rfl,rfl,⟨[.int .i64 x.f1],[.int .i64 x.f2,.int .i64 x.f3],rfl,rfl,⟨[.int .i64 x.f2],[.int .i64 x.f3],rfl,rfl,rfl⟩⟩⟩
theorem k135_mkM (w : World) (base : Nat) (ok : Nat → Prop) (x : S135)  : k135.M w base ok x [.int .i64 x.f0,.int .i64 x.f1,.int .i64 x.f2,.int .i64 x.f3]:=⟨[.int .i64 x.f0],[.int .i64 x.f1,.int .i64 x.f2,.int .i64 x.f3],rfl,rfl,⟨[.int .i64 x.f1],[.int .i64 x.f2,.int .i64 x.f3],rfl,rfl,⟨[.int .i64 x.f2],[.int .i64 x.f3],rfl,rfl,rfl⟩⟩⟩
theorem k135_mkF (W : World) (ok : Nat → Prop) (x : S135) : Kd.FK k135 W ok x [.int .i64 x.f0,.int .i64 x.f1,.int .i64 x.f2,.int .i64 x.f3]:=fun W2 _=>k135_mk W2 x
def rd_T135 (xs : List S135) (i : Int) : S135:=xs.getD i.toNat z135
theorem at_T135 {w : World} {A : Option Addr} {n : Nat} {xs : List S135} (h : Kd.C k135 w A n xs) (i : Int) (h0 : 0 ≤ i) (h1 : i < n) : ∃ ad ,A = some ad ∧ w.cell? (ad.add (i.toNat * 4)) = some (.int .i64 (rd_T135 xs i).f0) ∧ w.cell? ⟨(ad.add (i.toNat * 4)).block,(ad.add (i.toNat * 4)).off + 1,none⟩ = some (.int .i64 (rd_T135 xs i).f1) ∧ w.cell? ⟨(ad.add (i.toNat * 4)).block,(ad.add (i.toNat * 4)).off + 2,none⟩ = some (.int .i64 (rd_T135 xs i).f2) ∧ w.cell? ⟨(ad.add (i.toNat * 4)).block,(ad.add (i.toNat * 4)).off + 3,none⟩ = some (.int .i64 (rd_T135 xs i).f3):=by
 obtain ⟨ad,c,e,_,hK,hc0⟩:=Kd.C_get h z135 i h0 h1
 have hc : ∀ j u,c[j]? = some u → w.cell? (ad.add (i.toNat * 4 + j)) = some u:=hc0
 obtain rfl:=k135_open hK
 exact ⟨ad,e,hc 0 _ rfl,by rw [← add_field _ _ 1 (by omega)];exact hc 1 _ rfl,by rw [← add_field _ _ 2 (by omega)];exact hc 2 _ rfl,by rw [← add_field _ _ 3 (by omega)];exact hc 3 _ rfl⟩
structure S97 where
 f0 : Int
 f1 : Int
 f2 : Int
 f3 : Int
 f4 : Bool
def z97 : S97:=⟨(0 : Int),(0 : Int),(0 : Int),(0 : Int),false⟩
def k97 : Kd S97:=Kd.iso (Kd.pair (Kd.int .i64) (Kd.pair (Kd.int .i64) (Kd.pair (Kd.int .i64) (Kd.pair (Kd.int .i64) Kd.bool)))) (fun x : S97=>(x.f0,x.f1,x.f2,x.f3,x.f4))
theorem k97_heap : Kd.Heap k97:=Kd.heap_iso _ (Kd.heap_pair (Kd.heap_int .i64) (Kd.heap_pair (Kd.heap_int .i64) (Kd.heap_pair (Kd.heap_int .i64) (Kd.heap_pair (Kd.heap_int .i64) Kd.heap_bool))))
theorem k97_open {w : World} {x : S97} {cs : List Value} (h : k97.K w x cs) : cs = [.int .i64 x.f0,.int .i64 x.f1,.int .i64 x.f2,.int .i64 x.f3,.bool x.f4]:=by
 obtain ⟨_,_,rfl,rfl,⟨_,_,rfl,rfl,⟨_,_,rfl,rfl,⟨_,_,rfl,rfl,rfl⟩⟩⟩⟩:=h
 exact rfl
theorem k97_openM {w : World} {base : Nat} {ok : Nat → Prop} {x : S97} {cs : List Value} (h : k97.M w base ok x cs) : cs = [.int .i64 x.f0,.int .i64 x.f1,.int .i64 x.f2,.int .i64 x.f3,.bool x.f4]:=by
 obtain ⟨_,_,rfl,rfl,⟨_,_,rfl,rfl,⟨_,_,rfl,rfl,⟨_,_,rfl,rfl,rfl⟩⟩⟩⟩:=h
 exact rfl
theorem k97_mk (w : World) (x : S97)  : k97.K w x [.int .i64 x.f0,.int .i64 x.f1,.int .i64 x.f2,.int .i64 x.f3,.bool x.f4]:=⟨[.int .i64 x.f0],[.int .i64 x.f1,.int .i64 x.f2,.int .i64 x.f3,.bool x.f4],rfl,rfl,⟨[.int .i64 x.f1],[.int .i64 x.f2,.int .i64 x.f3,.bool x.f4],rfl,rfl,⟨[.int .i64 x.f2],[.int .i64 x.f3,.bool x.f4],rfl,rfl,⟨[.int .i64 x.f3],[.bool x.f4],rfl,rfl,rfl⟩⟩⟩⟩
theorem k97_mkM (w : World) (base : Nat) (ok : Nat → Prop) (x : S97)  : k97.M w base ok x [.int .i64 x.f0,.int .i64 x.f1,.int .i64 x.f2,.int .i64 x.f3,.bool x.f4]:=⟨[.int .i64 x.f0],[.int .i64 x.f1,.int .i64 x.f2,.int .i64 x.f3,.bool x.f4],rfl,rfl,⟨[.int .i64 x.f1],[.int .i64 x.f2,.int .i64 x.f3,.bool x.f4],rfl,rfl,⟨[.int .i64 x.f2],[.int .i64 x.f3,.bool x.f4],rfl,rfl,⟨[.int .i64 x.f3],[.bool x.f4],rfl,rfl,rfl⟩⟩⟩⟩
theorem k97_mkF (W : World) (ok : Nat → Prop) (x : S97) : Kd.FK k97 W ok x [.int .i64 x.f0,.int .i64 x.f1,.int .i64 x.f2,.int .i64 x.f3,.bool x.f4]:=fun W2 _=>k97_mk W2 x
def rd_T97 (xs : List S97) (i : Int) : S97:=xs.getD i.toNat z97
theorem at_T97 {w : World} {A : Option Addr} {n : Nat} {xs : List S97} (h : Kd.C k97 w A n xs) (i : Int) (h0 : 0 ≤ i) (h1 : i < n) : ∃ ad ,A = some ad ∧ w.cell? (ad.add (i.toNat * 5)) = some (.int .i64 (rd_T97 xs i).f0) ∧ w.cell? ⟨(ad.add (i.toNat * 5)).block,(ad.add (i.toNat * 5)).off + 1,none⟩ = some (.int .i64 (rd_T97 xs i).f1) ∧ w.cell? ⟨(ad.add (i.toNat * 5)).block,(ad.add (i.toNat * 5)).off + 2,none⟩ = some (.int .i64 (rd_T97 xs i).f2) ∧ w.cell? ⟨(ad.add (i.toNat * 5)).block,(ad.add (i.toNat * 5)).off + 3,none⟩ = some (.int .i64 (rd_T97 xs i).f3) ∧ w.cell? ⟨(ad.add (i.toNat * 5)).block,(ad.add (i.toNat * 5)).off + 4,none⟩ = some (.bool (rd_T97 xs i).f4):=by
 obtain ⟨ad,c,e,_,hK,hc0⟩:=Kd.C_get h z97 i h0 h1
 have hc : ∀ j u,c[j]? = some u → w.cell? (ad.add (i.toNat * 5 + j)) = some u:=hc0
 obtain rfl:=k97_open hK
 exact ⟨ad,e,hc 0 _ rfl,by rw [← add_field _ _ 1 (by omega)];exact hc 1 _ rfl,by rw [← add_field _ _ 2 (by omega)];exact hc 2 _ rfl,by rw [← add_field _ _ 3 (by omega)];exact hc 3 _ rfl,by rw [← add_field _ _ 4 (by omega)];exact hc 4 _ rfl⟩
def rd_L14 (xs : List (List S97)) (i : Int) : (List S97):=xs.getD i.toNat ([] : List S97)
theorem at_L14 {w : World} {A : Option Addr} {n : Nat} {xs : List (List S97)} (h : Kd.C (Kd.slice 97 k97) w A n xs) (i : Int) (h0 : 0 ≤ i) (h1 : i < n) : ∃ ad A0 c0,A = some ad ∧ w.cell? (ad.add i.toNat) = some (.slice A0 (rd_L14 xs i).length c0) ∧ (rd_L14 xs i).length ≤ c0 ∧ k97.C w A0 (rd_L14 xs i).length (rd_L14 xs i):=by
 obtain ⟨ad,c,e,_,hK,hc0⟩:=Kd.C_get h ([] : List S97) i h0 h1
 have hc : ∀ j u,c[j]? = some u → w.cell? (ad.add (i.toNat * 1 + j)) = some u:=hc0
 obtain ⟨A0,c0,rfl,l0,g0⟩:=hK
 exact ⟨ad,A0,c0,e,by have hq:=hc 0 _ rfl;rwa [Nat.mul_one,Nat.add_zero] at hq,l0,g0⟩
structure S88 where
 f0 : (List S97)
def z88 : S88:=⟨([] : List S97)⟩
def k88 : Kd S88:=Kd.iso (Kd.slice 97 k97) (fun x : S88=>x.f0)
theorem k88_heap : Kd.Heap k88:=Kd.heap_iso _ (Kd.heap_slice 97 k97_heap)
theorem k88_open {w : World} {x : S88} {cs : List Value} (h : k88.K w x cs) : ∃ A0 c0,cs = [.slice A0 x.f0.length c0] ∧ x.f0.length ≤ c0 ∧ k97.C w A0 x.f0.length x.f0:=by
 obtain ⟨A0,c0,rfl,l0,g0⟩:=h
 exact ⟨A0,c0,rfl,l0,g0⟩
theorem k88_openM {w : World} {base : Nat} {ok : Nat → Prop} {x : S88} {cs : List Value} (h : k88.M w base ok x cs) : ∃ v0,cs = [v0] ∧ k97.R 97 w base ok v0 x.f0:=by
 obtain ⟨v0,rfl,g0⟩:=h
 exact ⟨v0,rfl,g0⟩
theorem k88_mk (w : World) (x : S88) {A0 : Option Addr} {c0 : Nat} (l0 : x.f0.length ≤ c0) (g0 : k97.C w A0 x.f0.length x.f0) : k88.K w x [.slice A0 x.f0.length c0]:=⟨A0,c0,rfl,l0,g0⟩
theorem k88_mkM (w : World) (base : Nat) (ok : Nat → Prop) (x : S88) {v0 : Value} (g0 : k97.R 97 w base ok v0 x.f0) : k88.M w base ok x [v0]:=⟨v0,rfl,g0⟩
theorem k88_openF {W : World} {ok : Nat → Prop} {x : S88} {cs : List Value} (h : Kd.FK k88 W ok x cs) : ∃ A0 c0,cs = [.slice A0 x.f0.length c0] ∧ x.f0.length ≤ c0 ∧ Kd.F k97 W ok A0 x.f0.length x.f0:=by
 obtain ⟨A0,c0,rfl,l0,_⟩:=k88_open (Kd.FK_now h)
 exact ⟨A0,c0,rfl,l0,(fun W' hW=>by obtain ⟨A0_,c0_,he,l0_,g0_⟩:=k88_open (h W' hW);injection (Option.some.inj (show some (Value.slice A0 x.f0.length c0) = some (Value.slice A0_ x.f0.length c0_) from congrArg (fun l=>l[0]?) he)) with ha_ _ _;rw [ha_];exact g0_)⟩
theorem k88_mkF (W : World) (ok : Nat → Prop) (x : S88) {A0 : Option Addr} {c0 : Nat} (l0 : x.f0.length ≤ c0) (g0 : Kd.F k97 W ok A0 x.f0.length x.f0) : Kd.FK k88 W ok x [.slice A0 x.f0.length c0]:=fun W2 hW=>k88_mk W2 x l0 (g0 W2 hW)
def rd_T88 (xs : List S88) (i : Int) : S88:=xs.getD i.toNat z88
theorem at_T88 {w : World} {A : Option Addr} {n : Nat} {xs : List S88} (h : Kd.C k88 w A n xs) (i : Int) (h0 : 0 ≤ i) (h1 : i < n) : ∃ ad A0 c0,A = some ad ∧ w.cell? (ad.add i.toNat) = some (.slice A0 (rd_T88 xs i).f0.length c0) ∧ (rd_T88 xs i).f0.length ≤ c0 ∧ k97.C w A0 (rd_T88 xs i).f0.length (rd_T88 xs i).f0:=by
 obtain ⟨ad,c,e,_,hK,hc0⟩:=Kd.C_get h z88 i h0 h1
 have hc : ∀ j u,c[j]? = some u → w.cell? (ad.add (i.toNat * 1 + j)) = some u:=hc0
 obtain ⟨A0,c0,rfl,l0,g0⟩:=k88_open hK
 exact ⟨ad,A0,c0,e,by have hq:=hc 0 _ rfl;rwa [Nat.mul_one,Nat.add_zero] at hq,l0,g0⟩
end Go.Proofs.Ytjcodcimodnbjaa.P
section
namespace Go.Proofs.Ytjcodcimodnbjaa.P
open Go.RowKit Go.Proofs.YtjcodcimodnbjaaW.PrintWords Go.Proofs.YtjcodcimodnbjaaW.PrintLast Go.Proofs.YtjcodcimodnbjaaW.PrintMore
attribute [local go_sem] max2_int min2_int max_two min_two max_three min_three max_four min_four
set_option linter.unusedVariables false
set_option linter.unusedSimpArgs false
def Ev {α : Type} (F : Nat → Option α) (x : α) : Prop:=∃ K,∀ k,K ≤ k → F k = some x
namespace Ev
variable {α β : Type}
theorem of_mono {F : Nat → Option α} {x : α} (hm : ∀ k,LeO (F k) (F (k + 1))) {K : Nat} (h : F K = some x) : Ev F x:=⟨K,fun _ hk=>at_rounds hm hk h⟩
theorem const {a : Option α} {x : α} (h : a = some x) : Ev (fun _=>a) x:=⟨0,fun _ _=>h⟩
theorem bind {F : Nat → Option α} {G : Nat → α → Option β} {x : α} {y : β} (h : Ev F x) (h2 : Ev (fun k=>G k x) y) : Ev (fun k=>(F k).bind (G k)) y:=by
 obtain ⟨K,hK⟩:=h
 obtain ⟨K2,hK2⟩:=h2
 refine ⟨max K K2,fun k hk=>?_⟩
 show (F k).bind (G k) = some y
 rw [hK k (Nat.le_trans (Nat.le_max_left _ _) hk)]
 exact hK2 k (Nat.le_trans (Nat.le_max_right _ _) hk)
theorem pos {F G : Nat → Option α} {x : α} {c : Prop} [Decidable c] (hc : c) (h : Ev F x) : Ev (fun k=>if c then F k else G k) x:=by
 obtain ⟨K,hK⟩:=h
 exact ⟨K,fun k hk=>by show (if c then F k else G k) = some x;rw [if_pos hc];exact hK k hk⟩
theorem neg {F G : Nat → Option α} {x : α} {c : Prop} [Decidable c] (hc : ¬ c) (h : Ev G x) : Ev (fun k=>if c then F k else G k) x:=by
 obtain ⟨K,hK⟩:=h
 exact ⟨K,fun k hk=>by show (if c then F k else G k) = some x;rw [if_neg hc];exact hK k hk⟩
theorem succ {F : Nat → Option α} {x : α} (h : Ev (fun k=>F (k + 1)) x) : Ev F x:=by
 obtain ⟨K,hK⟩:=h
 refine ⟨K + 1,fun k hk=>?_⟩
 obtain ⟨j,rfl⟩ : ∃ j,k = j + 1:=⟨k - 1,by omega⟩
 exact hK j (by omega)
theorem out {F : Nat → Option α} {x : α} (h : Ev F x) : ∃ k,F k = some x:=by
 obtain ⟨K,hK⟩:=h
 exact ⟨K,hK K (Nat.le_refl _)⟩
theorem congr {F G : Nat → Option α} {x : α} (h : Ev F x) (e : ∀ k,G k = F k) : Ev G x:=by
 obtain ⟨K,hK⟩:=h
 exact ⟨K,fun k hk=>(e k).trans (hK k hk)⟩
end Ev
theorem st_loop {σ ρ : Type} (L : Nat → σ → Int → Option ρ) (n : Nat) (S : Nat → σ) (v : ρ) (hstep : ∀ k i,i < n → L (k + 1) (S i) (i : Int) = L k (S (i + 1)) ((i + 1 : Nat) : Int)) (hend : ∀ k,L (k + 1) (S n) (n : Int) = some v) : L (n + 1) (S 0) 0 = some v:=by
 have key : ∀ d i k,i + d = n → L (d + 1 + k) (S i) (i : Int) = some v:=by
  intro d
  induction d with
  | zero =>
   intro i k hi
   obtain rfl : i = n:=by omega
   rw [show 0 + 1 + k = k + 1 by omega]
   exact hend k
  | succ d ih =>
   intro i k hi
   rw [show d + 1 + 1 + k = (d + 1 + k) + 1 by omega,hstep _ i (by omega)]
   exact ih (i + 1) k (by omega)
 have:=key n 0 0 (by omega)
 simpa using this
theorem fill_at {α β : Type} (xs : List α) (c : α → β) (z : α) (y : β) (i : Nat) (hi : i < xs.length) : (((xs.take i).map c) ++ List.replicate (xs.length - i) y).set i (c (xs.getD i z)) = ((xs.take (i + 1)).map c) ++ List.replicate (xs.length - (i + 1)) y:=by
 have h1 : xs.take (i + 1) = xs.take i ++ [xs.getD i z]:=by
  rw [List.take_succ_eq_append_getElem hi,List.getD_eq_getElem?_getD,List.getElem?_eq_getElem hi]
  rfl
 rw [h1,List.set_append_right _ _ (by simp;omega)]
 have h2 : i - ((xs.take i).map c).length = 0:=by simp;omega
 rw [h2,show xs.length - i = (xs.length - (i + 1)) + 1 by omega,List.replicate_succ,s2_,List.map_append,List.append_assoc]
 rfl
theorem fill_len {α β : Type} (xs : List α) (c : α → β) (y : β) (i : Nat) (hi : i ≤ xs.length) : (((xs.take i).map c) ++ List.replicate (xs.length - i) y).length = xs.length:=by
 simp
 omega
theorem rd_nat (l : List Int) (i : Nat) (hi : i < l.length) : rd l (i : Int) = l.getD i 0:=by simp [rd]
def marks (a : Int) (n : Nat) : List Int:=(List.range n).map (fun i : Nat=>a + (i : Int))
theorem marks_len (a : Int) (n : Nat) : (marks a n).length = n:=by simp [marks]
end Go.Proofs.Ytjcodcimodnbjaa.P
end
namespace Go.Proofs.Ytjcodcimodnbjaa.P
open Go.RowKit Go.Proofs.YtjcodcimodnbjaaW.PrintWords Go.Proofs.YtjcodcimodnbjaaW.PrintLast Go.Proofs.YtjcodcimodnbjaaW.PrintMore
attribute [local go_sem] max2_int min2_int max_two min_two max_three min_three max_four min_four
set_option linter.unusedVariables false
set_option linter.unusedSimpArgs false
def laws_szClass.f (a0_0 : ByteArray) (a0_1 : Int) (a1 : Int) : Option (Int):=if (wrap64 (a1 - (a0_0.size : Int))) < 0 then (some (-1)) else (some (wrap64 (a1 - (a0_0.size : Int))))
set_option maxHeartbeats 8000000 in
set_option maxRecDepth 100000 in
theorem laws_szClass.calls (a0_0 : ByteArray) (a0_1 : Int) (a1 : Int) (r : Int) (w : World) (h : laws_szClass.f a0_0 a0_1 a1 = some r) :
  Calls Try.prog 45 #[.agg #[.string a0_0,.int .i64 a0_1],.int .i64 a1] w fun e w'=>e = .returned (.int .i64 r) ∧ Below w.heap.size w w':=by
 have hu73:=Try.underlying73
 have HB:=a0_ (Below.refl w.heap.size w)
 have H : (if (wrap64 (a1 - (a0_0.size : Int))) < 0 then (some (-1)) else (some (wrap64 (a1 - (a0_0.size : Int))))) = some r:=h
 clear h
 by_cases c3 : (wrap64 (a1 - (a0_0.size : Int))) < 0
 ·rw [if_pos c3] at H
  have c3b0 : decide ((wrap64 (a1 - (a0_0.size : Int))) < 0) = true:=decide_eq_true c3
  clear c3
  obtain rfl:=Option.some.inj H
  go_enter Try.func45,Try.ntmps45
  go_wp2_with (first | ((with_reducible refine gate_dst (N:=2) rfl ?_);refine box_event ?hg (N:=2) ?hd (cs:=#[.string a0_0,.int .i64 a0_1]) (t:=73) ?hr ?_;(case hd=>rfl);(case hg=>rfl);(case hr=>first | (go_simp;done) | (go_simp;rfl));intro gb1 hg w4 hbox hb;have n0_:=a0_ (below_step hb_ hb);have n1_:=a0_ (hbox);have n2_:=a0_ ((by rw [hg];exact (below_size hb_) : w.heap.size ≤ gb1));have n3_:=a0_ ((by rw [hg];exact (below_size hb_) : w.heap.size ≤ gb1));clear HB;have HB:=n0_;have BK1:=n1_;have GW1:=n2_;have GE1:=n3_;clear n0_ n1_ n2_ n3_;clear hb hbox hg;have hcz5_0 : w4.cell? ⟨gb1,0,none⟩ = some (.string a0_0):=(blk_cell BK1.1 0).trans rfl;have hcz5_1 : w4.cell? ⟨gb1,1,none⟩ = some (.int .i64 a0_1):=(blk_cell BK1.1 1).trans rfl;have hfz5_0:=blk_frozen BK1.1 0;have hfz5_1:=blk_frozen BK1.1 1))
  go_ret
  exact ⟨by first | rfl | (simp [errW_none,errW_some] <;> rfl) | (simp [*,errW_none,errW_some] <;> rfl),hb_⟩
 ·rw [if_neg c3] at H
  have c3b0 : decide ((wrap64 (a1 - (a0_0.size : Int))) < 0) = false:=decide_eq_false c3
  clear c3
  obtain rfl:=Option.some.inj H
  go_enter Try.func45,Try.ntmps45
  go_wp2_with (first | ((with_reducible refine gate_dst (N:=2) rfl ?_);refine box_event ?hg (N:=2) ?hd (cs:=#[.string a0_0,.int .i64 a0_1]) (t:=73) ?hr ?_;(case hd=>rfl);(case hg=>rfl);(case hr=>first | (go_simp;done) | (go_simp;rfl));intro gb1 hg w6 hbox hb;have n0_:=a0_ (below_step hb_ hb);have n1_:=a0_ (hbox);have n2_:=a0_ ((by rw [hg];exact (below_size hb_) : w.heap.size ≤ gb1));have n3_:=a0_ ((by rw [hg];exact (below_size hb_) : w.heap.size ≤ gb1));clear HB;have HB:=n0_;have BK1:=n1_;have GW1:=n2_;have GE1:=n3_;clear n0_ n1_ n2_ n3_;clear hb hbox hg;have hcz7_0 : w6.cell? ⟨gb1,0,none⟩ = some (.string a0_0):=(blk_cell BK1.1 0).trans rfl;have hcz7_1 : w6.cell? ⟨gb1,1,none⟩ = some (.int .i64 a0_1):=(blk_cell BK1.1 1).trans rfl;have hfz7_0:=blk_frozen BK1.1 0;have hfz7_1:=blk_frozen BK1.1 1))
  go_ret
  exact ⟨by first | rfl | (simp [errW_none,errW_some] <;> rfl) | (simp [*,errW_none,errW_some] <;> rfl),hb_⟩
theorem laws_szClass_ev (s : ByteArray) (p : Int) (a : Int) (h0 : 0 ≤ a) (ha : a ≤ 1048576) (hs : s.size ≤ 9223372036854775807) : laws_szClass.f s p a = some (if (s.size : Int) ≤ a then a - s.size else -1):=by
 unfold laws_szClass.f
 rw [wrap_in (by omega) (by omega)]
 by_cases h : (s.size : Int) ≤ a
 ·rw [if_neg (by omega),if_pos h]
 ·rw [if_pos (by omega),if_neg h]
end Go.Proofs.Ytjcodcimodnbjaa.P
namespace Go.Proofs.Ytjcodcimodnbjaa.P
open Go.RowKit Go.Proofs.YtjcodcimodnbjaaW.PrintWords Go.Proofs.YtjcodcimodnbjaaW.PrintLast Go.Proofs.YtjcodcimodnbjaaW.PrintMore
attribute [local go_sem] max2_int min2_int max_two min_two max_three min_three max_four min_four
set_option linter.unusedVariables false
set_option linter.unusedSimpArgs false
def laws_szClassS.l0 : Nat → List (S73) → Int → Int → Option (Int)
 | 0,_,_,_=>none
 | k + 1,x0,x1,x5=>if x5 < (x0.length : Int) then (if 0 ≤ x5 then ((laws_szClass.f ((rd_T73 x0 x5).f0) ((rd_T73 x0 x5).f1) x1).bind fun t2=>(if t2 < 0 then (some (-1)) else (laws_szClassS.l0 k x0 t2 (wrap64 (x5 + 1))))) else (none)) else (some x1)
def laws_szClassS.f (k : Nat) (l0 : List (S73)) (a1 : Int) : Option (Int):=if (wrap64 (a1 - (l0.length : Int))) < 0 then (some (-1)) else (laws_szClassS.l0 k l0 (wrap64 (a1 - (l0.length : Int))) 0)
theorem laws_szClassS.mono_l : ∀ k,(∀ y0 y1 y2,LeO (laws_szClassS.l0 k y0 y1 y2) (laws_szClassS.l0 (k + 1) y0 y1 y2))
 | 0=>fun _ _ _ r h=>by simp [laws_szClassS.l0] at h
 | k + 1=>by
  have ih0:=laws_szClassS.mono_l k
  ·intro y0 y1 y2
   unfold laws_szClassS.l0
   repeat' first
   | (with_reducible exact ih0 _ _ _)
   | (with_reducible exact LeO.refl _)
   | (with_reducible exact LeO.none _)
   | (with_reducible refine LeO.ite ?_ ?_)
   | (with_reducible refine LeO.bind ?_ (fun _=>?_))
   | exact ih0 _ _ _
   | exact LeO.none _
   | refine LeO.ite ?_ ?_
   | refine LeO.bind ?_ (fun _=>?_)
theorem laws_szClassS.mono : ∀ a0 a1 k,LeO (laws_szClassS.f k a0 a1) (laws_szClassS.f (k + 1) a0 a1):=by
 intro a0 a1 k
 have ih0:=laws_szClassS.mono_l k
 unfold laws_szClassS.f
 repeat' first
   | (with_reducible exact ih0 _ _ _)
   | (with_reducible exact LeO.refl _)
   | (with_reducible exact LeO.none _)
   | (with_reducible refine LeO.ite ?_ ?_)
   | (with_reducible refine LeO.bind ?_ (fun _=>?_))
   | exact ih0 _ _ _
   | exact LeO.none _
   | refine LeO.ite ?_ ?_
   | refine LeO.bind ?_ (fun _=>?_)
set_option maxHeartbeats 8000000 in
set_option maxRecDepth 100000 in
theorem laws_szClassS.calls (k : Nat) (A0 : Option Addr) (c0 : Nat) (l0 : List (S73)) (a1 : Int) (r : Int) (w : World) (hr0 : Kd.C k73 w A0 l0.length l0) (hc0 : l0.length ≤ c0) (h : laws_szClassS.f k l0 a1 = some r) :
  Calls Try.prog 29 #[.slice A0 l0.length c0,.int .i64 a1] w fun e w'=>e = .returned (.int .i64 r) ∧ Below w.heap.size w w':=by
 have hu73:=Try.underlying73
 have HR0:=a0_ hr0
 have HC0:=a0_ hc0
 clear hr0 hc0
 have HB:=a0_ (Below.refl w.heap.size w)
 have H : (if (wrap64 (a1 - (l0.length : Int))) < 0 then (some (-1)) else (laws_szClassS.l0 k l0 (wrap64 (a1 - (l0.length : Int))) 0)) = some r:=h
 clear h
 by_cases c3 : (wrap64 (a1 - (l0.length : Int))) < 0
 ·rw [if_pos c3] at H
  have c3b0 : decide ((wrap64 (a1 - (l0.length : Int))) < 0) = true:=decide_eq_true c3
  clear c3
  obtain rfl:=Option.some.inj H
  go_enter Try.func29,Try.ntmps29
  go_wp2
  go_ret
  exact ⟨by first | rfl | (simp [errW_none,errW_some] <;> rfl) | (simp [*,errW_none,errW_some] <;> rfl),hb_⟩
 ·rw [if_neg c3] at H
  have c3b0 : decide ((wrap64 (a1 - (l0.length : Int))) < 0) = false:=decide_eq_false c3
  clear c3
  have H':=a0_ H
  clear H
  go_enter Try.func29,Try.ntmps29
  go_wp2
  go_loopg [1,5] k (fun kq v1 v5 w'=>∃ (x1_1 : Int) (x5_1 : Int),v1 = .int .i64 x1_1 ∧ v5 = .int .i64 x5_1 ∧ Aside0 (laws_szClassS.l0 kq l0 x1_1 x5_1 = some r) ∧ Aside0 (kq ≤ k) ∧ Aside0 (Below w.heap.size w w'))
  case atStart=>exact ⟨(wrap64 (a1 - (l0.length : Int))),(0),(by first | rfl | (simp;done) | (simp [*];done)),(by first | rfl | (simp;done) | (simp [*];done)),H',⟨Nat.le_refl _⟩,⟨hb_⟩⟩
  case round =>
   clear H'
   try clear c2
   try clear p2
   try clear c3
   try clear c3b0
   obtain ⟨x1_1,x5_1,rfl,rfl,HA,HK1,HB⟩:=hrel
   cases gk with
   | zero=>exact absurd HA.out (by simp [laws_szClassS.l0])
   | succ k1 =>
    have H:=HA.out
    clear HA
    simp only [laws_szClassS.l0] at H
    by_cases c4 : x5_1 < (l0.length : Int)
    ·rw [if_pos c4] at H
     have c4b0 : decide (x5_1 < (l0.length : Int)) = true:=decide_eq_true c4
     clear c4
     by_cases c5 : 0 ≤ x5_1
     ·rw [if_pos c5] at H
      have c5b0 : decide (0 ≤ x5_1) = true:=decide_eq_true c5
      clear c5
      replace H:=Option.bind_eq_some_iff.mp H
      obtain ⟨t2,A60,H⟩:=H
      replace H : (if t2 < 0 then (some (-1)) else (laws_szClassS.l0 k1 l0 t2 (wrap64 (x5_1 + 1)))) = some r:=H
      have A6:=a0_ A60
      clear A60
      by_cases c7 : t2 < 0
      ·rw [if_pos c7] at H
       have c7b0 : decide (t2 < 0) = true:=decide_eq_true c7
       clear c7
       obtain rfl:=Option.some.inj H
       have p1 : 0 ≤ (x5_1 : Int):=of_decide_eq_true (by first | (with_reducible assumption) | assumption)
       have q1 : x5_1 < (l0.length : Int):=of_decide_eq_true (by first | (with_reducible assumption) | assumption)
       obtain ⟨ad1,e1,hx1_0,hx1_1⟩:=at_T73 HR0.1 x5_1 p1 q1
       cases e1
       replace hx1_0:=(HB.1.cell (World.block_lt_of_cell? w _ hx1_0)).trans hx1_0
       replace hx1_1:=(HB.1.cell (World.block_lt_of_cell? w _ hx1_1)).trans hx1_1
       replace p1:=eq_true p1
       replace q1:=eq_true q1
       go_wp2_with (first | ((with_reducible refine gate_callee (f:=45) rfl ?_);refine goesL_ (some 23) rfl rfl Try.func45 (by kernel_rfl) rfl #[.agg #[.string ((rd_T73 l0 x5_1).f0),.int .i64 ((rd_T73 l0 x5_1).f1)],.int .i64 x1_1] rfl lm_ ?_;(with_reducible refine (laws_szClass.calls ((rd_T73 l0 x5_1).f0) ((rd_T73 l0 x5_1).f1) x1_1 t2 _ A6.1).mono ?_);rintro e w8 ⟨rfl,hb⟩;refine ⟨_,rfl,?_⟩;have n0_:=a0_ (below_step hb_ hb);clear HB;have HB:=n0_;clear n0_;(try clear hb);(try clear hb2);(try clear hk);(try clear hi)))
       go_ret
       exact ⟨by first | rfl | (simp [errW_none,errW_some] <;> rfl) | (simp [*,errW_none,errW_some] <;> rfl),hb_⟩
      ·rw [if_neg c7] at H
       have c7b0 : decide (t2 < 0) = false:=decide_eq_false c7
       clear c7
       have H':=a0_ H
       clear H
       have p1 : 0 ≤ (x5_1 : Int):=of_decide_eq_true (by first | (with_reducible assumption) | assumption)
       have q1 : x5_1 < (l0.length : Int):=of_decide_eq_true (by first | (with_reducible assumption) | assumption)
       obtain ⟨ad1,e1,hx1_0,hx1_1⟩:=at_T73 HR0.1 x5_1 p1 q1
       cases e1
       replace hx1_0:=(HB.1.cell (World.block_lt_of_cell? w _ hx1_0)).trans hx1_0
       replace hx1_1:=(HB.1.cell (World.block_lt_of_cell? w _ hx1_1)).trans hx1_1
       replace p1:=eq_true p1
       replace q1:=eq_true q1
       go_wp2_with (first | ((with_reducible refine gate_callee (f:=45) rfl ?_);refine goesL_ (some 23) rfl rfl Try.func45 (by kernel_rfl) rfl #[.agg #[.string ((rd_T73 l0 x5_1).f0),.int .i64 ((rd_T73 l0 x5_1).f1)],.int .i64 x1_1] rfl lm_ ?_;(with_reducible refine (laws_szClass.calls ((rd_T73 l0 x5_1).f0) ((rd_T73 l0 x5_1).f1) x1_1 t2 _ A6.1).mono ?_);rintro e w9 ⟨rfl,hb⟩;refine ⟨_,rfl,?_⟩;have n0_:=a0_ (below_step hb_ hb);clear HB;have HB:=n0_;clear n0_;(try clear hb);(try clear hb2);(try clear hk);(try clear hi)))
       go_roundg k1
       case measure=>have:=HK1.1;omega
       case rel=>exact ⟨(t2),(wrap64 (x5_1 + 1)),(by first | rfl | (simp;done) | (simp [*];done)),(by first | rfl | (simp;done) | (simp [*];done)),H',⟨by have:=HK1.1;omega⟩,⟨hb_⟩⟩
     ·rw [if_neg c5] at H
      exact absurd H (by simp)
    ·rw [if_neg c4] at H
     have c4b0 : decide (x5_1 < (l0.length : Int)) = false:=decide_eq_false c4
     clear c4
     obtain rfl:=Option.some.inj H
     go_wp2
     go_ret
     exact ⟨by first | rfl | (simp [errW_none,errW_some] <;> rfl) | (simp [*,errW_none,errW_some] <;> rfl),hb_⟩
theorem laws_szClassS_ev (t : List S73) (a : Int) (h0 : 0 ≤ a) (ha : a ≤ 1048576) (ht : t.length ≤ 9223372036854775807) (hs : ∀ x ∈ t,x.f0.size ≤ 9223372036854775807) :
  ∃ v,Ev (fun k=>laws_szClassS.f k t a) v ∧ (0 ≤ v → v ≤ a ∧ t.length ≤ a ∧ ∀ x ∈ t,(x.f0.size : Int) ≤ a):=by
 have key : ∀ d i k (left : Int),i + d = t.length → 0 ≤ left → left ≤ a → ∃ v,laws_szClassS.l0 (d + 1 + k) t left (i : Int) = some v ∧ (0 ≤ v → v ≤ left ∧ ∀ x ∈ t.drop i,(x.f0.size : Int) ≤ a):=by
  intro d
  induction d with
  | zero =>
   intro i k left hi hl hl2
   rw [show 0 + 1 + k = k + 1 by omega]
   simp only [laws_szClassS.l0]
   rw [if_neg (by omega)]
   exact ⟨left,rfl,fun _=>⟨Int.le_refl _,by rw [List.drop_eq_nil_of_le (by omega)];simp⟩⟩
  | succ d ih =>
   intro i k left hi hl hl2
   have hlt : i < t.length:=by omega
   rw [show d + 1 + 1 + k = (d + 1 + k) + 1 by omega]
   simp only [laws_szClassS.l0]
   have hx : rd_T73 t (i : Int) = t[i]:=by simp [rd_T73,hlt]
   rw [if_pos (by omega),if_pos (by omega),hx,laws_szClass_ev _ _ left hl (by omega) (hs _ (List.getElem_mem hlt))]
   simp only [Option.bind_some]
   by_cases h : (t[i].f0.size : Int) ≤ left
   ·rw [if_pos h,if_neg (by omega),wrap_succ (i:=(i : Int)) (n:=t.length) (by omega) (by omega) (by omega)]
    obtain ⟨v,hv,hg⟩:=ih (i + 1) k (left - t[i].f0.size) (by omega) (by omega) (by omega)
    refine ⟨v,hv,fun hv0=>?_⟩
    obtain ⟨h1,h2⟩:=hg hv0
    refine ⟨by omega,?_⟩
    rw [List.drop_eq_getElem_cons hlt]
    intro x hx'
    rcases List.mem_cons.1 hx' with rfl | hx'
    ·omega
    ·exact h2 x hx'
   ·rw [if_neg h,if_pos (by omega)]
    exact ⟨-1,rfl,fun h=>by omega⟩
 by_cases hl : (t.length : Int) ≤ a
 ·obtain ⟨v,hv,hg⟩:=key t.length 0 0 (a - t.length) (by omega) (by omega) (by omega)
  refine ⟨v,Ev.of_mono (laws_szClassS.mono t a) (K:=t.length + 1) ?_,fun hv0=>⟨by have:=hg hv0;omega,hl,by simpa using (hg hv0).2⟩⟩
  unfold laws_szClassS.f
  rw [wrap_in (by omega) (by omega),if_neg (by omega)]
  simpa using hv
 ·refine ⟨-1,Ev.of_mono (laws_szClassS.mono t a) (K:=0) ?_,fun h=>by omega⟩
  unfold laws_szClassS.f
  rw [wrap_in (by omega) (by omega),if_pos (by omega)]
end Go.Proofs.Ytjcodcimodnbjaa.P
namespace Go.Proofs.Ytjcodcimodnbjaa.P
open Go.RowKit Go.Proofs.YtjcodcimodnbjaaW.PrintWords Go.Proofs.YtjcodcimodnbjaaW.PrintLast Go.Proofs.YtjcodcimodnbjaaW.PrintMore
attribute [local go_sem] max2_int min2_int max_two min_two max_three min_three max_four min_four
set_option linter.unusedVariables false
set_option linter.unusedSimpArgs false
def laws_szTree.f (k : Nat) (l0_0 : List (S73)) (a1 : Int) : Option (Int):=(laws_szClassS.f k l0_0 a1).bind fun t2=>(if t2 < 0 then (some (-1)) else (some t2))
theorem laws_szTree.mono : ∀ a0 a1 k,LeO (laws_szTree.f k a0 a1) (laws_szTree.f (k + 1) a0 a1):=by
 intro a0 a1 k
 unfold laws_szTree.f
 repeat' first
   | (with_reducible exact laws_szClassS.mono _ _ _)
   | (with_reducible exact LeO.refl _)
   | (with_reducible exact LeO.none _)
   | (with_reducible refine LeO.ite ?_ ?_)
   | (with_reducible refine LeO.bind ?_ (fun _=>?_))
   | exact laws_szClassS.mono _ _ _
   | exact LeO.none _
   | refine LeO.ite ?_ ?_
   | refine LeO.bind ?_ (fun _=>?_)
set_option maxHeartbeats 8000000 in
set_option maxRecDepth 100000 in
theorem laws_szTree.calls (k : Nat) (A0_0 : Option Addr) (c0_0 : Nat) (l0_0 : List (S73)) (a1 : Int) (r : Int) (w : World) (hr0_0 : Kd.C k73 w A0_0 l0_0.length l0_0) (hc0_0 : l0_0.length ≤ c0_0) (h : laws_szTree.f k l0_0 a1 = some r) :
  Calls Try.prog 7 #[.agg #[.slice A0_0 l0_0.length c0_0],.int .i64 a1] w fun e w'=>e = .returned (.int .i64 r) ∧ Below w.heap.size w w':=by
 have hu24:=Try.underlying24
 have HR0_0:=a0_ hr0_0
 have HC0_0:=a0_ hc0_0
 clear hr0_0 hc0_0
 have HB:=a0_ (Below.refl w.heap.size w)
 have H : ((laws_szClassS.f k l0_0 a1).bind fun t2=>(if t2 < 0 then (some (-1)) else (some t2))) = some r:=h
 clear h
 replace H:=Option.bind_eq_some_iff.mp H
 obtain ⟨t2,A30,H⟩:=H
 replace H : (if t2 < 0 then (some (-1)) else (some t2)) = some r:=H
 have A3:=a0_ A30
 clear A30
 by_cases c4 : t2 < 0
 ·rw [if_pos c4] at H
  have c4b0 : decide (t2 < 0) = true:=decide_eq_true c4
  clear c4
  obtain rfl:=Option.some.inj H
  go_enter Try.func7,Try.ntmps7
  go_wp2_with (first | ((with_reducible refine gate_dst (N:=2) rfl ?_);refine box_event ?hg (N:=2) ?hd (cs:=#[.slice A0_0 l0_0.length c0_0]) (t:=24) ?hr ?_;(case hd=>rfl);(case hg=>rfl);(case hr=>first | (go_simp;done) | (go_simp;rfl));intro gb1 hg w5 hbox hb;have n0_:=a0_ (below_step hb_ hb);have n1_:=a0_ (hbox);have n2_:=a0_ ((by rw [hg];exact (below_size hb_) : w.heap.size ≤ gb1));have n3_:=a0_ ((by rw [hg];exact (below_size hb_) : w.heap.size ≤ gb1));clear HB;have HB:=n0_;have BK1:=n1_;have GW1:=n2_;have GE1:=n3_;clear n0_ n1_ n2_ n3_;clear hb hbox hg;have hcz6_0 : w5.cell? ⟨gb1,0,none⟩ = some (.slice A0_0 l0_0.length c0_0):=(blk_cell BK1.1 0).trans rfl;have hfz6_0:=blk_frozen BK1.1 0) | ((with_reducible refine gate_callee (f:=29) rfl ?_);refine goesL_ (some 8) rfl rfl Try.func29 (by kernel_rfl) rfl #[.slice A0_0 l0_0.length c0_0,.int .i64 a1] rfl lm_ ?_;(with_reducible refine (laws_szClassS.calls k _ _ l0_0 a1 t2 _ ?side1 ?side2 A3.1).mono ?_);(case side1=>exact cc_ (Kd.C_below HR0_0.1 HB.1));(case side2=>exact HC0_0.1);rintro e w7 ⟨rfl,hb⟩;refine ⟨_,rfl,?_⟩;have n0_:=a0_ (blk_below (bb_ BK1.1) hb);have n1_:=a0_ (below_step hb_ hb);clear BK1 HB;have BK1:=n0_;have HB:=n1_;clear n0_ n1_;(try clear hb);(try clear hb2);(try clear hk);(try clear hi)))
  go_ret
  exact ⟨by first | rfl | (simp [errW_none,errW_some] <;> rfl) | (simp [*,errW_none,errW_some] <;> rfl),hb_⟩
 ·rw [if_neg c4] at H
  have c4b0 : decide (t2 < 0) = false:=decide_eq_false c4
  clear c4
  obtain rfl:=Option.some.inj H
  go_enter Try.func7,Try.ntmps7
  go_wp2_with (first | ((with_reducible refine gate_dst (N:=2) rfl ?_);refine box_event ?hg (N:=2) ?hd (cs:=#[.slice A0_0 l0_0.length c0_0]) (t:=24) ?hr ?_;(case hd=>rfl);(case hg=>rfl);(case hr=>first | (go_simp;done) | (go_simp;rfl));intro gb1 hg w8 hbox hb;have n0_:=a0_ (below_step hb_ hb);have n1_:=a0_ (hbox);have n2_:=a0_ ((by rw [hg];exact (below_size hb_) : w.heap.size ≤ gb1));have n3_:=a0_ ((by rw [hg];exact (below_size hb_) : w.heap.size ≤ gb1));clear HB;have HB:=n0_;have BK1:=n1_;have GW1:=n2_;have GE1:=n3_;clear n0_ n1_ n2_ n3_;clear hb hbox hg;have hcz9_0 : w8.cell? ⟨gb1,0,none⟩ = some (.slice A0_0 l0_0.length c0_0):=(blk_cell BK1.1 0).trans rfl;have hfz9_0:=blk_frozen BK1.1 0) | ((with_reducible refine gate_callee (f:=29) rfl ?_);refine goesL_ (some 8) rfl rfl Try.func29 (by kernel_rfl) rfl #[.slice A0_0 l0_0.length c0_0,.int .i64 a1] rfl lm_ ?_;(with_reducible refine (laws_szClassS.calls k _ _ l0_0 a1 t2 _ ?side1 ?side2 A3.1).mono ?_);(case side1=>exact cc_ (Kd.C_below HR0_0.1 HB.1));(case side2=>exact HC0_0.1);rintro e w10 ⟨rfl,hb⟩;refine ⟨_,rfl,?_⟩;have n0_:=a0_ (blk_below (bb_ BK1.1) hb);have n1_:=a0_ (below_step hb_ hb);clear BK1 HB;have BK1:=n0_;have HB:=n1_;clear n0_ n1_;(try clear hb);(try clear hb2);(try clear hk);(try clear hi)))
  go_ret
  exact ⟨by first | rfl | (simp [errW_none,errW_some] <;> rfl) | (simp [*,errW_none,errW_some] <;> rfl),hb_⟩
theorem laws_szTree_ev (t : List S73) (a : Int) (h0 : 0 ≤ a) (ha : a ≤ 1048576) (ht : t.length ≤ 9223372036854775807) (hs : ∀ x ∈ t,x.f0.size ≤ 9223372036854775807) :
  ∃ v,Ev (fun k=>laws_szTree.f k t a) v ∧ (0 ≤ v → v ≤ a ∧ t.length ≤ a ∧ ∀ x ∈ t,(x.f0.size : Int) ≤ a):=by
 obtain ⟨v,hv,hg⟩:=laws_szClassS_ev t a h0 ha ht hs
 by_cases h : v < 0
 ·exact ⟨-1,Ev.bind hv (Ev.pos h (Ev.const rfl)),fun h=>by omega⟩
 ·exact ⟨v,Ev.bind hv (Ev.neg h (Ev.const rfl)),hg⟩
end Go.Proofs.Ytjcodcimodnbjaa.P
namespace Go.Proofs.Ytjcodcimodnbjaa.P
open Go.RowKit Go.Proofs.YtjcodcimodnbjaaW.PrintWords Go.Proofs.YtjcodcimodnbjaaW.PrintLast Go.Proofs.YtjcodcimodnbjaaW.PrintMore
attribute [local go_sem] max2_int min2_int max_two min_two max_three min_three max_four min_four
set_option linter.unusedVariables false
set_option linter.unusedSimpArgs false
def laws_szExitS.f (l0 : List (S27)) (a1 : Int) : Option (Int):=if (wrap64 (a1 - (l0.length : Int))) < 0 then (some (-1)) else (some (wrap64 (a1 - (l0.length : Int))))
set_option maxHeartbeats 8000000 in
set_option maxRecDepth 100000 in
theorem laws_szExitS.calls (A0 : Option Addr) (c0 : Nat) (l0 : List (S27)) (a1 : Int) (r : Int) (w : World) (hr0 : Kd.C k27 w A0 l0.length l0) (hc0 : l0.length ≤ c0) (h : laws_szExitS.f l0 a1 = some r) :
  Calls Try.prog 8 #[.slice A0 l0.length c0,.int .i64 a1] w fun e w'=>e = .returned (.int .i64 r) ∧ Drawn0 w w':=by
 have HR0:=a0_ hr0
 have HC0:=a0_ hc0
 clear hr0 hc0
 have H : (if (wrap64 (a1 - (l0.length : Int))) < 0 then (some (-1)) else (some (wrap64 (a1 - (l0.length : Int))))) = some r:=h
 clear h
 by_cases c3 : (wrap64 (a1 - (l0.length : Int))) < 0
 ·rw [if_pos c3] at H
  have c3b0 : decide ((wrap64 (a1 - (l0.length : Int))) < 0) = true:=decide_eq_true c3
  clear c3
  obtain rfl:=Option.some.inj H
  go_enter Try.func8,Try.ntmps8
  go_wp2
  go_ret
  exact ⟨by first | rfl | (simp;done) | (simp [*];done),by repeat (first | exact Drawn0.refl _ | apply Drawn0.step)⟩
 ·rw [if_neg c3] at H
  have c3b0 : decide ((wrap64 (a1 - (l0.length : Int))) < 0) = false:=decide_eq_false c3
  clear c3
  obtain rfl:=Option.some.inj H
  go_enter Try.func8,Try.ntmps8
  go_wp2
  go_ret
  exact ⟨by first | rfl | (simp;done) | (simp [*];done),by repeat (first | exact Drawn0.refl _ | apply Drawn0.step)⟩
theorem laws_szExitS_ev (l : List S27) (a : Int) (h0 : 0 ≤ a) (ha : a ≤ 1048576) (hl : l.length ≤ 9223372036854775807) : ∃ v,Ev (fun _=>laws_szExitS.f l a) v ∧ (0 ≤ v → v ≤ a ∧ l.length ≤ a):=by
 by_cases h : (l.length : Int) ≤ a
 ·refine ⟨a - l.length,Ev.const ?_,fun _=>⟨by omega,h⟩⟩
  unfold laws_szExitS.f
  rw [wrap_in (by omega) (by omega),if_neg (by omega)]
 ·refine ⟨-1,Ev.const ?_,fun h=>by omega⟩
  unfold laws_szExitS.f
  rw [wrap_in (by omega) (by omega),if_pos (by omega)]
end Go.Proofs.Ytjcodcimodnbjaa.P
namespace Go.Proofs.Ytjcodcimodnbjaa.P
open Go.RowKit Go.Proofs.YtjcodcimodnbjaaW.PrintWords Go.Proofs.YtjcodcimodnbjaaW.PrintLast Go.Proofs.YtjcodcimodnbjaaW.PrintMore
attribute [local go_sem] max2_int min2_int max_two min_two max_three min_three max_four min_four
set_option linter.unusedVariables false
set_option linter.unusedSimpArgs false
abbrev Cls:=S76
def okName (s : ByteArray) : Bool:=s.data.toList.all (fun c=>decide (97 ≤ c.toNat) && decide (c.toNat ≤ 122)) && (decide (1 ≤ s.size) && decide (s.size ≤ 6))
def named (t : List Cls) (n : ByteArray) : Int:=idxP (fun x : Cls=>x.f0.toList == n.toList) t
def okCls (t : List Cls) (i : Nat) (x : Cls) : Bool:=okName x.f0 && (decide (named t x.f0 = (i : Int)) && (if i = 0 then decide (x.f1 = -1) else decide (0 ≤ x.f1) && decide (x.f1 ≤ (i : Int) - 1)))
def vT (t : List Cls) : Bool:=(List.range t.length).all (fun i=>okCls t i (t.getD i z76)) && (decide (1 ≤ t.length) && decide (t.length ≤ 8))
def smT (t : List Cls) : Bool:=t.all fun x=>decide (x.f0.size < 9223372036854775807)
def hasC (t : List Cls) (a : Int) : Bool:=decide (0 ≤ a) && decide (a < (t.length : Int))
def upF (t : List Cls) : Nat → Int → List Int
 | 0,_=>[]
 | n + 1,a=>if 0 ≤ a then a :: upF t n (rd_T76 t a).f1 else []
def abv (t : List Cls) (a : Int) : List Int:=upF t (a.toNat + 1) a
def isA (t : List Cls) (a b : Int) : Bool:=(abv t a).contains b
theorem vT_len {t : List Cls} (h : vT t = true) : 1 ≤ t.length ∧ t.length ≤ 8:=by
 unfold vT at h
 simp only [Bool.and_eq_true,decide_eq_true_eq] at h
 exact h.2
theorem vT_at {t : List Cls} (h : vT t = true) (i : Nat) (hi : i < t.length) : okCls t i (t.getD i z76) = true:=by
 unfold vT at h
 simp only [Bool.and_eq_true,List.all_eq_true,List.mem_range] at h
 exact h.1 i hi
theorem vT_name {t : List Cls} (h : vT t = true) (i : Nat) (hi : i < t.length) : okName (t.getD i z76).f0 = true ∧ named t (t.getD i z76).f0 = i:=by
 have:=vT_at h i hi
 unfold okCls at this
 simp only [Bool.and_eq_true,decide_eq_true_eq] at this
 exact ⟨this.1,this.2.1⟩
theorem vT_root {t : List Cls} (h : vT t = true) : (t.getD 0 z76).f1 = -1:=by
 have:=vT_at h 0 (by have:=vT_len h;omega)
 unfold okCls at this
 simp only [Bool.and_eq_true,decide_eq_true_eq,if_pos] at this
 exact this.2.2
theorem vT_par {t : List Cls} (h : vT t = true) (i : Nat) (h0 : 0 < i) (hi : i < t.length) : 0 ≤ (t.getD i z76).f1 ∧ (t.getD i z76).f1 ≤ (i : Int) - 1:=by
 have:=vT_at h i hi
 unfold okCls at this
 rw [if_neg (by omega)] at this
 simp only [Bool.and_eq_true,decide_eq_true_eq] at this
 exact this.2.2
theorem vT_par' {t : List Cls} (h : vT t = true) (a : Int) (h0 : 0 ≤ a) (ha : a < (t.length : Int)) : -1 ≤ (rd_T76 t a).f1 ∧ (rd_T76 t a).f1 < a:=by
 unfold rd_T76
 by_cases e : a = 0
 ·subst e
  have:=vT_root h
  simp only [Int.toNat_zero]
  omega
 ·have:=vT_par h a.toNat (by omega) (by omega)
  omega
theorem upF_more {t : List Cls} (h : vT t = true) : ∀ (n m : Nat) (a : Int),a < (t.length : Int) → a < (n : Int) → a < (m : Int) → upF t n a = upF t m a:=by
 intro n
 induction n with
 | zero=>intro m a ha hn hm;cases m with
  | zero=>rfl
  | succ m=>simp only [upF];rw [if_neg (by omega)]
 | succ n ih =>
  intro m a ha hn hm
  cases m with
  | zero=>simp only [upF];rw [if_neg (by omega)]
  | succ m =>
   simp only [upF]
   by_cases h0 : 0 ≤ a
   ·rw [if_pos h0,if_pos h0]
    have:=vT_par' h a h0 ha
    rw [ih m _ (by omega) (by omega) (by omega)]
   ·rw [if_neg h0,if_neg h0]
theorem abv_step {t : List Cls} (h : vT t = true) (a : Int) (h0 : 0 ≤ a) (ha : a < (t.length : Int)) : abv t a = a :: abv t (rd_T76 t a).f1:=by
 have:=vT_par' h a h0 ha
 unfold abv
 rw [upF,if_pos h0,upF_more h a.toNat ((rd_T76 t a).f1.toNat + 1) _ (by omega) (by omega) (by omega)]
theorem abv_neg (t : List Cls) (a : Int) (h0 : a < 0) : abv t a = []:=by
 unfold abv
 rw [upF,if_neg (by omega)]
theorem upF_len (t : List Cls) : ∀ (n : Nat) (a : Int),(upF t n a).length ≤ n:=by
 intro n
 induction n with
 | zero=>intro a;simp [upF]
 | succ n ih =>
  intro a
  simp only [upF]
  split
  ·have:=ih (rd_T76 t a).f1
   simp only [List.length_cons];omega
  ·simp
theorem vT_small {t : List Cls} (h : vT t = true) : smT t = true:=by
 unfold smT
 rw [List.all_eq_true]
 intro x hx
 obtain ⟨i,hi,rfl⟩:=List.getElem_of_mem hx
 have:=(vT_name h i hi).1
 unfold okName at this
 simp only [Bool.and_eq_true,decide_eq_true_eq] at this
 have h2 : (t.getD i z76) = t[i]:=by simp [hi]
 rw [h2] at this
 simp only [decide_eq_true_eq]
 omega
theorem smT_at {t : List Cls} (h : smT t = true) (i : Nat) (hi : i < t.length) : t[i].f0.size ≤ 9223372036854775806:=by
 unfold smT at h
 rw [List.all_eq_true] at h
 have:=h t[i] (List.getElem_mem hi)
 simp only [decide_eq_true_eq] at this
 omega
theorem hasC_iff {t : List Cls} {a : Int} : hasC t a = true ↔ 0 ≤ a ∧ a < (t.length : Int):=by
 unfold hasC;simp
theorem abv_len {t : List Cls} (h : vT t = true) (a : Int) (ha : a < (t.length : Int)) : (abv t a).length ≤ 8:=by
 have h1:=upF_len t (a.toNat + 1) a
 have h2:=vT_len h
 unfold abv
 by_cases h0 : 0 ≤ a
 ·omega
 ·rw [upF,if_neg h0];simp
end Go.Proofs.Ytjcodcimodnbjaa.P
namespace Go.Proofs.Ytjcodcimodnbjaa.P
open Go.RowKit Go.Proofs.YtjcodcimodnbjaaW.PrintWords Go.Proofs.YtjcodcimodnbjaaW.PrintLast Go.Proofs.YtjcodcimodnbjaaW.PrintMore
attribute [local go_sem] max2_int min2_int max_two min_two max_three min_three max_four min_four
set_option linter.unusedVariables false
set_option linter.unusedSimpArgs false
abbrev Ext:=S38
def okX (t : List Cls) (x : Ext) : Bool:=if x.f0 = 0 ∨ x.f0 = 1 then ((decide (0 ≤ x.f1) && decide (x.f1 ≤ 99)) && (x.f2 == 0)) else if x.f0 = 2 then (hasC t x.f1 && (x.f2 == 0)) else if x.f0 = 3 then (hasC t x.f1 && (decide (0 ≤ x.f2) && decide (x.f2 ≤ 99))) else false
def vX (t : List Cls) (l : List Ext) : Bool:=vT t && (decide ((l.length : Int) ≤ 8) && l.all (okX t))
theorem vX_len {t : List Cls} {l : List Ext} (h : vX t l = true) : l.length ≤ 8:=by
 unfold vX at h
 simp only [Bool.and_eq_true,decide_eq_true_eq] at h
 omega
theorem vX_tree {t : List Cls} {l : List Ext} (h : vX t l = true) : vT t = true:=by
 unfold vX at h
 simp only [Bool.and_eq_true,decide_eq_true_eq] at h
 exact h.1
end Go.Proofs.Ytjcodcimodnbjaa.P
namespace Go.Proofs.Ytjcodcimodnbjaa.P
open Go.RowKit Go.Proofs.YtjcodcimodnbjaaW.PrintWords Go.Proofs.YtjcodcimodnbjaaW.PrintLast Go.Proofs.YtjcodcimodnbjaaW.PrintMore
attribute [local go_sem] max2_int min2_int max_two min_two max_three min_three max_four min_four
set_option linter.unusedVariables false
set_option linter.unusedSimpArgs false
def pushP (t : List Cls) (l : List Ext) (a b c : Int) : List Ext × Bool:=if vX t l = true ∧ vX t (l ++ [⟨a,b,c⟩]) = true then (l ++ [⟨a,b,c⟩],true) else ([],false)
def lastX (l : List Ext) : Ext:=l.getD (l.length - 1) z38
def popP (t : List Cls) (l : List Ext) : List Ext × Int × Int × Int × Bool:=if vX t l = true ∧ 1 ≤ l.length then (l.take (l.length - 1),(lastX l).f0,(lastX l).f1,(lastX l).f2,true) else ([],0,0,0,false)
theorem pushP_len (t : List Cls) (l : List Ext) (a b c : Int) : (pushP t l a b c).1.length ≤ l.length + 1:=by
 unfold pushP
 split
 ·simp
 ·simp
theorem popP_len (t : List Cls) (l : List Ext) : (popP t l).1.length ≤ l.length:=by
 unfold popP
 split
 ·show (l.take (l.length - 1)).length ≤ l.length
  rw [List.length_take]
  omega
 ·simp
end Go.Proofs.Ytjcodcimodnbjaa.P
namespace Go.Proofs.Ytjcodcimodnbjaa.P
open Go.RowKit Go.Proofs.YtjcodcimodnbjaaW.PrintWords Go.Proofs.YtjcodcimodnbjaaW.PrintLast Go.Proofs.YtjcodcimodnbjaaW.PrintMore
attribute [local go_sem] max2_int min2_int max_two min_two max_three min_three max_four min_four
set_option linter.unusedVariables false
set_option linter.unusedSimpArgs false
def spec_copyExits.f (l0 : List (S38)) : Option ((List (S38))):=(some (([] : List (S38)) : List (S38))).bind fun y1=>(if y1.length + l0.length < 5864062014805 then (some (y1 ++ l0)) else (none))
set_option maxHeartbeats 8000000 in
set_option maxRecDepth 100000 in
theorem spec_copyExits.calls (A0 : Option Addr) (c0 : Nat) (l0 : List (S38)) (r : List (S38)) (w : World) (hr0 : Kd.C k38 w A0 l0.length l0) (hc0 : l0.length ≤ c0) (h : spec_copyExits.f l0 = some r) :
  Calls Try.prog 30 #[.slice A0 l0.length c0] w fun e w'=>∃ v0_ : Value,e = .returned (v0_) ∧ Kd.R k38 38 w' w.heap.size (fun _=>True) v0_ r ∧ Below w.heap.size w w':=by
 have HR0:=a0_ hr0
 have HC0:=a0_ hc0
 clear hr0 hc0
 have HB:=a0_ (Below.refl w.heap.size w)
 have H : ((some (([] : List (S38)) : List (S38))).bind fun y1=>(if y1.length + l0.length < 5864062014805 then (some (y1 ++ l0)) else (none))) = some r:=h
 clear h
 obtain ⟨y1,hy1⟩ : ∃ y_ : List (S38),y_ = (([] : List (S38))):=⟨_,rfl⟩
 replace H : (if y1.length + l0.length < 5864062014805 then (some (y1 ++ l0)) else (none)) = some r:=by first | (rw [hy1];with_reducible exact H) | (have H2_:=(Option.bind_some _ _).symm.trans H;rw [hy1];with_reducible exact H2_) | (have H2_:=(Option.bind_some _ _).symm.trans H;with_reducible exact H2_) | with_reducible exact H | (rw [hy1];exact H) | exact H
 have Ny1:=a0_ hy1
 clear hy1
 by_cases c2 : y1.length + l0.length < 5864062014805
 ·rw [if_pos c2] at H
  have LMc2:=a0_ c2
  clear c2
  obtain ⟨y4,hy4⟩ : ∃ y_ : List (S38),y_ = (y1 ++ l0):=⟨_,rfl⟩
  replace H : (some y4) = some r:=by first | (rw [hy4];with_reducible exact H) | (have H2_:=(Option.bind_some _ _).symm.trans H;rw [hy4];with_reducible exact H2_) | (have H2_:=(Option.bind_some _ _).symm.trans H;with_reducible exact H2_) | with_reducible exact H | (rw [hy4];exact H) | exact H
  have Ny4:=a0_ hy4
  clear hy4
  obtain rfl:=Option.some.inj H
  go_enter Try.func30,Try.ntmps30
  go_wp2_with (first | ((with_reducible refine gate_dst (N:=3) rfl ?_);refine Kd.R_lit k38 _ 38 ?hg (N:=3) ?hd (xs:=([] : List (S38))) (inner:=[]) (ok:=fun _=>True) (okp:=fun _=>True) ?hr ?hp (fun _ hk=>hk) trivial (Below.refl _ _) (Nat.le_refl _) (by simp) ?_;(case hd=>rfl);(case hg=>rfl);(case hr=>first | (go_simp;done) | (go_simp;rfl));(case hp=>exact (Reps.none _ _));intro v2 w3 ho4 hb hg_ hnew_;clear hg_ hnew_;(first | rw [← Ny1.1] at ho4 | (simp only [Int.reduceToNat] at ho4;rw [← Ny1.1] at ho4));have n0_:=a0_ (Kd.R_lower ho4 (below_size hb_));have n1_:=a0_ (below_step hb_ hb);clear HB;have HO3:=n0_;have HB:=n1_;clear n0_ n1_;clear hb ho4) | ((with_reducible refine gate_builtin (b:=.append) (xs:=#[.tmp 3,.tmp 4]) rfl ?_);at_builtin;refine Kd.R_append_rows k38 (w0:=w) w.heap.size rfl (.tmp 3) (.tmp 4) 30 38 (.agg #[(.int .i64 0),(.int .i64 0),(.int .i64 0)]) 24 rfl Try.underlying30 info38 rfl (by decide) (by omega) v2 y1 l0 _ _ _ (fun _=>True) (fun _=>False) rfl rfl ?aO ?aR (fun _ _ h=>h) (fun _ h=>h.elim) ?aF ?aB ?aS ?aL ?_;(case aR=>exact cc_ (Kd.C_below HR0.1 HB.1));(case aB=>exact hb_);(case aF=>exact (fun _ _=>trivial));(case aO=>exact (rr_ HO3.1));(case aS=>exact (below_size hb_));(case aL=>have:=LMc2.1;omega);intro v5 w5 ho hb hg hat;rw [← Ny4.1] at ho;have n0_:=a0_ (hb);have n1_:=a0_ (ho);clear HB HO3;have HB:=n0_;have HO6:=n1_;clear n0_ n1_;clear ho hb hg hat))
  go_ret
  exact ⟨_,by first | rfl | (simp [errW_none,errW_some] <;> rfl) | (simp [*,errW_none,errW_some] <;> rfl),by (with_reducible repeat (first | apply Kd.R_alloc | apply Kd.R_drewN | apply Kd.R_drew));exact HO6.1,hb_⟩
 ·rw [if_neg c2] at H
  exact absurd H (by simp)
theorem spec_copyExits_ev (l : List Ext) (hl : l.length ≤ 1048576) : spec_copyExits.f l = some l:=by
 unfold spec_copyExits.f
 rw [Option.bind_some,if_pos (by simp;omega)]
 rfl
end Go.Proofs.Ytjcodcimodnbjaa.P
namespace Go.Proofs.Ytjcodcimodnbjaa.P
open Go.RowKit Go.Proofs.YtjcodcimodnbjaaW.PrintWords Go.Proofs.YtjcodcimodnbjaaW.PrintLast Go.Proofs.YtjcodcimodnbjaaW.PrintMore
attribute [local go_sem] max2_int min2_int max_two min_two max_three min_three max_four min_four
set_option linter.unusedVariables false
set_option linter.unusedSimpArgs false
def spec_inRange.f (a0 : Int) (a1 : Int) (a2 : Int) : Option (Bool):=if a1 ≤ a0 then (some (decide (a0 ≤ a2))) else (some false)
set_option maxHeartbeats 8000000 in
set_option maxRecDepth 100000 in
theorem spec_inRange.calls (a0 : Int) (a1 : Int) (a2 : Int) (r : Bool) (w : World) (h : spec_inRange.f a0 a1 a2 = some r) :
  Calls Try.prog 60 #[.int .i64 a0,.int .i64 a1,.int .i64 a2] w fun e w'=>e = .returned (.bool r) ∧ Drawn0 w w':=by
 have H : (if a1 ≤ a0 then (some (decide (a0 ≤ a2))) else (some false)) = some r:=h
 clear h
 by_cases c4 : a1 ≤ a0
 ·rw [if_pos c4] at H
  have c4b0 : decide (a1 ≤ a0) = true:=decide_eq_true c4
  clear c4
  obtain rfl:=Option.some.inj H
  go_enter Try.func60,Try.ntmps60
  go_wp2
  go_ret
  exact ⟨by first | rfl | (simp;done) | (simp [*];done),by repeat (first | exact Drawn0.refl _ | apply Drawn0.step)⟩
 ·rw [if_neg c4] at H
  have c4b0 : decide (a1 ≤ a0) = false:=decide_eq_false c4
  clear c4
  obtain rfl:=Option.some.inj H
  go_enter Try.func60,Try.ntmps60
  go_wp2
  go_ret
  exact ⟨by first | rfl | (simp;done) | (simp [*];done),by repeat (first | exact Drawn0.refl _ | apply Drawn0.step)⟩
theorem spec_inRange_ev (a b c : Int) : spec_inRange.f a b c = some (decide (b ≤ a) && decide (a ≤ c)):=by
 unfold spec_inRange.f
 by_cases h : b ≤ a
 ·rw [if_pos h];simp [h]
 ·rw [if_neg h];simp [h]
end Go.Proofs.Ytjcodcimodnbjaa.P
namespace Go.Proofs.Ytjcodcimodnbjaa.P
open Go.RowKit Go.Proofs.YtjcodcimodnbjaaW.PrintWords Go.Proofs.YtjcodcimodnbjaaW.PrintLast Go.Proofs.YtjcodcimodnbjaaW.PrintMore
attribute [local go_sem] max2_int min2_int max_two min_two max_three min_three max_four min_four
set_option linter.unusedVariables false
set_option linter.unusedSimpArgs false
def spec_hasClass.f (l0_0 : List (S76)) (a1 : Int) : Option (Bool):=(spec_inRange.f a1 0 (wrap64 ((l0_0.length : Int) - 1))).bind fun t2=>(some t2)
set_option maxHeartbeats 8000000 in
set_option maxRecDepth 100000 in
theorem spec_hasClass.calls (A0_0 : Option Addr) (c0_0 : Nat) (l0_0 : List (S76)) (a1 : Int) (r : Bool) (w : World) (hr0_0 : Kd.C k76 w A0_0 l0_0.length l0_0) (hc0_0 : l0_0.length ≤ c0_0) (h : spec_hasClass.f l0_0 a1 = some r) :
  Calls Try.prog 61 #[.agg #[.slice A0_0 l0_0.length c0_0],.int .i64 a1] w fun e w'=>e = .returned (.bool r) ∧ Below w.heap.size w w':=by
 have hu35:=Try.underlying35
 have HR0_0:=a0_ hr0_0
 have HC0_0:=a0_ hc0_0
 clear hr0_0 hc0_0
 have HB:=a0_ (Below.refl w.heap.size w)
 have H : ((spec_inRange.f a1 0 (wrap64 ((l0_0.length : Int) - 1))).bind fun t2=>(some t2)) = some r:=h
 clear h
 replace H:=Option.bind_eq_some_iff.mp H
 obtain ⟨t2,A30,H⟩:=H
 replace H : (some t2) = some r:=H
 have A3:=a0_ A30
 clear A30
 obtain rfl:=Option.some.inj H
 go_enter Try.func61,Try.ntmps61
 go_wp2_with (first | ((with_reducible refine gate_dst (N:=2) rfl ?_);refine box_event ?hg (N:=2) ?hd (cs:=#[.slice A0_0 l0_0.length c0_0]) (t:=35) ?hr ?_;(case hd=>rfl);(case hg=>rfl);(case hr=>first | (go_simp;done) | (go_simp;rfl));intro gb1 hg w4 hbox hb;have n0_:=a0_ (below_step hb_ hb);have n1_:=a0_ (hbox);have n2_:=a0_ ((by rw [hg];exact (below_size hb_) : w.heap.size ≤ gb1));have n3_:=a0_ ((by rw [hg];exact (below_size hb_) : w.heap.size ≤ gb1));clear HB;have HB:=n0_;have BK1:=n1_;have GW1:=n2_;have GE1:=n3_;clear n0_ n1_ n2_ n3_;clear hb hbox hg;have hcz5_0 : w4.cell? ⟨gb1,0,none⟩ = some (.slice A0_0 l0_0.length c0_0):=(blk_cell BK1.1 0).trans rfl;have hfz5_0:=blk_frozen BK1.1 0) | ((with_reducible refine gate_callee (f:=60) rfl ?_);refine goesL_ (some 10) rfl rfl Try.func60 (by kernel_rfl) rfl #[.int .i64 a1,.int .i64 0,.int .i64 (wrap64 ((l0_0.length : Int) - 1))] rfl lm_ ?_;(with_reducible refine (spec_inRange.calls a1 0 (wrap64 ((l0_0.length : Int) - 1)) t2 _ A3.1).mono ?_);rintro e w' ⟨rfl,⟨nd,rfl⟩⟩;refine ⟨_,rfl,?_⟩))
 go_ret
 exact ⟨by first | rfl | (simp [errW_none,errW_some] <;> rfl) | (simp [*,errW_none,errW_some] <;> rfl),hb_⟩
theorem spec_hasClass_ev (t : List Cls) (a : Int) (hl : t.length ≤ 9223372036854775807) : spec_hasClass.f t a = some (hasC t a):=by
 unfold spec_hasClass.f spec_inRange.f hasC
 rw [wrap_pred (by omega) (by omega)]
 by_cases h0 : 0 ≤ a
 ·rw [if_pos h0]
  simp only [Option.bind_some,Option.some.injEq,decide_eq_true h0,Bool.true_and]
  by_cases h1 : a < (t.length : Int)
  ·rw [decide_eq_true h1,decide_eq_true (by omega)]
  ·rw [decide_eq_false h1,decide_eq_false (by omega)]
 ·rw [if_neg h0]
  simp [decide_eq_false h0]
end Go.Proofs.Ytjcodcimodnbjaa.P
namespace Go.Proofs.Ytjcodcimodnbjaa.P
open Go.RowKit Go.Proofs.YtjcodcimodnbjaaW.PrintWords Go.Proofs.YtjcodcimodnbjaaW.PrintLast Go.Proofs.YtjcodcimodnbjaaW.PrintMore
attribute [local go_sem] max2_int min2_int max_two min_two max_three min_three max_four min_four
set_option linter.unusedVariables false
set_option linter.unusedSimpArgs false
def spec_validExit.j0 : Nat → Int → Bool → List (S76) → Int → Int → Int → Option (Bool)
 | 0,_,_,_,_,_,_=>none
 | k + 1,x6,x7,x2000,x3000,x3001,x3002=>if x7 = true then ((spec_inRange.f x3001 0 99).bind fun t3=>(if t3 = true then (some (x3002 == 0)) else (some false))) else (if x6 = 2 then ((spec_hasClass.f x2000 x3001).bind fun t4=>(if t4 = true then (some (x3002 == 0)) else (some false))) else (if x6 = 3 then ((spec_hasClass.f x2000 x3001).bind fun t5=>(if t5 = true then ((spec_inRange.f x3002 0 99).bind fun t6=>(some t6)) else (some false))) else (some false)))
def spec_validExit.f (k : Nat) (l0_0 : List (S76)) (a1_0 : Int) (a1_1 : Int) (a1_2 : Int) : Option (Bool):=if a1_0 = 0 then (spec_validExit.j0 k a1_0 (a1_0 == 0) l0_0 a1_0 a1_1 a1_2) else (spec_validExit.j0 k a1_0 (a1_0 == 1) l0_0 a1_0 a1_1 a1_2)
theorem spec_validExit.mono_l : ∀ k,(∀ y0 y1 y2 y3 y4 y5,LeO (spec_validExit.j0 k y0 y1 y2 y3 y4 y5) (spec_validExit.j0 (k + 1) y0 y1 y2 y3 y4 y5))
 | 0=>fun _ _ _ _ _ _ r h=>by simp [spec_validExit.j0] at h
 | k + 1=>by
  have ih0:=spec_validExit.mono_l k
  ·intro y0 y1 y2 y3 y4 y5
   unfold spec_validExit.j0
   repeat' first
   | (with_reducible exact ih0 _ _ _ _ _ _)
   | (with_reducible exact LeO.refl _)
   | (with_reducible exact LeO.none _)
   | (with_reducible refine LeO.ite ?_ ?_)
   | (with_reducible refine LeO.bind ?_ (fun _=>?_))
   | exact ih0 _ _ _ _ _ _
   | exact LeO.none _
   | refine LeO.ite ?_ ?_
   | refine LeO.bind ?_ (fun _=>?_)
theorem spec_validExit.mono : ∀ a0 a1 a2 a3 k,LeO (spec_validExit.f k a0 a1 a2 a3) (spec_validExit.f (k + 1) a0 a1 a2 a3):=by
 intro a0 a1 a2 a3 k
 have ih0:=spec_validExit.mono_l k
 unfold spec_validExit.f
 repeat' first
   | (with_reducible exact ih0 _ _ _ _ _ _)
   | (with_reducible exact LeO.refl _)
   | (with_reducible exact LeO.none _)
   | (with_reducible refine LeO.ite ?_ ?_)
   | (with_reducible refine LeO.bind ?_ (fun _=>?_))
   | exact ih0 _ _ _ _ _ _
   | exact LeO.none _
   | refine LeO.ite ?_ ?_
   | refine LeO.bind ?_ (fun _=>?_)
set_option maxHeartbeats 8000000 in
set_option maxRecDepth 100000 in
theorem spec_validExit.calls (k : Nat) (A0_0 : Option Addr) (c0_0 : Nat) (l0_0 : List (S76)) (a1_0 : Int) (a1_1 : Int) (a1_2 : Int) (r : Bool) (w : World) (hr0_0 : Kd.C k76 w A0_0 l0_0.length l0_0) (hc0_0 : l0_0.length ≤ c0_0) (h : spec_validExit.f k l0_0 a1_0 a1_1 a1_2 = some r) :
  Calls Try.prog 46 #[.agg #[.slice A0_0 l0_0.length c0_0],.agg #[.int .i64 a1_0,.int .i64 a1_1,.int .i64 a1_2]] w fun e w'=>e = .returned (.bool r) ∧ Below w.heap.size w w':=by
 have hu35:=Try.underlying35
 have hu38:=Try.underlying38
 have HR0_0:=a0_ hr0_0
 have HC0_0:=a0_ hc0_0
 clear hr0_0 hc0_0
 have HB:=a0_ (Below.refl w.heap.size w)
 have H : (if a1_0 = 0 then (spec_validExit.j0 k a1_0 (a1_0 == 0) l0_0 a1_0 a1_1 a1_2) else (spec_validExit.j0 k a1_0 (a1_0 == 1) l0_0 a1_0 a1_1 a1_2)) = some r:=h
 clear h
 have HC3:=a0_ H
 clear H
 go_enter Try.func46,Try.ntmps46
 go_upto_if 7 with (first | ((with_reducible refine gate_dst (N:=2) rfl ?_);refine box_event ?hg (N:=2) ?hd (cs:=#[.slice A0_0 l0_0.length c0_0]) (t:=35) ?hr ?_;(case hd=>rfl);(case hg=>rfl);(case hr=>first | (go_simp;done) | (go_simp;rfl));intro gb1 hg w4 hbox hb;have n0_:=a0_ (below_step hb_ hb);have n1_:=a0_ (hbox);have n2_:=a0_ ((by rw [hg];exact (below_size hb_) : w.heap.size ≤ gb1));have n3_:=a0_ ((by rw [hg];exact (below_size hb_) : w.heap.size ≤ gb1));clear HB;have HB:=n0_;have BK1:=n1_;have GW1:=n2_;have GE1:=n3_;clear n0_ n1_ n2_ n3_;clear hb hbox hg) | ((with_reducible refine gate_dst (N:=3) rfl ?_);refine box_event ?hg (N:=3) ?hd (cs:=#[.int .i64 a1_0,.int .i64 a1_1,.int .i64 a1_2]) (t:=38) ?hr ?_;(case hd=>rfl);(case hg=>rfl);(case hr=>first | (go_simp;done) | (go_simp;rfl));intro gb2 hg w5 hbox hb;have n0_:=a0_ (blk_below (bb_ BK1.1) hb);have n1_:=a0_ (below_step hb_ hb);have n2_:=a0_ (hbox);have n3_:=a0_ ((by rw [hg];exact (below_size hb_) : w.heap.size ≤ gb2));have n4_:=a0_ ((by rw [hg];exact (below_size hb_) : w.heap.size ≤ gb2));have n5_:=a0_ ((by rw [hg];exact Nat.ne_of_lt (blk_lt (bb_ BK1.1)) : gb1 ≠ gb2));have n6_:=a0_ ((by rw [hg];exact Nat.ne_of_gt (blk_lt (bb_ BK1.1)) : gb2 ≠ gb1));clear BK1 HB;have BK1:=n0_;have HB:=n1_;have BK2:=n2_;have GW2:=n3_;have GE2:=n4_;have NB1_2:=n5_;have NB2_1:=n6_;clear n0_ n1_ n2_ n3_ n4_ n5_ n6_;clear hb hbox hg;have hnb6:=NB2_1.1;have hnc6:=NB1_2.1;have hcz7_0 : w5.cell? ⟨gb2,0,none⟩ = some (.int .i64 a1_0):=(blk_cell BK2.1 0).trans rfl;have hcz7_1 : w5.cell? ⟨gb2,1,none⟩ = some (.int .i64 a1_1):=(blk_cell BK2.1 1).trans rfl;have hcz7_2 : w5.cell? ⟨gb2,2,none⟩ = some (.int .i64 a1_2):=(blk_cell BK2.1 2).trans rfl;have hfz7_0:=blk_frozen BK2.1 0;have hfz7_1:=blk_frozen BK2.1 1;have hfz7_2:=blk_frozen BK2.1 2))
 (try simp only [Act.put,s1_,s2_,s3_])
 go_cut [7] (fun v7 wc=>∃ (kq : Nat) (x7_2 : Bool),v7 = .bool x7_2 ∧ Aside0 (spec_validExit.j0 kq a1_0 x7_2 l0_0 a1_0 a1_1 a1_2 = some r) ∧ Aside0 (kq ≤ k) ∧ Aside0 (wc.heap[gb1]? = some (.cells #[(.slice A0_0 l0_0.length c0_0)] 35 (0,0))) ∧ Aside0 (wc.heap[gb2]? = some (.cells #[.int .i64 a1_0,.int .i64 a1_1,.int .i64 a1_2] 38 (0,0))) ∧ Aside0 (Below w.heap.size w wc))
 case first =>
  have H:=HC3.1
  clear HC3
  by_cases c8 : a1_0 = 0
  ·rw [if_pos c8] at H
   have c8b0 : (a1_0 == 0) = true:=beq_iff_eq.mpr c8
   have c8b1 : (a1_0 != 0) = false:=bne_eq_false_iff_eq.mpr c8
   clear c8
   (first | rw [c8b0] | (simp only [i64_w,i32_w];rw [c8b0]) | skip)
   have H':=a0_ H
   clear H
   go_wp2
   go_meet
   case rel=>exact ⟨_,((a1_0 == 0)),(by first | rfl | (simp;done) | (simp [*];done)),H',⟨by first | omega | exact Nat.le_refl _⟩,⟨by (with_reducible repeat (first | refine blk_drewN ?_ _ | refine blk_drew ?_ | refine blk_alloc ?_ _));exact BK1.1⟩,⟨by (with_reducible repeat (first | refine blk_drewN ?_ _ | refine blk_drew ?_ | refine blk_alloc ?_ _));exact BK2.1⟩,⟨hb_⟩⟩
  ·rw [if_neg c8] at H
   have c8b0 : (a1_0 == 0) = false:=beq_eq_false_iff_ne.mpr c8
   have c8b1 : (a1_0 != 0) = true:=bne_iff_ne.mpr c8
   (first | rw [c8b0] | (simp only [i64_w,i32_w];rw [c8b0]) | skip)
   have H':=a0_ H
   clear H
   go_wp2
   go_meet
   case rel=>exact ⟨_,((a1_0 == 1)),(by first | rfl | (simp;done) | (simp [*];done)),H',⟨by first | omega | exact Nat.le_refl _⟩,⟨by (with_reducible repeat (first | refine blk_drewN ?_ _ | refine blk_drew ?_ | refine blk_alloc ?_ _));exact BK1.1⟩,⟨by (with_reducible repeat (first | refine blk_drewN ?_ _ | refine blk_drew ?_ | refine blk_alloc ?_ _));exact BK2.1⟩,⟨hb_⟩⟩
 case rest =>
  clear HC3
  try clear p2
  try clear c4
  try clear c6
  try clear c8
  try clear c8b0
  try clear c8b1
  try clear hcz7_0
  try clear hcz7_1
  try clear hcz7_2
  try clear hfz7_0
  try clear hfz7_1
  try clear hfz7_2
  obtain ⟨kq,x7_2,rfl,HA,HJ2,BK1,BK2,HB⟩:=hcut
  cases kq with
  | zero=>exact absurd HA.out (by simp [spec_validExit.j0])
  | succ kj2 =>
   have H:=HA.out
   clear HA
   simp only [spec_validExit.j0] at H
   by_cases c9 : x7_2 = true
   ·subst c9
    have H1 : ((spec_inRange.f a1_1 0 99).bind fun t3=>(if t3 = true then (some (a1_2 == 0)) else (some false))) = some r:=by rw [if_pos rfl] at H;exact H
    clear H
    have H:=H1
    clear H1
    replace H:=Option.bind_eq_some_iff.mp H
    obtain ⟨t3,A100,H⟩:=H
    replace H : (if t3 = true then (some (a1_2 == 0)) else (some false)) = some r:=H
    have A10:=a0_ A100
    clear A100
    by_cases c11 : t3 = true
    ·subst c11
     have H1 : (some (a1_2 == 0)) = some r:=by rw [if_pos rfl] at H;exact H
     clear H
     have H:=H1
     clear H1
     obtain rfl:=Option.some.inj H
     have hnb12:=NB2_1.1
     have hnc12:=NB1_2.1
     have hcz13_0 : wc.cell? ⟨gb2,0,none⟩ = some (.int .i64 a1_0):=(blk_cell BK2.1 0).trans rfl
     have hcz13_1 : wc.cell? ⟨gb2,1,none⟩ = some (.int .i64 a1_1):=(blk_cell BK2.1 1).trans rfl
     have hcz13_2 : wc.cell? ⟨gb2,2,none⟩ = some (.int .i64 a1_2):=(blk_cell BK2.1 2).trans rfl
     have hfz13_0:=blk_frozen BK2.1 0
     have hfz13_1:=blk_frozen BK2.1 1
     have hfz13_2:=blk_frozen BK2.1 2
     go_wp2_with (first | ((with_reducible refine gate_callee (f:=60) rfl ?_);refine goesL_ (some 12) rfl rfl Try.func60 (by kernel_rfl) rfl #[.int .i64 a1_1,.int .i64 0,.int .i64 99] rfl lm_ ?_;(with_reducible refine (spec_inRange.calls a1_1 0 99 true _ A10.1).mono ?_);rintro e w' ⟨rfl,⟨nd,rfl⟩⟩;refine ⟨_,rfl,?_⟩))
     go_ret
     exact ⟨by first | rfl | (simp [errW_none,errW_some] <;> rfl) | (simp [*,errW_none,errW_some] <;> rfl),hb_⟩
    ·replace c11:=Bool.eq_false_iff.mpr c11
     subst c11
     have H1 : (some false) = some r:=by rw [if_neg (show ¬ (false = true) by decide)] at H;exact H
     clear H
     have H:=H1
     clear H1
     obtain rfl:=Option.some.inj H
     have hnb14:=NB2_1.1
     have hnc14:=NB1_2.1
     have hcz15_0 : wc.cell? ⟨gb2,0,none⟩ = some (.int .i64 a1_0):=(blk_cell BK2.1 0).trans rfl
     have hcz15_1 : wc.cell? ⟨gb2,1,none⟩ = some (.int .i64 a1_1):=(blk_cell BK2.1 1).trans rfl
     have hcz15_2 : wc.cell? ⟨gb2,2,none⟩ = some (.int .i64 a1_2):=(blk_cell BK2.1 2).trans rfl
     have hfz15_0:=blk_frozen BK2.1 0
     have hfz15_1:=blk_frozen BK2.1 1
     have hfz15_2:=blk_frozen BK2.1 2
     go_wp2_with (first | ((with_reducible refine gate_callee (f:=60) rfl ?_);refine goesL_ (some 12) rfl rfl Try.func60 (by kernel_rfl) rfl #[.int .i64 a1_1,.int .i64 0,.int .i64 99] rfl lm_ ?_;(with_reducible refine (spec_inRange.calls a1_1 0 99 false _ A10.1).mono ?_);rintro e w' ⟨rfl,⟨nd,rfl⟩⟩;refine ⟨_,rfl,?_⟩))
     go_ret
     exact ⟨by first | rfl | (simp [errW_none,errW_some] <;> rfl) | (simp [*,errW_none,errW_some] <;> rfl),hb_⟩
   ·replace c9:=Bool.eq_false_iff.mpr c9
    subst c9
    have H1 : (if a1_0 = 2 then ((spec_hasClass.f l0_0 a1_1).bind fun t4=>(if t4 = true then (some (a1_2 == 0)) else (some false))) else (if a1_0 = 3 then ((spec_hasClass.f l0_0 a1_1).bind fun t5=>(if t5 = true then ((spec_inRange.f a1_2 0 99).bind fun t6=>(some t6)) else (some false))) else (some false))) = some r:=by rw [if_neg (show ¬ (false = true) by decide)] at H;exact H
    clear H
    have H:=H1
    clear H1
    by_cases c16 : a1_0 = 2
    ·rw [if_pos c16] at H
     have c16b0 : (a1_0 == 2) = true:=beq_iff_eq.mpr c16
     have c16b1 : (a1_0 != 2) = false:=bne_eq_false_iff_eq.mpr c16
     clear c16
     replace H:=Option.bind_eq_some_iff.mp H
     obtain ⟨t4,A170,H⟩:=H
     replace H : (if t4 = true then (some (a1_2 == 0)) else (some false)) = some r:=H
     have A17:=a0_ A170
     clear A170
     by_cases c18 : t4 = true
     ·subst c18
      have H1 : (some (a1_2 == 0)) = some r:=by rw [if_pos rfl] at H;exact H
      clear H
      have H:=H1
      clear H1
      obtain rfl:=Option.some.inj H
      have hnb19:=NB1_2.1
      have hnc19:=NB2_1.1
      have hcz20_0 : wc.cell? ⟨gb1,0,none⟩ = some (.slice A0_0 l0_0.length c0_0):=(blk_cell BK1.1 0).trans rfl
      have hfz20_0:=blk_frozen BK1.1 0
      have hcz21_0 : wc.cell? ⟨gb2,0,none⟩ = some (.int .i64 a1_0):=(blk_cell BK2.1 0).trans rfl
      have hcz21_1 : wc.cell? ⟨gb2,1,none⟩ = some (.int .i64 a1_1):=(blk_cell BK2.1 1).trans rfl
      have hcz21_2 : wc.cell? ⟨gb2,2,none⟩ = some (.int .i64 a1_2):=(blk_cell BK2.1 2).trans rfl
      have hfz21_0:=blk_frozen BK2.1 0
      have hfz21_1:=blk_frozen BK2.1 1
      have hfz21_2:=blk_frozen BK2.1 2
      go_wp2_with (first | ((with_reducible refine gate_callee (f:=61) rfl ?_);refine goesL_ (some 23) rfl rfl Try.func61 (by kernel_rfl) rfl #[.agg #[.slice A0_0 l0_0.length c0_0],.int .i64 a1_1] rfl lm_ ?_;(with_reducible refine (spec_hasClass.calls _ _ l0_0 a1_1 true _ ?side1 ?side2 A17.1).mono ?_);(case side1=>exact cc_ (Kd.C_below HR0_0.1 HB.1));(case side2=>exact HC0_0.1);rintro e w22 ⟨rfl,hb⟩;refine ⟨_,rfl,?_⟩;have n0_:=a0_ (blk_below (bb_ BK1.1) hb);have n1_:=a0_ (blk_below (bb_ BK2.1) hb);have n2_:=a0_ (below_step hb_ hb);clear BK1 BK2 HB;have BK1:=n0_;have BK2:=n1_;have HB:=n2_;clear n0_ n1_ n2_;(try clear hb);(try clear hb2);(try clear hk);(try clear hi);have hcz23_0 : w22.cell? ⟨gb2,0,none⟩ = some (.int .i64 a1_0):=(blk_cell BK2.1 0).trans rfl;have hcz23_1 : w22.cell? ⟨gb2,1,none⟩ = some (.int .i64 a1_1):=(blk_cell BK2.1 1).trans rfl;have hcz23_2 : w22.cell? ⟨gb2,2,none⟩ = some (.int .i64 a1_2):=(blk_cell BK2.1 2).trans rfl;have hfz23_0:=blk_frozen BK2.1 0;have hfz23_1:=blk_frozen BK2.1 1;have hfz23_2:=blk_frozen BK2.1 2))
      go_ret
      exact ⟨by first | rfl | (simp [errW_none,errW_some] <;> rfl) | (simp [*,errW_none,errW_some] <;> rfl),hb_⟩
     ·replace c18:=Bool.eq_false_iff.mpr c18
      subst c18
      have H1 : (some false) = some r:=by rw [if_neg (show ¬ (false = true) by decide)] at H;exact H
      clear H
      have H:=H1
      clear H1
      obtain rfl:=Option.some.inj H
      have hnb24:=NB1_2.1
      have hnc24:=NB2_1.1
      have hcz25_0 : wc.cell? ⟨gb1,0,none⟩ = some (.slice A0_0 l0_0.length c0_0):=(blk_cell BK1.1 0).trans rfl
      have hfz25_0:=blk_frozen BK1.1 0
      have hcz26_0 : wc.cell? ⟨gb2,0,none⟩ = some (.int .i64 a1_0):=(blk_cell BK2.1 0).trans rfl
      have hcz26_1 : wc.cell? ⟨gb2,1,none⟩ = some (.int .i64 a1_1):=(blk_cell BK2.1 1).trans rfl
      have hcz26_2 : wc.cell? ⟨gb2,2,none⟩ = some (.int .i64 a1_2):=(blk_cell BK2.1 2).trans rfl
      have hfz26_0:=blk_frozen BK2.1 0
      have hfz26_1:=blk_frozen BK2.1 1
      have hfz26_2:=blk_frozen BK2.1 2
      go_wp2_with (first | ((with_reducible refine gate_callee (f:=61) rfl ?_);refine goesL_ (some 23) rfl rfl Try.func61 (by kernel_rfl) rfl #[.agg #[.slice A0_0 l0_0.length c0_0],.int .i64 a1_1] rfl lm_ ?_;(with_reducible refine (spec_hasClass.calls _ _ l0_0 a1_1 false _ ?side1 ?side2 A17.1).mono ?_);(case side1=>exact cc_ (Kd.C_below HR0_0.1 HB.1));(case side2=>exact HC0_0.1);rintro e w27 ⟨rfl,hb⟩;refine ⟨_,rfl,?_⟩;have n0_:=a0_ (blk_below (bb_ BK1.1) hb);have n1_:=a0_ (blk_below (bb_ BK2.1) hb);have n2_:=a0_ (below_step hb_ hb);clear BK1 BK2 HB;have BK1:=n0_;have BK2:=n1_;have HB:=n2_;clear n0_ n1_ n2_;(try clear hb);(try clear hb2);(try clear hk);(try clear hi)))
      go_ret
      exact ⟨by first | rfl | (simp [errW_none,errW_some] <;> rfl) | (simp [*,errW_none,errW_some] <;> rfl),hb_⟩
    ·rw [if_neg c16] at H
     have c16b0 : (a1_0 == 2) = false:=beq_eq_false_iff_ne.mpr c16
     have c16b1 : (a1_0 != 2) = true:=bne_iff_ne.mpr c16
     by_cases c28 : a1_0 = 3
     ·rw [if_pos c28] at H
      have c28b0 : (a1_0 == 3) = true:=beq_iff_eq.mpr c28
      have c28b1 : (a1_0 != 3) = false:=bne_eq_false_iff_eq.mpr c28
      clear c28
      replace H:=Option.bind_eq_some_iff.mp H
      obtain ⟨t5,A290,H⟩:=H
      replace H : (if t5 = true then ((spec_inRange.f a1_2 0 99).bind fun t6=>(some t6)) else (some false)) = some r:=H
      have A29:=a0_ A290
      clear A290
      by_cases c30 : t5 = true
      ·subst c30
       have H1 : ((spec_inRange.f a1_2 0 99).bind fun t6=>(some t6)) = some r:=by rw [if_pos rfl] at H;exact H
       clear H
       have H:=H1
       clear H1
       replace H:=Option.bind_eq_some_iff.mp H
       obtain ⟨t6,A310,H⟩:=H
       replace H : (some t6) = some r:=H
       have A31:=a0_ A310
       clear A310
       obtain rfl:=Option.some.inj H
       have hnb32:=NB1_2.1
       have hnc32:=NB2_1.1
       have hcz33_0 : wc.cell? ⟨gb1,0,none⟩ = some (.slice A0_0 l0_0.length c0_0):=(blk_cell BK1.1 0).trans rfl
       have hfz33_0:=blk_frozen BK1.1 0
       have hcz34_0 : wc.cell? ⟨gb2,0,none⟩ = some (.int .i64 a1_0):=(blk_cell BK2.1 0).trans rfl
       have hcz34_1 : wc.cell? ⟨gb2,1,none⟩ = some (.int .i64 a1_1):=(blk_cell BK2.1 1).trans rfl
       have hcz34_2 : wc.cell? ⟨gb2,2,none⟩ = some (.int .i64 a1_2):=(blk_cell BK2.1 2).trans rfl
       have hfz34_0:=blk_frozen BK2.1 0
       have hfz34_1:=blk_frozen BK2.1 1
       have hfz34_2:=blk_frozen BK2.1 2
       go_wp2_with (first | ((with_reducible refine gate_callee (f:=61) rfl ?_);refine goesL_ (some 34) rfl rfl Try.func61 (by kernel_rfl) rfl #[.agg #[.slice A0_0 l0_0.length c0_0],.int .i64 a1_1] rfl lm_ ?_;(with_reducible refine (spec_hasClass.calls _ _ l0_0 a1_1 true _ ?side1 ?side2 A29.1).mono ?_);(case side1=>exact cc_ (Kd.C_below HR0_0.1 HB.1));(case side2=>exact HC0_0.1);rintro e w35 ⟨rfl,hb⟩;refine ⟨_,rfl,?_⟩;have n0_:=a0_ (blk_below (bb_ BK1.1) hb);have n1_:=a0_ (blk_below (bb_ BK2.1) hb);have n2_:=a0_ (below_step hb_ hb);clear BK1 BK2 HB;have BK1:=n0_;have BK2:=n1_;have HB:=n2_;clear n0_ n1_ n2_;(try clear hb);(try clear hb2);(try clear hk);(try clear hi);have hcz36_0 : w35.cell? ⟨gb2,0,none⟩ = some (.int .i64 a1_0):=(blk_cell BK2.1 0).trans rfl;have hcz36_1 : w35.cell? ⟨gb2,1,none⟩ = some (.int .i64 a1_1):=(blk_cell BK2.1 1).trans rfl;have hcz36_2 : w35.cell? ⟨gb2,2,none⟩ = some (.int .i64 a1_2):=(blk_cell BK2.1 2).trans rfl;have hfz36_0:=blk_frozen BK2.1 0;have hfz36_1:=blk_frozen BK2.1 1;have hfz36_2:=blk_frozen BK2.1 2) | (go_at_call 60;(with_reducible refine (spec_inRange.calls a1_2 0 99 t6 _ A31.1).mono ?_);rintro e w' ⟨rfl,⟨nd,rfl⟩⟩))
       go_ret
       exact ⟨by first | rfl | (simp [errW_none,errW_some] <;> rfl) | (simp [*,errW_none,errW_some] <;> rfl),hb_⟩
      ·replace c30:=Bool.eq_false_iff.mpr c30
       subst c30
       have H1 : (some false) = some r:=by rw [if_neg (show ¬ (false = true) by decide)] at H;exact H
       clear H
       have H:=H1
       clear H1
       obtain rfl:=Option.some.inj H
       have hnb37:=NB1_2.1
       have hnc37:=NB2_1.1
       have hcz38_0 : wc.cell? ⟨gb1,0,none⟩ = some (.slice A0_0 l0_0.length c0_0):=(blk_cell BK1.1 0).trans rfl
       have hfz38_0:=blk_frozen BK1.1 0
       have hcz39_0 : wc.cell? ⟨gb2,0,none⟩ = some (.int .i64 a1_0):=(blk_cell BK2.1 0).trans rfl
       have hcz39_1 : wc.cell? ⟨gb2,1,none⟩ = some (.int .i64 a1_1):=(blk_cell BK2.1 1).trans rfl
       have hcz39_2 : wc.cell? ⟨gb2,2,none⟩ = some (.int .i64 a1_2):=(blk_cell BK2.1 2).trans rfl
       have hfz39_0:=blk_frozen BK2.1 0
       have hfz39_1:=blk_frozen BK2.1 1
       have hfz39_2:=blk_frozen BK2.1 2
       go_wp2_with (first | ((with_reducible refine gate_callee (f:=61) rfl ?_);refine goesL_ (some 34) rfl rfl Try.func61 (by kernel_rfl) rfl #[.agg #[.slice A0_0 l0_0.length c0_0],.int .i64 a1_1] rfl lm_ ?_;(with_reducible refine (spec_hasClass.calls _ _ l0_0 a1_1 false _ ?side1 ?side2 A29.1).mono ?_);(case side1=>exact cc_ (Kd.C_below HR0_0.1 HB.1));(case side2=>exact HC0_0.1);rintro e w40 ⟨rfl,hb⟩;refine ⟨_,rfl,?_⟩;have n0_:=a0_ (blk_below (bb_ BK1.1) hb);have n1_:=a0_ (blk_below (bb_ BK2.1) hb);have n2_:=a0_ (below_step hb_ hb);clear BK1 BK2 HB;have BK1:=n0_;have BK2:=n1_;have HB:=n2_;clear n0_ n1_ n2_;(try clear hb);(try clear hb2);(try clear hk);(try clear hi)))
       go_ret
       exact ⟨by first | rfl | (simp [errW_none,errW_some] <;> rfl) | (simp [*,errW_none,errW_some] <;> rfl),hb_⟩
     ·rw [if_neg c28] at H
      have c28b0 : (a1_0 == 3) = false:=beq_eq_false_iff_ne.mpr c28
      have c28b1 : (a1_0 != 3) = true:=bne_iff_ne.mpr c28
      obtain rfl:=Option.some.inj H
      go_wp2
      go_ret
      exact ⟨by first | rfl | (simp [errW_none,errW_some] <;> rfl) | (simp [*,errW_none,errW_some] <;> rfl),hb_⟩
theorem spec_validExit_ev (t : List Cls) (x : Ext) (ht : t.length ≤ 9223372036854775807) : Ev (fun k=>spec_validExit.f k t x.f0 x.f1 x.f2) (okX t x):=by
 obtain ⟨a,b,c⟩:=x
 have key : ∀ q : Bool,(q = true ↔ (a = 0 ∨ a = 1)) → Ev (fun k=>spec_validExit.j0 k a q t a b c) (okX t ⟨a,b,c⟩):=by
  intro q hq
  refine Ev.succ ?_
  simp only [spec_validExit.j0]
  unfold okX
  simp only
  cases q with
  | true =>
   rw [if_pos (hq.1 rfl)]
   refine Ev.pos rfl (Ev.bind (Ev.const (spec_inRange_ev b 0 99)) ?_)
   cases (decide (0 ≤ b) && decide (b ≤ 99)) with
   | true=>exact Ev.pos rfl (Ev.const rfl)
   | false=>exact Ev.neg (by simp) (Ev.const rfl)
  | false =>
   have hn : ¬ (a = 0 ∨ a = 1):=fun h=>by have:=hq.2 h;cases this
   rw [if_neg hn]
   refine Ev.neg (by simp) ?_
   by_cases h2 : a = 2
   ·refine Ev.pos h2 ?_
    rw [if_pos h2]
    refine Ev.bind (Ev.const (spec_hasClass_ev t b ht)) ?_
    cases hasC t b with
    | true=>exact Ev.pos rfl (Ev.const rfl)
    | false=>exact Ev.neg (by simp) (Ev.const rfl)
   ·refine Ev.neg h2 ?_
    rw [if_neg h2]
    by_cases h3 : a = 3
    ·refine Ev.pos h3 ?_
     rw [if_pos h3]
     refine Ev.bind (Ev.const (spec_hasClass_ev t b ht)) ?_
     cases hasC t b with
     | true=>exact Ev.pos rfl (Ev.bind (Ev.const (spec_inRange_ev c 0 99)) (Ev.const rfl))
     | false=>exact Ev.neg (by simp) (Ev.const rfl)
    ·refine Ev.neg h3 ?_
     rw [if_neg h3]
     exact Ev.const rfl
 unfold spec_validExit.f
 by_cases h0 : a = 0
 ·exact Ev.pos h0 (key (a == 0) (by simp [h0]))
 ·exact Ev.neg h0 (key (a == 1) (by simp [h0]))
end Go.Proofs.Ytjcodcimodnbjaa.P
namespace Go.Proofs.Ytjcodcimodnbjaa.P
open Go.RowKit Go.Proofs.YtjcodcimodnbjaaW.PrintWords Go.Proofs.YtjcodcimodnbjaaW.PrintLast Go.Proofs.YtjcodcimodnbjaaW.PrintMore
attribute [local go_sem] max2_int min2_int max_two min_two max_three min_three max_four min_four
set_option linter.unusedVariables false
set_option linter.unusedSimpArgs false
def spec_validName.l0 : Nat → ByteArray → Int → Option (Bool)
 | 0,_,_=>none
 | k + 1,x0,x3=>if x3 < (x0.size : Int) then (if 0 ≤ x3 then (if (bt x0 x3) < 97 then (some false) else (if (bt x0 x3) > 122 then (some false) else (spec_validName.l0 k x0 (wrap64 (x3 + 1))))) else (none)) else ((spec_inRange.f (x0.size : Int) 1 6).bind fun t1=>(some t1))
def spec_validName.f (k : Nat) (a0 : ByteArray) : Option (Bool):=spec_validName.l0 k a0 0
theorem spec_validName.mono_l : ∀ k,(∀ y0 y1,LeO (spec_validName.l0 k y0 y1) (spec_validName.l0 (k + 1) y0 y1))
 | 0=>fun _ _ r h=>by simp [spec_validName.l0] at h
 | k + 1=>by
  have ih0:=spec_validName.mono_l k
  ·intro y0 y1
   unfold spec_validName.l0
   repeat' first
   | (with_reducible exact ih0 _ _)
   | (with_reducible exact LeO.refl _)
   | (with_reducible exact LeO.none _)
   | (with_reducible refine LeO.ite ?_ ?_)
   | (with_reducible refine LeO.bind ?_ (fun _=>?_))
   | exact ih0 _ _
   | exact LeO.none _
   | refine LeO.ite ?_ ?_
   | refine LeO.bind ?_ (fun _=>?_)
theorem spec_validName.mono : ∀ a0 k,LeO (spec_validName.f k a0) (spec_validName.f (k + 1) a0):=by
 intro a0 k
 have ih0:=spec_validName.mono_l k
 unfold spec_validName.f
 repeat' first
   | (with_reducible exact ih0 _ _)
   | (with_reducible exact LeO.refl _)
   | (with_reducible exact LeO.none _)
   | (with_reducible refine LeO.ite ?_ ?_)
   | (with_reducible refine LeO.bind ?_ (fun _=>?_))
   | exact ih0 _ _
   | exact LeO.none _
   | refine LeO.ite ?_ ?_
   | refine LeO.bind ?_ (fun _=>?_)
set_option maxHeartbeats 8000000 in
set_option maxRecDepth 100000 in
theorem spec_validName.calls (k : Nat) (a0 : ByteArray) (r : Bool) (w : World) (h : spec_validName.f k a0 = some r) :
  Calls Try.prog 62 #[.string a0] w fun e w'=>e = .returned (.bool r) ∧ Drawn0 w w':=by
 have H : (spec_validName.l0 k a0 0) = some r:=h
 clear h
 have H':=a0_ H
 clear H
 go_enter Try.func62,Try.ntmps62
 go_wp2
 go_loopg [3] k (fun kq v3 w'=>∃ (x3_1 : Int),v3 = .int .i64 x3_1 ∧ Aside0 (spec_validName.l0 kq a0 x3_1 = some r) ∧ Aside0 (kq ≤ k) ∧ Drawn0 w w')
 case atStart=>exact ⟨(0),(by first | rfl | (simp;done) | (simp [*];done)),H',⟨Nat.le_refl _⟩,by repeat (first | exact Drawn0.refl _ | apply Drawn0.step)⟩
 case round =>
  clear H'
  obtain ⟨x3_1,rfl,HA,HK1,⟨m1,rfl⟩⟩:=hrel
  cases gk with
  | zero=>exact absurd HA.out (by simp [spec_validName.l0])
  | succ k1 =>
   have H:=HA.out
   clear HA
   simp only [spec_validName.l0] at H
   by_cases c2 : x3_1 < (a0.size : Int)
   ·rw [if_pos c2] at H
    have c2b0 : decide (x3_1 < (a0.size : Int)) = true:=decide_eq_true c2
    clear c2
    by_cases c3 : 0 ≤ x3_1
    ·rw [if_pos c3] at H
     have c3b0 : decide (0 ≤ x3_1) = true:=decide_eq_true c3
     clear c3
     by_cases c5 : (bt a0 x3_1) < 97
     ·rw [if_pos c5] at H
      have c5b0 : decide ((bt a0 x3_1) < 97) = true:=decide_eq_true c5
      clear c5
      obtain rfl:=Option.some.inj H
      have p4 : 0 ≤ (x3_1 : Int):=of_decide_eq_true (by first | (with_reducible assumption) | assumption)
      have q4 : x3_1 < (a0.size : Int):=of_decide_eq_true (by first | (with_reducible assumption) | assumption)
      have hx4:=bt_at a0 x3_1
      replace p4:=eq_true p4
      replace q4:=eq_true q4
      go_wp2
      go_ret
      exact ⟨by first | rfl | (simp;done) | (simp [*];done),by repeat (first | exact Drawn0.refl _ | apply Drawn0.step)⟩
     ·rw [if_neg c5] at H
      have c5b0 : decide ((bt a0 x3_1) < 97) = false:=decide_eq_false c5
      clear c5
      by_cases c7 : (bt a0 x3_1) > 122
      ·rw [if_pos c7] at H
       have c7b0 : decide (122 < (bt a0 x3_1)) = true:=decide_eq_true c7
       clear c7
       obtain rfl:=Option.some.inj H
       have p4 : 0 ≤ (x3_1 : Int):=of_decide_eq_true (by first | (with_reducible assumption) | assumption)
       have q4 : x3_1 < (a0.size : Int):=of_decide_eq_true (by first | (with_reducible assumption) | assumption)
       have hx4:=bt_at a0 x3_1
       replace p4:=eq_true p4
       replace q4:=eq_true q4
       have p6 : 0 ≤ (x3_1 : Int):=of_decide_eq_true (by first | (with_reducible assumption) | assumption)
       have q6 : x3_1 < (a0.size : Int):=of_decide_eq_true (by first | (with_reducible assumption) | assumption)
       have hx6:=bt_at a0 x3_1
       replace p6:=eq_true p6
       replace q6:=eq_true q6
       go_wp2
       go_ret
       exact ⟨by first | rfl | (simp;done) | (simp [*];done),by repeat (first | exact Drawn0.refl _ | apply Drawn0.step)⟩
      ·rw [if_neg c7] at H
       have c7b0 : decide (122 < (bt a0 x3_1)) = false:=decide_eq_false c7
       clear c7
       have H':=a0_ H
       clear H
       have p4 : 0 ≤ (x3_1 : Int):=of_decide_eq_true (by first | (with_reducible assumption) | assumption)
       have q4 : x3_1 < (a0.size : Int):=of_decide_eq_true (by first | (with_reducible assumption) | assumption)
       have hx4:=bt_at a0 x3_1
       replace p4:=eq_true p4
       replace q4:=eq_true q4
       have p6 : 0 ≤ (x3_1 : Int):=of_decide_eq_true (by first | (with_reducible assumption) | assumption)
       have q6 : x3_1 < (a0.size : Int):=of_decide_eq_true (by first | (with_reducible assumption) | assumption)
       have hx6:=bt_at a0 x3_1
       replace p6:=eq_true p6
       replace q6:=eq_true q6
       go_wp2
       go_roundg k1
       case measure=>have:=HK1.1;omega
       case rel=>exact ⟨(wrap64 (x3_1 + 1)),(by first | rfl | (simp;done) | (simp [*];done)),H',⟨by have:=HK1.1;omega⟩,by repeat (first | exact Drawn0.refl _ | apply Drawn0.step)⟩
    ·rw [if_neg c3] at H
     exact absurd H (by simp)
   ·rw [if_neg c2] at H
    have c2b0 : decide (x3_1 < (a0.size : Int)) = false:=decide_eq_false c2
    clear c2
    replace H:=Option.bind_eq_some_iff.mp H
    obtain ⟨t1,A80,H⟩:=H
    replace H : (some t1) = some r:=H
    have A8:=a0_ A80
    clear A80
    obtain rfl:=Option.some.inj H
    go_wp2_with (first | ((with_reducible refine gate_callee (f:=60) rfl ?_);refine goesL_ (some 22) rfl rfl Try.func60 (by kernel_rfl) rfl #[.int .i64 (a0.size : Int),.int .i64 1,.int .i64 6] rfl lm_ ?_;(with_reducible refine (spec_inRange.calls (a0.size : Int) 1 6 t1 _ A8.1).mono ?_);rintro e w' ⟨rfl,⟨nd,rfl⟩⟩;refine ⟨_,rfl,?_⟩))
    go_ret
    exact ⟨by first | rfl | (simp;done) | (simp [*];done),by repeat (first | exact Drawn0.refl _ | apply Drawn0.step)⟩
theorem spec_validName_l0 (s : ByteArray) (hs : s.size ≤ 9223372036854775807) (d : Nat) : ∀ (k : Nat) (i : Nat),i ≤ s.size → s.size - i = d → d < k → spec_validName.l0 k s (i : Int) = some ((s.data.toList.drop i).all (fun c=>decide (97 ≤ c.toNat) && decide (c.toNat ≤ 122)) && (decide (1 ≤ s.size) && decide (s.size ≤ 6))):=by
 induction d with
 | zero =>
  intro k i hi hd hk
  obtain ⟨k,rfl⟩ : ∃ m,k = m + 1:=⟨k - 1,by omega⟩
  simp only [spec_validName.l0]
  rw [if_neg (by omega)]
  have : s.data.toList.drop i = []:=by
   apply List.drop_eq_nil_of_le
   have : s.data.toList.length = s.size:=toL_len s
   omega
  rw [this]
  simp only [spec_inRange.f,List.all_nil,Bool.true_and]
  by_cases h1 : 1 ≤ s.size
  ·rw [if_pos (show (s.size : Int) ≥ 1 by omega)]
   by_cases h2 : s.size ≤ 6
   ·simp [h1,h2];omega
   ·simp [h2];omega
  ·rw [if_neg (show ¬ (1 : Int) ≤ s.size by omega)];simp [h1]
 | succ d ih =>
  intro k i hi hd hk
  obtain ⟨k,rfl⟩ : ∃ m,k = m + 1:=⟨k - 1,by omega⟩
  have hlt : i < s.size:=by omega
  have hl : s.data.toList.length = s.size:=toL_len s
  simp only [spec_validName.l0]
  rw [if_pos (show (i : Int) < (s.size : Int) by omega),if_pos (show (0 : Int) ≤ (i : Int) by omega),bt_getElem s i hlt]
  have hd2 : s.data.toList.drop i = s[i] :: s.data.toList.drop (i + 1):=by
   rw [List.drop_eq_getElem_cons (by omega)]
   congr 1
  rw [hd2,List.all_cons]
  by_cases h1 : (s[i].toNat : Int) < 97
  ·rw [if_pos h1];have : ¬ 97 ≤ s[i].toNat:=by omega
   simp [this]
  ·rw [if_neg h1]
   by_cases h2 : (s[i].toNat : Int) > 122
   ·rw [if_pos h2];have : ¬ s[i].toNat ≤ 122:=by omega
    simp [this]
   ·rw [if_neg h2,wrap_succ (n:=s.size) (by omega) (by omega) (by omega)]
    have:=ih k (i + 1) (by omega) (by omega) (by omega)
    rw [show ((i : Int) + 1) = ((i + 1 : Nat) : Int) by omega,this]
    have a : 97 ≤ s[i].toNat:=by omega
    have b : s[i].toNat ≤ 122:=by omega
    simp [a,b]
theorem spec_validName_ev (s : ByteArray) (hs : s.size ≤ 9223372036854775807) : spec_validName.f (s.size + 1) s = some (okName s):=by
 unfold spec_validName.f okName
 have:=spec_validName_l0 s hs s.size (s.size + 1) 0 (by omega) (by omega) (by omega)
 simpa using this
end Go.Proofs.Ytjcodcimodnbjaa.P
namespace Go.Proofs.Ytjcodcimodnbjaa.P
open Go.RowKit Go.Proofs.YtjcodcimodnbjaaW.PrintWords Go.Proofs.YtjcodcimodnbjaaW.PrintLast Go.Proofs.YtjcodcimodnbjaaW.PrintMore
attribute [local go_sem] max2_int min2_int max_two min_two max_three min_three max_four min_four
set_option linter.unusedVariables false
set_option linter.unusedSimpArgs false
def spec_classNamed.l0 : Nat → List (S76) → ByteArray → Int → Option (Int)
 | 0,_,_,_=>none
 | k + 1,x0,x1,x5=>if x5 < (x0.length : Int) then (if 0 ≤ x5 then (if ((rd_T76 x0 x5).f0).toList = x1.toList then (some x5) else (spec_classNamed.l0 k x0 x1 (wrap64 (x5 + 1)))) else (none)) else (some (-1))
def spec_classNamed.f (k : Nat) (l0 : List (S76)) (a1 : ByteArray) : Option (Int):=spec_classNamed.l0 k l0 a1 0
theorem spec_classNamed.mono_l : ∀ k,(∀ y0 y1 y2,LeO (spec_classNamed.l0 k y0 y1 y2) (spec_classNamed.l0 (k + 1) y0 y1 y2))
 | 0=>fun _ _ _ r h=>by simp [spec_classNamed.l0] at h
 | k + 1=>by
  have ih0:=spec_classNamed.mono_l k
  ·intro y0 y1 y2
   unfold spec_classNamed.l0
   repeat' first
   | (with_reducible exact ih0 _ _ _)
   | (with_reducible exact LeO.refl _)
   | (with_reducible exact LeO.none _)
   | (with_reducible refine LeO.ite ?_ ?_)
   | (with_reducible refine LeO.bind ?_ (fun _=>?_))
   | exact ih0 _ _ _
   | exact LeO.none _
   | refine LeO.ite ?_ ?_
   | refine LeO.bind ?_ (fun _=>?_)
theorem spec_classNamed.mono : ∀ a0 a1 k,LeO (spec_classNamed.f k a0 a1) (spec_classNamed.f (k + 1) a0 a1):=by
 intro a0 a1 k
 have ih0:=spec_classNamed.mono_l k
 unfold spec_classNamed.f
 repeat' first
   | (with_reducible exact ih0 _ _ _)
   | (with_reducible exact LeO.refl _)
   | (with_reducible exact LeO.none _)
   | (with_reducible refine LeO.ite ?_ ?_)
   | (with_reducible refine LeO.bind ?_ (fun _=>?_))
   | exact ih0 _ _ _
   | exact LeO.none _
   | refine LeO.ite ?_ ?_
   | refine LeO.bind ?_ (fun _=>?_)
set_option maxHeartbeats 8000000 in
set_option maxRecDepth 100000 in
theorem spec_classNamed.calls (k : Nat) (A0 : Option Addr) (c0 : Nat) (l0 : List (S76)) (a1 : ByteArray) (r : Int) (w : World) (hr0 : Kd.C k76 w A0 l0.length l0) (hc0 : l0.length ≤ c0) (h : spec_classNamed.f k l0 a1 = some r) :
  Calls Try.prog 63 #[.slice A0 l0.length c0,.string a1] w fun e w'=>e = .returned (.int .i64 r) ∧ Drawn0 w w':=by
 have HR0:=a0_ hr0
 have HC0:=a0_ hc0
 clear hr0 hc0
 have H : (spec_classNamed.l0 k l0 a1 0) = some r:=h
 clear h
 have H':=a0_ H
 clear H
 go_enter Try.func63,Try.ntmps63
 go_wp2
 go_loopg [5] k (fun kq v5 w'=>∃ (x5_1 : Int),v5 = .int .i64 x5_1 ∧ Aside0 (spec_classNamed.l0 kq l0 a1 x5_1 = some r) ∧ Aside0 (kq ≤ k) ∧ Drawn0 w w')
 case atStart=>exact ⟨(0),(by first | rfl | (simp;done) | (simp [*];done)),H',⟨Nat.le_refl _⟩,by repeat (first | exact Drawn0.refl _ | apply Drawn0.step)⟩
 case round =>
  clear H'
  try clear p2
  obtain ⟨x5_1,rfl,HA,HK1,⟨m1,rfl⟩⟩:=hrel
  cases gk with
  | zero=>exact absurd HA.out (by simp [spec_classNamed.l0])
  | succ k1 =>
   have H:=HA.out
   clear HA
   simp only [spec_classNamed.l0] at H
   by_cases c3 : x5_1 < (l0.length : Int)
   ·rw [if_pos c3] at H
    have c3b0 : decide (x5_1 < (l0.length : Int)) = true:=decide_eq_true c3
    clear c3
    by_cases c4 : 0 ≤ x5_1
    ·rw [if_pos c4] at H
     have c4b0 : decide (0 ≤ x5_1) = true:=decide_eq_true c4
     clear c4
     by_cases c5 : ((rd_T76 l0 x5_1).f0).toList = a1.toList
     ·rw [if_pos c5] at H
      have c5b0 : (((rd_T76 l0 x5_1).f0).toList == a1.toList) = true:=beq_iff_eq.mpr c5
      have c5b1 : (((rd_T76 l0 x5_1).f0).toList != a1.toList) = false:=bne_eq_false_iff_eq.mpr c5
      clear c5
      obtain rfl:=Option.some.inj H
      have p1 : 0 ≤ (x5_1 : Int):=of_decide_eq_true (by first | (with_reducible assumption) | assumption)
      have q1 : x5_1 < (l0.length : Int):=of_decide_eq_true (by first | (with_reducible assumption) | assumption)
      obtain ⟨ad1,e1,hx1_0,hx1_1⟩:=at_T76 HR0.1 x5_1 p1 q1
      cases e1
      replace p1:=eq_true p1
      replace q1:=eq_true q1
      go_wp2
      go_ret
      exact ⟨by first | rfl | (simp;done) | (simp [*];done),by repeat (first | exact Drawn0.refl _ | apply Drawn0.step)⟩
     ·rw [if_neg c5] at H
      have c5b0 : (((rd_T76 l0 x5_1).f0).toList == a1.toList) = false:=beq_eq_false_iff_ne.mpr c5
      have c5b1 : (((rd_T76 l0 x5_1).f0).toList != a1.toList) = true:=bne_iff_ne.mpr c5
      have H':=a0_ H
      clear H
      have p1 : 0 ≤ (x5_1 : Int):=of_decide_eq_true (by first | (with_reducible assumption) | assumption)
      have q1 : x5_1 < (l0.length : Int):=of_decide_eq_true (by first | (with_reducible assumption) | assumption)
      obtain ⟨ad1,e1,hx1_0,hx1_1⟩:=at_T76 HR0.1 x5_1 p1 q1
      cases e1
      replace p1:=eq_true p1
      replace q1:=eq_true q1
      go_wp2
      go_roundg k1
      case measure=>have:=HK1.1;omega
      case rel=>exact ⟨(wrap64 (x5_1 + 1)),(by first | rfl | (simp;done) | (simp [*];done)),H',⟨by have:=HK1.1;omega⟩,by repeat (first | exact Drawn0.refl _ | apply Drawn0.step)⟩
    ·rw [if_neg c4] at H
     exact absurd H (by simp)
   ·rw [if_neg c3] at H
    have c3b0 : decide (x5_1 < (l0.length : Int)) = false:=decide_eq_false c3
    clear c3
    obtain rfl:=Option.some.inj H
    go_wp2
    go_ret
    exact ⟨by first | rfl | (simp;done) | (simp [*];done),by repeat (first | exact Drawn0.refl _ | apply Drawn0.step)⟩
theorem spec_classNamed_l0 (t : List Cls) (n : ByteArray) (hs : t.length ≤ 9223372036854775807) (d : Nat) : ∀ (k : Nat) (i : Nat),i ≤ t.length → t.length - i = d → d < k → (∀ j (hj : j < t.length),j < i → (t[j].f0.toList == n.toList) = false) → spec_classNamed.l0 k t n (i : Int) = some (named t n):=by
 induction d with
 | zero =>
  intro k i hi hd hk hA
  obtain ⟨k,rfl⟩ : ∃ m,k = m + 1:=⟨k - 1,by omega⟩
  simp only [spec_classNamed.l0]
  rw [if_neg (show ¬ (i : Int) < (t.length : Int) by omega)]
  unfold named
  rw [idxP_miss _ t (fun j hj=>hA j hj (by omega))]
 | succ d ih =>
  intro k i hi hd hk hA
  obtain ⟨k,rfl⟩ : ∃ m,k = m + 1:=⟨k - 1,by omega⟩
  have hlt : i < t.length:=by omega
  simp only [spec_classNamed.l0]
  have hrd : rd_T76 t (i : Int) = t[i]:=by simp [rd_T76,hlt]
  rw [if_pos (show (i : Int) < (t.length : Int) by omega),if_pos (show (0 : Int) ≤ (i : Int) by omega),hrd]
  by_cases h1 : t[i].f0.toList = n.toList
  ·rw [if_pos h1]
   unfold named
   rw [idxP_hit (fun x : Cls=>x.f0.toList == n.toList) t i hlt (beq_iff_eq.2 h1) hA]
  ·rw [if_neg h1,wrap_succ (n:=t.length) (by omega) (by omega) (by omega)]
   rw [show ((i : Int) + 1) = ((i + 1 : Nat) : Int) by omega]
   refine ih k (i + 1) (by omega) (by omega) (by omega) (fun j hj hji=>?_)
   by_cases e : j = i
   ·subst e;exact beq_eq_false_iff_ne.2 h1
   ·exact hA j hj (by omega)
theorem spec_classNamed_ev (t : List Cls) (n : ByteArray) (hs : t.length ≤ 9223372036854775807) : spec_classNamed.f (t.length + 1) t n = some (named t n):=by
 unfold spec_classNamed.f
 exact spec_classNamed_l0 t n hs t.length (t.length + 1) 0 (by omega) (by omega) (by omega) (fun j _ hj=>absurd hj (Nat.not_lt_zero _))
end Go.Proofs.Ytjcodcimodnbjaa.P
namespace Go.Proofs.Ytjcodcimodnbjaa.P
open Go.RowKit Go.Proofs.YtjcodcimodnbjaaW.PrintWords Go.Proofs.YtjcodcimodnbjaaW.PrintLast Go.Proofs.YtjcodcimodnbjaaW.PrintMore
attribute [local go_sem] max2_int min2_int max_two min_two max_three min_three max_four min_four
set_option linter.unusedVariables false
set_option linter.unusedSimpArgs false
theorem named_ahead (t : List Cls) (i : Nat) (hi : i < t.length) : (named (t.take i) t[i].f0 ≥ 0) ↔ ¬ named t t[i].f0 = (i : Int):=by
 have hself : (t[i].f0.toList == t[i].f0.toList) = true:=beq_self_eq_true _
 have hd:=idxP_nonneg (fun x : Cls=>x.f0.toList == t[i].f0.toList) (t.take i)
 unfold named
 by_cases hA : ∀ j (hj : j < t.length),j < i → (t[j].f0.toList == t[i].f0.toList) = false
 ·have h1 : idxP (fun x : Cls=>x.f0.toList == t[i].f0.toList) t = (i : Int):=idxP_hit _ t i hi hself hA
  have h2 : (t.take i).any (fun x : Cls=>x.f0.toList == t[i].f0.toList) = false:=by
   rw [List.any_eq_false]
   intro x hx
   obtain ⟨j,hj,rfl⟩:=List.getElem_of_mem hx
   have hj2 : j < i ∧ j < t.length:=by simp at hj;omega
   rw [List.getElem_take]
   simp [hA j hj2.2 hj2.1]
  rw [h2,decide_eq_false_iff_not] at hd
  constructor
  ·intro h;exact absurd h hd
  ·intro h;exact absurd h1 h
 ·have hex : ∃ j,∃ hj : j < t.length,j < i ∧ (t[j].f0.toList == t[i].f0.toList) = true:=by
   apply Classical.byContradiction
   intro hn
   apply hA
   intro j hj hji
   cases hb : (t[j].f0.toList == t[i].f0.toList) with
   | false=>rfl
   | true=>exact absurd ⟨j,hj,hji,hb⟩ hn
  obtain ⟨j,hj,hji,hb⟩:=hex
  have h2 : (t.take i).any (fun x : Cls=>x.f0.toList == t[i].f0.toList) = true:=by
   rw [List.any_eq_true]
   exact ⟨t[j],List.mem_take_iff_getElem.2 ⟨j,by omega,rfl⟩,hb⟩
  rw [h2,decide_eq_true_eq] at hd
  constructor
  ·intro _ h
   unfold idxP at h
   cases hf : t.findIdx? (fun x : Cls=>x.f0.toList == t[i].f0.toList) with
   | none=>rw [hf] at h;simp at h
   | some m =>
    rw [hf] at h
    have hm : m = i:=by have h' : (m : Int) = (i : Int):=h;omega
    subst hm
    rw [List.findIdx?_eq_some_iff_getElem] at hf
    obtain ⟨_,_,hf⟩:=hf
    exact absurd hb (by simpa using hf j hji)
  ·intro _;exact hd
def spec_validTree.f (l0_0 : List (S76)) : Option Bool:=if smT l0_0 = true then some (vT l0_0) else none
set_option maxHeartbeats 4000000 in
set_option maxRecDepth 100000 in
theorem spec_validTree.calls (A0_0 : Option Addr) (c0_0 : Nat) (l0_0 : List (S76)) (r : Bool) (w : World) (hr0_0 : Kd.C k76 w A0_0 l0_0.length l0_0) (hc0_0 : l0_0.length ≤ c0_0) (h : spec_validTree.f l0_0 = some r) :
  Calls Try.prog 47 #[.agg #[.slice A0_0 l0_0.length c0_0]] w fun e w'=>e = .returned (.bool r) ∧ Below w.heap.size w w':=by
 have hu31:=Try.underlying35
 have hsm : smT l0_0 = true:=by
  apply Classical.byContradiction
  intro hn
  rw [spec_validTree.f,if_neg hn] at h
  cases h
 rw [spec_validTree.f,if_pos hsm] at h
 have HRr:=a0_ (Option.some.inj h)
 have HSM:=a0_ hsm
 have HR:=a0_ hr0_0
 have hmax : l0_0.length ≤ 9223372036854775807:=hr0_0.2.1
 clear h hsm hr0_0
 go_enter Try.func47,Try.ntmps47
 go_wp2
 go_loopg [3] l0_0.length (fun gg s3 wr=>∃ kk : Nat,kk ≤ l0_0.length ∧ l0_0.length - kk ≤ gg ∧ s3 = .int .i64 kk ∧ Aside0 (Below w.heap.size w wr) ∧ Aside0 (wr.heap[w.heap.size]? = some (.cells #[.slice A0_0 l0_0.length c0_0] 35 (0,0))) ∧ Aside0 (∀ j,j < kk → okCls l0_0 j (l0_0.getD j z76) = true))
 case atStart=>exact ⟨0,Nat.zero_le _,by omega,rfl,⟨below1 w _⟩,⟨heap_new1 w _⟩,⟨fun j hj=>absurd hj (Nat.not_lt_zero _)⟩⟩
 case round =>
  obtain ⟨kk,hkk,hg,rfl,BW,BK,HA⟩:=hrel
  have hcz : wr.cell? ⟨w.heap.size,0,none⟩ = some (.slice A0_0 l0_0.length c0_0):=(blk_cell BK.1 0).trans rfl
  by_cases hlt : kk < l0_0.length
  ·have hltz : (kk : Int) < (l0_0.length : Int):=by omega
   obtain ⟨ad,ea,hx0,hx1⟩:=at_T76 HR.out (kk : Int) (by omega) (by omega)
   cases ea
   have hrd : rd_T76 l0_0 (kk : Int) = l0_0[kk]:=by simp [rd_T76,hlt]
   rw [hrd] at hx0 hx1
   rw [Int.toNat_natCast] at hx0 hx1
   replace hx0:=(BW.out.cell (World.block_lt_of_cell? w _ hx0)).trans hx0
   replace hx1:=(BW.out.cell (World.block_lt_of_cell? w _ hx1)).trans hx1
   clear hrd
   generalize hy : l0_0[kk] = y at hx0 hx1
   have B:=a0_ hy
   clear hy
   go_upto_region 5 with (fail)
   have hW1:=a0_ (below_alloc BW.out (.cells #[.string y.f0,.int .i64 y.f1] 76))
   have hW2:=a0_ (blk_alloc BK.1 (.cells #[.string y.f0,.int .i64 y.f1] 76))
   have hW3:=(blk_cell hW2.out 0).trans rfl
   have hW4:=(blk_cell (heap_new1 wr (.cells #[.string y.f0,.int .i64 y.f1] 76)) 0).trans rfl
   have hW5:=(blk_cell (heap_new1 wr (.cells #[.string y.f0,.int .i64 y.f1] 76)) 1).trans rfl
   clear hcz hx0 hx1 BW BK
   generalize wr.alloc (.cells #[.string y.f0,.int .i64 y.f1] 76) = W1 at hW1 hW2 hW3 hW4 hW5 ⊢
   generalize wr.heap.size = gb at hW4 hW5 ⊢
   have hy1 : y.f0.size ≤ 9223372036854775806:=by rw [← B.out];exact smT_at HSM.out kk hlt
   have A1:=a0_ (spec_validName_ev y.f0 (by omega))
   have hlen : (l0_0.take kk).length = kk:=by simp;omega
   have hcn0:=fun (W : World) (hW : Below w.heap.size w W)=>spec_classNamed.calls _ (some ad) c0_0 (l0_0.take kk) y.f0 _ W (by
    have h1:=Kd.C_take (Kd.C_below HR.out hW) (show kk ≤ l0_0.length by omega)
    exact h1) (by rw [hlen];omega) (spec_classNamed_ev (l0_0.take kk) y.f0 (by rw [hlen];omega))
   rw [hlen] at hcn0
   have hahead:=named_ahead l0_0 kk hlt
   rw [B.out] at hahead
   have hok : okCls l0_0 kk (l0_0.getD kk z76) = okCls l0_0 kk y:=by
    rw [← B.out];simp [List.getD,hlt]
   have hdef : okCls l0_0 kk y = (okName y.f0 && (decide (named l0_0 y.f0 = (kk : Int)) && (if kk = 0 then decide (y.f1 = -1) else decide (0 ≤ y.f1) && decide (y.f1 ≤ (kk : Int) - 1)))):=rfl
   generalize hnn : named (l0_0.take kk) y.f0 = nn at hcn0 hahead
   have HCN:=a0_ hcn0
   have HAH:=a0_ hahead
   have HOK:=a0_ hok
   have HDF:=a0_ hdef
   clear hcn0 hahead hok hdef hnn hlen hy1
   have hcut : ∀ W : World,(Instr.slice 33 (.slice (some ad) l0_0.length c0_0) none (some (.int .i64 (kk : Int))) none).run Try.prog W = .ok (.slice (some ad) kk c0_0) W:=by
    obtain ⟨i0,hi0,_,hsz,_⟩:=info_parts info76
    have h1:=cut_to (P:=Try.prog) 33 76 .i64 Try.underlying33 hi0 (some ad) l0_0.length c0_0 (kk : Int) (by omega) (by omega) hc0_0
    rw [Int.toNat_natCast] at h1
    exact h1
   go_cut [51] (fun v51 wc=>v51 = .bool (!okCls l0_0 kk y) ∧ Aside0 (Below w.heap.size w wc) ∧ Aside0 (wc.heap[w.heap.size]? = some (.cells #[.slice (some ad) l0_0.length c0_0] 35 (0,0))))
   case first =>
    have hw1 : IntKind.i64.wrap ((kk : Int) - 1) = (kk : Int) - 1:=by rw [IntKind.wrap_i64];omega
    have A2:=a0_ (show spec_inRange.f y.f1 0 ((kk : Int) - 1) = some (decide (0 ≤ y.f1) && decide (y.f1 ≤ (kk : Int) - 1)) by
     unfold spec_inRange.f
     by_cases h0 : 0 ≤ y.f1
     ·rw [if_pos h0];simp [h0]
     ·rw [if_neg h0];simp [h0])
    cases hb1 : okName y.f0 with
    | false =>
     rw [hb1] at A1
     have BV : okCls l0_0 kk y = false:=by rw [HDF.out,hb1];rfl
     clear HDF HAH HOK
     go_quiet (first
     | (go_at_call 62;(with_reducible refine (spec_validName.calls _ y.f0 _ _ A1.1).mono ?_);rintro e w' ⟨rfl,⟨nd,rfl⟩⟩;exact ⟨rfl,_,World.drewN_drewN _ _ _⟩)
     | (go_at_call 63;(with_reducible refine (HCN.out _ (pw_below_drewN hW1.out _)).mono ?_);rintro e w' ⟨rfl,⟨nd,rfl⟩⟩;exact ⟨rfl,_,World.drewN_drewN _ _ _⟩)
     | (go_at_call 60;(with_reducible refine (spec_inRange.calls y.f1 0 ((kk : Int) - 1) _ _ A2.1).mono ?_);rintro e w' ⟨rfl,⟨nd,rfl⟩⟩;exact ⟨rfl,_,World.drewN_drewN _ _ _⟩))
     go_wp2
     go_meet
     case rel=>exact ⟨by (rw [BV]);first | rfl | (simp [*];done),⟨pw_below_drewN hW1.out _⟩,⟨blk_drewN hW2.out _⟩⟩
    | true =>
     rw [hb1] at A1
     by_cases hb2 : nn ≥ 0
     ·have BV : okCls l0_0 kk y = false:=by rw [HDF.out,hb1,decide_eq_false (HAH.out.1 hb2)];rfl
      have d2 : decide (0 ≤ nn) = true:=decide_eq_true hb2
      clear HDF HAH HOK hb2
      go_quiet (first
     | (go_at_call 62;(with_reducible refine (spec_validName.calls _ y.f0 _ _ A1.1).mono ?_);rintro e w' ⟨rfl,⟨nd,rfl⟩⟩;exact ⟨rfl,_,World.drewN_drewN _ _ _⟩)
     | (go_at_call 63;(with_reducible refine (HCN.out _ (pw_below_drewN hW1.out _)).mono ?_);rintro e w' ⟨rfl,⟨nd,rfl⟩⟩;exact ⟨rfl,_,World.drewN_drewN _ _ _⟩)
     | (go_at_call 60;(with_reducible refine (spec_inRange.calls y.f1 0 ((kk : Int) - 1) _ _ A2.1).mono ?_);rintro e w' ⟨rfl,⟨nd,rfl⟩⟩;exact ⟨rfl,_,World.drewN_drewN _ _ _⟩))
      go_wp2
      go_meet
      case rel=>exact ⟨by (rw [BV]);first | rfl | (simp [*];done),⟨pw_below_drewN hW1.out _⟩,⟨blk_drewN hW2.out _⟩⟩
     ·have hnm : named l0_0 y.f0 = (kk : Int):=Classical.byContradiction fun hn=>hb2 (HAH.out.2 hn)
      have d2 : decide (0 ≤ nn) = false:=decide_eq_false hb2
      have BV0 : okCls l0_0 kk y = (if kk = 0 then decide (y.f1 = -1) else decide (0 ≤ y.f1) && decide (y.f1 ≤ (kk : Int) - 1)):=by rw [HDF.out,hb1,decide_eq_true hnm];rfl
      clear HDF HAH HOK hb2 hnm
      by_cases hk0 : kk = 0
      ·have BV : okCls l0_0 kk y = decide (y.f1 = -1):=by rw [BV0,if_pos hk0]
       have e0 : ((kk : Int) == 0) = true:=beq_iff_eq.2 (by omega)
       have e1 : decide (0 < (kk : Int)) = false:=decide_eq_false (by omega)
       have e1n : decide (0 < kk) = false:=decide_eq_false (by omega)
       clear BV0
       by_cases hp : y.f1 = -1
       ·have e2 : (y.f1 != -1) = false:=by rw [hp];rfl
        have e3 : (y.f1 == -1) = true:=by rw [hp];rfl
        rw [decide_eq_true hp] at BV
        clear hp hk0
        go_quiet (first
     | (go_at_call 62;(with_reducible refine (spec_validName.calls _ y.f0 _ _ A1.1).mono ?_);rintro e w' ⟨rfl,⟨nd,rfl⟩⟩;exact ⟨rfl,_,World.drewN_drewN _ _ _⟩)
     | (go_at_call 63;(with_reducible refine (HCN.out _ (pw_below_drewN hW1.out _)).mono ?_);rintro e w' ⟨rfl,⟨nd,rfl⟩⟩;exact ⟨rfl,_,World.drewN_drewN _ _ _⟩)
     | (go_at_call 60;(with_reducible refine (spec_inRange.calls y.f1 0 ((kk : Int) - 1) _ _ A2.1).mono ?_);rintro e w' ⟨rfl,⟨nd,rfl⟩⟩;exact ⟨rfl,_,World.drewN_drewN _ _ _⟩))
        go_wp2
        go_meet
        case rel=>exact ⟨by (rw [BV]);first | rfl | (simp [*];done),⟨pw_below_drewN hW1.out _⟩,⟨blk_drewN hW2.out _⟩⟩
       ·have e2 : (y.f1 != -1) = true:=bne_iff_ne.2 hp
        have e3 : (y.f1 == -1) = false:=beq_eq_false_iff_ne.2 hp
        rw [decide_eq_false hp] at BV
        clear hp hk0
        go_quiet (first
     | (go_at_call 62;(with_reducible refine (spec_validName.calls _ y.f0 _ _ A1.1).mono ?_);rintro e w' ⟨rfl,⟨nd,rfl⟩⟩;exact ⟨rfl,_,World.drewN_drewN _ _ _⟩)
     | (go_at_call 63;(with_reducible refine (HCN.out _ (pw_below_drewN hW1.out _)).mono ?_);rintro e w' ⟨rfl,⟨nd,rfl⟩⟩;exact ⟨rfl,_,World.drewN_drewN _ _ _⟩)
     | (go_at_call 60;(with_reducible refine (spec_inRange.calls y.f1 0 ((kk : Int) - 1) _ _ A2.1).mono ?_);rintro e w' ⟨rfl,⟨nd,rfl⟩⟩;exact ⟨rfl,_,World.drewN_drewN _ _ _⟩))
        go_wp2
        go_meet
        case rel=>exact ⟨by (rw [BV]);first | rfl | (simp [*];done),⟨pw_below_drewN hW1.out _⟩,⟨blk_drewN hW2.out _⟩⟩
      ·have BV : okCls l0_0 kk y = (decide (0 ≤ y.f1) && decide (y.f1 ≤ (kk : Int) - 1)):=by rw [BV0,if_neg hk0]
       have e0 : ((kk : Int) == 0) = false:=beq_eq_false_iff_ne.2 (by omega)
       have e1 : decide (0 < (kk : Int)) = true:=decide_eq_true (by omega)
       have e1n : decide (0 < kk) = true:=decide_eq_true (by omega)
       rw [← BV] at A2
       clear BV BV0 hk0
       cases BV : okCls l0_0 kk y with
       | false =>
        rw [BV] at A2
        go_quiet (first
     | (go_at_call 62;(with_reducible refine (spec_validName.calls _ y.f0 _ _ A1.1).mono ?_);rintro e w' ⟨rfl,⟨nd,rfl⟩⟩;exact ⟨rfl,_,World.drewN_drewN _ _ _⟩)
     | (go_at_call 63;(with_reducible refine (HCN.out _ (pw_below_drewN hW1.out _)).mono ?_);rintro e w' ⟨rfl,⟨nd,rfl⟩⟩;exact ⟨rfl,_,World.drewN_drewN _ _ _⟩)
     | (go_at_call 60;(with_reducible refine (spec_inRange.calls y.f1 0 ((kk : Int) - 1) _ _ A2.1).mono ?_);rintro e w' ⟨rfl,⟨nd,rfl⟩⟩;exact ⟨rfl,_,World.drewN_drewN _ _ _⟩))
        go_wp2
        go_meet
        case rel=>exact ⟨by (rw [BV]);first | rfl | (simp [*];done),⟨pw_below_drewN hW1.out _⟩,⟨blk_drewN hW2.out _⟩⟩
       | true =>
        rw [BV] at A2
        go_quiet (first
     | (go_at_call 62;(with_reducible refine (spec_validName.calls _ y.f0 _ _ A1.1).mono ?_);rintro e w' ⟨rfl,⟨nd,rfl⟩⟩;exact ⟨rfl,_,World.drewN_drewN _ _ _⟩)
     | (go_at_call 63;(with_reducible refine (HCN.out _ (pw_below_drewN hW1.out _)).mono ?_);rintro e w' ⟨rfl,⟨nd,rfl⟩⟩;exact ⟨rfl,_,World.drewN_drewN _ _ _⟩)
     | (go_at_call 60;(with_reducible refine (spec_inRange.calls y.f1 0 ((kk : Int) - 1) _ _ A2.1).mono ?_);rintro e w' ⟨rfl,⟨nd,rfl⟩⟩;exact ⟨rfl,_,World.drewN_drewN _ _ _⟩))
        go_wp2
        go_meet
        case rel=>exact ⟨by (rw [BV]);first | rfl | (simp [*];done),⟨pw_below_drewN hW1.out _⟩,⟨blk_drewN hW2.out _⟩⟩
   case rest =>
    obtain ⟨rfl,hW,hK⟩:=hcut
    have hb:=HOK.out
    cases BV : okCls l0_0 kk y with
    | false =>
     go_wp2
     go_ret
     refine ⟨?_,hW.out⟩
     rw [← HRr.out]
     have : vT l0_0 = false:=by
      cases hv : vT l0_0 with
      | false=>rfl
      | true=>have:=vT_at hv kk hlt;rw [HOK.out,BV] at this;cases this
     rw [this];rfl
    | true =>
     go_wp2
     go_roundg (l0_0.length - (kk + 1))
     case measure=>omega
     case rel =>
      refine ⟨kk + 1,by omega,by omega,by go_num,⟨hW.out⟩,⟨hK.out⟩,⟨fun j hj=>?_⟩⟩
      by_cases e : j = kk
      ·subst e;rw [HOK.out,BV]
      ·exact HA.out j (by omega)
  ·have hltz : ¬ (kk : Int) < (l0_0.length : Int):=by omega
   have : kk = l0_0.length:=by omega
   subst this
   have A3:=a0_ (show spec_inRange.f (l0_0.length : Int) 1 8 = some (vT l0_0) by
    have hall : (List.range l0_0.length).all (fun i=>okCls l0_0 i (l0_0.getD i z76)) = true:=by
     rw [List.all_eq_true];intro i hi;exact HA.out i (by simpa using hi)
    unfold spec_inRange.f vT
    rw [hall]
    by_cases h1 : (1 : Int) ≤ l0_0.length
    ·rw [if_pos h1]
     have h1' : 1 ≤ l0_0.length:=by omega
     by_cases h8 : l0_0.length ≤ 8
     ·simp [h1',h8];omega
     ·simp [h8];omega
    ·rw [if_neg h1]
     have h1' : ¬ 1 ≤ l0_0.length:=by omega
     simp [h1'])
   rw [HRr.out] at A3
   go_wp2_with (go_at_call 60;(with_reducible refine (spec_inRange.calls (l0_0.length : Int) 1 8 _ _ A3.1).mono ?_);rintro e w' ⟨rfl,⟨nd,rfl⟩⟩)
   go_ret
   exact ⟨rfl,pw_below_drewN BW.out _⟩
end Go.Proofs.Ytjcodcimodnbjaa.P
namespace Go.Proofs.Ytjcodcimodnbjaa.P
open Go.RowKit Go.Proofs.YtjcodcimodnbjaaW.PrintWords Go.Proofs.YtjcodcimodnbjaaW.PrintLast Go.Proofs.YtjcodcimodnbjaaW.PrintMore
attribute [local go_sem] max2_int min2_int max_two min_two max_three min_three max_four min_four
set_option linter.unusedVariables false
set_option linter.unusedSimpArgs false
def spec_validExits.l0 : Nat → List (S38) → Int → List (S76) → Option (Bool)
 | 0,_,_,_=>none
 | k + 1,x1,x5,x2000=>if x5 < (x1.length : Int) then (if 0 ≤ x5 then ((spec_validExit.f k x2000 ((rd_T38 x1 x5).f0) ((rd_T38 x1 x5).f1) ((rd_T38 x1 x5).f2)).bind fun t3=>(if t3 = true then (spec_validExits.l0 k x1 (wrap64 (x5 + 1)) x2000) else (some false))) else (none)) else ((spec_validTree.f x2000).bind fun t4=>(if t4 = true then (some (decide ((x1.length : Int) ≤ 8))) else (some false)))
def spec_validExits.f (k : Nat) (l0_0 : List (S76)) (l1 : List (S38)) : Option (Bool):=spec_validExits.l0 k l1 0 l0_0
theorem spec_validExits.mono_l : ∀ k,(∀ y0 y1 y2,LeO (spec_validExits.l0 k y0 y1 y2) (spec_validExits.l0 (k + 1) y0 y1 y2))
 | 0=>fun _ _ _ r h=>by simp [spec_validExits.l0] at h
 | k + 1=>by
  have ih0:=spec_validExits.mono_l k
  ·intro y0 y1 y2
   unfold spec_validExits.l0
   repeat' first
   | (with_reducible exact ih0 _ _ _)
   | (with_reducible exact spec_validExit.mono _ _ _ _ _)
   | (with_reducible exact LeO.refl _)
   | (with_reducible exact LeO.none _)
   | (with_reducible refine LeO.ite ?_ ?_)
   | (with_reducible refine LeO.bind ?_ (fun _=>?_))
   | exact ih0 _ _ _
   | exact spec_validExit.mono _ _ _ _ _
   | exact LeO.none _
   | refine LeO.ite ?_ ?_
   | refine LeO.bind ?_ (fun _=>?_)
theorem spec_validExits.mono : ∀ a0 a1 k,LeO (spec_validExits.f k a0 a1) (spec_validExits.f (k + 1) a0 a1):=by
 intro a0 a1 k
 have ih0:=spec_validExits.mono_l k
 unfold spec_validExits.f
 repeat' first
   | (with_reducible exact ih0 _ _ _)
   | (with_reducible exact spec_validExit.mono _ _ _ _ _)
   | (with_reducible exact LeO.refl _)
   | (with_reducible exact LeO.none _)
   | (with_reducible refine LeO.ite ?_ ?_)
   | (with_reducible refine LeO.bind ?_ (fun _=>?_))
   | exact ih0 _ _ _
   | exact spec_validExit.mono _ _ _ _ _
   | exact LeO.none _
   | refine LeO.ite ?_ ?_
   | refine LeO.bind ?_ (fun _=>?_)
set_option maxHeartbeats 8000000 in
set_option maxRecDepth 100000 in
theorem spec_validExits.calls (k : Nat) (A0_0 : Option Addr) (c0_0 : Nat) (l0_0 : List (S76)) (A1 : Option Addr) (c1 : Nat) (l1 : List (S38)) (r : Bool) (w : World) (hr0_0 : Kd.C k76 w A0_0 l0_0.length l0_0) (hc0_0 : l0_0.length ≤ c0_0) (hr1 : Kd.C k38 w A1 l1.length l1) (hc1 : l1.length ≤ c1) (h : spec_validExits.f k l0_0 l1 = some r) :
  Calls Try.prog 31 #[.agg #[.slice A0_0 l0_0.length c0_0],.slice A1 l1.length c1] w fun e w'=>e = .returned (.bool r) ∧ Below w.heap.size w w':=by
 have hu35:=Try.underlying35
 have hu38:=Try.underlying38
 have HR0_0:=a0_ hr0_0
 have HC0_0:=a0_ hc0_0
 clear hr0_0 hc0_0
 have HR1:=a0_ hr1
 have HC1:=a0_ hc1
 clear hr1 hc1
 have HB:=a0_ (Below.refl w.heap.size w)
 have H : (spec_validExits.l0 k l1 0 l0_0) = some r:=h
 clear h
 have H':=a0_ H
 clear H
 go_enter Try.func31,Try.ntmps31
 go_wp2_with (first | ((with_reducible refine gate_dst (N:=2) rfl ?_);(try (refine gate_guard (by rfl) ?_;dsimp only));refine box_event ?hg (N:=2) ?hd (cs:=#[.slice A0_0 l0_0.length c0_0]) (t:=35) ?hr ?_;(case hd=>rfl);(case hg=>rfl);(case hr=>first | (go_simp;done) | (go_simp;rfl));intro gb1 hg w3 hbox hb;have n0_:=a0_ (below_step hb_ hb);have n1_:=a0_ (hbox);have n2_:=a0_ ((by rw [hg];exact (below_size hb_) : w.heap.size ≤ gb1));have n3_:=a0_ ((by rw [hg];exact (below_size hb_) : w.heap.size ≤ gb1));clear HB;have HB:=n0_;have BK1:=n1_;have GW1:=n2_;have GE1:=n3_;clear n0_ n1_ n2_ n3_;clear hb hbox hg))
 go_loopg [5] k (fun kq v5 w'=>∃ (x5_1 : Int),v5 = .int .i64 x5_1 ∧ Aside0 (spec_validExits.l0 kq l1 x5_1 l0_0 = some r) ∧ Aside0 (kq ≤ k) ∧ Aside0 (w'.heap[gb1]? = some (.cells #[(.slice A0_0 l0_0.length c0_0)] 35 (0,0))) ∧ Aside0 (Below w.heap.size w w'))
 case atStart=>exact ⟨(0),(by first | rfl | (simp;done) | (simp [*];done)),H',⟨Nat.le_refl _⟩,⟨by (with_reducible repeat (first | refine blk_drewN ?_ _ | refine blk_drew ?_ | refine blk_alloc ?_ _));exact BK1.1⟩,⟨hb_⟩⟩
 case round =>
  clear H'
  try clear c1
  try clear p2
  try clear c3
  obtain ⟨x5_1,rfl,HA,HK1,BK1,HB⟩:=hrel
  cases gk with
  | zero=>exact absurd HA.out (by simp [spec_validExits.l0])
  | succ k1 =>
   have H:=HA.out
   clear HA
   simp only [spec_validExits.l0] at H
   by_cases c4 : x5_1 < (l1.length : Int)
   ·rw [if_pos c4] at H
    have c4b0 : decide (x5_1 < (l1.length : Int)) = true:=decide_eq_true c4
    clear c4
    by_cases c5 : 0 ≤ x5_1
    ·rw [if_pos c5] at H
     have c5b0 : decide (0 ≤ x5_1) = true:=decide_eq_true c5
     clear c5
     replace H:=Option.bind_eq_some_iff.mp H
     obtain ⟨t3,A60,H⟩:=H
     replace H : (if t3 = true then (spec_validExits.l0 k1 l1 (wrap64 (x5_1 + 1)) l0_0) else (some false)) = some r:=H
     have A6:=a0_ A60
     clear A60
     by_cases c7 : t3 = true
     ·subst c7
      have H1 : (spec_validExits.l0 k1 l1 (wrap64 (x5_1 + 1)) l0_0) = some r:=by rw [if_pos rfl] at H;exact H
      clear H
      have H:=H1
      clear H1
      have H':=a0_ H
      clear H
      try go_wp2
      have n0_:=a0_ (blk_drew BK1.1)
      have n1_:=a0_ (below_drew1 HB.1)
      clear BK1
      clear HB
      have BK1:=n0_
      have HB:=n1_
      clear n0_ n1_
      have p2 : 0 ≤ (x5_1 : Int):=of_decide_eq_true (by first | (with_reducible assumption) | assumption)
      have q2 : x5_1 < (l1.length : Int):=of_decide_eq_true (by first | (with_reducible assumption) | assumption)
      obtain ⟨ad2,e2,hx2_0,hx2_1,hx2_2⟩:=at_T38 HR1.1 x5_1 p2 q2
      have hw2_2:=hx2_2
      have hw2_1:=hx2_1
      have hw2_0:=hx2_0
      cases e2
      replace hx2_0:=(HB.1.cell (World.block_lt_of_cell? w _ hx2_0)).trans hx2_0
      replace hx2_1:=(HB.1.cell (World.block_lt_of_cell? w _ hx2_1)).trans hx2_1
      replace hx2_2:=(HB.1.cell (World.block_lt_of_cell? w _ hx2_2)).trans hx2_2
      replace p2:=eq_true p2
      replace q2:=eq_true q2
      refine start_ (n:=7) (S:=fun w'=>w'.cell? ⟨gb1,0,none⟩ = some (.slice A0_0 l0_0.length c0_0) ∧ w'.cell? (ad2.add ((x5_1).toNat * 3)) = some (.int .i64 ((rd_T38 l1 x5_1).f0)) ∧ w'.cell? ⟨(ad2.add ((x5_1).toNat * 3)).block,(ad2.add ((x5_1).toNat * 3)).off + 1,none⟩ = some (.int .i64 ((rd_T38 l1 x5_1).f1)) ∧ w'.cell? ⟨(ad2.add ((x5_1).toNat * 3)).block,(ad2.add ((x5_1).toNat * 3)).off + 2,none⟩ = some (.int .i64 ((rd_T38 l1 x5_1).f2))) (ds:=[]) #[false,false,false,false,false,false,false] (by kernel_rfl) rfl rfl ⟨(blk_cell BK1.1 0).trans rfl,((HB.1.cell (World.block_lt_of_cell? w _ hw2_0)).trans hw2_0),((HB.1.cell (World.block_lt_of_cell? w _ hw2_1)).trans hw2_1),((HB.1.cell (World.block_lt_of_cell? w _ hw2_2)).trans hw2_2)⟩ (fun hHeld=>?_)
      generalize wr.drew = w8 at BK1 HB hx2_0 hx2_1 hx2_2 hHeld ⊢
      refine pure_ (i:=1) (N:=some 13) (v:=?_) (a':=?_) #[false,true,false,false,false,false,false] rfl rfl (by kernel_rfl) (fun _ _ _ h=>h) (Or.inl ⟨by rfl,?_⟩) ?_ ?_
      rotate_left
      ·intro w'
       go_simp
       with_reducible rfl
      rotate_left
      ·simp only [Act.put,s1_,s2_,s3_,i64_w,i32_w]
       rfl
      refine pure_ (i:=2) (N:=some 14) (v:=?_) (a':=?_) #[false,true,true,false,false,false,false] rfl rfl (by kernel_rfl) (fun _ _ _ h=>h) (Or.inl ⟨by rfl,?_⟩) ?_ ?_
      rotate_left
      ·intro w'
       go_simp
       with_reducible rfl
      rotate_left
      ·simp only [Act.put,s1_,s2_,s3_,i64_w,i32_w]
       rfl
      refine pure_ (i:=3) (N:=some 15) (v:=?_) (a':=?_) #[false,true,true,true,false,false,false] rfl rfl (by kernel_rfl) (fun _ _ _ h=>h) (Or.inl ⟨by rfl,?_⟩) ?_ ?_
      rotate_left
      ·intro w'
       go_simp
       with_reducible rfl
      rotate_left
      ·simp only [Act.put,s1_,s2_,s3_,i64_w,i32_w]
       rfl
      refine take_ (i:=0) (N:=some 12) (v:=?_) (a':=?_) #[true,true,true,true,false,false,false] rfl rfl (by kernel_rfl) (fun _ _ _ h=>h) (Or.inl ⟨by rfl,?_⟩) hHeld ?_ ?_
      rotate_left
      ·rintro w' ⟨s0,s1,s2,s3⟩
       go_simp
       with_reducible rfl
      rotate_left
      ·simp only [Act.put,s1_,s2_,s3_,i64_w,i32_w]
       rfl
      refine take_ (i:=4) (N:=some 16) (v:=?_) (a':=?_) #[true,true,true,true,true,false,false] rfl rfl (by kernel_rfl) (fun _ _ _ h=>h) (Or.inl ⟨by rfl,?_⟩) hHeld ?_ ?_
      rotate_left
      ·rintro w' ⟨s0,s1,s2,s3⟩
       go_simp
       with_reducible rfl
      rotate_left
      ·simp only [Act.put,s1_,s2_,s3_,i64_w,i32_w]
       rfl
      refine one_ (i:=5) (N:=some 17) #[true,true,true,true,true,true,false] rfl rfl (by kernel_rfl) (by decide) (fun K hK=>?_)
      refine goes_ Try.func46 (by kernel_rfl) rfl #[.agg #[.slice A0_0 l0_0.length c0_0],.agg #[.int .i64 ((rd_T38 l1 x5_1).f0),.int .i64 ((rd_T38 l1 x5_1).f1),.int .i64 ((rd_T38 l1 x5_1).f2)]] (by rfl) rfl rfl lm_ ?_
      with_reducible refine (spec_validExit.calls k1 _ _ l0_0 ((rd_T38 l1 x5_1).f0) ((rd_T38 l1 x5_1).f1) ((rd_T38 l1 x5_1).f2) true _ ?side1 ?side2 A6.1).mono ?_
      (case side1=>exact cc_ (Kd.C_below HR0_0.1 HB.1))
      (case side2=>exact HC0_0.1)
      rintro e w9 ⟨rfl,hb⟩
      refine ⟨_,rfl,?_⟩
      have n0_:=a0_ (blk_below (bb_ BK1.1) hb)
      have n1_:=a0_ (below_step hb_ hb)
      clear BK1
      clear HB
      have BK1:=n0_
      have HB:=n1_
      clear n0_ n1_
      (try clear hb)
      (try clear hb2)
      (try clear hk)
      (try clear hi)
      refine hK.out _ _ ⟨(blk_cell BK1.1 0).trans rfl,((HB.1.cell (World.block_lt_of_cell? w _ hw2_0)).trans hw2_0),((HB.1.cell (World.block_lt_of_cell? w _ hw2_1)).trans hw2_1),((HB.1.cell (World.block_lt_of_cell? w _ hw2_2)).trans hw2_2)⟩ (fun hHeld=>?_)
      clear hK K
      refine norm_ (a':=?_) ?_ ?_
      rotate_left
      ·show Act.put _ (some 17) _ = _
       simp only [Act.put,s1_,s2_,s3_,i64_w,i32_w]
       rfl
      refine pure_ (i:=6) (N:=some 18) (v:=?_) (a':=?_) #[true,true,true,true,true,true,true] rfl rfl (by kernel_rfl) (fun _ _ _ h=>h) (Or.inl ⟨by rfl,?_⟩) ?_ ?_
      rotate_left
      ·intro w'
       go_simp
       with_reducible rfl
      rotate_left
      ·simp only [Act.put,s1_,s2_,s3_,i64_w,i32_w]
       rfl
      refine done_ (by kernel_rfl) ?_
      try go_wp2
      go_roundg k1
      case measure=>have:=HK1.1;omega
      case rel=>exact ⟨(wrap64 (x5_1 + 1)),(by first | rfl | (simp;done) | (simp [*];done)),H',⟨by have:=HK1.1;omega⟩,⟨by (with_reducible repeat (first | refine blk_drewN ?_ _ | refine blk_drew ?_ | refine blk_alloc ?_ _));exact BK1.1⟩,⟨hb_⟩⟩
     ·replace c7:=Bool.eq_false_iff.mpr c7
      subst c7
      have H1 : (some false) = some r:=by rw [if_neg (show ¬ (false = true) by decide)] at H;exact H
      clear H
      have H:=H1
      clear H1
      obtain rfl:=Option.some.inj H
      try go_wp2
      have n0_:=a0_ (blk_drew BK1.1)
      have n1_:=a0_ (below_drew1 HB.1)
      clear BK1
      clear HB
      have BK1:=n0_
      have HB:=n1_
      clear n0_ n1_
      have p2 : 0 ≤ (x5_1 : Int):=of_decide_eq_true (by first | (with_reducible assumption) | assumption)
      have q2 : x5_1 < (l1.length : Int):=of_decide_eq_true (by first | (with_reducible assumption) | assumption)
      obtain ⟨ad2,e2,hx2_0,hx2_1,hx2_2⟩:=at_T38 HR1.1 x5_1 p2 q2
      have hw2_2:=hx2_2
      have hw2_1:=hx2_1
      have hw2_0:=hx2_0
      cases e2
      replace hx2_0:=(HB.1.cell (World.block_lt_of_cell? w _ hx2_0)).trans hx2_0
      replace hx2_1:=(HB.1.cell (World.block_lt_of_cell? w _ hx2_1)).trans hx2_1
      replace hx2_2:=(HB.1.cell (World.block_lt_of_cell? w _ hx2_2)).trans hx2_2
      replace p2:=eq_true p2
      replace q2:=eq_true q2
      refine start_ (n:=7) (S:=fun w'=>w'.cell? ⟨gb1,0,none⟩ = some (.slice A0_0 l0_0.length c0_0) ∧ w'.cell? (ad2.add ((x5_1).toNat * 3)) = some (.int .i64 ((rd_T38 l1 x5_1).f0)) ∧ w'.cell? ⟨(ad2.add ((x5_1).toNat * 3)).block,(ad2.add ((x5_1).toNat * 3)).off + 1,none⟩ = some (.int .i64 ((rd_T38 l1 x5_1).f1)) ∧ w'.cell? ⟨(ad2.add ((x5_1).toNat * 3)).block,(ad2.add ((x5_1).toNat * 3)).off + 2,none⟩ = some (.int .i64 ((rd_T38 l1 x5_1).f2))) (ds:=[]) #[false,false,false,false,false,false,false] (by kernel_rfl) rfl rfl ⟨(blk_cell BK1.1 0).trans rfl,((HB.1.cell (World.block_lt_of_cell? w _ hw2_0)).trans hw2_0),((HB.1.cell (World.block_lt_of_cell? w _ hw2_1)).trans hw2_1),((HB.1.cell (World.block_lt_of_cell? w _ hw2_2)).trans hw2_2)⟩ (fun hHeld=>?_)
      generalize wr.drew = w10 at BK1 HB hx2_0 hx2_1 hx2_2 hHeld ⊢
      refine pure_ (i:=1) (N:=some 13) (v:=?_) (a':=?_) #[false,true,false,false,false,false,false] rfl rfl (by kernel_rfl) (fun _ _ _ h=>h) (Or.inl ⟨by rfl,?_⟩) ?_ ?_
      rotate_left
      ·intro w'
       go_simp
       with_reducible rfl
      rotate_left
      ·simp only [Act.put,s1_,s2_,s3_,i64_w,i32_w]
       rfl
      refine pure_ (i:=2) (N:=some 14) (v:=?_) (a':=?_) #[false,true,true,false,false,false,false] rfl rfl (by kernel_rfl) (fun _ _ _ h=>h) (Or.inl ⟨by rfl,?_⟩) ?_ ?_
      rotate_left
      ·intro w'
       go_simp
       with_reducible rfl
      rotate_left
      ·simp only [Act.put,s1_,s2_,s3_,i64_w,i32_w]
       rfl
      refine pure_ (i:=3) (N:=some 15) (v:=?_) (a':=?_) #[false,true,true,true,false,false,false] rfl rfl (by kernel_rfl) (fun _ _ _ h=>h) (Or.inl ⟨by rfl,?_⟩) ?_ ?_
      rotate_left
      ·intro w'
       go_simp
       with_reducible rfl
      rotate_left
      ·simp only [Act.put,s1_,s2_,s3_,i64_w,i32_w]
       rfl
      refine take_ (i:=0) (N:=some 12) (v:=?_) (a':=?_) #[true,true,true,true,false,false,false] rfl rfl (by kernel_rfl) (fun _ _ _ h=>h) (Or.inl ⟨by rfl,?_⟩) hHeld ?_ ?_
      rotate_left
      ·rintro w' ⟨s0,s1,s2,s3⟩
       go_simp
       with_reducible rfl
      rotate_left
      ·simp only [Act.put,s1_,s2_,s3_,i64_w,i32_w]
       rfl
      refine take_ (i:=4) (N:=some 16) (v:=?_) (a':=?_) #[true,true,true,true,true,false,false] rfl rfl (by kernel_rfl) (fun _ _ _ h=>h) (Or.inl ⟨by rfl,?_⟩) hHeld ?_ ?_
      rotate_left
      ·rintro w' ⟨s0,s1,s2,s3⟩
       go_simp
       with_reducible rfl
      rotate_left
      ·simp only [Act.put,s1_,s2_,s3_,i64_w,i32_w]
       rfl
      refine one_ (i:=5) (N:=some 17) #[true,true,true,true,true,true,false] rfl rfl (by kernel_rfl) (by decide) (fun K hK=>?_)
      refine goes_ Try.func46 (by kernel_rfl) rfl #[.agg #[.slice A0_0 l0_0.length c0_0],.agg #[.int .i64 ((rd_T38 l1 x5_1).f0),.int .i64 ((rd_T38 l1 x5_1).f1),.int .i64 ((rd_T38 l1 x5_1).f2)]] (by rfl) rfl rfl lm_ ?_
      with_reducible refine (spec_validExit.calls k1 _ _ l0_0 ((rd_T38 l1 x5_1).f0) ((rd_T38 l1 x5_1).f1) ((rd_T38 l1 x5_1).f2) false _ ?side1 ?side2 A6.1).mono ?_
      (case side1=>exact cc_ (Kd.C_below HR0_0.1 HB.1))
      (case side2=>exact HC0_0.1)
      rintro e w11 ⟨rfl,hb⟩
      refine ⟨_,rfl,?_⟩
      have n0_:=a0_ (blk_below (bb_ BK1.1) hb)
      have n1_:=a0_ (below_step hb_ hb)
      clear BK1
      clear HB
      have BK1:=n0_
      have HB:=n1_
      clear n0_ n1_
      (try clear hb)
      (try clear hb2)
      (try clear hk)
      (try clear hi)
      refine hK.out _ _ ⟨(blk_cell BK1.1 0).trans rfl,((HB.1.cell (World.block_lt_of_cell? w _ hw2_0)).trans hw2_0),((HB.1.cell (World.block_lt_of_cell? w _ hw2_1)).trans hw2_1),((HB.1.cell (World.block_lt_of_cell? w _ hw2_2)).trans hw2_2)⟩ (fun hHeld=>?_)
      clear hK K
      refine norm_ (a':=?_) ?_ ?_
      rotate_left
      ·show Act.put _ (some 17) _ = _
       simp only [Act.put,s1_,s2_,s3_,i64_w,i32_w]
       rfl
      refine pure_ (i:=6) (N:=some 18) (v:=?_) (a':=?_) #[true,true,true,true,true,true,true] rfl rfl (by kernel_rfl) (fun _ _ _ h=>h) (Or.inl ⟨by rfl,?_⟩) ?_ ?_
      rotate_left
      ·intro w'
       go_simp
       with_reducible rfl
      rotate_left
      ·simp only [Act.put,s1_,s2_,s3_,i64_w,i32_w]
       rfl
      refine done_ (by kernel_rfl) ?_
      try go_wp2
      go_ret
      exact ⟨by first | rfl | (simp [errW_none,errW_some] <;> rfl) | (simp [*,errW_none,errW_some] <;> rfl),hb_⟩
    ·rw [if_neg c5] at H
     exact absurd H (by simp)
   ·rw [if_neg c4] at H
    have c4b0 : decide (x5_1 < (l1.length : Int)) = false:=decide_eq_false c4
    clear c4
    replace H:=Option.bind_eq_some_iff.mp H
    obtain ⟨t4,A120,H⟩:=H
    replace H : (if t4 = true then (some (decide ((l1.length : Int) ≤ 8))) else (some false)) = some r:=H
    have A12:=a0_ A120
    clear A120
    by_cases c13 : t4 = true
    ·subst c13
     have H1 : (some (decide ((l1.length : Int) ≤ 8))) = some r:=by rw [if_pos rfl] at H;exact H
     clear H
     have H:=H1
     clear H1
     obtain rfl:=Option.some.inj H
     have hcz14_0 : wr.cell? ⟨gb1,0,none⟩ = some (.slice A0_0 l0_0.length c0_0):=(blk_cell BK1.1 0).trans rfl
     have hfz14_0:=blk_frozen BK1.1 0
     go_wp2_with (first | ((with_reducible refine gate_callee (f:=47) rfl ?_);refine goesL_ (some 20) rfl rfl Try.func47 (by kernel_rfl) rfl #[.agg #[.slice A0_0 l0_0.length c0_0]] rfl lm_ ?_;(with_reducible refine (spec_validTree.calls _ _ l0_0 true _ ?side1 ?side2 A12.1).mono ?_);(case side1=>exact cc_ (Kd.C_below HR0_0.1 HB.1));(case side2=>exact HC0_0.1);rintro e w15 ⟨rfl,hb⟩;refine ⟨_,rfl,?_⟩;have n0_:=a0_ (blk_below (bb_ BK1.1) hb);have n1_:=a0_ (below_step hb_ hb);clear BK1 HB;have BK1:=n0_;have HB:=n1_;clear n0_ n1_;(try clear hb);(try clear hb2);(try clear hk);(try clear hi)))
     go_ret
     exact ⟨by first | rfl | (simp [errW_none,errW_some] <;> rfl) | (simp [*,errW_none,errW_some] <;> rfl),hb_⟩
    ·replace c13:=Bool.eq_false_iff.mpr c13
     subst c13
     have H1 : (some false) = some r:=by rw [if_neg (show ¬ (false = true) by decide)] at H;exact H
     clear H
     have H:=H1
     clear H1
     obtain rfl:=Option.some.inj H
     have hcz16_0 : wr.cell? ⟨gb1,0,none⟩ = some (.slice A0_0 l0_0.length c0_0):=(blk_cell BK1.1 0).trans rfl
     have hfz16_0:=blk_frozen BK1.1 0
     go_wp2_with (first | ((with_reducible refine gate_callee (f:=47) rfl ?_);refine goesL_ (some 20) rfl rfl Try.func47 (by kernel_rfl) rfl #[.agg #[.slice A0_0 l0_0.length c0_0]] rfl lm_ ?_;(with_reducible refine (spec_validTree.calls _ _ l0_0 false _ ?side1 ?side2 A12.1).mono ?_);(case side1=>exact cc_ (Kd.C_below HR0_0.1 HB.1));(case side2=>exact HC0_0.1);rintro e w17 ⟨rfl,hb⟩;refine ⟨_,rfl,?_⟩;have n0_:=a0_ (blk_below (bb_ BK1.1) hb);have n1_:=a0_ (below_step hb_ hb);clear BK1 HB;have BK1:=n0_;have HB:=n1_;clear n0_ n1_;(try clear hb);(try clear hb2);(try clear hk);(try clear hi)))
     go_ret
     exact ⟨by first | rfl | (simp [errW_none,errW_some] <;> rfl) | (simp [*,errW_none,errW_some] <;> rfl),hb_⟩
theorem spec_validExits_ev (t : List Cls) (l : List Ext) (hs : smT t = true) (ht : t.length ≤ 9223372036854775807) (hl : l.length ≤ 9223372036854775807) : Ev (fun k=>spec_validExits.f k t l) (vX t l):=by
 have key : ∀ d i,i + d = l.length → Ev (fun k=>spec_validExits.l0 k l (i : Int) t) ((l.drop i).all (okX t) && (vT t && decide ((l.length : Int) ≤ 8))):=by
  intro d
  induction d with
  | zero =>
   intro i hi
   refine Ev.succ ?_
   simp only [spec_validExits.l0]
   rw [List.drop_eq_nil_of_le (by omega)]
   refine Ev.neg (by omega) (Ev.bind (Ev.const (show spec_validTree.f t = some (vT t) by rw [spec_validTree.f,if_pos hs])) ?_)
   cases vT t with
   | true=>exact Ev.pos rfl (Ev.const (by simp))
   | false=>exact Ev.neg (by simp) (Ev.const (by simp))
  | succ d ih =>
   intro i hi
   have hlt : i < l.length:=by omega
   have hrd : rd_T38 l (i : Int) = l[i]:=by simp [rd_T38,hlt]
   have hn:=ih (i + 1) (by omega)
   rw [List.drop_eq_getElem_cons hlt,List.all_cons]
   refine Ev.succ ?_
   simp only [spec_validExits.l0,hrd]
   rw [wrap_succ (i:=(i : Int)) (n:=l.length) (by omega) (by omega) (by omega)]
   refine Ev.pos (by omega) (Ev.pos (by omega) (Ev.bind (spec_validExit_ev t l[i] ht) ?_))
   cases okX t l[i] with
   | true=>exact Ev.pos rfl (by simpa using hn)
   | false=>exact Ev.neg (by simp) (Ev.const (by simp))
 have:=key l.length 0 (by omega)
 rw [List.drop_zero] at this
 have e : (l.all (okX t) && (vT t && decide ((l.length : Int) ≤ 8))) = vX t l:=by
  unfold vX
  cases l.all (okX t) <;> cases vT t <;> cases decide ((l.length : Int) ≤ 8) <;> rfl
 rw [e] at this
 exact this
end Go.Proofs.Ytjcodcimodnbjaa.P
namespace Go.Proofs.Ytjcodcimodnbjaa.P
open Go.RowKit Go.Proofs.YtjcodcimodnbjaaW.PrintWords Go.Proofs.YtjcodcimodnbjaaW.PrintLast Go.Proofs.YtjcodcimodnbjaaW.PrintMore
attribute [local go_sem] max2_int min2_int max_two min_two max_three min_three max_four min_four
set_option linter.unusedVariables false
set_option linter.unusedSimpArgs false
def spec_PushExit.f (k : Nat) (l0_0 : List (S76)) (l1 : List (S38)) (a2_0 : Int) (a2_1 : Int) (a2_2 : Int) : Option ((List (S38)) × Bool):=(spec_copyExits.f l1).bind fun t3=>((some (([(⟨a2_0,a2_1,a2_2⟩ : S38)] : List (S38)) : List (S38))).bind fun y6=>(if t3.length + y6.length < 5864062014805 then ((some (t3 ++ y6 : List (S38))).bind fun y9=>((spec_validExits.f k l0_0 l1).bind fun t12=>(if t12 = true then ((spec_validExits.f k l0_0 y9).bind fun t13=>(if t13 = true then (some (y9,true)) else (some (([] : List (S38)),false)))) else (some (([] : List (S38)),false))))) else (none)))
theorem spec_PushExit.mono : ∀ a0 a1 a2 a3 a4 k,LeO (spec_PushExit.f k a0 a1 a2 a3 a4) (spec_PushExit.f (k + 1) a0 a1 a2 a3 a4):=by
 intro a0 a1 a2 a3 a4 k
 unfold spec_PushExit.f
 repeat' first
   | (with_reducible exact spec_validExits.mono _ _ _)
   | (with_reducible exact LeO.refl _)
   | (with_reducible exact LeO.none _)
   | (with_reducible refine LeO.ite ?_ ?_)
   | (with_reducible refine LeO.bind ?_ (fun _=>?_))
   | exact spec_validExits.mono _ _ _
   | exact LeO.none _
   | refine LeO.ite ?_ ?_
   | refine LeO.bind ?_ (fun _=>?_)
set_option maxHeartbeats 8000000 in
set_option maxRecDepth 100000 in
theorem spec_PushExit.calls (k : Nat) (A0_0 : Option Addr) (c0_0 : Nat) (l0_0 : List (S76)) (A1 : Option Addr) (c1 : Nat) (l1 : List (S38)) (a2_0 : Int) (a2_1 : Int) (a2_2 : Int) (r1 : List (S38)) (r2 : Bool) (w : World) (hr0_0 : Kd.C k76 w A0_0 l0_0.length l0_0) (hc0_0 : l0_0.length ≤ c0_0) (hr1 : Kd.C k38 w A1 l1.length l1) (hc1 : l1.length ≤ c1) (h : spec_PushExit.f k l0_0 l1 a2_0 a2_1 a2_2 = some (r1,r2)) :
  Calls Try.prog 9 #[.agg #[.slice A0_0 l0_0.length c0_0],.slice A1 l1.length c1,.agg #[.int .i64 a2_0,.int .i64 a2_1,.int .i64 a2_2]] w fun e w'=>∃ v0_ : Value,e = .returned (.tuple #[v0_,.bool r2]) ∧ Kd.R k38 38 w' w.heap.size (fun _=>True) v0_ r1 ∧ Below w.heap.size w w':=by
 have hu35:=Try.underlying35
 have hu38:=Try.underlying38
 have HR0_0:=a0_ hr0_0
 have HC0_0:=a0_ hc0_0
 clear hr0_0 hc0_0
 have HR1:=a0_ hr1
 have HC1:=a0_ hc1
 clear hr1 hc1
 have HB:=a0_ (Below.refl w.heap.size w)
 have H : ((spec_copyExits.f l1).bind fun t3=>((some (([(⟨a2_0,a2_1,a2_2⟩ : S38)] : List (S38)) : List (S38))).bind fun y6=>(if t3.length + y6.length < 5864062014805 then ((some (t3 ++ y6 : List (S38))).bind fun y9=>((spec_validExits.f k l0_0 l1).bind fun t12=>(if t12 = true then ((spec_validExits.f k l0_0 y9).bind fun t13=>(if t13 = true then (some (y9,true)) else (some (([] : List (S38)),false)))) else (some (([] : List (S38)),false))))) else (none)))) = some (r1,r2):=h
 clear h
 replace H:=Option.bind_eq_some_iff.mp H
 obtain ⟨t3,A40,H⟩:=H
 replace H : ((some (([(⟨a2_0,a2_1,a2_2⟩ : S38)] : List (S38)) : List (S38))).bind fun y6=>(if t3.length + y6.length < 5864062014805 then ((some (t3 ++ y6 : List (S38))).bind fun y9=>((spec_validExits.f k l0_0 l1).bind fun t12=>(if t12 = true then ((spec_validExits.f k l0_0 y9).bind fun t13=>(if t13 = true then (some (y9,true)) else (some (([] : List (S38)),false)))) else (some (([] : List (S38)),false))))) else (none))) = some (r1,r2):=H
 have A4:=a0_ A40
 clear A40
 obtain ⟨y6,hy6⟩ : ∃ y_ : List (S38),y_ = (([(⟨a2_0,a2_1,a2_2⟩ : S38)] : List (S38))):=⟨_,rfl⟩
 replace H : (if t3.length + y6.length < 5864062014805 then ((some (t3 ++ y6 : List (S38))).bind fun y9=>((spec_validExits.f k l0_0 l1).bind fun t12=>(if t12 = true then ((spec_validExits.f k l0_0 y9).bind fun t13=>(if t13 = true then (some (y9,true)) else (some (([] : List (S38)),false)))) else (some (([] : List (S38)),false))))) else (none)) = some (r1,r2):=by first | (rw [hy6];with_reducible exact H) | (have H2_:=(Option.bind_some _ _).symm.trans H;rw [hy6];with_reducible exact H2_) | (have H2_:=(Option.bind_some _ _).symm.trans H;with_reducible exact H2_) | with_reducible exact H | (rw [hy6];exact H) | exact H
 have Ny6:=a0_ hy6
 clear hy6
 by_cases c5 : t3.length + y6.length < 5864062014805
 ·rw [if_pos c5] at H
  have LMc5:=a0_ c5
  clear c5
  obtain ⟨y9,hy9⟩ : ∃ y_ : List (S38),y_ = (t3 ++ y6):=⟨_,rfl⟩
  replace H : ((spec_validExits.f k l0_0 l1).bind fun t12=>(if t12 = true then ((spec_validExits.f k l0_0 y9).bind fun t13=>(if t13 = true then (some (y9,true)) else (some (([] : List (S38)),false)))) else (some (([] : List (S38)),false)))) = some (r1,r2):=by first | (rw [hy9];with_reducible exact H) | (have H2_:=(Option.bind_some _ _).symm.trans H;rw [hy9];with_reducible exact H2_) | (have H2_:=(Option.bind_some _ _).symm.trans H;with_reducible exact H2_) | with_reducible exact H | (rw [hy9];exact H) | exact H
  have Ny9:=a0_ hy9
  clear hy9
  replace H:=Option.bind_eq_some_iff.mp H
  obtain ⟨t12,A60,H⟩:=H
  replace H : (if t12 = true then ((spec_validExits.f k l0_0 y9).bind fun t13=>(if t13 = true then (some (y9,true)) else (some (([] : List (S38)),false)))) else (some (([] : List (S38)),false))) = some (r1,r2):=H
  have A6:=a0_ A60
  clear A60
  by_cases c7 : t12 = true
  ·subst c7
   have H1 : ((spec_validExits.f k l0_0 y9).bind fun t13=>(if t13 = true then (some (y9,true)) else (some (([] : List (S38)),false)))) = some (r1,r2):=by rw [if_pos rfl] at H;exact H
   clear H
   have H:=H1
   clear H1
   replace H:=Option.bind_eq_some_iff.mp H
   obtain ⟨t13,A80,H⟩:=H
   replace H : (if t13 = true then (some (y9,true)) else (some (([] : List (S38)),false))) = some (r1,r2):=H
   have A8:=a0_ A80
   clear A80
   by_cases c9 : t13 = true
   ·subst c9
    have H1 : (some (y9,true)) = some (r1,r2):=by rw [if_pos rfl] at H;exact H
    clear H
    have H:=H1
    clear H1
    simp only [Option.some.injEq,Prod.mk.injEq] at H
    obtain ⟨rfl,rfl⟩:=H
    go_enter Try.func9,Try.ntmps9
    try go_wp2_with (first | ((with_reducible refine gate_dst (N:=3) rfl ?_);refine box_event ?hg (N:=3) ?hd (cs:=#[.slice A0_0 l0_0.length c0_0]) (t:=35) ?hr ?_;(case hd=>rfl);(case hg=>rfl);(case hr=>first | (go_simp;done) | (go_simp;rfl));intro gb1 hg w10 hbox hb;have n0_:=a0_ (below_step hb_ hb);have n1_:=a0_ (hbox);have n2_:=a0_ ((by rw [hg];exact (below_size hb_) : w.heap.size ≤ gb1));have n3_:=a0_ ((by rw [hg];exact (below_size hb_) : w.heap.size ≤ gb1));clear HB;have HB:=n0_;have BK1:=n1_;have GW1:=n2_;have GE1:=n3_;clear n0_ n1_ n2_ n3_;clear hb hbox hg) | ((with_reducible refine gate_dst (N:=5) rfl ?_);refine box_event ?hg (N:=5) ?hd (cs:=#[.int .i64 a2_0,.int .i64 a2_1,.int .i64 a2_2]) (t:=38) ?hr ?_;(case hd=>rfl);(case hg=>rfl);(case hr=>first | (go_simp;done) | (go_simp;rfl));intro gb2 hg w11 hbox hb;have n0_:=a0_ (blk_below (bb_ BK1.1) hb);have n1_:=a0_ (below_step hb_ hb);have n2_:=a0_ (hbox);have n3_:=a0_ ((by rw [hg];exact (below_size hb_) : w.heap.size ≤ gb2));have n4_:=a0_ ((by rw [hg];exact (below_size hb_) : w.heap.size ≤ gb2));have n5_:=a0_ ((by rw [hg];exact Nat.ne_of_lt (blk_lt (bb_ BK1.1)) : gb1 ≠ gb2));have n6_:=a0_ ((by rw [hg];exact Nat.ne_of_gt (blk_lt (bb_ BK1.1)) : gb2 ≠ gb1));clear BK1 HB;have BK1:=n0_;have HB:=n1_;have BK2:=n2_;have GW2:=n3_;have GE2:=n4_;have NB1_2:=n5_;have NB2_1:=n6_;clear n0_ n1_ n2_ n3_ n4_ n5_ n6_;clear hb hbox hg))
    have n0_:=a0_ (blk_drew BK1.1)
    have n1_:=a0_ (blk_drew BK2.1)
    have n2_:=a0_ (below_drew1 HB.1)
    clear BK1
    clear BK2
    clear HB
    have BK1:=n0_
    have BK2:=n1_
    have HB:=n2_
    clear n0_ n1_ n2_
    refine start_ (n:=6) (S:=fun w'=>w'.cell? ⟨gb2,0,none⟩ = some (.int .i64 a2_0) ∧ w'.cell? ⟨gb2,1,none⟩ = some (.int .i64 a2_1) ∧ w'.cell? ⟨gb2,2,none⟩ = some (.int .i64 a2_2)) (ds:=[]) #[false,false,false,false,false,false] (by kernel_rfl) rfl rfl ⟨(blk_cell BK2.1 0).trans rfl,(blk_cell BK2.1 1).trans rfl,(blk_cell BK2.1 2).trans rfl⟩ (fun hHeld=>?_)
    generalize w11.drew = w12 at BK1 BK2 HB hHeld ⊢
    refine pure_ (i:=0) (N:=some 9) (v:=?_) (a':=?_) #[true,false,false,false,false,false] rfl rfl (by kernel_rfl) (fun _ _ _ h=>h) (Or.inl ⟨by rfl,?_⟩) ?_ ?_
    rotate_left
    ·intro w'
     go_simp
     with_reducible rfl
    rotate_left
    ·simp only [Act.put,s1_,s2_,s3_,i64_w,i32_w]
     rfl
    refine take_ (i:=2) (N:=some 11) (v:=?_) (a':=?_) #[true,false,true,false,false,false] rfl rfl (by kernel_rfl) (fun _ _ _ h=>h) (Or.inl ⟨by rfl,?_⟩) hHeld ?_ ?_
    rotate_left
    ·rintro w' ⟨s0,s1,s2⟩
     go_simp
     with_reducible rfl
    rotate_left
    ·simp only [Act.put,s1_,s2_,s3_,i64_w,i32_w]
     rfl
    refine join_ (σ:=Value × Value) 2 #[true,true,true,true,false,false] (fun s_=>[(10,s_.1),(12,s_.2)]) (fun s_ w'=>(w'.cell? ⟨gb2,0,none⟩ = some (.int .i64 a2_0) ∧ w'.cell? ⟨gb2,1,none⟩ = some (.int .i64 a2_1) ∧ w'.cell? ⟨gb2,2,none⟩ = some (.int .i64 a2_2)) ∧ (Kd.R k38 38 w' w.heap.size (fun k_=>some k_ ≠ (s_.2 : Value).ownBlock ∧ k_ ≠ gb2) s_.1 t3) ∧ (Kd.R k38 38 w' w.heap.size (fun k_=>some k_ ≠ (s_.1 : Value).ownBlock ∧ k_ ≠ gb2) s_.2 y6) ∧ (w'.heap[gb1]? = some (.cells #[.slice A0_0 l0_0.length c0_0] 35 (0,0))) ∧ (w'.heap[gb2]? = some (.cells #[.int .i64 a2_0,.int .i64 a2_1,.int .i64 a2_2] 38 (0,0))) ∧ (Below w.heap.size w w')) ?_ ?_
    rotate_left
    ·intro hCont
     refine two_ (i:=1) (j:=3) (Ni:=some 10) (Nj:=some 12) #[true,true,true,false,false,false] #[true,false,true,true,false,false] rfl rfl rfl rfl (by kernel_rfl) (by decide) (by decide) (fun K hK=>?_) (fun K hK=>?_)
     ·skip
      refine goes_ Try.func30 (by kernel_rfl) rfl #[.slice A1 l1.length c1] (by rfl) rfl rfl lm_ ?_
      with_reducible refine (spec_copyExits.calls _ _ l1 t3 _ ?side1 ?side2 A4.1).mono ?_
      (case side1=>exact cc_ (Kd.C_below HR1.1 HB.1))
      (case side2=>exact HC1.1)
      rintro e w13 ⟨v4,rfl,ho0,hb⟩
      refine ⟨_,rfl,?_⟩
      have n0_:=a0_ (Kd.R_lower (Kd.R_newB ho0 (bb_ BK2.1)) (below_size hb_))
      have n1_:=a0_ (blk_below (bb_ BK1.1) hb)
      have n2_:=a0_ (blk_below (bb_ BK2.1) hb)
      have n3_:=a0_ (below_step hb_ hb)
      clear BK1
      clear BK2
      clear HB
      have HO5:=n0_
      have BK1:=n1_
      have BK2:=n2_
      have HB:=n3_
      clear n0_ n1_ n2_ n3_
      (try clear hb)
      (try clear hb2)
      (try clear hk)
      (try clear hi)
      (try clear ho0)
      refine hK.out _ _ ⟨(blk_cell BK2.1 0).trans rfl,(blk_cell BK2.1 1).trans rfl,(blk_cell BK2.1 2).trans rfl⟩ (fun hHeld=>?_)
      clear hK K
      refine norm_ (a':=?_) ?_ ?_
      rotate_left
      ·show Act.put _ (some 10) _ = _
       simp only [Act.put,s1_,s2_,s3_,i64_w,i32_w]
       rfl
      refine one_ (i:=3) (N:=some 12) #[true,true,true,true,false,false] rfl rfl (by kernel_rfl) (by decide) (fun K hK=>?_)
      refine Kd.R_lit_step k38 _ 38 ?hg (N:=12) ?hd (xs:=([(⟨a2_0,a2_1,a2_2⟩ : S38)] : List (S38))) (inner:=[.int .i64 a2_0,.int .i64 a2_1,.int .i64 a2_2]) (ok:=fun _=>True) (okp:=fun _=>True) ?hr ?hp (fun _ hk=>hk) trivial (Below.refl _ _) (Nat.le_refl _) (by simp) ?_;(case hd=>rfl);(case hg=>rfl);(case hr=>first | (go_simp;done) | (go_simp;rfl));(case hp=>exact (Reps.c3 (show Kd.M k38 _ _ _ (⟨a2_0,a2_1,a2_2⟩ : S38) [.int .i64 a2_0,.int .i64 a2_1,.int .i64 a2_2] from (k38_mkM _ _ _ (⟨a2_0,a2_1,a2_2⟩ : S38) )) (Reps.none _ _)))
      intro v7 w14 ho15 hb hg_ hnew_
      clear hg_ hnew_
      (first | rw [← Ny6.1] at ho15 | (simp only [Int.reduceToNat] at ho15;rw [← Ny6.1] at ho15))
      have n0_:=a0_ (Kd.R_elder' (rr_ HO5.1) (Kd.R_base ho15) hb)
      have n1_:=a0_ (Kd.R_lower (Kd.R_newB (Kd.R_new' ho15 (Kd.R_lt (rr_ HO5.1))) (bb_ BK2.1)) (below_size hb_))
      have n2_:=a0_ (blk_below (bb_ BK1.1) hb)
      have n3_:=a0_ (blk_below (bb_ BK2.1) hb)
      have n4_:=a0_ (below_step hb_ hb)
      clear HO5
      clear BK1
      clear BK2
      clear HB
      have HO5:=n0_
      have HO8:=n1_
      have BK1:=n2_
      have BK2:=n3_
      have HB:=n4_
      clear n0_ n1_ n2_ n3_ n4_
      clear hb ho15
      refine hK.out _ _ ⟨(blk_cell BK2.1 0).trans rfl,(blk_cell BK2.1 1).trans rfl,(blk_cell BK2.1 2).trans rfl⟩ (fun hHeld=>?_)
      clear hK K
      refine norm_ (a':=?_) ?_ ?_
      rotate_left
      ·show Act.put _ (some 12) _ = _
       simp only [Act.put,s1_,s2_,s3_,i64_w,i32_w]
       rfl
      exact norm_ (by simp only [putAll,Act.put,s1_,s2_,s3_]) (hCont (v4,v7) _ ⟨hHeld,(by (with_reducible repeat (first | apply Kd.R_alloc | apply Kd.R_drewN | apply Kd.R_drew));exact Kd.R_mono HO5.1 (fun _ hk=>⟨hk.2,hk.1.2⟩)),(by (with_reducible repeat (first | apply Kd.R_alloc | apply Kd.R_drewN | apply Kd.R_drew));exact Kd.R_mono HO8.1 (fun _ hk=>⟨hk.1.2,hk.2⟩)),(bb_ BK1.1),(bb_ BK2.1),hb_⟩)
     ·skip
      refine Kd.R_lit_step k38 _ 38 ?hg (N:=12) ?hd (xs:=([(⟨a2_0,a2_1,a2_2⟩ : S38)] : List (S38))) (inner:=[.int .i64 a2_0,.int .i64 a2_1,.int .i64 a2_2]) (ok:=fun _=>True) (okp:=fun _=>True) ?hr ?hp (fun _ hk=>hk) trivial (Below.refl _ _) (Nat.le_refl _) (by simp) ?_;(case hd=>rfl);(case hg=>rfl);(case hr=>first | (go_simp;done) | (go_simp;rfl));(case hp=>exact (Reps.c3 (show Kd.M k38 _ _ _ (⟨a2_0,a2_1,a2_2⟩ : S38) [.int .i64 a2_0,.int .i64 a2_1,.int .i64 a2_2] from (k38_mkM _ _ _ (⟨a2_0,a2_1,a2_2⟩ : S38) )) (Reps.none _ _)))
      intro v7 w13 ho14 hb hg_ hnew_
      clear hg_ hnew_
      (first | rw [← Ny6.1] at ho14 | (simp only [Int.reduceToNat] at ho14;rw [← Ny6.1] at ho14))
      have n0_:=a0_ (Kd.R_lower (Kd.R_newB ho14 (bb_ BK2.1)) (below_size hb_))
      have n1_:=a0_ (blk_below (bb_ BK1.1) hb)
      have n2_:=a0_ (blk_below (bb_ BK2.1) hb)
      have n3_:=a0_ (below_step hb_ hb)
      clear BK1
      clear BK2
      clear HB
      have HO8:=n0_
      have BK1:=n1_
      have BK2:=n2_
      have HB:=n3_
      clear n0_ n1_ n2_ n3_
      clear hb ho14
      refine hK.out _ _ ⟨(blk_cell BK2.1 0).trans rfl,(blk_cell BK2.1 1).trans rfl,(blk_cell BK2.1 2).trans rfl⟩ (fun hHeld=>?_)
      clear hK K
      refine norm_ (a':=?_) ?_ ?_
      rotate_left
      ·show Act.put _ (some 12) _ = _
       simp only [Act.put,s1_,s2_,s3_,i64_w,i32_w]
       rfl
      refine one_ (i:=1) (N:=some 10) #[true,true,true,true,false,false] rfl rfl (by kernel_rfl) (by decide) (fun K hK=>?_)
      refine goes_ Try.func30 (by kernel_rfl) rfl #[.slice A1 l1.length c1] (by rfl) rfl rfl lm_ ?_
      with_reducible refine (spec_copyExits.calls _ _ l1 t3 _ ?side1 ?side2 A4.1).mono ?_
      (case side1=>exact cc_ (Kd.C_below HR1.1 HB.1))
      (case side2=>exact HC1.1)
      rintro e w15 ⟨v4,rfl,ho0,hb⟩
      refine ⟨_,rfl,?_⟩
      have n0_:=a0_ (Kd.R_elder' (rr_ HO8.1) (Kd.R_base ho0) hb)
      have n1_:=a0_ (Kd.R_lower (Kd.R_newB (Kd.R_new' ho0 (Kd.R_lt (rr_ HO8.1))) (bb_ BK2.1)) (below_size hb_))
      have n2_:=a0_ (blk_below (bb_ BK1.1) hb)
      have n3_:=a0_ (blk_below (bb_ BK2.1) hb)
      have n4_:=a0_ (below_step hb_ hb)
      clear HO8
      clear BK1
      clear BK2
      clear HB
      have HO8:=n0_
      have HO5:=n1_
      have BK1:=n2_
      have BK2:=n3_
      have HB:=n4_
      clear n0_ n1_ n2_ n3_ n4_
      (try clear hb)
      (try clear hb2)
      (try clear hk)
      (try clear hi)
      (try clear ho0)
      refine hK.out _ _ ⟨(blk_cell BK2.1 0).trans rfl,(blk_cell BK2.1 1).trans rfl,(blk_cell BK2.1 2).trans rfl⟩ (fun hHeld=>?_)
      clear hK K
      refine norm_ (a':=?_) ?_ ?_
      rotate_left
      ·show Act.put _ (some 10) _ = _
       simp only [Act.put,s1_,s2_,s3_,i64_w,i32_w]
       rfl
      exact norm_ (by simp only [putAll,Act.put,s1_,s2_,s3_]) (hCont (v4,v7) _ ⟨hHeld,(by (with_reducible repeat (first | apply Kd.R_alloc | apply Kd.R_drewN | apply Kd.R_drew));exact Kd.R_mono HO5.1 (fun _ hk=>⟨hk.1.2,hk.2⟩)),(by (with_reducible repeat (first | apply Kd.R_alloc | apply Kd.R_drewN | apply Kd.R_drew));exact Kd.R_mono HO8.1 (fun _ hk=>⟨hk.2,hk.1.2⟩)),(bb_ BK1.1),(bb_ BK2.1),hb_⟩)
    rintro ⟨v4,v7⟩ w16 ⟨hS_,h0_,h1_,h2_,h3_,h4_⟩
    have n0_ : Aside0 (Kd.R k38 38 w16 w.heap.size (fun k_=>some k_ ≠ (v7 : Value).ownBlock ∧ k_ ≠ gb2) v4 t3):=⟨h0_⟩
    have n1_ : Aside0 (Kd.R k38 38 w16 w.heap.size (fun k_=>some k_ ≠ (v4 : Value).ownBlock ∧ k_ ≠ gb2) v7 y6):=⟨h1_⟩
    have n2_ : Aside0 (w16.heap[gb1]? = some (.cells #[.slice A0_0 l0_0.length c0_0] 35 (0,0))):=⟨h2_⟩
    have n3_ : Aside0 (w16.heap[gb2]? = some (.cells #[.int .i64 a2_0,.int .i64 a2_1,.int .i64 a2_2] 38 (0,0))):=⟨h3_⟩
    have n4_ : Aside0 (Below w.heap.size w w16):=⟨h4_⟩
    clear BK1
    clear BK2
    clear HB
    clear h0_ h1_ h2_ h3_ h4_
    have HO5:=n0_
    have HO8:=n1_
    have BK1:=n2_
    have BK2:=n3_
    have HB:=n4_
    clear n0_ n1_ n2_ n3_ n4_
    have hHeld : w16.cell? ⟨gb2,0,none⟩ = some (.int .i64 a2_0) ∧ w16.cell? ⟨gb2,1,none⟩ = some (.int .i64 a2_1) ∧ w16.cell? ⟨gb2,2,none⟩ = some (.int .i64 a2_2):=hS_
    obtain ⟨Ao18,co18,eo18⟩:=Kd.R_slice HO8.1
    (first | subst eo18 | (injection eo18 with f1_ f2_ f3_;have f4_:=f1_.symm;have f5_:=f3_.symm;clear f1_ f2_ f3_;subst f4_;subst f5_))
    refine norm_ (a':=?_) ?_ ?_
    rotate_left
    ·simp only [putAll,Act.put,s1_,s2_,s3_]
     rfl
    refine one_ (i:=4) (N:=some 13) #[true,true,true,true,true,false] rfl rfl (by kernel_rfl) (by decide) (fun K hK=>?_)
    refine Kd.R_append_rows_step k38 (w0:=w) w.heap.size (by rfl) (.tmp 10) (.tmp 12) 30 38 (.agg #[(.int .i64 0),(.int .i64 0),(.int .i64 0)]) 24 rfl Try.underlying30 info38 rfl (by decide) (by omega) v4 t3 y6 _ _ _ (fun k_=>some k_ ≠ (.slice Ao18 y6.length co18 : Value).ownBlock ∧ k_ ≠ gb2) (fun _=>False) rfl rfl ?aO ?aR (fun _ _ h=>h) (fun _ h=>h.elim) ?aF ?aB ?aS ?aL ?_
    (case aR=>repeat (first | exact (Kd.R_reads' HO8.1).2.2 | (with_reducible refine Kd.C_alloc ?_ _) | (with_reducible refine Kd.C_drewN ?_ _) | (with_reducible refine Kd.C_drew ?_)))
    (case aB=>exact hb_)
    (case aF=>exact (fun k_ hk=>⟨Kd.fresh' (Kd.R_lt (rr_ HO8.1)) k_ hk,Kd.freshB (bb_ BK2.1) k_ hk⟩))
    (case aO=>exact (rr_ HO5.1))
    (case aS=>exact (below_size hb_))
    (case aL=>have:=LMc5.1;omega)
    intro v10 w17 ho hb hg hat
    rw [← Ny9.1] at ho
    have n0_:=a0_ (blk_grown (bb_ BK1.1) hg (Kd.R_ne HO5.1 BK1.1 (by decide)))
    have n1_:=a0_ (blk_grown (bb_ BK2.1) hg (Kd.R_away HO5.1 (fun _ hk=>hk.2)))
    have n2_:=a0_ (Kd.R_after (ok:=(fun k_=>k_ ≠ gb2)) (by (with_reducible repeat (first | apply Kd.R_alloc | apply Kd.R_drewN | apply Kd.R_drew));exact Kd.R_mono HO8.1 (fun _ hk=>⟨hk.2,hk.1⟩)) hg hat)
    have n3_:=a0_ (hb)
    have n4_:=a0_ (ho)
    clear BK1
    clear BK2
    clear HO8
    clear HB
    clear HO5
    have BK1:=n0_
    have BK2:=n1_
    have HO8:=n2_
    have HB:=n3_
    have HO11:=n4_
    clear n0_ n1_ n2_ n3_ n4_
    clear ho hb hg hat
    refine hK.out _ _ ⟨(blk_cell BK2.1 0).trans rfl,(blk_cell BK2.1 1).trans rfl,(blk_cell BK2.1 2).trans rfl⟩ (fun hHeld=>?_)
    clear hK K
    refine norm_ (a':=?_) ?_ ?_
    rotate_left
    ·show Act.put _ (some 13) _ = _
     simp only [Act.put,s1_,s2_,s3_,i64_w,i32_w]
     rfl
    refine pure_ (i:=5) (N:=some 8) (v:=?_) (a':=?_) #[true,true,true,true,true,true] rfl rfl (by kernel_rfl) (fun _ _ _ h=>h) (Or.inl ⟨by rfl,?_⟩) ?_ ?_
    rotate_left
    ·intro w'
     go_simp
     with_reducible rfl
    rotate_left
    ·simp only [Act.put,s1_,s2_,s3_,i64_w,i32_w]
     rfl
    refine done_ (by kernel_rfl) ?_
    have hnb19:=NB1_2.1
    have hnc19:=NB2_1.1
    have hcz20_0 : w17.cell? ⟨gb1,0,none⟩ = some (.slice A0_0 l0_0.length c0_0):=(blk_cell BK1.1 0).trans rfl
    have hfz20_0:=blk_frozen BK1.1 0
    try go_wp2_with (first | ((with_reducible refine gate_callee (f:=31) rfl ?_);refine goesL_ (some 16) rfl rfl Try.func31 (by kernel_rfl) rfl #[.agg #[.slice A0_0 l0_0.length c0_0],.slice A1 l1.length c1] rfl lm_ ?_;(with_reducible refine (spec_validExits.calls k _ _ l0_0 _ _ l1 true _ ?side1 ?side2 ?side3 ?side4 A6.1).mono ?_);(case side1=>exact cc_ (Kd.C_below HR0_0.1 HB.1));(case side2=>exact HC0_0.1);(case side3=>exact cc_ (Kd.C_below HR1.1 HB.1));(case side4=>exact HC1.1);rintro e w21 ⟨rfl,hb⟩;refine ⟨_,rfl,?_⟩;have n0_:=a0_ (Kd.R_below (rr_ HO8.1) hb);have n1_:=a0_ (Kd.R_below (rr_ HO11.1) hb);have n2_:=a0_ (blk_below (bb_ BK1.1) hb);have n3_:=a0_ (blk_below (bb_ BK2.1) hb);have n4_:=a0_ (below_step hb_ hb);clear HO8 HO11;clear BK1 BK2 HB;have HO8:=n0_;have HO11:=n1_;have BK1:=n2_;have BK2:=n3_;have HB:=n4_;clear n0_ n1_ n2_ n3_ n4_;(try clear hb);(try clear hb2);(try clear hk);(try clear hi);have hcz22_0 : w21.cell? ⟨gb1,0,none⟩ = some (.slice A0_0 l0_0.length c0_0):=(blk_cell BK1.1 0).trans rfl;have hfz22_0:=blk_frozen BK1.1 0;obtain ⟨Ao23,co23,eo23⟩:=Kd.R_slice HO11.1;subst eo23) | (go_at_call 31;(with_reducible refine (spec_validExits.calls k _ _ l0_0 _ _ y9 true _ ?side1 ?side2 ?side3 ?side4 A8.1).mono ?_);(case side1=>exact cc_ (Kd.C_below HR0_0.1 HB.1));(case side2=>exact HC0_0.1);(case side3=>repeat (first | exact (Kd.R_reads' HO11.1).2.2 | (with_reducible refine Kd.C_alloc ?_ _) | (with_reducible refine Kd.C_drewN ?_ _) | (with_reducible refine Kd.C_drew ?_)));(case side4=>exact (Kd.R_reads' HO11.1).2.1);rintro e w24 ⟨rfl,hb⟩;have n0_:=a0_ (Kd.R_below (rr_ HO8.1) hb);have n1_:=a0_ (Kd.R_below (rr_ HO11.1) hb);have n2_:=a0_ (blk_below (bb_ BK1.1) hb);have n3_:=a0_ (blk_below (bb_ BK2.1) hb);have n4_:=a0_ (below_step hb_ hb);clear HO8 HO11;clear BK1 BK2 HB;have HO8:=n0_;have HO11:=n1_;have BK1:=n2_;have BK2:=n3_;have HB:=n4_;clear n0_ n1_ n2_ n3_ n4_;(try clear hb);(try clear hb2);(try clear hk);(try clear hi)))
    go_ret2
    exact ⟨_,by first | rfl | (simp [errW_none,errW_some] <;> rfl) | (simp [*,errW_none,errW_some] <;> rfl),by (with_reducible repeat (first | apply Kd.R_alloc | apply Kd.R_drewN | apply Kd.R_drew));exact Kd.R_mono HO11.1 (fun _ hk=>trivial),hb_⟩
   ·replace c9:=Bool.eq_false_iff.mpr c9
    subst c9
    have H1 : (some (([] : List (S38)),false)) = some (r1,r2):=by rw [if_neg (show ¬ (false = true) by decide)] at H;exact H
    clear H
    have H:=H1
    clear H1
    simp only [Option.some.injEq,Prod.mk.injEq] at H
    obtain ⟨rfl,rfl⟩:=H
    go_enter Try.func9,Try.ntmps9
    try go_wp2_with (first | ((with_reducible refine gate_dst (N:=3) rfl ?_);refine box_event ?hg (N:=3) ?hd (cs:=#[.slice A0_0 l0_0.length c0_0]) (t:=35) ?hr ?_;(case hd=>rfl);(case hg=>rfl);(case hr=>first | (go_simp;done) | (go_simp;rfl));intro gb1 hg w25 hbox hb;have n0_:=a0_ (below_step hb_ hb);have n1_:=a0_ (hbox);have n2_:=a0_ ((by rw [hg];exact (below_size hb_) : w.heap.size ≤ gb1));have n3_:=a0_ ((by rw [hg];exact (below_size hb_) : w.heap.size ≤ gb1));clear HB;have HB:=n0_;have BK1:=n1_;have GW1:=n2_;have GE1:=n3_;clear n0_ n1_ n2_ n3_;clear hb hbox hg) | ((with_reducible refine gate_dst (N:=5) rfl ?_);refine box_event ?hg (N:=5) ?hd (cs:=#[.int .i64 a2_0,.int .i64 a2_1,.int .i64 a2_2]) (t:=38) ?hr ?_;(case hd=>rfl);(case hg=>rfl);(case hr=>first | (go_simp;done) | (go_simp;rfl));intro gb2 hg w26 hbox hb;have n0_:=a0_ (blk_below (bb_ BK1.1) hb);have n1_:=a0_ (below_step hb_ hb);have n2_:=a0_ (hbox);have n3_:=a0_ ((by rw [hg];exact (below_size hb_) : w.heap.size ≤ gb2));have n4_:=a0_ ((by rw [hg];exact (below_size hb_) : w.heap.size ≤ gb2));have n5_:=a0_ ((by rw [hg];exact Nat.ne_of_lt (blk_lt (bb_ BK1.1)) : gb1 ≠ gb2));have n6_:=a0_ ((by rw [hg];exact Nat.ne_of_gt (blk_lt (bb_ BK1.1)) : gb2 ≠ gb1));clear BK1 HB;have BK1:=n0_;have HB:=n1_;have BK2:=n2_;have GW2:=n3_;have GE2:=n4_;have NB1_2:=n5_;have NB2_1:=n6_;clear n0_ n1_ n2_ n3_ n4_ n5_ n6_;clear hb hbox hg))
    have n0_:=a0_ (blk_drew BK1.1)
    have n1_:=a0_ (blk_drew BK2.1)
    have n2_:=a0_ (below_drew1 HB.1)
    clear BK1
    clear BK2
    clear HB
    have BK1:=n0_
    have BK2:=n1_
    have HB:=n2_
    clear n0_ n1_ n2_
    refine start_ (n:=6) (S:=fun w'=>w'.cell? ⟨gb2,0,none⟩ = some (.int .i64 a2_0) ∧ w'.cell? ⟨gb2,1,none⟩ = some (.int .i64 a2_1) ∧ w'.cell? ⟨gb2,2,none⟩ = some (.int .i64 a2_2)) (ds:=[]) #[false,false,false,false,false,false] (by kernel_rfl) rfl rfl ⟨(blk_cell BK2.1 0).trans rfl,(blk_cell BK2.1 1).trans rfl,(blk_cell BK2.1 2).trans rfl⟩ (fun hHeld=>?_)
    generalize w26.drew = w27 at BK1 BK2 HB hHeld ⊢
    refine pure_ (i:=0) (N:=some 9) (v:=?_) (a':=?_) #[true,false,false,false,false,false] rfl rfl (by kernel_rfl) (fun _ _ _ h=>h) (Or.inl ⟨by rfl,?_⟩) ?_ ?_
    rotate_left
    ·intro w'
     go_simp
     with_reducible rfl
    rotate_left
    ·simp only [Act.put,s1_,s2_,s3_,i64_w,i32_w]
     rfl
    refine take_ (i:=2) (N:=some 11) (v:=?_) (a':=?_) #[true,false,true,false,false,false] rfl rfl (by kernel_rfl) (fun _ _ _ h=>h) (Or.inl ⟨by rfl,?_⟩) hHeld ?_ ?_
    rotate_left
    ·rintro w' ⟨s0,s1,s2⟩
     go_simp
     with_reducible rfl
    rotate_left
    ·simp only [Act.put,s1_,s2_,s3_,i64_w,i32_w]
     rfl
    refine join_ (σ:=Value × Value) 2 #[true,true,true,true,false,false] (fun s_=>[(10,s_.1),(12,s_.2)]) (fun s_ w'=>(w'.cell? ⟨gb2,0,none⟩ = some (.int .i64 a2_0) ∧ w'.cell? ⟨gb2,1,none⟩ = some (.int .i64 a2_1) ∧ w'.cell? ⟨gb2,2,none⟩ = some (.int .i64 a2_2)) ∧ (Kd.R k38 38 w' w.heap.size (fun k_=>some k_ ≠ (s_.2 : Value).ownBlock ∧ k_ ≠ gb2) s_.1 t3) ∧ (Kd.R k38 38 w' w.heap.size (fun k_=>some k_ ≠ (s_.1 : Value).ownBlock ∧ k_ ≠ gb2) s_.2 y6) ∧ (w'.heap[gb1]? = some (.cells #[.slice A0_0 l0_0.length c0_0] 35 (0,0))) ∧ (w'.heap[gb2]? = some (.cells #[.int .i64 a2_0,.int .i64 a2_1,.int .i64 a2_2] 38 (0,0))) ∧ (Below w.heap.size w w')) ?_ ?_
    rotate_left
    ·intro hCont
     refine two_ (i:=1) (j:=3) (Ni:=some 10) (Nj:=some 12) #[true,true,true,false,false,false] #[true,false,true,true,false,false] rfl rfl rfl rfl (by kernel_rfl) (by decide) (by decide) (fun K hK=>?_) (fun K hK=>?_)
     ·skip
      refine goes_ Try.func30 (by kernel_rfl) rfl #[.slice A1 l1.length c1] (by rfl) rfl rfl lm_ ?_
      with_reducible refine (spec_copyExits.calls _ _ l1 t3 _ ?side1 ?side2 A4.1).mono ?_
      (case side1=>exact cc_ (Kd.C_below HR1.1 HB.1))
      (case side2=>exact HC1.1)
      rintro e w28 ⟨v4,rfl,ho0,hb⟩
      refine ⟨_,rfl,?_⟩
      have n0_:=a0_ (Kd.R_lower (Kd.R_newB ho0 (bb_ BK2.1)) (below_size hb_))
      have n1_:=a0_ (blk_below (bb_ BK1.1) hb)
      have n2_:=a0_ (blk_below (bb_ BK2.1) hb)
      have n3_:=a0_ (below_step hb_ hb)
      clear BK1
      clear BK2
      clear HB
      have HO5:=n0_
      have BK1:=n1_
      have BK2:=n2_
      have HB:=n3_
      clear n0_ n1_ n2_ n3_
      (try clear hb)
      (try clear hb2)
      (try clear hk)
      (try clear hi)
      (try clear ho0)
      refine hK.out _ _ ⟨(blk_cell BK2.1 0).trans rfl,(blk_cell BK2.1 1).trans rfl,(blk_cell BK2.1 2).trans rfl⟩ (fun hHeld=>?_)
      clear hK K
      refine norm_ (a':=?_) ?_ ?_
      rotate_left
      ·show Act.put _ (some 10) _ = _
       simp only [Act.put,s1_,s2_,s3_,i64_w,i32_w]
       rfl
      refine one_ (i:=3) (N:=some 12) #[true,true,true,true,false,false] rfl rfl (by kernel_rfl) (by decide) (fun K hK=>?_)
      refine Kd.R_lit_step k38 _ 38 ?hg (N:=12) ?hd (xs:=([(⟨a2_0,a2_1,a2_2⟩ : S38)] : List (S38))) (inner:=[.int .i64 a2_0,.int .i64 a2_1,.int .i64 a2_2]) (ok:=fun _=>True) (okp:=fun _=>True) ?hr ?hp (fun _ hk=>hk) trivial (Below.refl _ _) (Nat.le_refl _) (by simp) ?_;(case hd=>rfl);(case hg=>rfl);(case hr=>first | (go_simp;done) | (go_simp;rfl));(case hp=>exact (Reps.c3 (show Kd.M k38 _ _ _ (⟨a2_0,a2_1,a2_2⟩ : S38) [.int .i64 a2_0,.int .i64 a2_1,.int .i64 a2_2] from (k38_mkM _ _ _ (⟨a2_0,a2_1,a2_2⟩ : S38) )) (Reps.none _ _)))
      intro v7 w29 ho30 hb hg_ hnew_
      clear hg_ hnew_
      (first | rw [← Ny6.1] at ho30 | (simp only [Int.reduceToNat] at ho30;rw [← Ny6.1] at ho30))
      have n0_:=a0_ (Kd.R_elder' (rr_ HO5.1) (Kd.R_base ho30) hb)
      have n1_:=a0_ (Kd.R_lower (Kd.R_newB (Kd.R_new' ho30 (Kd.R_lt (rr_ HO5.1))) (bb_ BK2.1)) (below_size hb_))
      have n2_:=a0_ (blk_below (bb_ BK1.1) hb)
      have n3_:=a0_ (blk_below (bb_ BK2.1) hb)
      have n4_:=a0_ (below_step hb_ hb)
      clear HO5
      clear BK1
      clear BK2
      clear HB
      have HO5:=n0_
      have HO8:=n1_
      have BK1:=n2_
      have BK2:=n3_
      have HB:=n4_
      clear n0_ n1_ n2_ n3_ n4_
      clear hb ho30
      refine hK.out _ _ ⟨(blk_cell BK2.1 0).trans rfl,(blk_cell BK2.1 1).trans rfl,(blk_cell BK2.1 2).trans rfl⟩ (fun hHeld=>?_)
      clear hK K
      refine norm_ (a':=?_) ?_ ?_
      rotate_left
      ·show Act.put _ (some 12) _ = _
       simp only [Act.put,s1_,s2_,s3_,i64_w,i32_w]
       rfl
      exact norm_ (by simp only [putAll,Act.put,s1_,s2_,s3_]) (hCont (v4,v7) _ ⟨hHeld,(by (with_reducible repeat (first | apply Kd.R_alloc | apply Kd.R_drewN | apply Kd.R_drew));exact Kd.R_mono HO5.1 (fun _ hk=>⟨hk.2,hk.1.2⟩)),(by (with_reducible repeat (first | apply Kd.R_alloc | apply Kd.R_drewN | apply Kd.R_drew));exact Kd.R_mono HO8.1 (fun _ hk=>⟨hk.1.2,hk.2⟩)),(bb_ BK1.1),(bb_ BK2.1),hb_⟩)
     ·skip
      refine Kd.R_lit_step k38 _ 38 ?hg (N:=12) ?hd (xs:=([(⟨a2_0,a2_1,a2_2⟩ : S38)] : List (S38))) (inner:=[.int .i64 a2_0,.int .i64 a2_1,.int .i64 a2_2]) (ok:=fun _=>True) (okp:=fun _=>True) ?hr ?hp (fun _ hk=>hk) trivial (Below.refl _ _) (Nat.le_refl _) (by simp) ?_;(case hd=>rfl);(case hg=>rfl);(case hr=>first | (go_simp;done) | (go_simp;rfl));(case hp=>exact (Reps.c3 (show Kd.M k38 _ _ _ (⟨a2_0,a2_1,a2_2⟩ : S38) [.int .i64 a2_0,.int .i64 a2_1,.int .i64 a2_2] from (k38_mkM _ _ _ (⟨a2_0,a2_1,a2_2⟩ : S38) )) (Reps.none _ _)))
      intro v7 w28 ho29 hb hg_ hnew_
      clear hg_ hnew_
      (first | rw [← Ny6.1] at ho29 | (simp only [Int.reduceToNat] at ho29;rw [← Ny6.1] at ho29))
      have n0_:=a0_ (Kd.R_lower (Kd.R_newB ho29 (bb_ BK2.1)) (below_size hb_))
      have n1_:=a0_ (blk_below (bb_ BK1.1) hb)
      have n2_:=a0_ (blk_below (bb_ BK2.1) hb)
      have n3_:=a0_ (below_step hb_ hb)
      clear BK1
      clear BK2
      clear HB
      have HO8:=n0_
      have BK1:=n1_
      have BK2:=n2_
      have HB:=n3_
      clear n0_ n1_ n2_ n3_
      clear hb ho29
      refine hK.out _ _ ⟨(blk_cell BK2.1 0).trans rfl,(blk_cell BK2.1 1).trans rfl,(blk_cell BK2.1 2).trans rfl⟩ (fun hHeld=>?_)
      clear hK K
      refine norm_ (a':=?_) ?_ ?_
      rotate_left
      ·show Act.put _ (some 12) _ = _
       simp only [Act.put,s1_,s2_,s3_,i64_w,i32_w]
       rfl
      refine one_ (i:=1) (N:=some 10) #[true,true,true,true,false,false] rfl rfl (by kernel_rfl) (by decide) (fun K hK=>?_)
      refine goes_ Try.func30 (by kernel_rfl) rfl #[.slice A1 l1.length c1] (by rfl) rfl rfl lm_ ?_
      with_reducible refine (spec_copyExits.calls _ _ l1 t3 _ ?side1 ?side2 A4.1).mono ?_
      (case side1=>exact cc_ (Kd.C_below HR1.1 HB.1))
      (case side2=>exact HC1.1)
      rintro e w30 ⟨v4,rfl,ho0,hb⟩
      refine ⟨_,rfl,?_⟩
      have n0_:=a0_ (Kd.R_elder' (rr_ HO8.1) (Kd.R_base ho0) hb)
      have n1_:=a0_ (Kd.R_lower (Kd.R_newB (Kd.R_new' ho0 (Kd.R_lt (rr_ HO8.1))) (bb_ BK2.1)) (below_size hb_))
      have n2_:=a0_ (blk_below (bb_ BK1.1) hb)
      have n3_:=a0_ (blk_below (bb_ BK2.1) hb)
      have n4_:=a0_ (below_step hb_ hb)
      clear HO8
      clear BK1
      clear BK2
      clear HB
      have HO8:=n0_
      have HO5:=n1_
      have BK1:=n2_
      have BK2:=n3_
      have HB:=n4_
      clear n0_ n1_ n2_ n3_ n4_
      (try clear hb)
      (try clear hb2)
      (try clear hk)
      (try clear hi)
      (try clear ho0)
      refine hK.out _ _ ⟨(blk_cell BK2.1 0).trans rfl,(blk_cell BK2.1 1).trans rfl,(blk_cell BK2.1 2).trans rfl⟩ (fun hHeld=>?_)
      clear hK K
      refine norm_ (a':=?_) ?_ ?_
      rotate_left
      ·show Act.put _ (some 10) _ = _
       simp only [Act.put,s1_,s2_,s3_,i64_w,i32_w]
       rfl
      exact norm_ (by simp only [putAll,Act.put,s1_,s2_,s3_]) (hCont (v4,v7) _ ⟨hHeld,(by (with_reducible repeat (first | apply Kd.R_alloc | apply Kd.R_drewN | apply Kd.R_drew));exact Kd.R_mono HO5.1 (fun _ hk=>⟨hk.1.2,hk.2⟩)),(by (with_reducible repeat (first | apply Kd.R_alloc | apply Kd.R_drewN | apply Kd.R_drew));exact Kd.R_mono HO8.1 (fun _ hk=>⟨hk.2,hk.1.2⟩)),(bb_ BK1.1),(bb_ BK2.1),hb_⟩)
    rintro ⟨v4,v7⟩ w31 ⟨hS_,h0_,h1_,h2_,h3_,h4_⟩
    have n0_ : Aside0 (Kd.R k38 38 w31 w.heap.size (fun k_=>some k_ ≠ (v7 : Value).ownBlock ∧ k_ ≠ gb2) v4 t3):=⟨h0_⟩
    have n1_ : Aside0 (Kd.R k38 38 w31 w.heap.size (fun k_=>some k_ ≠ (v4 : Value).ownBlock ∧ k_ ≠ gb2) v7 y6):=⟨h1_⟩
    have n2_ : Aside0 (w31.heap[gb1]? = some (.cells #[.slice A0_0 l0_0.length c0_0] 35 (0,0))):=⟨h2_⟩
    have n3_ : Aside0 (w31.heap[gb2]? = some (.cells #[.int .i64 a2_0,.int .i64 a2_1,.int .i64 a2_2] 38 (0,0))):=⟨h3_⟩
    have n4_ : Aside0 (Below w.heap.size w w31):=⟨h4_⟩
    clear BK1
    clear BK2
    clear HB
    clear h0_ h1_ h2_ h3_ h4_
    have HO5:=n0_
    have HO8:=n1_
    have BK1:=n2_
    have BK2:=n3_
    have HB:=n4_
    clear n0_ n1_ n2_ n3_ n4_
    have hHeld : w31.cell? ⟨gb2,0,none⟩ = some (.int .i64 a2_0) ∧ w31.cell? ⟨gb2,1,none⟩ = some (.int .i64 a2_1) ∧ w31.cell? ⟨gb2,2,none⟩ = some (.int .i64 a2_2):=hS_
    obtain ⟨Ao33,co33,eo33⟩:=Kd.R_slice HO8.1
    (first | subst eo33 | (injection eo33 with f1_ f2_ f3_;have f4_:=f1_.symm;have f5_:=f3_.symm;clear f1_ f2_ f3_;subst f4_;subst f5_))
    refine norm_ (a':=?_) ?_ ?_
    rotate_left
    ·simp only [putAll,Act.put,s1_,s2_,s3_]
     rfl
    refine one_ (i:=4) (N:=some 13) #[true,true,true,true,true,false] rfl rfl (by kernel_rfl) (by decide) (fun K hK=>?_)
    refine Kd.R_append_rows_step k38 (w0:=w) w.heap.size (by rfl) (.tmp 10) (.tmp 12) 30 38 (.agg #[(.int .i64 0),(.int .i64 0),(.int .i64 0)]) 24 rfl Try.underlying30 info38 rfl (by decide) (by omega) v4 t3 y6 _ _ _ (fun k_=>some k_ ≠ (.slice Ao33 y6.length co33 : Value).ownBlock ∧ k_ ≠ gb2) (fun _=>False) rfl rfl ?aO ?aR (fun _ _ h=>h) (fun _ h=>h.elim) ?aF ?aB ?aS ?aL ?_
    (case aR=>repeat (first | exact (Kd.R_reads' HO8.1).2.2 | (with_reducible refine Kd.C_alloc ?_ _) | (with_reducible refine Kd.C_drewN ?_ _) | (with_reducible refine Kd.C_drew ?_)))
    (case aB=>exact hb_)
    (case aF=>exact (fun k_ hk=>⟨Kd.fresh' (Kd.R_lt (rr_ HO8.1)) k_ hk,Kd.freshB (bb_ BK2.1) k_ hk⟩))
    (case aO=>exact (rr_ HO5.1))
    (case aS=>exact (below_size hb_))
    (case aL=>have:=LMc5.1;omega)
    intro v10 w32 ho hb hg hat
    rw [← Ny9.1] at ho
    have n0_:=a0_ (blk_grown (bb_ BK1.1) hg (Kd.R_ne HO5.1 BK1.1 (by decide)))
    have n1_:=a0_ (blk_grown (bb_ BK2.1) hg (Kd.R_away HO5.1 (fun _ hk=>hk.2)))
    have n2_:=a0_ (Kd.R_after (ok:=(fun k_=>k_ ≠ gb2)) (by (with_reducible repeat (first | apply Kd.R_alloc | apply Kd.R_drewN | apply Kd.R_drew));exact Kd.R_mono HO8.1 (fun _ hk=>⟨hk.2,hk.1⟩)) hg hat)
    have n3_:=a0_ (hb)
    have n4_:=a0_ (ho)
    clear BK1
    clear BK2
    clear HO8
    clear HB
    clear HO5
    have BK1:=n0_
    have BK2:=n1_
    have HO8:=n2_
    have HB:=n3_
    have HO11:=n4_
    clear n0_ n1_ n2_ n3_ n4_
    clear ho hb hg hat
    refine hK.out _ _ ⟨(blk_cell BK2.1 0).trans rfl,(blk_cell BK2.1 1).trans rfl,(blk_cell BK2.1 2).trans rfl⟩ (fun hHeld=>?_)
    clear hK K
    refine norm_ (a':=?_) ?_ ?_
    rotate_left
    ·show Act.put _ (some 13) _ = _
     simp only [Act.put,s1_,s2_,s3_,i64_w,i32_w]
     rfl
    refine pure_ (i:=5) (N:=some 8) (v:=?_) (a':=?_) #[true,true,true,true,true,true] rfl rfl (by kernel_rfl) (fun _ _ _ h=>h) (Or.inl ⟨by rfl,?_⟩) ?_ ?_
    rotate_left
    ·intro w'
     go_simp
     with_reducible rfl
    rotate_left
    ·simp only [Act.put,s1_,s2_,s3_,i64_w,i32_w]
     rfl
    refine done_ (by kernel_rfl) ?_
    have hnb34:=NB1_2.1
    have hnc34:=NB2_1.1
    have hcz35_0 : w32.cell? ⟨gb1,0,none⟩ = some (.slice A0_0 l0_0.length c0_0):=(blk_cell BK1.1 0).trans rfl
    have hfz35_0:=blk_frozen BK1.1 0
    try go_wp2_with (first | ((with_reducible refine gate_callee (f:=31) rfl ?_);refine goesL_ (some 16) rfl rfl Try.func31 (by kernel_rfl) rfl #[.agg #[.slice A0_0 l0_0.length c0_0],.slice A1 l1.length c1] rfl lm_ ?_;(with_reducible refine (spec_validExits.calls k _ _ l0_0 _ _ l1 true _ ?side1 ?side2 ?side3 ?side4 A6.1).mono ?_);(case side1=>exact cc_ (Kd.C_below HR0_0.1 HB.1));(case side2=>exact HC0_0.1);(case side3=>exact cc_ (Kd.C_below HR1.1 HB.1));(case side4=>exact HC1.1);rintro e w36 ⟨rfl,hb⟩;refine ⟨_,rfl,?_⟩;have n0_:=a0_ (Kd.R_below (rr_ HO8.1) hb);have n1_:=a0_ (Kd.R_below (rr_ HO11.1) hb);have n2_:=a0_ (blk_below (bb_ BK1.1) hb);have n3_:=a0_ (blk_below (bb_ BK2.1) hb);have n4_:=a0_ (below_step hb_ hb);clear HO8 HO11;clear BK1 BK2 HB;have HO8:=n0_;have HO11:=n1_;have BK1:=n2_;have BK2:=n3_;have HB:=n4_;clear n0_ n1_ n2_ n3_ n4_;(try clear hb);(try clear hb2);(try clear hk);(try clear hi);have hcz37_0 : w36.cell? ⟨gb1,0,none⟩ = some (.slice A0_0 l0_0.length c0_0):=(blk_cell BK1.1 0).trans rfl;have hfz37_0:=blk_frozen BK1.1 0;obtain ⟨Ao38,co38,eo38⟩:=Kd.R_slice HO11.1;subst eo38) | (go_at_call 31;(with_reducible refine (spec_validExits.calls k _ _ l0_0 _ _ y9 false _ ?side1 ?side2 ?side3 ?side4 A8.1).mono ?_);(case side1=>exact cc_ (Kd.C_below HR0_0.1 HB.1));(case side2=>exact HC0_0.1);(case side3=>repeat (first | exact (Kd.R_reads' HO11.1).2.2 | (with_reducible refine Kd.C_alloc ?_ _) | (with_reducible refine Kd.C_drewN ?_ _) | (with_reducible refine Kd.C_drew ?_)));(case side4=>exact (Kd.R_reads' HO11.1).2.1);rintro e w39 ⟨rfl,hb⟩;have n0_:=a0_ (Kd.R_below (rr_ HO8.1) hb);have n1_:=a0_ (Kd.R_below (rr_ HO11.1) hb);have n2_:=a0_ (blk_below (bb_ BK1.1) hb);have n3_:=a0_ (blk_below (bb_ BK2.1) hb);have n4_:=a0_ (below_step hb_ hb);clear HO8 HO11;clear BK1 BK2 HB;have HO8:=n0_;have HO11:=n1_;have BK1:=n2_;have BK2:=n3_;have HB:=n4_;clear n0_ n1_ n2_ n3_ n4_;(try clear hb);(try clear hb2);(try clear hk);(try clear hi)))
    go_ret2
    exact ⟨_,by first | rfl | (simp [errW_none,errW_some] <;> rfl) | (simp [*,errW_none,errW_some] <;> rfl),by first | exact Kd.R_nil _ _ _ _ _ | exact Kd.N_nil _ _ _ _ _ | exact Kd.V_nil _ _ _ _ _ | exact Kd.Q_nil _ _ _ _ _ | exact Kd.S_nil _ _ _ _ _,hb_⟩
  ·replace c7:=Bool.eq_false_iff.mpr c7
   subst c7
   have H1 : (some (([] : List (S38)),false)) = some (r1,r2):=by rw [if_neg (show ¬ (false = true) by decide)] at H;exact H
   clear H
   have H:=H1
   clear H1
   simp only [Option.some.injEq,Prod.mk.injEq] at H
   obtain ⟨rfl,rfl⟩:=H
   go_enter Try.func9,Try.ntmps9
   try go_wp2_with (first | ((with_reducible refine gate_dst (N:=3) rfl ?_);refine box_event ?hg (N:=3) ?hd (cs:=#[.slice A0_0 l0_0.length c0_0]) (t:=35) ?hr ?_;(case hd=>rfl);(case hg=>rfl);(case hr=>first | (go_simp;done) | (go_simp;rfl));intro gb1 hg w40 hbox hb;have n0_:=a0_ (below_step hb_ hb);have n1_:=a0_ (hbox);have n2_:=a0_ ((by rw [hg];exact (below_size hb_) : w.heap.size ≤ gb1));have n3_:=a0_ ((by rw [hg];exact (below_size hb_) : w.heap.size ≤ gb1));clear HB;have HB:=n0_;have BK1:=n1_;have GW1:=n2_;have GE1:=n3_;clear n0_ n1_ n2_ n3_;clear hb hbox hg) | ((with_reducible refine gate_dst (N:=5) rfl ?_);refine box_event ?hg (N:=5) ?hd (cs:=#[.int .i64 a2_0,.int .i64 a2_1,.int .i64 a2_2]) (t:=38) ?hr ?_;(case hd=>rfl);(case hg=>rfl);(case hr=>first | (go_simp;done) | (go_simp;rfl));intro gb2 hg w41 hbox hb;have n0_:=a0_ (blk_below (bb_ BK1.1) hb);have n1_:=a0_ (below_step hb_ hb);have n2_:=a0_ (hbox);have n3_:=a0_ ((by rw [hg];exact (below_size hb_) : w.heap.size ≤ gb2));have n4_:=a0_ ((by rw [hg];exact (below_size hb_) : w.heap.size ≤ gb2));have n5_:=a0_ ((by rw [hg];exact Nat.ne_of_lt (blk_lt (bb_ BK1.1)) : gb1 ≠ gb2));have n6_:=a0_ ((by rw [hg];exact Nat.ne_of_gt (blk_lt (bb_ BK1.1)) : gb2 ≠ gb1));clear BK1 HB;have BK1:=n0_;have HB:=n1_;have BK2:=n2_;have GW2:=n3_;have GE2:=n4_;have NB1_2:=n5_;have NB2_1:=n6_;clear n0_ n1_ n2_ n3_ n4_ n5_ n6_;clear hb hbox hg))
   have n0_:=a0_ (blk_drew BK1.1)
   have n1_:=a0_ (blk_drew BK2.1)
   have n2_:=a0_ (below_drew1 HB.1)
   clear BK1
   clear BK2
   clear HB
   have BK1:=n0_
   have BK2:=n1_
   have HB:=n2_
   clear n0_ n1_ n2_
   refine start_ (n:=6) (S:=fun w'=>w'.cell? ⟨gb2,0,none⟩ = some (.int .i64 a2_0) ∧ w'.cell? ⟨gb2,1,none⟩ = some (.int .i64 a2_1) ∧ w'.cell? ⟨gb2,2,none⟩ = some (.int .i64 a2_2)) (ds:=[]) #[false,false,false,false,false,false] (by kernel_rfl) rfl rfl ⟨(blk_cell BK2.1 0).trans rfl,(blk_cell BK2.1 1).trans rfl,(blk_cell BK2.1 2).trans rfl⟩ (fun hHeld=>?_)
   generalize w41.drew = w42 at BK1 BK2 HB hHeld ⊢
   refine pure_ (i:=0) (N:=some 9) (v:=?_) (a':=?_) #[true,false,false,false,false,false] rfl rfl (by kernel_rfl) (fun _ _ _ h=>h) (Or.inl ⟨by rfl,?_⟩) ?_ ?_
   rotate_left
   ·intro w'
    go_simp
    with_reducible rfl
   rotate_left
   ·simp only [Act.put,s1_,s2_,s3_,i64_w,i32_w]
    rfl
   refine take_ (i:=2) (N:=some 11) (v:=?_) (a':=?_) #[true,false,true,false,false,false] rfl rfl (by kernel_rfl) (fun _ _ _ h=>h) (Or.inl ⟨by rfl,?_⟩) hHeld ?_ ?_
   rotate_left
   ·rintro w' ⟨s0,s1,s2⟩
    go_simp
    with_reducible rfl
   rotate_left
   ·simp only [Act.put,s1_,s2_,s3_,i64_w,i32_w]
    rfl
   refine join_ (σ:=Value × Value) 2 #[true,true,true,true,false,false] (fun s_=>[(10,s_.1),(12,s_.2)]) (fun s_ w'=>(w'.cell? ⟨gb2,0,none⟩ = some (.int .i64 a2_0) ∧ w'.cell? ⟨gb2,1,none⟩ = some (.int .i64 a2_1) ∧ w'.cell? ⟨gb2,2,none⟩ = some (.int .i64 a2_2)) ∧ (Kd.R k38 38 w' w.heap.size (fun k_=>some k_ ≠ (s_.2 : Value).ownBlock ∧ k_ ≠ gb2) s_.1 t3) ∧ (Kd.R k38 38 w' w.heap.size (fun k_=>some k_ ≠ (s_.1 : Value).ownBlock ∧ k_ ≠ gb2) s_.2 y6) ∧ (w'.heap[gb1]? = some (.cells #[.slice A0_0 l0_0.length c0_0] 35 (0,0))) ∧ (w'.heap[gb2]? = some (.cells #[.int .i64 a2_0,.int .i64 a2_1,.int .i64 a2_2] 38 (0,0))) ∧ (Below w.heap.size w w')) ?_ ?_
   rotate_left
   ·intro hCont
    refine two_ (i:=1) (j:=3) (Ni:=some 10) (Nj:=some 12) #[true,true,true,false,false,false] #[true,false,true,true,false,false] rfl rfl rfl rfl (by kernel_rfl) (by decide) (by decide) (fun K hK=>?_) (fun K hK=>?_)
    ·skip
     refine goes_ Try.func30 (by kernel_rfl) rfl #[.slice A1 l1.length c1] (by rfl) rfl rfl lm_ ?_
     with_reducible refine (spec_copyExits.calls _ _ l1 t3 _ ?side1 ?side2 A4.1).mono ?_
     (case side1=>exact cc_ (Kd.C_below HR1.1 HB.1))
     (case side2=>exact HC1.1)
     rintro e w43 ⟨v4,rfl,ho0,hb⟩
     refine ⟨_,rfl,?_⟩
     have n0_:=a0_ (Kd.R_lower (Kd.R_newB ho0 (bb_ BK2.1)) (below_size hb_))
     have n1_:=a0_ (blk_below (bb_ BK1.1) hb)
     have n2_:=a0_ (blk_below (bb_ BK2.1) hb)
     have n3_:=a0_ (below_step hb_ hb)
     clear BK1
     clear BK2
     clear HB
     have HO5:=n0_
     have BK1:=n1_
     have BK2:=n2_
     have HB:=n3_
     clear n0_ n1_ n2_ n3_
     (try clear hb)
     (try clear hb2)
     (try clear hk)
     (try clear hi)
     (try clear ho0)
     refine hK.out _ _ ⟨(blk_cell BK2.1 0).trans rfl,(blk_cell BK2.1 1).trans rfl,(blk_cell BK2.1 2).trans rfl⟩ (fun hHeld=>?_)
     clear hK K
     refine norm_ (a':=?_) ?_ ?_
     rotate_left
     ·show Act.put _ (some 10) _ = _
      simp only [Act.put,s1_,s2_,s3_,i64_w,i32_w]
      rfl
     refine one_ (i:=3) (N:=some 12) #[true,true,true,true,false,false] rfl rfl (by kernel_rfl) (by decide) (fun K hK=>?_)
     refine Kd.R_lit_step k38 _ 38 ?hg (N:=12) ?hd (xs:=([(⟨a2_0,a2_1,a2_2⟩ : S38)] : List (S38))) (inner:=[.int .i64 a2_0,.int .i64 a2_1,.int .i64 a2_2]) (ok:=fun _=>True) (okp:=fun _=>True) ?hr ?hp (fun _ hk=>hk) trivial (Below.refl _ _) (Nat.le_refl _) (by simp) ?_;(case hd=>rfl);(case hg=>rfl);(case hr=>first | (go_simp;done) | (go_simp;rfl));(case hp=>exact (Reps.c3 (show Kd.M k38 _ _ _ (⟨a2_0,a2_1,a2_2⟩ : S38) [.int .i64 a2_0,.int .i64 a2_1,.int .i64 a2_2] from (k38_mkM _ _ _ (⟨a2_0,a2_1,a2_2⟩ : S38) )) (Reps.none _ _)))
     intro v7 w44 ho45 hb hg_ hnew_
     clear hg_ hnew_
     (first | rw [← Ny6.1] at ho45 | (simp only [Int.reduceToNat] at ho45;rw [← Ny6.1] at ho45))
     have n0_:=a0_ (Kd.R_elder' (rr_ HO5.1) (Kd.R_base ho45) hb)
     have n1_:=a0_ (Kd.R_lower (Kd.R_newB (Kd.R_new' ho45 (Kd.R_lt (rr_ HO5.1))) (bb_ BK2.1)) (below_size hb_))
     have n2_:=a0_ (blk_below (bb_ BK1.1) hb)
     have n3_:=a0_ (blk_below (bb_ BK2.1) hb)
     have n4_:=a0_ (below_step hb_ hb)
     clear HO5
     clear BK1
     clear BK2
     clear HB
     have HO5:=n0_
     have HO8:=n1_
     have BK1:=n2_
     have BK2:=n3_
     have HB:=n4_
     clear n0_ n1_ n2_ n3_ n4_
     clear hb ho45
     refine hK.out _ _ ⟨(blk_cell BK2.1 0).trans rfl,(blk_cell BK2.1 1).trans rfl,(blk_cell BK2.1 2).trans rfl⟩ (fun hHeld=>?_)
     clear hK K
     refine norm_ (a':=?_) ?_ ?_
     rotate_left
     ·show Act.put _ (some 12) _ = _
      simp only [Act.put,s1_,s2_,s3_,i64_w,i32_w]
      rfl
     exact norm_ (by simp only [putAll,Act.put,s1_,s2_,s3_]) (hCont (v4,v7) _ ⟨hHeld,(by (with_reducible repeat (first | apply Kd.R_alloc | apply Kd.R_drewN | apply Kd.R_drew));exact Kd.R_mono HO5.1 (fun _ hk=>⟨hk.2,hk.1.2⟩)),(by (with_reducible repeat (first | apply Kd.R_alloc | apply Kd.R_drewN | apply Kd.R_drew));exact Kd.R_mono HO8.1 (fun _ hk=>⟨hk.1.2,hk.2⟩)),(bb_ BK1.1),(bb_ BK2.1),hb_⟩)
    ·skip
     refine Kd.R_lit_step k38 _ 38 ?hg (N:=12) ?hd (xs:=([(⟨a2_0,a2_1,a2_2⟩ : S38)] : List (S38))) (inner:=[.int .i64 a2_0,.int .i64 a2_1,.int .i64 a2_2]) (ok:=fun _=>True) (okp:=fun _=>True) ?hr ?hp (fun _ hk=>hk) trivial (Below.refl _ _) (Nat.le_refl _) (by simp) ?_;(case hd=>rfl);(case hg=>rfl);(case hr=>first | (go_simp;done) | (go_simp;rfl));(case hp=>exact (Reps.c3 (show Kd.M k38 _ _ _ (⟨a2_0,a2_1,a2_2⟩ : S38) [.int .i64 a2_0,.int .i64 a2_1,.int .i64 a2_2] from (k38_mkM _ _ _ (⟨a2_0,a2_1,a2_2⟩ : S38) )) (Reps.none _ _)))
     intro v7 w43 ho44 hb hg_ hnew_
     clear hg_ hnew_
     (first | rw [← Ny6.1] at ho44 | (simp only [Int.reduceToNat] at ho44;rw [← Ny6.1] at ho44))
     have n0_:=a0_ (Kd.R_lower (Kd.R_newB ho44 (bb_ BK2.1)) (below_size hb_))
     have n1_:=a0_ (blk_below (bb_ BK1.1) hb)
     have n2_:=a0_ (blk_below (bb_ BK2.1) hb)
     have n3_:=a0_ (below_step hb_ hb)
     clear BK1
     clear BK2
     clear HB
     have HO8:=n0_
     have BK1:=n1_
     have BK2:=n2_
     have HB:=n3_
     clear n0_ n1_ n2_ n3_
     clear hb ho44
     refine hK.out _ _ ⟨(blk_cell BK2.1 0).trans rfl,(blk_cell BK2.1 1).trans rfl,(blk_cell BK2.1 2).trans rfl⟩ (fun hHeld=>?_)
     clear hK K
     refine norm_ (a':=?_) ?_ ?_
     rotate_left
     ·show Act.put _ (some 12) _ = _
      simp only [Act.put,s1_,s2_,s3_,i64_w,i32_w]
      rfl
     refine one_ (i:=1) (N:=some 10) #[true,true,true,true,false,false] rfl rfl (by kernel_rfl) (by decide) (fun K hK=>?_)
     refine goes_ Try.func30 (by kernel_rfl) rfl #[.slice A1 l1.length c1] (by rfl) rfl rfl lm_ ?_
     with_reducible refine (spec_copyExits.calls _ _ l1 t3 _ ?side1 ?side2 A4.1).mono ?_
     (case side1=>exact cc_ (Kd.C_below HR1.1 HB.1))
     (case side2=>exact HC1.1)
     rintro e w45 ⟨v4,rfl,ho0,hb⟩
     refine ⟨_,rfl,?_⟩
     have n0_:=a0_ (Kd.R_elder' (rr_ HO8.1) (Kd.R_base ho0) hb)
     have n1_:=a0_ (Kd.R_lower (Kd.R_newB (Kd.R_new' ho0 (Kd.R_lt (rr_ HO8.1))) (bb_ BK2.1)) (below_size hb_))
     have n2_:=a0_ (blk_below (bb_ BK1.1) hb)
     have n3_:=a0_ (blk_below (bb_ BK2.1) hb)
     have n4_:=a0_ (below_step hb_ hb)
     clear HO8
     clear BK1
     clear BK2
     clear HB
     have HO8:=n0_
     have HO5:=n1_
     have BK1:=n2_
     have BK2:=n3_
     have HB:=n4_
     clear n0_ n1_ n2_ n3_ n4_
     (try clear hb)
     (try clear hb2)
     (try clear hk)
     (try clear hi)
     (try clear ho0)
     refine hK.out _ _ ⟨(blk_cell BK2.1 0).trans rfl,(blk_cell BK2.1 1).trans rfl,(blk_cell BK2.1 2).trans rfl⟩ (fun hHeld=>?_)
     clear hK K
     refine norm_ (a':=?_) ?_ ?_
     rotate_left
     ·show Act.put _ (some 10) _ = _
      simp only [Act.put,s1_,s2_,s3_,i64_w,i32_w]
      rfl
     exact norm_ (by simp only [putAll,Act.put,s1_,s2_,s3_]) (hCont (v4,v7) _ ⟨hHeld,(by (with_reducible repeat (first | apply Kd.R_alloc | apply Kd.R_drewN | apply Kd.R_drew));exact Kd.R_mono HO5.1 (fun _ hk=>⟨hk.1.2,hk.2⟩)),(by (with_reducible repeat (first | apply Kd.R_alloc | apply Kd.R_drewN | apply Kd.R_drew));exact Kd.R_mono HO8.1 (fun _ hk=>⟨hk.2,hk.1.2⟩)),(bb_ BK1.1),(bb_ BK2.1),hb_⟩)
   rintro ⟨v4,v7⟩ w46 ⟨hS_,h0_,h1_,h2_,h3_,h4_⟩
   have n0_ : Aside0 (Kd.R k38 38 w46 w.heap.size (fun k_=>some k_ ≠ (v7 : Value).ownBlock ∧ k_ ≠ gb2) v4 t3):=⟨h0_⟩
   have n1_ : Aside0 (Kd.R k38 38 w46 w.heap.size (fun k_=>some k_ ≠ (v4 : Value).ownBlock ∧ k_ ≠ gb2) v7 y6):=⟨h1_⟩
   have n2_ : Aside0 (w46.heap[gb1]? = some (.cells #[.slice A0_0 l0_0.length c0_0] 35 (0,0))):=⟨h2_⟩
   have n3_ : Aside0 (w46.heap[gb2]? = some (.cells #[.int .i64 a2_0,.int .i64 a2_1,.int .i64 a2_2] 38 (0,0))):=⟨h3_⟩
   have n4_ : Aside0 (Below w.heap.size w w46):=⟨h4_⟩
   clear BK1
   clear BK2
   clear HB
   clear h0_ h1_ h2_ h3_ h4_
   have HO5:=n0_
   have HO8:=n1_
   have BK1:=n2_
   have BK2:=n3_
   have HB:=n4_
   clear n0_ n1_ n2_ n3_ n4_
   have hHeld : w46.cell? ⟨gb2,0,none⟩ = some (.int .i64 a2_0) ∧ w46.cell? ⟨gb2,1,none⟩ = some (.int .i64 a2_1) ∧ w46.cell? ⟨gb2,2,none⟩ = some (.int .i64 a2_2):=hS_
   obtain ⟨Ao48,co48,eo48⟩:=Kd.R_slice HO8.1
   (first | subst eo48 | (injection eo48 with f1_ f2_ f3_;have f4_:=f1_.symm;have f5_:=f3_.symm;clear f1_ f2_ f3_;subst f4_;subst f5_))
   refine norm_ (a':=?_) ?_ ?_
   rotate_left
   ·simp only [putAll,Act.put,s1_,s2_,s3_]
    rfl
   refine one_ (i:=4) (N:=some 13) #[true,true,true,true,true,false] rfl rfl (by kernel_rfl) (by decide) (fun K hK=>?_)
   refine Kd.R_append_rows_step k38 (w0:=w) w.heap.size (by rfl) (.tmp 10) (.tmp 12) 30 38 (.agg #[(.int .i64 0),(.int .i64 0),(.int .i64 0)]) 24 rfl Try.underlying30 info38 rfl (by decide) (by omega) v4 t3 y6 _ _ _ (fun k_=>some k_ ≠ (.slice Ao48 y6.length co48 : Value).ownBlock ∧ k_ ≠ gb2) (fun _=>False) rfl rfl ?aO ?aR (fun _ _ h=>h) (fun _ h=>h.elim) ?aF ?aB ?aS ?aL ?_
   (case aR=>repeat (first | exact (Kd.R_reads' HO8.1).2.2 | (with_reducible refine Kd.C_alloc ?_ _) | (with_reducible refine Kd.C_drewN ?_ _) | (with_reducible refine Kd.C_drew ?_)))
   (case aB=>exact hb_)
   (case aF=>exact (fun k_ hk=>⟨Kd.fresh' (Kd.R_lt (rr_ HO8.1)) k_ hk,Kd.freshB (bb_ BK2.1) k_ hk⟩))
   (case aO=>exact (rr_ HO5.1))
   (case aS=>exact (below_size hb_))
   (case aL=>have:=LMc5.1;omega)
   intro v10 w47 ho hb hg hat
   rw [← Ny9.1] at ho
   have n0_:=a0_ (blk_grown (bb_ BK1.1) hg (Kd.R_ne HO5.1 BK1.1 (by decide)))
   have n1_:=a0_ (blk_grown (bb_ BK2.1) hg (Kd.R_away HO5.1 (fun _ hk=>hk.2)))
   have n2_:=a0_ (Kd.R_after (ok:=(fun k_=>k_ ≠ gb2)) (by (with_reducible repeat (first | apply Kd.R_alloc | apply Kd.R_drewN | apply Kd.R_drew));exact Kd.R_mono HO8.1 (fun _ hk=>⟨hk.2,hk.1⟩)) hg hat)
   have n3_:=a0_ (hb)
   have n4_:=a0_ (ho)
   clear BK1
   clear BK2
   clear HO8
   clear HB
   clear HO5
   have BK1:=n0_
   have BK2:=n1_
   have HO8:=n2_
   have HB:=n3_
   have HO11:=n4_
   clear n0_ n1_ n2_ n3_ n4_
   clear ho hb hg hat
   refine hK.out _ _ ⟨(blk_cell BK2.1 0).trans rfl,(blk_cell BK2.1 1).trans rfl,(blk_cell BK2.1 2).trans rfl⟩ (fun hHeld=>?_)
   clear hK K
   refine norm_ (a':=?_) ?_ ?_
   rotate_left
   ·show Act.put _ (some 13) _ = _
    simp only [Act.put,s1_,s2_,s3_,i64_w,i32_w]
    rfl
   refine pure_ (i:=5) (N:=some 8) (v:=?_) (a':=?_) #[true,true,true,true,true,true] rfl rfl (by kernel_rfl) (fun _ _ _ h=>h) (Or.inl ⟨by rfl,?_⟩) ?_ ?_
   rotate_left
   ·intro w'
    go_simp
    with_reducible rfl
   rotate_left
   ·simp only [Act.put,s1_,s2_,s3_,i64_w,i32_w]
    rfl
   refine done_ (by kernel_rfl) ?_
   have hnb49:=NB1_2.1
   have hnc49:=NB2_1.1
   have hcz50_0 : w47.cell? ⟨gb1,0,none⟩ = some (.slice A0_0 l0_0.length c0_0):=(blk_cell BK1.1 0).trans rfl
   have hfz50_0:=blk_frozen BK1.1 0
   try go_wp2_with (first | ((with_reducible refine gate_callee (f:=31) rfl ?_);refine goesL_ (some 16) rfl rfl Try.func31 (by kernel_rfl) rfl #[.agg #[.slice A0_0 l0_0.length c0_0],.slice A1 l1.length c1] rfl lm_ ?_;(with_reducible refine (spec_validExits.calls k _ _ l0_0 _ _ l1 false _ ?side1 ?side2 ?side3 ?side4 A6.1).mono ?_);(case side1=>exact cc_ (Kd.C_below HR0_0.1 HB.1));(case side2=>exact HC0_0.1);(case side3=>exact cc_ (Kd.C_below HR1.1 HB.1));(case side4=>exact HC1.1);rintro e w51 ⟨rfl,hb⟩;refine ⟨_,rfl,?_⟩;have n0_:=a0_ (Kd.R_below (rr_ HO8.1) hb);have n1_:=a0_ (Kd.R_below (rr_ HO11.1) hb);have n2_:=a0_ (blk_below (bb_ BK1.1) hb);have n3_:=a0_ (blk_below (bb_ BK2.1) hb);have n4_:=a0_ (below_step hb_ hb);clear HO8 HO11;clear BK1 BK2 HB;have HO8:=n0_;have HO11:=n1_;have BK1:=n2_;have BK2:=n3_;have HB:=n4_;clear n0_ n1_ n2_ n3_ n4_;(try clear hb);(try clear hb2);(try clear hk);(try clear hi)))
   go_ret2
   exact ⟨_,by first | rfl | (simp [errW_none,errW_some] <;> rfl) | (simp [*,errW_none,errW_some] <;> rfl),by first | exact Kd.R_nil _ _ _ _ _ | exact Kd.N_nil _ _ _ _ _ | exact Kd.V_nil _ _ _ _ _ | exact Kd.Q_nil _ _ _ _ _ | exact Kd.S_nil _ _ _ _ _,hb_⟩
 ·rw [if_neg c5] at H
  exact absurd H (by simp)
theorem spec_PushExit_ev (t : List Cls) (l : List Ext) (a b c : Int) (hs : smT t = true) (ht : t.length ≤ 9223372036854775807) (hl : l.length ≤ 1048576) : Ev (fun k=>spec_PushExit.f k t l a b c) (pushP t l a b c):=by
 refine Ev.bind (Ev.const (spec_copyExits_ev l hl)) (Ev.bind (Ev.const rfl) (Ev.pos (by simp;omega) (Ev.bind (Ev.const rfl) (Ev.bind (spec_validExits_ev t l hs ht (by omega)) ?_))))
 unfold pushP
 have h2:=spec_validExits_ev t (l ++ [⟨a,b,c⟩]) hs ht (by simp;omega)
 cases hq : vX t l with
 | false=>exact Ev.neg (by simp) (Ev.const (by simp))
 | true =>
  refine Ev.pos rfl (Ev.bind h2 ?_)
  cases hq2 : vX t (l ++ [⟨a,b,c⟩]) with
  | false=>exact Ev.neg (by simp) (Ev.const (by simp))
  | true=>exact Ev.pos rfl (Ev.const (by simp))
end Go.Proofs.Ytjcodcimodnbjaa.P
namespace Go.Proofs.Ytjcodcimodnbjaa.P
open Go.RowKit Go.Proofs.YtjcodcimodnbjaaW.PrintWords Go.Proofs.YtjcodcimodnbjaaW.PrintLast Go.Proofs.YtjcodcimodnbjaaW.PrintMore
attribute [local go_sem] max2_int min2_int max_two min_two max_three min_three max_four min_four
set_option linter.unusedVariables false
set_option linter.unusedSimpArgs false
def toC (x : S73) : Cls:=⟨x.f0,x.f1⟩
theorem smT_of {t : List S73} (h : ∀ x ∈ t,(x.f0.size : Int) ≤ 1048576) : smT (t.map toC) = true:=by
 unfold smT
 rw [List.all_eq_true]
 intro x hx
 obtain ⟨y,hy,rfl⟩:=List.mem_map.1 hx
 exact decide_eq_true (show y.f0.size < 9223372036854775807 by have:=h y hy;omega)
end Go.Proofs.Ytjcodcimodnbjaa.P
namespace Go.Proofs.Ytjcodcimodnbjaa.P
open Go.RowKit Go.Proofs.YtjcodcimodnbjaaW.PrintWords Go.Proofs.YtjcodcimodnbjaaW.PrintLast Go.Proofs.YtjcodcimodnbjaaW.PrintMore
attribute [local go_sem] max2_int min2_int max_two min_two max_three min_three max_four min_four
set_option linter.unusedVariables false
set_option linter.unusedSimpArgs false
def laws_toClass.f (a0_0 : ByteArray) (a0_1 : Int) : Option (ByteArray × Int):=some (a0_0,a0_1)
set_option maxHeartbeats 8000000 in
set_option maxRecDepth 100000 in
theorem laws_toClass.calls (a0_0 : ByteArray) (a0_1 : Int) (r1 : ByteArray) (r2 : Int) (w : World) (h : laws_toClass.f a0_0 a0_1 = some (r1,r2)) :
  Calls Try.prog 48 #[.agg #[.string a0_0,.int .i64 a0_1]] w fun e w'=>e = .returned (.agg #[.string r1,.int .i64 r2]) ∧ Below w.heap.size w w':=by
 have hu73:=Try.underlying73
 have hu76:=Try.underlying76
 have HB:=a0_ (Below.refl w.heap.size w)
 have H : (some (a0_0,a0_1)) = some (r1,r2):=h
 clear h
 simp only [Option.some.injEq,Prod.mk.injEq] at H
 obtain ⟨rfl,rfl⟩:=H
 go_enter Try.func48,Try.ntmps48
 go_wp2_with (first | ((with_reducible refine gate_dst (N:=1) rfl ?_);refine box_event ?hg (N:=1) ?hd (cs:=#[.string a0_0,.int .i64 a0_1]) (t:=73) ?hr ?_;(case hd=>rfl);(case hg=>rfl);(case hr=>first | (go_simp;done) | (go_simp;rfl));intro gb1 hg w2 hbox hb;have n0_:=a0_ (below_step hb_ hb);have n1_:=a0_ (hbox);have n2_:=a0_ ((by rw [hg];exact (below_size hb_) : w.heap.size ≤ gb1));have n3_:=a0_ ((by rw [hg];exact (below_size hb_) : w.heap.size ≤ gb1));clear HB;have HB:=n0_;have BK1:=n1_;have GW1:=n2_;have GE1:=n3_;clear n0_ n1_ n2_ n3_;clear hb hbox hg) | ((with_reducible refine gate_dst (N:=2) rfl ?_);refine box_event ?hg (N:=2) ?hd (cs:=#[.string (⟨#[]⟩ : ByteArray),.int .i64 0]) (t:=76) ?hr ?_;(case hd=>rfl);(case hg=>rfl);(case hr=>first | (go_simp;done) | (go_simp;rfl));intro gb2 hg w3 hbox hb;have n0_:=a0_ (blk_below (bb_ BK1.1) hb);have n1_:=a0_ (below_step hb_ hb);have n2_:=a0_ (hbox);have n3_:=a0_ ((by rw [hg];exact (below_size hb_) : w.heap.size ≤ gb2));have n4_:=a0_ ((by rw [hg];exact (below_size hb_) : w.heap.size ≤ gb2));have n5_:=a0_ ((by rw [hg];exact Nat.ne_of_lt (blk_lt (bb_ BK1.1)) : gb1 ≠ gb2));have n6_:=a0_ ((by rw [hg];exact Nat.ne_of_gt (blk_lt (bb_ BK1.1)) : gb2 ≠ gb1));clear BK1 HB;have BK1:=n0_;have HB:=n1_;have BK2:=n2_;have GW2:=n3_;have GE2:=n4_;have NB1_2:=n5_;have NB2_1:=n6_;clear n0_ n1_ n2_ n3_ n4_ n5_ n6_;clear hb hbox hg) | ((with_reducible refine gate_dst (N:=3) rfl ?_);refine box_event ?hg (N:=3) ?hd (cs:=#[.string (⟨#[]⟩ : ByteArray),.int .i64 0]) (t:=76) ?hr ?_;(case hd=>rfl);(case hg=>rfl);(case hr=>first | (go_simp;done) | (go_simp;rfl));intro gb3 hg w4 hbox hb;have n0_:=a0_ (blk_below (bb_ BK1.1) hb);have n1_:=a0_ (blk_below (bb_ BK2.1) hb);have n2_:=a0_ (below_step hb_ hb);have n3_:=a0_ (hbox);have n4_:=a0_ ((by rw [hg];exact (below_size hb_) : w.heap.size ≤ gb3));have n5_:=a0_ ((by rw [hg];exact (below_size hb_) : w.heap.size ≤ gb3));have n6_:=a0_ ((by rw [hg];exact Nat.ne_of_lt (blk_lt (bb_ BK1.1)) : gb1 ≠ gb3));have n7_:=a0_ ((by rw [hg];exact Nat.ne_of_gt (blk_lt (bb_ BK1.1)) : gb3 ≠ gb1));have n8_:=a0_ ((by rw [hg];exact Nat.ne_of_lt (blk_lt (bb_ BK2.1)) : gb2 ≠ gb3));have n9_:=a0_ ((by rw [hg];exact Nat.ne_of_gt (blk_lt (bb_ BK2.1)) : gb3 ≠ gb2));clear BK1 BK2 HB;have BK1:=n0_;have BK2:=n1_;have HB:=n2_;have BK3:=n3_;have GW3:=n4_;have GE3:=n5_;have NB1_3:=n6_;have NB3_1:=n7_;have NB2_3:=n8_;have NB3_2:=n9_;clear n0_ n1_ n2_ n3_ n4_ n5_ n6_ n7_ n8_ n9_;clear hb hbox hg;have hnb5:=NB1_2.1;have hnc5:=NB2_1.1;have hnb6:=NB1_3.1;have hnc6:=NB3_1.1;have hcz7_0 : w4.cell? ⟨gb1,0,none⟩ = some (.string a0_0):=(blk_cell BK1.1 0).trans rfl;have hcz7_1 : w4.cell? ⟨gb1,1,none⟩ = some (.int .i64 a0_1):=(blk_cell BK1.1 1).trans rfl;have hfz7_0:=blk_frozen BK1.1 0;have hfz7_1:=blk_frozen BK1.1 1;have hnb8:=NB3_2.1;have hnc8:=NB2_3.1;have hcz9_0 : w4.cell? ⟨gb3,0,none⟩ = some (.string (⟨#[]⟩ : ByteArray)):=(blk_cell BK3.1 0).trans rfl;have hcz9_1 : w4.cell? ⟨gb3,1,none⟩ = some (.int .i64 0):=(blk_cell BK3.1 1).trans rfl;have hfz9_0:=blk_frozen BK3.1 0;have hfz9_1:=blk_frozen BK3.1 1;have hcz10_0 : w4.cell? ⟨gb2,0,none⟩ = some (.string (⟨#[]⟩ : ByteArray)):=(blk_cell BK2.1 0).trans rfl;have hcz10_1 : w4.cell? ⟨gb2,1,none⟩ = some (.int .i64 0):=(blk_cell BK2.1 1).trans rfl;have hfz10_0:=blk_frozen BK2.1 0;have hfz10_1:=blk_frozen BK2.1 1))
 refine bodyPost_ret (results_cell_row rfl _ _ gb2 76 #[.string a0_0,.int .i64 a0_1] (0,0) _ rfl (by (with_reducible repeat (first | refine blk_drewN ?_ _ | refine blk_drew ?_ | refine blk_alloc ?_ _));refine blk_put (cs:=#[.string a0_0,.int .i64 0]) ?_ 1 _ rfl;(with_reducible repeat (first | refine blk_drewN ?_ _ | refine blk_drew ?_ | refine blk_alloc ?_ _));refine blk_put (cs:=#[.string (⟨#[]⟩ : ByteArray),.int .i64 0]) ?_ 0 _ rfl;(with_reducible repeat (first | refine blk_drewN ?_ _ | refine blk_drew ?_ | refine blk_alloc ?_ _));refine blk_far ?_ NB2_3.1 _;(with_reducible repeat (first | refine blk_drewN ?_ _ | refine blk_drew ?_ | refine blk_alloc ?_ _));refine blk_far ?_ NB2_3.1 _;(with_reducible repeat (first | refine blk_drewN ?_ _ | refine blk_drew ?_ | refine blk_alloc ?_ _));exact BK2.1) Try.underlying76 rfl (by kernel_rfl)) rfl ?_
 exact ⟨by first | rfl | (simp [errW_none,errW_some] <;> rfl) | (simp [*,errW_none,errW_some] <;> rfl),hb_⟩
end Go.Proofs.Ytjcodcimodnbjaa.P
namespace Go.Proofs.Ytjcodcimodnbjaa.P
open Go.RowKit Go.Proofs.YtjcodcimodnbjaaW.PrintWords Go.Proofs.YtjcodcimodnbjaaW.PrintLast Go.Proofs.YtjcodcimodnbjaaW.PrintMore
attribute [local go_sem] max2_int min2_int max_two min_two max_three min_three max_four min_four
set_option linter.unusedVariables false
set_option linter.unusedSimpArgs false
def laws_toClassS.l0 : Nat → List (S73) → List (S76) → Int → Option ((List (S76)))
 | 0,_,_,_=>none
 | k + 1,x0,x3,x4=>if x4 < (x0.length : Int) then (if 0 ≤ x4 then ((laws_toClass.f ((rd_T73 x0 x4).f0) ((rd_T73 x0 x4).f1)).bind fun bt5=>(if x4 < (x3.length : Int) then (laws_toClassS.l0 k x0 (x3.set (x4 : Int).toNat (⟨bt5.1,bt5.2⟩ : S76)) (wrap64 (x4 + 1))) else (none))) else (none)) else (some x3)
def laws_toClassS.f (k : Nat) (l0 : List (S73)) : Option ((List (S76))):=if 0 ≤ (l0.length : Int) then (if ((l0.length : Int) : Int).toNat ≤ 11728124029610 then (laws_toClassS.l0 k l0 (List.replicate ((l0.length : Int) : Int).toNat z76) 0) else (none)) else (none)
theorem laws_toClassS.mono_l : ∀ k,(∀ y0 y1 y2,LeO (laws_toClassS.l0 k y0 y1 y2) (laws_toClassS.l0 (k + 1) y0 y1 y2))
 | 0=>fun _ _ _ r h=>by simp [laws_toClassS.l0] at h
 | k + 1=>by
  have ih0:=laws_toClassS.mono_l k
  ·intro y0 y1 y2
   unfold laws_toClassS.l0
   repeat' first
   | (with_reducible exact ih0 _ _ _)
   | (with_reducible exact LeO.refl _)
   | (with_reducible exact LeO.none _)
   | (with_reducible refine LeO.ite ?_ ?_)
   | (with_reducible refine LeO.bind ?_ (fun _=>?_))
   | exact ih0 _ _ _
   | exact LeO.none _
   | refine LeO.ite ?_ ?_
   | refine LeO.bind ?_ (fun _=>?_)
theorem laws_toClassS.mono : ∀ a0 k,LeO (laws_toClassS.f k a0) (laws_toClassS.f (k + 1) a0):=by
 intro a0 k
 have ih0:=laws_toClassS.mono_l k
 unfold laws_toClassS.f
 repeat' first
   | (with_reducible exact ih0 _ _ _)
   | (with_reducible exact LeO.refl _)
   | (with_reducible exact LeO.none _)
   | (with_reducible refine LeO.ite ?_ ?_)
   | (with_reducible refine LeO.bind ?_ (fun _=>?_))
   | exact ih0 _ _ _
   | exact LeO.none _
   | refine LeO.ite ?_ ?_
   | refine LeO.bind ?_ (fun _=>?_)
set_option maxHeartbeats 8000000 in
set_option maxRecDepth 100000 in
theorem laws_toClassS.calls (k : Nat) (A0 : Option Addr) (c0 : Nat) (l0 : List (S73)) (r : List (S76)) (w : World) (hr0 : Kd.C k73 w A0 l0.length l0) (hc0 : l0.length ≤ c0) (h : laws_toClassS.f k l0 = some r) :
  Calls Try.prog 32 #[.slice A0 l0.length c0] w fun e w'=>∃ v0_ : Value,e = .returned (v0_) ∧ Kd.R k76 76 w' w.heap.size (fun _=>True) v0_ r ∧ Below w.heap.size w w':=by
 have hu73:=Try.underlying73
 have hu76:=Try.underlying76
 have HR0:=a0_ hr0
 have HC0:=a0_ hc0
 clear hr0 hc0
 have HB:=a0_ (Below.refl w.heap.size w)
 have H : (if 0 ≤ (l0.length : Int) then (if ((l0.length : Int) : Int).toNat ≤ 11728124029610 then (laws_toClassS.l0 k l0 (List.replicate ((l0.length : Int) : Int).toNat z76) 0) else (none)) else (none)) = some r:=h
 clear h
 by_cases c2 : 0 ≤ (l0.length : Int)
 ·rw [if_pos c2] at H
  have c2b0:=eq_true c2
  have c2b1 : decide (0 ≤ (l0.length : Int)) = true:=decide_eq_true c2
  clear c2
  by_cases c3 : ((l0.length : Int) : Int).toNat ≤ 11728124029610
  ·rw [if_pos c3] at H
   have c3b0:=eq_true c3
   have c3b1 : decide (((l0.length : Int) : Int).toNat ≤ 11728124029610) = true:=decide_eq_true c3
   clear c3
   obtain ⟨y1,hy1⟩ : ∃ y_ : List (S76),y_ = (List.replicate ((l0.length : Int) : Int).toNat z76):=⟨_,rfl⟩
   replace H : (laws_toClassS.l0 k l0 y1 0) = some r:=by first | (rw [hy1];with_reducible exact H) | (have H2_:=(Option.bind_some _ _).symm.trans H;rw [hy1];with_reducible exact H2_) | (have H2_:=(Option.bind_some _ _).symm.trans H;with_reducible exact H2_) | with_reducible exact H | (rw [hy1];exact H) | exact H
   have Ny1:=a0_ hy1
   clear hy1
   have H':=a0_ H
   clear H
   go_enter Try.func32,Try.ntmps32
   go_wp2_with (first | ((with_reducible refine gate_dst (N:=7) rfl ?_);refine Kd.R_make k76 _ 76 rfl (N:=7) rfl 33 _ _ rfl (l0.length : Int) rfl rfl Try.underlying33 (.agg #[(.string ⟨#[]⟩),(.int .i64 0)]) 24 info76 rfl (by decide) (by omega) z76 (ok:=fun _=>True) (okp:=fun _=>True) (k76_mkM _ _ _ z76 ) (fun _ hk=>hk) trivial (of_decide_eq_true (by first | (with_reducible assumption) | assumption)) (Nat.le_trans (Nat.mul_le_mul_right _ (of_decide_eq_true (by first | (with_reducible assumption) | assumption) : (l0.length : Int).toNat ≤ 11728124029610)) (by omega)) (Below.refl _ _) (Nat.le_refl _) ?_;intro v2 w4 ho5 hb hg_ hnew_;clear hg_ hnew_;(first | rw [← Ny1.1] at ho5 | (simp only [Int.reduceToNat] at ho5;rw [← Ny1.1] at ho5));have n0_:=a0_ (Kd.R_lower ho5 (below_size hb_));have n1_:=a0_ (below_step hb_ hb);clear HB;have HO3:=n0_;have HB:=n1_;clear n0_ n1_;clear hb ho5))
   go_loopg [4] k (fun kq v4 w'=>∃ (x3_1 : List (S76)) (x4_1 : Int),v4 = .int .i64 x4_1 ∧ Aside0 (laws_toClassS.l0 kq l0 x3_1 x4_1 = some r) ∧ Aside0 (kq ≤ k) ∧ Aside0 (Kd.R k76 76 w' w.heap.size (fun _=>True) v2 x3_1) ∧ Aside0 (Below w.heap.size w w'))
   case atStart=>exact ⟨(y1),(0),(by first | rfl | (simp;done) | (simp [*];done)),H',⟨Nat.le_refl _⟩,⟨by (with_reducible repeat (first | apply Kd.R_alloc | apply Kd.R_drewN | apply Kd.R_drew));exact HO3.1⟩,⟨hb_⟩⟩
   case round =>
    clear H'
    try clear c2
    try clear c2b0
    try clear c2b1
    try clear p2
    try clear c3
    try clear c3b0
    try clear c3b1
    obtain ⟨x3_1,x4_1,rfl,HA,HK1,HO_3,HB⟩:=hrel
    cases gk with
    | zero=>exact absurd HA.out (by simp [laws_toClassS.l0])
    | succ k1 =>
     have H:=HA.out
     clear HA
     simp only [laws_toClassS.l0] at H
     by_cases c6 : x4_1 < (l0.length : Int)
     ·rw [if_pos c6] at H
      have c6b0 : decide (x4_1 < (l0.length : Int)) = true:=decide_eq_true c6
      clear c6
      by_cases c7 : 0 ≤ x4_1
      ·rw [if_pos c7] at H
       have c7b0 : decide (0 ≤ x4_1) = true:=decide_eq_true c7
       clear c7
       replace H:=Option.bind_eq_some_iff.mp H
       obtain ⟨⟨t5,t6⟩,A80,H⟩:=H
       replace H : (if x4_1 < (x3_1.length : Int) then (laws_toClassS.l0 k1 l0 (x3_1.set (x4_1 : Int).toNat (⟨t5,t6⟩ : S76)) (wrap64 (x4_1 + 1))) else (none)) = some r:=H
       have A8:=a0_ A80
       clear A80
       by_cases c9 : x4_1 < (x3_1.length : Int)
       ·rw [if_pos c9] at H
        have c9b0 : decide (x4_1 < (x3_1.length : Int)) = true:=decide_eq_true c9
        clear c9
        obtain ⟨y7,hy7⟩ : ∃ y_ : List (S76),y_ = (x3_1.set (x4_1 : Int).toNat (⟨t5,t6⟩ : S76)):=⟨_,rfl⟩
        replace H : (laws_toClassS.l0 k1 l0 y7 (wrap64 (x4_1 + 1))) = some r:=by first | (rw [hy7];with_reducible exact H) | (have H2_:=(Option.bind_some _ _).symm.trans H;rw [hy7];with_reducible exact H2_) | (have H2_:=(Option.bind_some _ _).symm.trans H;with_reducible exact H2_) | with_reducible exact H | (rw [hy7];exact H) | exact H
        have Ny7:=a0_ hy7
        clear hy7
        have H':=a0_ H
        clear H
        have p4 : 0 ≤ (x4_1 : Int):=of_decide_eq_true (by first | (with_reducible assumption) | assumption)
        have q4 : x4_1 < (l0.length : Int):=of_decide_eq_true (by first | (with_reducible assumption) | assumption)
        obtain ⟨ad4,e4,hx4_0,hx4_1⟩:=at_T73 HR0.1 x4_1 p4 q4
        cases e4
        replace hx4_0:=(HB.1.cell (World.block_lt_of_cell? w _ hx4_0)).trans hx4_0
        replace hx4_1:=(HB.1.cell (World.block_lt_of_cell? w _ hx4_1)).trans hx4_1
        replace p4:=eq_true p4
        replace q4:=eq_true q4
        go_wp2_with (first | ((with_reducible refine gate_callee (f:=48) rfl ?_);refine goesL_ (some 20) rfl rfl Try.func48 (by kernel_rfl) rfl #[.agg #[.string ((rd_T73 l0 x4_1).f0),.int .i64 ((rd_T73 l0 x4_1).f1)]] rfl lm_ ?_;(with_reducible refine (laws_toClass.calls ((rd_T73 l0 x4_1).f0) ((rd_T73 l0 x4_1).f1) t5 t6 _ A8.1).mono ?_);rintro e w11 ⟨rfl,hb⟩;refine ⟨_,rfl,?_⟩;have n0_:=a0_ (Kd.R_below (rr_ HO_3.1) hb);have n1_:=a0_ (below_step hb_ hb);clear HO_3 HB;have HO_3:=n0_;have HB:=n1_;clear n0_ n1_;(try clear hb);(try clear hb2);(try clear hk);(try clear hi);have p10 : 0 ≤ (x4_1 : Int):=of_decide_eq_true (by first | (with_reducible assumption) | assumption);have q10 : (x4_1 : Int) < ((x3_1.length : Int) : Int):=of_decide_eq_true (by first | (with_reducible assumption) | assumption);obtain ⟨go10,co10,eo10,gb10,gl10,cl10,HG10⟩:=Kd.R_form HO_3.1 (by omega);(first | cases eo10 | (injection eo10 with ea_ en_ ec_;(first | subst ea_ | (injection ea_ with ea_;subst ea_));subst ec_;clear en_));have GB10:=a0_ gb10;have GG10:=a0_ HG10;clear gb10 gl10 HG10;obtain ⟨ce10,hcl10,hM10,hcc10,hfr10⟩:=Kd.R_elem HO_3.1 z76 (x4_1 : Int) p10 q10;obtain rfl:=k76_openM hM10;have hx10_0 : w11.cell? ⟨go10,(x4_1 : Int).toNat * 2,none⟩ = some (.string ((rd_T76 x3_1 x4_1).f0)):=hcc10 0 _ rfl;have hx10_1 : w11.cell? ⟨go10,(x4_1 : Int).toNat * 2 + 1,none⟩ = some (.int .i64 ((rd_T76 x3_1 x4_1).f1)):=hcc10 1 _ rfl;have hf10_0 : w11.frozen? ⟨go10,(x4_1 : Int).toNat * 2,none⟩ = false:=hfr10 0;have hf10_1 : w11.frozen? ⟨go10,(x4_1 : Int).toNat * 2 + 1,none⟩ = false:=hfr10 1;clear hcl10 hcc10 hfr10 hM10;replace p10:=eq_true p10;replace q10:=eq_true q10;have HX12:=a0_ (show Kd.R k76 76 w11 w.heap.size (fun _=>True) (.slice (some ⟨go10,0,none⟩) x3_1.length co10) x3_1 from (rr_ HO_3.1));obtain ⟨ce12,hcl12,hM12,hcc12,hfr12⟩:=Kd.R_elem HX12.out z76 (x4_1 : Int) (of_decide_eq_true (by first | (with_reducible assumption) | assumption)) (by have h_ : (x4_1 : Int) < ((x3_1.length : Int) : Int):=of_decide_eq_true (by first | (with_reducible assumption) | assumption);first | exact h_ | (have e_:=(Kd.R_reads' HO_3.1).1;omega) | simpa using h_);obtain rfl:=k76_openM hM12;have HP12:=Kd.R_seg HX12.out (x4_1 : Int) (of_decide_eq_true (by first | (with_reducible assumption) | assumption)) (by have h_ : (x4_1 : Int) < ((x3_1.length : Int) : Int):=of_decide_eq_true (by first | (with_reducible assumption) | assumption);first | exact h_ | (have e_:=(Kd.R_reads' HO_3.1).1;omega) | simpa using h_) (seg:=[.string t5,.int .i64 t6]) (j:=0) hcl12 hcc12 (show 2 ≤ 2 from by decide) (x':=(⟨t5,t6⟩ : S76)) (k76_mkM _ _ _ (⟨t5,t6⟩ : S76) ) (fun _ hk=>hk);have hx12_0:=hcc12 0 _ rfl;(try simp only [show (k76).sz = 2 from rfl,Nat.mul_one,Nat.add_zero] at hx12_0);have hf12_0:=hfr12 0;(try simp only [show (k76).sz = 2 from rfl,Nat.mul_one,Nat.add_zero] at hf12_0);have hx12_1:=hcc12 1 _ rfl;(try simp only [show (k76).sz = 2 from rfl,Nat.mul_one,Nat.add_zero] at hx12_1);have hf12_1:=hfr12 1;(try simp only [show (k76).sz = 2 from rfl,Nat.mul_one,Nat.add_zero] at hf12_1);clear hcl12 hcc12 hfr12 hM12) | ((with_reducible refine gate_store (t:=76) (p:=21) rfl ?_);refine store_event (t:=76) (p:=21) (v:=?vo_w13) (w1:=((w11.setCell ⟨go10,(x4_1 : Int).toNat * 2,none⟩ (.string t5)).setCell ⟨go10,(x4_1 : Int).toNat * 2 + 1,none⟩ (.int .i64 t6))) ?hg ?ho ?hn ?hr ?_;(case ho=>rfl);(case hg=>rfl);(case hn=>rfl);(case hr=>first | (go_simp;done) | (go_simp;rfl));intro w13 hw;have hg : w11.grownBy w13 (some go10):=(by rw [hw];exact HP12.2);have hp_ : Kd.R k76 76 w13 w.heap.size (fun _=>True) (.slice (some ⟨go10,0,none⟩) x3_1.length co10) y7:=(by rw [hw,Ny7.1];exact HP12.1);clear HP12;have n0_:=a0_ (hp_);have n1_:=a0_ ((by rw [hw];exact below_set (below_set (HB.1) GB10.out) GB10.out : Below w.heap.size w w13));clear HO_3 HB;have HO_3:=n0_;have HB:=n1_;clear n0_ n1_;clear hg hw hp_))
        go_roundg k1
        case measure=>have:=HK1.1;omega
        case rel=>exact ⟨(y7),(wrap64 (x4_1 + 1)),(by first | rfl | (simp;done) | (simp [*];done)),H',⟨by have:=HK1.1;omega⟩,⟨by (with_reducible repeat (first | apply Kd.R_alloc | apply Kd.R_drewN | apply Kd.R_drew));exact HO_3.1⟩,⟨hb_⟩⟩
       ·rw [if_neg c9] at H
        exact absurd H (by simp)
      ·rw [if_neg c7] at H
       exact absurd H (by simp)
     ·rw [if_neg c6] at H
      have c6b0 : decide (x4_1 < (l0.length : Int)) = false:=decide_eq_false c6
      clear c6
      obtain rfl:=Option.some.inj H
      go_wp2
      go_ret
      exact ⟨_,by first | rfl | (simp [errW_none,errW_some] <;> rfl) | (simp [*,errW_none,errW_some] <;> rfl),by (with_reducible repeat (first | apply Kd.R_alloc | apply Kd.R_drewN | apply Kd.R_drew));exact HO_3.1,hb_⟩
  ·rw [if_neg c3] at H
   exact absurd H (by simp)
 ·rw [if_neg c2] at H
  exact absurd H (by simp)
theorem laws_toClassS_ev (t : List S73) (ht : t.length ≤ 1048576) : Ev (fun k=>laws_toClassS.f k t) (t.map toC):=by
 have h:=st_loop (fun k acc i=>laws_toClassS.l0 k t acc i) t.length (fun i=>((t.take i).map toC) ++ List.replicate (t.length - i) z76) (t.map toC) (by
  intro k i hi
  simp only [laws_toClassS.l0,laws_toClass.f,Option.bind_some]
  rw [if_pos (by omega),if_pos (by omega),if_pos (by rw [fill_len _ _ _ _ (by omega)];omega),wrap_succ (i:=(i : Int)) (n:=t.length) (by omega) (by omega) (by omega)]
  have:=fill_at t toC z73 z76 i hi
  rw [show ((i : Int) : Int).toNat = i by omega]
  rw [show (⟨(rd_T73 t (i : Int)).f0,(rd_T73 t (i : Int)).f1⟩ : Cls) = toC (t.getD i z73) from by simp [toC,rd_T73],this]
  rfl) (by
  intro k
  simp only [laws_toClassS.l0]
  rw [if_neg (by omega)]
  simp)
 refine Ev.of_mono (laws_toClassS.mono t) (K:=t.length + 1) ?_
 unfold laws_toClassS.f
 rw [if_pos (by omega),if_pos (by omega)]
 simpa using h
end Go.Proofs.Ytjcodcimodnbjaa.P
namespace Go.Proofs.Ytjcodcimodnbjaa.P
open Go.RowKit Go.Proofs.YtjcodcimodnbjaaW.PrintWords Go.Proofs.YtjcodcimodnbjaaW.PrintLast Go.Proofs.YtjcodcimodnbjaaW.PrintMore
attribute [local go_sem] max2_int min2_int max_two min_two max_three min_three max_four min_four
set_option linter.unusedVariables false
set_option linter.unusedSimpArgs false
def laws_toTree.f (k : Nat) (l0_0 : List (S73)) : Option ((List (S76))):=(laws_toClassS.f k l0_0).bind fun t4=>(some t4)
theorem laws_toTree.mono : ∀ a0 k,LeO (laws_toTree.f k a0) (laws_toTree.f (k + 1) a0):=by
 intro a0 k
 unfold laws_toTree.f
 repeat' first
   | (with_reducible exact laws_toClassS.mono _ _)
   | (with_reducible exact LeO.refl _)
   | (with_reducible exact LeO.none _)
   | (with_reducible refine LeO.ite ?_ ?_)
   | (with_reducible refine LeO.bind ?_ (fun _=>?_))
   | exact laws_toClassS.mono _ _
   | exact LeO.none _
   | refine LeO.ite ?_ ?_
   | refine LeO.bind ?_ (fun _=>?_)
set_option maxHeartbeats 8000000 in
set_option maxRecDepth 100000 in
theorem laws_toTree.calls (k : Nat) (A0_0 : Option Addr) (c0_0 : Nat) (l0_0 : List (S73)) (r : List (S76)) (w : World) (hr0_0 : Kd.C k73 w A0_0 l0_0.length l0_0) (hc0_0 : l0_0.length ≤ c0_0) (h : laws_toTree.f k l0_0 = some r) :
  Calls Try.prog 10 #[.agg #[.slice A0_0 l0_0.length c0_0]] w fun e w'=>∃ v0_ : Value,e = .returned (.agg #[v0_]) ∧ Kd.R k76 76 w' w.heap.size (fun _=>True) v0_ r ∧ Below w.heap.size w w':=by
 have hu24:=Try.underlying24
 have hu35:=Try.underlying35
 have HR0_0:=a0_ hr0_0
 have HC0_0:=a0_ hc0_0
 clear hr0_0 hc0_0
 have HB:=a0_ (Below.refl w.heap.size w)
 have H : ((laws_toClassS.f k l0_0).bind fun t4=>(some t4)) = some r:=h
 clear h
 replace H:=Option.bind_eq_some_iff.mp H
 obtain ⟨t4,A20,H⟩:=H
 replace H : (some t4) = some r:=H
 have A2:=a0_ A20
 clear A20
 obtain rfl:=Option.some.inj H
 go_enter Try.func10,Try.ntmps10
 go_wp2_with (first | ((with_reducible refine gate_dst (N:=1) rfl ?_);refine box_event ?hg (N:=1) ?hd (cs:=#[.slice A0_0 l0_0.length c0_0]) (t:=24) ?hr ?_;(case hd=>rfl);(case hg=>rfl);(case hr=>first | (go_simp;done) | (go_simp;rfl));intro gb1 hg w3 hbox hb;have n0_:=a0_ (below_step hb_ hb);have n1_:=a0_ (hbox);have n2_:=a0_ ((by rw [hg];exact (below_size hb_) : w.heap.size ≤ gb1));have n3_:=a0_ ((by rw [hg];exact (below_size hb_) : w.heap.size ≤ gb1));clear HB;have HB:=n0_;have BK1:=n1_;have GW1:=n2_;have GE1:=n3_;clear n0_ n1_ n2_ n3_;clear hb hbox hg) | ((with_reducible refine gate_dst (N:=2) rfl ?_);refine box_event ?hg (N:=2) ?hd (cs:=#[.slice none 0 0]) (t:=35) ?hr ?_;(case hd=>rfl);(case hg=>rfl);(case hr=>first | (go_simp;done) | (go_simp;rfl));intro gb2 hg w4 hbox hb;have n0_:=a0_ (blk_below (bb_ BK1.1) hb);have n1_:=a0_ (below_step hb_ hb);have n2_:=a0_ (hbox);have n3_:=a0_ ((by rw [hg];exact (below_size hb_) : w.heap.size ≤ gb2));have n4_:=a0_ ((by rw [hg];exact (below_size hb_) : w.heap.size ≤ gb2));have n5_:=a0_ ((by rw [hg];exact Nat.ne_of_lt (blk_lt (bb_ BK1.1)) : gb1 ≠ gb2));have n6_:=a0_ ((by rw [hg];exact Nat.ne_of_gt (blk_lt (bb_ BK1.1)) : gb2 ≠ gb1));clear BK1 HB;have BK1:=n0_;have HB:=n1_;have BK2:=n2_;have GW2:=n3_;have GE2:=n4_;have NB1_2:=n5_;have NB2_1:=n6_;clear n0_ n1_ n2_ n3_ n4_ n5_ n6_;clear hb hbox hg) | ((with_reducible refine gate_dst (N:=3) rfl ?_);refine box_event ?hg (N:=3) ?hd (cs:=#[.slice none 0 0]) (t:=35) ?hr ?_;(case hd=>rfl);(case hg=>rfl);(case hr=>first | (go_simp;done) | (go_simp;rfl));intro gb3 hg w5 hbox hb;have n0_:=a0_ (blk_below (bb_ BK1.1) hb);have n1_:=a0_ (blk_below (bb_ BK2.1) hb);have n2_:=a0_ (below_step hb_ hb);have n3_:=a0_ (hbox);have n4_:=a0_ ((by rw [hg];exact (below_size hb_) : w.heap.size ≤ gb3));have n5_:=a0_ ((by rw [hg];exact (below_size hb_) : w.heap.size ≤ gb3));have n6_:=a0_ ((by rw [hg];exact Nat.ne_of_lt (blk_lt (bb_ BK1.1)) : gb1 ≠ gb3));have n7_:=a0_ ((by rw [hg];exact Nat.ne_of_gt (blk_lt (bb_ BK1.1)) : gb3 ≠ gb1));have n8_:=a0_ ((by rw [hg];exact Nat.ne_of_lt (blk_lt (bb_ BK2.1)) : gb2 ≠ gb3));have n9_:=a0_ ((by rw [hg];exact Nat.ne_of_gt (blk_lt (bb_ BK2.1)) : gb3 ≠ gb2));clear BK1 BK2 HB;have BK1:=n0_;have BK2:=n1_;have HB:=n2_;have BK3:=n3_;have GW3:=n4_;have GE3:=n5_;have NB1_3:=n6_;have NB3_1:=n7_;have NB2_3:=n8_;have NB3_2:=n9_;clear n0_ n1_ n2_ n3_ n4_ n5_ n6_ n7_ n8_ n9_;clear hb hbox hg;have hnb6:=NB1_2.1;have hnc6:=NB2_1.1;have hnb7:=NB1_3.1;have hnc7:=NB3_1.1;have hcz8_0 : w5.cell? ⟨gb1,0,none⟩ = some (.slice A0_0 l0_0.length c0_0):=(blk_cell BK1.1 0).trans rfl;have hfz8_0:=blk_frozen BK1.1 0) | ((with_reducible refine gate_callee (f:=32) rfl ?_);refine goesL_ (some 6) rfl rfl Try.func32 (by kernel_rfl) rfl #[.slice A0_0 l0_0.length c0_0] rfl lm_ ?_;(with_reducible refine (laws_toClassS.calls k _ _ l0_0 t4 _ ?side1 ?side2 A2.1).mono ?_);(case side1=>exact cc_ (Kd.C_below HR0_0.1 HB.1));(case side2=>exact HC0_0.1);rintro e w9 ⟨v5,rfl,ho0,hb⟩;refine ⟨_,rfl,?_⟩;have n0_:=a0_ (Kd.R_lower ho0 (below_size hb_));have n1_:=a0_ (blk_below (bb_ BK1.1) hb);have n2_:=a0_ (blk_below (bb_ BK2.1) hb);have n3_:=a0_ (blk_below (bb_ BK3.1) hb);have n4_:=a0_ (below_step hb_ hb);clear BK1 BK2;clear BK3 HB;have HO6:=n0_;have BK1:=n1_;have BK2:=n2_;have BK3:=n3_;have HB:=n4_;clear n0_ n1_ n2_ n3_ n4_;(try clear hb);(try clear hb2);(try clear hk);(try clear hi);(try clear ho0);obtain ⟨Ao10,co10,eo10⟩:=Kd.R_slice HO6.1;subst eo10;have hnb11:=NB3_2.1;have hnc11:=NB2_3.1;have hcz12_0 : w9.cell? ⟨gb3,0,none⟩ = some (.slice none 0 0):=(blk_cell BK3.1 0).trans rfl;have hfz12_0:=blk_frozen BK3.1 0;have hcz13_0 : w9.cell? ⟨gb2,0,none⟩ = some (.slice none 0 0):=(blk_cell BK2.1 0).trans rfl;have hfz13_0:=blk_frozen BK2.1 0))
 refine bodyPost_ret (results_cell_row rfl _ _ gb2 35 #[.slice Ao10 t4.length co10] (0,0) _ rfl (by (with_reducible repeat (first | refine blk_drewN ?_ _ | refine blk_drew ?_ | refine blk_alloc ?_ _));refine blk_put (cs:=#[.slice none 0 0]) ?_ 0 _ rfl;(with_reducible repeat (first | refine blk_drewN ?_ _ | refine blk_drew ?_ | refine blk_alloc ?_ _));refine blk_far ?_ NB2_3.1 _;(with_reducible repeat (first | refine blk_drewN ?_ _ | refine blk_drew ?_ | refine blk_alloc ?_ _));exact BK2.1) Try.underlying35 rfl (by kernel_rfl)) rfl ?_
 exact ⟨_,by first | rfl | (simp [errW_none,errW_some] <;> rfl) | (simp [*,errW_none,errW_some] <;> rfl),by (with_reducible repeat (first | apply Kd.R_alloc | apply Kd.R_drewN | apply Kd.R_drew));exact Kd.R_mono (Kd.R_far (p:=⟨gb2,0,none⟩) (Kd.R_far (p:=⟨gb3,0,none⟩) (Kd.R_types (Kd.R_types HO6.1 BK3.1 (by decide)) BK2.1 (by decide)) (fun _ hk=>hk.1.2) (.slice Ao10 t4.length co10)) (fun _ hk=>hk.2) (.slice Ao10 t4.length co10)) (fun _ hk=>trivial),hb_⟩
theorem laws_toTree_ev (t : List S73) (ht : t.length ≤ 1048576) : Ev (fun k=>laws_toTree.f k t) (t.map toC) :=
 Ev.bind (laws_toClassS_ev t ht) (Ev.const rfl)
end Go.Proofs.Ytjcodcimodnbjaa.P
namespace Go.Proofs.Ytjcodcimodnbjaa.P
open Go.RowKit Go.Proofs.YtjcodcimodnbjaaW.PrintWords Go.Proofs.YtjcodcimodnbjaaW.PrintLast Go.Proofs.YtjcodcimodnbjaaW.PrintMore
attribute [local go_sem] max2_int min2_int max_two min_two max_three min_three max_four min_four
set_option linter.unusedVariables false
set_option linter.unusedSimpArgs false
def laws_toExit.f (a0_0 : Int) (a0_1 : Int) (a0_2 : Int) : Option (Int × Int × Int):=some (a0_0,a0_1,a0_2)
set_option maxHeartbeats 8000000 in
set_option maxRecDepth 100000 in
theorem laws_toExit.calls (a0_0 : Int) (a0_1 : Int) (a0_2 : Int) (r1 : Int) (r2 : Int) (r3 : Int) (w : World) (h : laws_toExit.f a0_0 a0_1 a0_2 = some (r1,r2,r3)) :
  Calls Try.prog 12 #[.agg #[.int .i64 a0_0,.int .i64 a0_1,.int .i64 a0_2]] w fun e w'=>e = .returned (.agg #[.int .i64 r1,.int .i64 r2,.int .i64 r3]) ∧ Below w.heap.size w w':=by
 have hu27:=Try.underlying27
 have hu38:=Try.underlying38
 have HB:=a0_ (Below.refl w.heap.size w)
 have H : (some (a0_0,a0_1,a0_2)) = some (r1,r2,r3):=h
 clear h
 simp only [Option.some.injEq,Prod.mk.injEq] at H
 obtain ⟨rfl,rfl,rfl⟩:=H
 go_enter Try.func12,Try.ntmps12
 go_wp2_with (first | ((with_reducible refine gate_dst (N:=1) rfl ?_);refine box_event ?hg (N:=1) ?hd (cs:=#[.int .i64 a0_0,.int .i64 a0_1,.int .i64 a0_2]) (t:=27) ?hr ?_;(case hd=>rfl);(case hg=>rfl);(case hr=>first | (go_simp;done) | (go_simp;rfl));intro gb1 hg w2 hbox hb;have n0_:=a0_ (below_step hb_ hb);have n1_:=a0_ (hbox);have n2_:=a0_ ((by rw [hg];exact (below_size hb_) : w.heap.size ≤ gb1));have n3_:=a0_ ((by rw [hg];exact (below_size hb_) : w.heap.size ≤ gb1));clear HB;have HB:=n0_;have BK1:=n1_;have GW1:=n2_;have GE1:=n3_;clear n0_ n1_ n2_ n3_;clear hb hbox hg) | ((with_reducible refine gate_dst (N:=2) rfl ?_);refine box_event ?hg (N:=2) ?hd (cs:=#[.int .i64 0,.int .i64 0,.int .i64 0]) (t:=38) ?hr ?_;(case hd=>rfl);(case hg=>rfl);(case hr=>first | (go_simp;done) | (go_simp;rfl));intro gb2 hg w3 hbox hb;have n0_:=a0_ (blk_below (bb_ BK1.1) hb);have n1_:=a0_ (below_step hb_ hb);have n2_:=a0_ (hbox);have n3_:=a0_ ((by rw [hg];exact (below_size hb_) : w.heap.size ≤ gb2));have n4_:=a0_ ((by rw [hg];exact (below_size hb_) : w.heap.size ≤ gb2));have n5_:=a0_ ((by rw [hg];exact Nat.ne_of_lt (blk_lt (bb_ BK1.1)) : gb1 ≠ gb2));have n6_:=a0_ ((by rw [hg];exact Nat.ne_of_gt (blk_lt (bb_ BK1.1)) : gb2 ≠ gb1));clear BK1 HB;have BK1:=n0_;have HB:=n1_;have BK2:=n2_;have GW2:=n3_;have GE2:=n4_;have NB1_2:=n5_;have NB2_1:=n6_;clear n0_ n1_ n2_ n3_ n4_ n5_ n6_;clear hb hbox hg) | ((with_reducible refine gate_dst (N:=3) rfl ?_);refine box_event ?hg (N:=3) ?hd (cs:=#[.int .i64 0,.int .i64 0,.int .i64 0]) (t:=38) ?hr ?_;(case hd=>rfl);(case hg=>rfl);(case hr=>first | (go_simp;done) | (go_simp;rfl));intro gb3 hg w4 hbox hb;have n0_:=a0_ (blk_below (bb_ BK1.1) hb);have n1_:=a0_ (blk_below (bb_ BK2.1) hb);have n2_:=a0_ (below_step hb_ hb);have n3_:=a0_ (hbox);have n4_:=a0_ ((by rw [hg];exact (below_size hb_) : w.heap.size ≤ gb3));have n5_:=a0_ ((by rw [hg];exact (below_size hb_) : w.heap.size ≤ gb3));have n6_:=a0_ ((by rw [hg];exact Nat.ne_of_lt (blk_lt (bb_ BK1.1)) : gb1 ≠ gb3));have n7_:=a0_ ((by rw [hg];exact Nat.ne_of_gt (blk_lt (bb_ BK1.1)) : gb3 ≠ gb1));have n8_:=a0_ ((by rw [hg];exact Nat.ne_of_lt (blk_lt (bb_ BK2.1)) : gb2 ≠ gb3));have n9_:=a0_ ((by rw [hg];exact Nat.ne_of_gt (blk_lt (bb_ BK2.1)) : gb3 ≠ gb2));clear BK1 BK2 HB;have BK1:=n0_;have BK2:=n1_;have HB:=n2_;have BK3:=n3_;have GW3:=n4_;have GE3:=n5_;have NB1_3:=n6_;have NB3_1:=n7_;have NB2_3:=n8_;have NB3_2:=n9_;clear n0_ n1_ n2_ n3_ n4_ n5_ n6_ n7_ n8_ n9_;clear hb hbox hg;have hnb5:=NB1_2.1;have hnc5:=NB2_1.1;have hnb6:=NB1_3.1;have hnc6:=NB3_1.1;have hcz7_0 : w4.cell? ⟨gb1,0,none⟩ = some (.int .i64 a0_0):=(blk_cell BK1.1 0).trans rfl;have hcz7_1 : w4.cell? ⟨gb1,1,none⟩ = some (.int .i64 a0_1):=(blk_cell BK1.1 1).trans rfl;have hcz7_2 : w4.cell? ⟨gb1,2,none⟩ = some (.int .i64 a0_2):=(blk_cell BK1.1 2).trans rfl;have hfz7_0:=blk_frozen BK1.1 0;have hfz7_1:=blk_frozen BK1.1 1;have hfz7_2:=blk_frozen BK1.1 2;have hnb8:=NB3_2.1;have hnc8:=NB2_3.1;have hcz9_0 : w4.cell? ⟨gb3,0,none⟩ = some (.int .i64 0):=(blk_cell BK3.1 0).trans rfl;have hcz9_1 : w4.cell? ⟨gb3,1,none⟩ = some (.int .i64 0):=(blk_cell BK3.1 1).trans rfl;have hcz9_2 : w4.cell? ⟨gb3,2,none⟩ = some (.int .i64 0):=(blk_cell BK3.1 2).trans rfl;have hfz9_0:=blk_frozen BK3.1 0;have hfz9_1:=blk_frozen BK3.1 1;have hfz9_2:=blk_frozen BK3.1 2;have hcz10_0 : w4.cell? ⟨gb2,0,none⟩ = some (.int .i64 0):=(blk_cell BK2.1 0).trans rfl;have hcz10_1 : w4.cell? ⟨gb2,1,none⟩ = some (.int .i64 0):=(blk_cell BK2.1 1).trans rfl;have hcz10_2 : w4.cell? ⟨gb2,2,none⟩ = some (.int .i64 0):=(blk_cell BK2.1 2).trans rfl;have hfz10_0:=blk_frozen BK2.1 0;have hfz10_1:=blk_frozen BK2.1 1;have hfz10_2:=blk_frozen BK2.1 2))
 refine bodyPost_ret (results_cell_row rfl _ _ gb2 38 #[.int .i64 a0_0,.int .i64 a0_1,.int .i64 a0_2] (0,0) _ rfl (by (with_reducible repeat (first | refine blk_drewN ?_ _ | refine blk_drew ?_ | refine blk_alloc ?_ _));refine blk_put (cs:=#[.int .i64 a0_0,.int .i64 a0_1,.int .i64 0]) ?_ 2 _ rfl;(with_reducible repeat (first | refine blk_drewN ?_ _ | refine blk_drew ?_ | refine blk_alloc ?_ _));refine blk_put (cs:=#[.int .i64 a0_0,.int .i64 0,.int .i64 0]) ?_ 1 _ rfl;(with_reducible repeat (first | refine blk_drewN ?_ _ | refine blk_drew ?_ | refine blk_alloc ?_ _));refine blk_put (cs:=#[.int .i64 0,.int .i64 0,.int .i64 0]) ?_ 0 _ rfl;(with_reducible repeat (first | refine blk_drewN ?_ _ | refine blk_drew ?_ | refine blk_alloc ?_ _));refine blk_far ?_ NB2_3.1 _;(with_reducible repeat (first | refine blk_drewN ?_ _ | refine blk_drew ?_ | refine blk_alloc ?_ _));refine blk_far ?_ NB2_3.1 _;(with_reducible repeat (first | refine blk_drewN ?_ _ | refine blk_drew ?_ | refine blk_alloc ?_ _));refine blk_far ?_ NB2_3.1 _;(with_reducible repeat (first | refine blk_drewN ?_ _ | refine blk_drew ?_ | refine blk_alloc ?_ _));exact BK2.1) Try.underlying38 rfl (by kernel_rfl)) rfl ?_
 exact ⟨by first | rfl | (simp [errW_none,errW_some] <;> rfl) | (simp [*,errW_none,errW_some] <;> rfl),hb_⟩
end Go.Proofs.Ytjcodcimodnbjaa.P
namespace Go.Proofs.Ytjcodcimodnbjaa.P
open Go.RowKit Go.Proofs.YtjcodcimodnbjaaW.PrintWords Go.Proofs.YtjcodcimodnbjaaW.PrintLast Go.Proofs.YtjcodcimodnbjaaW.PrintMore
attribute [local go_sem] max2_int min2_int max_two min_two max_three min_three max_four min_four
set_option linter.unusedVariables false
set_option linter.unusedSimpArgs false
def toExit (x : S27) : S38:=⟨x.f0,x.f1,x.f2⟩
end Go.Proofs.Ytjcodcimodnbjaa.P
namespace Go.Proofs.Ytjcodcimodnbjaa.P
open Go.RowKit Go.Proofs.YtjcodcimodnbjaaW.PrintWords Go.Proofs.YtjcodcimodnbjaaW.PrintLast Go.Proofs.YtjcodcimodnbjaaW.PrintMore
attribute [local go_sem] max2_int min2_int max_two min_two max_three min_three max_four min_four
set_option linter.unusedVariables false
set_option linter.unusedSimpArgs false
def laws_toExitS.l0 : Nat → List (S27) → List (S38) → Int → Option ((List (S38)))
 | 0,_,_,_=>none
 | k + 1,x0,x3,x4=>if x4 < (x0.length : Int) then (if 0 ≤ x4 then ((laws_toExit.f ((rd_T27 x0 x4).f0) ((rd_T27 x0 x4).f1) ((rd_T27 x0 x4).f2)).bind fun bt5=>(if x4 < (x3.length : Int) then (laws_toExitS.l0 k x0 (x3.set (x4 : Int).toNat (⟨bt5.1,bt5.2.1,bt5.2.2⟩ : S38)) (wrap64 (x4 + 1))) else (none))) else (none)) else (some x3)
def laws_toExitS.f (k : Nat) (l0 : List (S27)) : Option ((List (S38))):=if 0 ≤ (l0.length : Int) then (if ((l0.length : Int) : Int).toNat ≤ 11728124029610 then (laws_toExitS.l0 k l0 (List.replicate ((l0.length : Int) : Int).toNat z38) 0) else (none)) else (none)
theorem laws_toExitS.mono_l : ∀ k,(∀ y0 y1 y2,LeO (laws_toExitS.l0 k y0 y1 y2) (laws_toExitS.l0 (k + 1) y0 y1 y2))
 | 0=>fun _ _ _ r h=>by simp [laws_toExitS.l0] at h
 | k + 1=>by
  have ih0:=laws_toExitS.mono_l k
  ·intro y0 y1 y2
   unfold laws_toExitS.l0
   repeat' first
   | (with_reducible exact ih0 _ _ _)
   | (with_reducible exact LeO.refl _)
   | (with_reducible exact LeO.none _)
   | (with_reducible refine LeO.ite ?_ ?_)
   | (with_reducible refine LeO.bind ?_ (fun _=>?_))
   | exact ih0 _ _ _
   | exact LeO.none _
   | refine LeO.ite ?_ ?_
   | refine LeO.bind ?_ (fun _=>?_)
theorem laws_toExitS.mono : ∀ a0 k,LeO (laws_toExitS.f k a0) (laws_toExitS.f (k + 1) a0):=by
 intro a0 k
 have ih0:=laws_toExitS.mono_l k
 unfold laws_toExitS.f
 repeat' first
   | (with_reducible exact ih0 _ _ _)
   | (with_reducible exact LeO.refl _)
   | (with_reducible exact LeO.none _)
   | (with_reducible refine LeO.ite ?_ ?_)
   | (with_reducible refine LeO.bind ?_ (fun _=>?_))
   | exact ih0 _ _ _
   | exact LeO.none _
   | refine LeO.ite ?_ ?_
   | refine LeO.bind ?_ (fun _=>?_)
set_option maxHeartbeats 8000000 in
set_option maxRecDepth 100000 in
theorem laws_toExitS.calls (k : Nat) (A0 : Option Addr) (c0 : Nat) (l0 : List (S27)) (r : List (S38)) (w : World) (hr0 : Kd.C k27 w A0 l0.length l0) (hc0 : l0.length ≤ c0) (h : laws_toExitS.f k l0 = some r) :
  Calls Try.prog 11 #[.slice A0 l0.length c0] w fun e w'=>∃ v0_ : Value,e = .returned (v0_) ∧ Kd.R k38 38 w' w.heap.size (fun _=>True) v0_ r ∧ Below w.heap.size w w':=by
 have hu27:=Try.underlying27
 have hu38:=Try.underlying38
 have HR0:=a0_ hr0
 have HC0:=a0_ hc0
 clear hr0 hc0
 have HB:=a0_ (Below.refl w.heap.size w)
 have H : (if 0 ≤ (l0.length : Int) then (if ((l0.length : Int) : Int).toNat ≤ 11728124029610 then (laws_toExitS.l0 k l0 (List.replicate ((l0.length : Int) : Int).toNat z38) 0) else (none)) else (none)) = some r:=h
 clear h
 by_cases c2 : 0 ≤ (l0.length : Int)
 ·rw [if_pos c2] at H
  have c2b0:=eq_true c2
  have c2b1 : decide (0 ≤ (l0.length : Int)) = true:=decide_eq_true c2
  clear c2
  by_cases c3 : ((l0.length : Int) : Int).toNat ≤ 11728124029610
  ·rw [if_pos c3] at H
   have c3b0:=eq_true c3
   have c3b1 : decide (((l0.length : Int) : Int).toNat ≤ 11728124029610) = true:=decide_eq_true c3
   clear c3
   obtain ⟨y1,hy1⟩ : ∃ y_ : List (S38),y_ = (List.replicate ((l0.length : Int) : Int).toNat z38):=⟨_,rfl⟩
   replace H : (laws_toExitS.l0 k l0 y1 0) = some r:=by first | (rw [hy1];with_reducible exact H) | (have H2_:=(Option.bind_some _ _).symm.trans H;rw [hy1];with_reducible exact H2_) | (have H2_:=(Option.bind_some _ _).symm.trans H;with_reducible exact H2_) | with_reducible exact H | (rw [hy1];exact H) | exact H
   have Ny1:=a0_ hy1
   clear hy1
   have H':=a0_ H
   clear H
   go_enter Try.func11,Try.ntmps11
   go_wp2_with (first | ((with_reducible refine gate_dst (N:=7) rfl ?_);refine Kd.R_make k38 _ 38 rfl (N:=7) rfl 30 _ _ rfl (l0.length : Int) rfl rfl Try.underlying30 (.agg #[(.int .i64 0),(.int .i64 0),(.int .i64 0)]) 24 info38 rfl (by decide) (by omega) z38 (ok:=fun _=>True) (okp:=fun _=>True) (k38_mkM _ _ _ z38 ) (fun _ hk=>hk) trivial (of_decide_eq_true (by first | (with_reducible assumption) | assumption)) (Nat.le_trans (Nat.mul_le_mul_right _ (of_decide_eq_true (by first | (with_reducible assumption) | assumption) : (l0.length : Int).toNat ≤ 11728124029610)) (by omega)) (Below.refl _ _) (Nat.le_refl _) ?_;intro v2 w4 ho5 hb hg_ hnew_;clear hg_ hnew_;(first | rw [← Ny1.1] at ho5 | (simp only [Int.reduceToNat] at ho5;rw [← Ny1.1] at ho5));have n0_:=a0_ (Kd.R_lower ho5 (below_size hb_));have n1_:=a0_ (below_step hb_ hb);clear HB;have HO3:=n0_;have HB:=n1_;clear n0_ n1_;clear hb ho5))
   go_loopg [4] k (fun kq v4 w'=>∃ (x3_1 : List (S38)) (x4_1 : Int),v4 = .int .i64 x4_1 ∧ Aside0 (laws_toExitS.l0 kq l0 x3_1 x4_1 = some r) ∧ Aside0 (kq ≤ k) ∧ Aside0 (Kd.R k38 38 w' w.heap.size (fun _=>True) v2 x3_1) ∧ Aside0 (Below w.heap.size w w'))
   case atStart=>exact ⟨(y1),(0),(by first | rfl | (simp;done) | (simp [*];done)),H',⟨Nat.le_refl _⟩,⟨by (with_reducible repeat (first | apply Kd.R_alloc | apply Kd.R_drewN | apply Kd.R_drew));exact HO3.1⟩,⟨hb_⟩⟩
   case round =>
    clear H'
    try clear c1
    try clear c2
    try clear c2b0
    try clear c2b1
    try clear p2
    try clear c3
    try clear c3b0
    try clear c3b1
    obtain ⟨x3_1,x4_1,rfl,HA,HK1,HO_3,HB⟩:=hrel
    cases gk with
    | zero=>exact absurd HA.out (by simp [laws_toExitS.l0])
    | succ k1 =>
     have H:=HA.out
     clear HA
     simp only [laws_toExitS.l0] at H
     by_cases c6 : x4_1 < (l0.length : Int)
     ·rw [if_pos c6] at H
      have c6b0 : decide (x4_1 < (l0.length : Int)) = true:=decide_eq_true c6
      clear c6
      by_cases c7 : 0 ≤ x4_1
      ·rw [if_pos c7] at H
       have c7b0 : decide (0 ≤ x4_1) = true:=decide_eq_true c7
       clear c7
       replace H:=Option.bind_eq_some_iff.mp H
       obtain ⟨⟨t5,t6,t7⟩,A80,H⟩:=H
       replace H : (if x4_1 < (x3_1.length : Int) then (laws_toExitS.l0 k1 l0 (x3_1.set (x4_1 : Int).toNat (⟨t5,t6,t7⟩ : S38)) (wrap64 (x4_1 + 1))) else (none)) = some r:=H
       have A8:=a0_ A80
       clear A80
       by_cases c9 : x4_1 < (x3_1.length : Int)
       ·rw [if_pos c9] at H
        have c9b0 : decide (x4_1 < (x3_1.length : Int)) = true:=decide_eq_true c9
        clear c9
        obtain ⟨y8,hy8⟩ : ∃ y_ : List (S38),y_ = (x3_1.set (x4_1 : Int).toNat (⟨t5,t6,t7⟩ : S38)):=⟨_,rfl⟩
        replace H : (laws_toExitS.l0 k1 l0 y8 (wrap64 (x4_1 + 1))) = some r:=by first | (rw [hy8];with_reducible exact H) | (have H2_:=(Option.bind_some _ _).symm.trans H;rw [hy8];with_reducible exact H2_) | (have H2_:=(Option.bind_some _ _).symm.trans H;with_reducible exact H2_) | with_reducible exact H | (rw [hy8];exact H) | exact H
        have Ny8:=a0_ hy8
        clear hy8
        have H':=a0_ H
        clear H
        have p4 : 0 ≤ (x4_1 : Int):=of_decide_eq_true (by first | (with_reducible assumption) | assumption)
        have q4 : x4_1 < (l0.length : Int):=of_decide_eq_true (by first | (with_reducible assumption) | assumption)
        obtain ⟨ad4,e4,hx4_0,hx4_1,hx4_2⟩:=at_T27 HR0.1 x4_1 p4 q4
        cases e4
        replace hx4_0:=(HB.1.cell (World.block_lt_of_cell? w _ hx4_0)).trans hx4_0
        replace hx4_1:=(HB.1.cell (World.block_lt_of_cell? w _ hx4_1)).trans hx4_1
        replace hx4_2:=(HB.1.cell (World.block_lt_of_cell? w _ hx4_2)).trans hx4_2
        replace p4:=eq_true p4
        replace q4:=eq_true q4
        go_wp2_with (first | ((with_reducible refine gate_callee (f:=12) rfl ?_);refine goesL_ (some 20) rfl rfl Try.func12 (by kernel_rfl) rfl #[.agg #[.int .i64 ((rd_T27 l0 x4_1).f0),.int .i64 ((rd_T27 l0 x4_1).f1),.int .i64 ((rd_T27 l0 x4_1).f2)]] rfl lm_ ?_;(with_reducible refine (laws_toExit.calls ((rd_T27 l0 x4_1).f0) ((rd_T27 l0 x4_1).f1) ((rd_T27 l0 x4_1).f2) t5 t6 t7 _ A8.1).mono ?_);rintro e w11 ⟨rfl,hb⟩;refine ⟨_,rfl,?_⟩;have n0_:=a0_ (Kd.R_below (rr_ HO_3.1) hb);have n1_:=a0_ (below_step hb_ hb);clear HO_3 HB;have HO_3:=n0_;have HB:=n1_;clear n0_ n1_;(try clear hb);(try clear hb2);(try clear hk);(try clear hi);have p10 : 0 ≤ (x4_1 : Int):=of_decide_eq_true (by first | (with_reducible assumption) | assumption);have q10 : (x4_1 : Int) < ((x3_1.length : Int) : Int):=of_decide_eq_true (by first | (with_reducible assumption) | assumption);obtain ⟨go10,co10,eo10,gb10,gl10,cl10,HG10⟩:=Kd.R_form HO_3.1 (by omega);(first | cases eo10 | (injection eo10 with ea_ en_ ec_;(first | subst ea_ | (injection ea_ with ea_;subst ea_));subst ec_;clear en_));have GB10:=a0_ gb10;have GG10:=a0_ HG10;clear gb10 gl10 HG10;obtain ⟨ce10,hcl10,hM10,hcc10,hfr10⟩:=Kd.R_elem HO_3.1 z38 (x4_1 : Int) p10 q10;obtain rfl:=k38_openM hM10;have hx10_0 : w11.cell? ⟨go10,(x4_1 : Int).toNat * 3,none⟩ = some (.int .i64 ((rd_T38 x3_1 x4_1).f0)):=hcc10 0 _ rfl;have hx10_1 : w11.cell? ⟨go10,(x4_1 : Int).toNat * 3 + 1,none⟩ = some (.int .i64 ((rd_T38 x3_1 x4_1).f1)):=hcc10 1 _ rfl;have hx10_2 : w11.cell? ⟨go10,(x4_1 : Int).toNat * 3 + 2,none⟩ = some (.int .i64 ((rd_T38 x3_1 x4_1).f2)):=hcc10 2 _ rfl;have hf10_0 : w11.frozen? ⟨go10,(x4_1 : Int).toNat * 3,none⟩ = false:=hfr10 0;have hf10_1 : w11.frozen? ⟨go10,(x4_1 : Int).toNat * 3 + 1,none⟩ = false:=hfr10 1;have hf10_2 : w11.frozen? ⟨go10,(x4_1 : Int).toNat * 3 + 2,none⟩ = false:=hfr10 2;clear hcl10 hcc10 hfr10 hM10;replace p10:=eq_true p10;replace q10:=eq_true q10;have HX12:=a0_ (show Kd.R k38 38 w11 w.heap.size (fun _=>True) (.slice (some ⟨go10,0,none⟩) x3_1.length co10) x3_1 from (rr_ HO_3.1));obtain ⟨ce12,hcl12,hM12,hcc12,hfr12⟩:=Kd.R_elem HX12.out z38 (x4_1 : Int) (of_decide_eq_true (by first | (with_reducible assumption) | assumption)) (by have h_ : (x4_1 : Int) < ((x3_1.length : Int) : Int):=of_decide_eq_true (by first | (with_reducible assumption) | assumption);first | exact h_ | (have e_:=(Kd.R_reads' HO_3.1).1;omega) | simpa using h_);obtain rfl:=k38_openM hM12;have HP12:=Kd.R_seg HX12.out (x4_1 : Int) (of_decide_eq_true (by first | (with_reducible assumption) | assumption)) (by have h_ : (x4_1 : Int) < ((x3_1.length : Int) : Int):=of_decide_eq_true (by first | (with_reducible assumption) | assumption);first | exact h_ | (have e_:=(Kd.R_reads' HO_3.1).1;omega) | simpa using h_) (seg:=[.int .i64 t5,.int .i64 t6,.int .i64 t7]) (j:=0) hcl12 hcc12 (show 3 ≤ 3 from by decide) (x':=(⟨t5,t6,t7⟩ : S38)) (k38_mkM _ _ _ (⟨t5,t6,t7⟩ : S38) ) (fun _ hk=>hk);have hx12_0:=hcc12 0 _ rfl;(try simp only [show (k38).sz = 3 from rfl,Nat.mul_one,Nat.add_zero] at hx12_0);have hf12_0:=hfr12 0;(try simp only [show (k38).sz = 3 from rfl,Nat.mul_one,Nat.add_zero] at hf12_0);have hx12_1:=hcc12 1 _ rfl;(try simp only [show (k38).sz = 3 from rfl,Nat.mul_one,Nat.add_zero] at hx12_1);have hf12_1:=hfr12 1;(try simp only [show (k38).sz = 3 from rfl,Nat.mul_one,Nat.add_zero] at hf12_1);have hx12_2:=hcc12 2 _ rfl;(try simp only [show (k38).sz = 3 from rfl,Nat.mul_one,Nat.add_zero] at hx12_2);have hf12_2:=hfr12 2;(try simp only [show (k38).sz = 3 from rfl,Nat.mul_one,Nat.add_zero] at hf12_2);clear hcl12 hcc12 hfr12 hM12) | ((with_reducible refine gate_store (t:=38) (p:=21) rfl ?_);refine store_event (t:=38) (p:=21) (v:=?vo_w13) (w1:=(((w11.setCell ⟨go10,(x4_1 : Int).toNat * 3,none⟩ (.int .i64 t5)).setCell ⟨go10,(x4_1 : Int).toNat * 3 + 1,none⟩ (.int .i64 t6)).setCell ⟨go10,(x4_1 : Int).toNat * 3 + 2,none⟩ (.int .i64 t7))) ?hg ?ho ?hn ?hr ?_;(case ho=>rfl);(case hg=>rfl);(case hn=>rfl);(case hr=>first | (go_simp;done) | (go_simp;rfl));intro w13 hw;have hg : w11.grownBy w13 (some go10):=(by rw [hw];exact HP12.2);have hp_ : Kd.R k38 38 w13 w.heap.size (fun _=>True) (.slice (some ⟨go10,0,none⟩) x3_1.length co10) y8:=(by rw [hw,Ny8.1];exact HP12.1);clear HP12;have n0_:=a0_ (hp_);have n1_:=a0_ ((by rw [hw];exact below_set (below_set (below_set (HB.1) GB10.out) GB10.out) GB10.out : Below w.heap.size w w13));clear HO_3 HB;have HO_3:=n0_;have HB:=n1_;clear n0_ n1_;clear hg hw hp_))
        go_roundg k1
        case measure=>have:=HK1.1;omega
        case rel=>exact ⟨(y8),(wrap64 (x4_1 + 1)),(by first | rfl | (simp;done) | (simp [*];done)),H',⟨by have:=HK1.1;omega⟩,⟨by (with_reducible repeat (first | apply Kd.R_alloc | apply Kd.R_drewN | apply Kd.R_drew));exact HO_3.1⟩,⟨hb_⟩⟩
       ·rw [if_neg c9] at H
        exact absurd H (by simp)
      ·rw [if_neg c7] at H
       exact absurd H (by simp)
     ·rw [if_neg c6] at H
      have c6b0 : decide (x4_1 < (l0.length : Int)) = false:=decide_eq_false c6
      clear c6
      obtain rfl:=Option.some.inj H
      go_wp2
      go_ret
      exact ⟨_,by first | rfl | (simp [errW_none,errW_some] <;> rfl) | (simp [*,errW_none,errW_some] <;> rfl),by (with_reducible repeat (first | apply Kd.R_alloc | apply Kd.R_drewN | apply Kd.R_drew));exact HO_3.1,hb_⟩
  ·rw [if_neg c3] at H
   exact absurd H (by simp)
 ·rw [if_neg c2] at H
  exact absurd H (by simp)
theorem laws_toExitS_ev (t : List S27) (ht : t.length ≤ 1048576) : Ev (fun k=>laws_toExitS.f k t) (t.map toExit):=by
 have h:=st_loop (fun k acc i=>laws_toExitS.l0 k t acc i) t.length (fun i=>((t.take i).map toExit) ++ List.replicate (t.length - i) z38) (t.map toExit) (by
  intro k i hi
  simp only [laws_toExitS.l0,laws_toExit.f,Option.bind_some]
  rw [if_pos (by omega),if_pos (by omega),if_pos (by rw [fill_len _ _ _ _ (by omega)];omega),wrap_succ (i:=(i : Int)) (n:=t.length) (by omega) (by omega) (by omega)]
  have:=fill_at t toExit z27 z38 i hi
  rw [show ((i : Int) : Int).toNat = i by omega]
  rw [show (⟨(rd_T27 t (i : Int)).f0,(rd_T27 t (i : Int)).f1,(rd_T27 t (i : Int)).f2⟩ : S38) = toExit (t.getD i z27) from by simp [toExit,rd_T27],this]
  rfl) (by
  intro k
  simp only [laws_toExitS.l0]
  rw [if_neg (by omega)]
  simp)
 refine Ev.of_mono (laws_toExitS.mono t) (K:=t.length + 1) ?_
 unfold laws_toExitS.f
 rw [if_pos (by omega),if_pos (by omega)]
 simpa using h
end Go.Proofs.Ytjcodcimodnbjaa.P
namespace Go.Proofs.Ytjcodcimodnbjaa.P
open Go.RowKit Go.Proofs.YtjcodcimodnbjaaW.PrintWords Go.Proofs.YtjcodcimodnbjaaW.PrintLast Go.Proofs.YtjcodcimodnbjaaW.PrintMore
attribute [local go_sem] max2_int min2_int max_two min_two max_three min_three max_four min_four
set_option linter.unusedVariables false
set_option linter.unusedSimpArgs false
def impl_within.f (a0 : Int) (a1 : Int) (a2 : Int) : Option (Bool):=if a0 ≥ a1 then (some (decide (a0 ≤ a2))) else (some false)
set_option maxHeartbeats 8000000 in
set_option maxRecDepth 100000 in
theorem impl_within.calls (a0 : Int) (a1 : Int) (a2 : Int) (r : Bool) (w : World) (h : impl_within.f a0 a1 a2 = some r) :
  Calls Try.prog 66 #[.int .i64 a0,.int .i64 a1,.int .i64 a2] w fun e w'=>e = .returned (.bool r) ∧ Drawn0 w w':=by
 have H : (if a0 ≥ a1 then (some (decide (a0 ≤ a2))) else (some false)) = some r:=h
 clear h
 by_cases c4 : a0 ≥ a1
 ·rw [if_pos c4] at H
  have c4b0 : decide (a1 ≤ a0) = true:=decide_eq_true c4
  clear c4
  obtain rfl:=Option.some.inj H
  go_enter Try.func66,Try.ntmps66
  go_wp2
  go_ret
  exact ⟨by first | rfl | (simp;done) | (simp [*];done),by repeat (first | exact Drawn0.refl _ | apply Drawn0.step)⟩
 ·rw [if_neg c4] at H
  have c4b0 : decide (a1 ≤ a0) = false:=decide_eq_false c4
  clear c4
  obtain rfl:=Option.some.inj H
  go_enter Try.func66,Try.ntmps66
  go_wp2
  go_ret
  exact ⟨by first | rfl | (simp;done) | (simp [*];done),by repeat (first | exact Drawn0.refl _ | apply Drawn0.step)⟩
theorem impl_within_ev (a b c : Int) : impl_within.f a b c = some (decide (b ≤ a) && decide (a ≤ c)):=by
 unfold impl_within.f
 by_cases h : a ≥ b
 ·rw [if_pos h,decide_eq_true (show b ≤ a from h),Bool.true_and]
 ·rw [if_neg h,decide_eq_false (show ¬ b ≤ a from h),Bool.false_and]
end Go.Proofs.Ytjcodcimodnbjaa.P
namespace Go.Proofs.Ytjcodcimodnbjaa.P
open Go.RowKit Go.Proofs.YtjcodcimodnbjaaW.PrintWords Go.Proofs.YtjcodcimodnbjaaW.PrintLast Go.Proofs.YtjcodcimodnbjaaW.PrintMore
attribute [local go_sem] max2_int min2_int max_two min_two max_three min_three max_four min_four
set_option linter.unusedVariables false
set_option linter.unusedSimpArgs false
def impl_nameOk.l0 : Nat → ByteArray → Int → Int → Option (Bool)
 | 0,_,_,_=>none
 | k + 1,x0,x5,x6=>if x6 < x5 then (if 0 ≤ x6 then (if x6 < (x0.size : Int) then (if (bt x0 x6) < 97 then (some false) else (if (bt x0 x6) > 122 then (some false) else (impl_nameOk.l0 k x0 x5 (wrap64 (x6 + 1))))) else (none)) else (none)) else ((impl_within.f (x0.size : Int) 1 6).bind fun t1=>(some t1))
def impl_nameOk.f (k : Nat) (a0 : ByteArray) : Option (Bool):=impl_nameOk.l0 k a0 (a0.size : Int) 0
theorem impl_nameOk.mono_l : ∀ k,(∀ y0 y1 y2,LeO (impl_nameOk.l0 k y0 y1 y2) (impl_nameOk.l0 (k + 1) y0 y1 y2))
 | 0=>fun _ _ _ r h=>by simp [impl_nameOk.l0] at h
 | k + 1=>by
  have ih0:=impl_nameOk.mono_l k
  ·intro y0 y1 y2
   unfold impl_nameOk.l0
   repeat' first
   | (with_reducible exact ih0 _ _ _)
   | (with_reducible exact LeO.refl _)
   | (with_reducible exact LeO.none _)
   | (with_reducible refine LeO.ite ?_ ?_)
   | (with_reducible refine LeO.bind ?_ (fun _=>?_))
   | exact ih0 _ _ _
   | exact LeO.none _
   | refine LeO.ite ?_ ?_
   | refine LeO.bind ?_ (fun _=>?_)
theorem impl_nameOk.mono : ∀ a0 k,LeO (impl_nameOk.f k a0) (impl_nameOk.f (k + 1) a0):=by
 intro a0 k
 have ih0:=impl_nameOk.mono_l k
 unfold impl_nameOk.f
 repeat' first
   | (with_reducible exact ih0 _ _ _)
   | (with_reducible exact LeO.refl _)
   | (with_reducible exact LeO.none _)
   | (with_reducible refine LeO.ite ?_ ?_)
   | (with_reducible refine LeO.bind ?_ (fun _=>?_))
   | exact ih0 _ _ _
   | exact LeO.none _
   | refine LeO.ite ?_ ?_
   | refine LeO.bind ?_ (fun _=>?_)
set_option maxHeartbeats 8000000 in
set_option maxRecDepth 100000 in
theorem impl_nameOk.calls (k : Nat) (a0 : ByteArray) (r : Bool) (w : World) (h : impl_nameOk.f k a0 = some r) :
  Calls Try.prog 64 #[.string a0] w fun e w'=>e = .returned (.bool r) ∧ Drawn0 w w':=by
 have H : (impl_nameOk.l0 k a0 (a0.size : Int) 0) = some r:=h
 clear h
 have H':=a0_ H
 clear H
 go_enter Try.func64,Try.ntmps64
 go_wp2
 go_loopg [6] k (fun kq v6 w'=>∃ (x6_1 : Int),v6 = .int .i64 x6_1 ∧ Aside0 (impl_nameOk.l0 kq a0 (a0.size : Int) x6_1 = some r) ∧ Aside0 (kq ≤ k) ∧ Drawn0 w w')
 case atStart=>exact ⟨(0),(by first | rfl | (simp;done) | (simp [*];done)),H',⟨Nat.le_refl _⟩,by repeat (first | exact Drawn0.refl _ | apply Drawn0.step)⟩
 case round =>
  clear H'
  obtain ⟨x6_1,rfl,HA,HK1,⟨m1,rfl⟩⟩:=hrel
  cases gk with
  | zero=>exact absurd HA.out (by simp [impl_nameOk.l0])
  | succ k1 =>
   have H:=HA.out
   clear HA
   simp only [impl_nameOk.l0] at H
   by_cases c2 : x6_1 < (a0.size : Int)
   ·rw [if_pos c2] at H
    have c2b0 : decide (x6_1 < (a0.size : Int)) = true:=decide_eq_true c2
    clear c2
    by_cases c3 : 0 ≤ x6_1
    ·rw [if_pos c3] at H
     have c3b0 : decide (0 ≤ x6_1) = true:=decide_eq_true c3
     clear c3
     by_cases c4 : x6_1 < (a0.size : Int)
     ·rw [if_pos c4] at H
      have c4b0 : decide (x6_1 < (a0.size : Int)) = true:=decide_eq_true c4
      clear c4
      by_cases c6 : (bt a0 x6_1) < 97
      ·rw [if_pos c6] at H
       have c6b0 : decide ((bt a0 x6_1) < 97) = true:=decide_eq_true c6
       clear c6
       obtain rfl:=Option.some.inj H
       have p5 : 0 ≤ (x6_1 : Int):=of_decide_eq_true (by first | (with_reducible assumption) | assumption)
       have q5 : x6_1 < (a0.size : Int):=of_decide_eq_true (by first | (with_reducible assumption) | assumption)
       have hx5:=bt_at a0 x6_1
       replace p5:=eq_true p5
       replace q5:=eq_true q5
       go_wp2
       go_ret
       exact ⟨by first | rfl | (simp;done) | (simp [*];done),by repeat (first | exact Drawn0.refl _ | apply Drawn0.step)⟩
      ·rw [if_neg c6] at H
       have c6b0 : decide ((bt a0 x6_1) < 97) = false:=decide_eq_false c6
       clear c6
       by_cases c8 : (bt a0 x6_1) > 122
       ·rw [if_pos c8] at H
        have c8b0 : decide (122 < (bt a0 x6_1)) = true:=decide_eq_true c8
        clear c8
        obtain rfl:=Option.some.inj H
        have p5 : 0 ≤ (x6_1 : Int):=of_decide_eq_true (by first | (with_reducible assumption) | assumption)
        have q5 : x6_1 < (a0.size : Int):=of_decide_eq_true (by first | (with_reducible assumption) | assumption)
        have hx5:=bt_at a0 x6_1
        replace p5:=eq_true p5
        replace q5:=eq_true q5
        have p7 : 0 ≤ (x6_1 : Int):=of_decide_eq_true (by first | (with_reducible assumption) | assumption)
        have q7 : x6_1 < (a0.size : Int):=of_decide_eq_true (by first | (with_reducible assumption) | assumption)
        have hx7:=bt_at a0 x6_1
        replace p7:=eq_true p7
        replace q7:=eq_true q7
        go_wp2
        go_ret
        exact ⟨by first | rfl | (simp;done) | (simp [*];done),by repeat (first | exact Drawn0.refl _ | apply Drawn0.step)⟩
       ·rw [if_neg c8] at H
        have c8b0 : decide (122 < (bt a0 x6_1)) = false:=decide_eq_false c8
        clear c8
        have H':=a0_ H
        clear H
        have p5 : 0 ≤ (x6_1 : Int):=of_decide_eq_true (by first | (with_reducible assumption) | assumption)
        have q5 : x6_1 < (a0.size : Int):=of_decide_eq_true (by first | (with_reducible assumption) | assumption)
        have hx5:=bt_at a0 x6_1
        replace p5:=eq_true p5
        replace q5:=eq_true q5
        have p7 : 0 ≤ (x6_1 : Int):=of_decide_eq_true (by first | (with_reducible assumption) | assumption)
        have q7 : x6_1 < (a0.size : Int):=of_decide_eq_true (by first | (with_reducible assumption) | assumption)
        have hx7:=bt_at a0 x6_1
        replace p7:=eq_true p7
        replace q7:=eq_true q7
        go_wp2
        go_roundg k1
        case measure=>have:=HK1.1;omega
        case rel=>exact ⟨(wrap64 (x6_1 + 1)),(by first | rfl | (simp;done) | (simp [*];done)),H',⟨by have:=HK1.1;omega⟩,by repeat (first | exact Drawn0.refl _ | apply Drawn0.step)⟩
     ·rw [if_neg c4] at H
      exact absurd H (by simp)
    ·rw [if_neg c3] at H
     exact absurd H (by simp)
   ·rw [if_neg c2] at H
    have c2b0 : decide (x6_1 < (a0.size : Int)) = false:=decide_eq_false c2
    clear c2
    replace H:=Option.bind_eq_some_iff.mp H
    obtain ⟨t1,A90,H⟩:=H
    replace H : (some t1) = some r:=H
    have A9:=a0_ A90
    clear A90
    obtain rfl:=Option.some.inj H
    go_wp2_with (first | ((with_reducible refine gate_callee (f:=66) rfl ?_);refine goesL_ (some 22) rfl rfl Try.func66 (by kernel_rfl) rfl #[.int .i64 (a0.size : Int),.int .i64 1,.int .i64 6] rfl lm_ ?_;(with_reducible refine (impl_within.calls (a0.size : Int) 1 6 t1 _ A9.1).mono ?_);rintro e w' ⟨rfl,⟨nd,rfl⟩⟩;refine ⟨_,rfl,?_⟩))
    go_ret
    exact ⟨by first | rfl | (simp;done) | (simp [*];done),by repeat (first | exact Drawn0.refl _ | apply Drawn0.step)⟩
theorem impl_nameOk_l0 (s : ByteArray) (hs : s.size ≤ 9223372036854775807) (d : Nat) : ∀ (k : Nat) (i : Nat),i ≤ s.size → s.size - i = d → d < k → impl_nameOk.l0 k s (s.size : Int) (i : Int) = some ((s.data.toList.drop i).all (fun c=>decide (97 ≤ c.toNat) && decide (c.toNat ≤ 122)) && (decide (1 ≤ s.size) && decide (s.size ≤ 6))):=by
 induction d with
 | zero =>
  intro k i hi hd hk
  obtain ⟨k,rfl⟩ : ∃ m,k = m + 1:=⟨k - 1,by omega⟩
  simp only [impl_nameOk.l0]
  rw [if_neg (by omega)]
  have : s.data.toList.drop i = []:=by
   apply List.drop_eq_nil_of_le
   have : s.data.toList.length = s.size:=toL_len s
   omega
  rw [this]
  simp only [impl_within.f,List.all_nil,Bool.true_and]
  by_cases h1 : 1 ≤ s.size
  ·rw [if_pos (show (s.size : Int) ≥ 1 by omega)]
   by_cases h2 : s.size ≤ 6
   ·simp [h1,h2];omega
   ·simp [h2];omega
  ·rw [if_neg (show ¬ (s.size : Int) ≥ 1 by omega)];simp [h1]
 | succ d ih =>
  intro k i hi hd hk
  obtain ⟨k,rfl⟩ : ∃ m,k = m + 1:=⟨k - 1,by omega⟩
  have hlt : i < s.size:=by omega
  have hl : s.data.toList.length = s.size:=toL_len s
  simp only [impl_nameOk.l0]
  rw [if_pos (show (i : Int) < (s.size : Int) by omega),if_pos (show (0 : Int) ≤ (i : Int) by omega),if_pos (show (i : Int) < (s.size : Int) by omega),bt_getElem s i hlt]
  have hd2 : s.data.toList.drop i = s[i] :: s.data.toList.drop (i + 1):=by
   rw [List.drop_eq_getElem_cons (by omega)]
   congr 1
  rw [hd2,List.all_cons]
  by_cases h1 : (s[i].toNat : Int) < 97
  ·rw [if_pos h1];have : ¬ 97 ≤ s[i].toNat:=by omega
   simp [this]
  ·rw [if_neg h1]
   by_cases h2 : (s[i].toNat : Int) > 122
   ·rw [if_pos h2];have : ¬ s[i].toNat ≤ 122:=by omega
    simp [this]
   ·rw [if_neg h2,wrap_succ (n:=s.size) (by omega) (by omega) (by omega)]
    have:=ih k (i + 1) (by omega) (by omega) (by omega)
    rw [show ((i : Int) + 1) = ((i + 1 : Nat) : Int) by omega,this]
    have a : 97 ≤ s[i].toNat:=by omega
    have b : s[i].toNat ≤ 122:=by omega
    simp [a,b]
theorem impl_nameOk_ev (s : ByteArray) (hs : s.size ≤ 9223372036854775807) : impl_nameOk.f (s.size + 1) s = some (okName s):=by
 unfold impl_nameOk.f okName
 have:=impl_nameOk_l0 s hs s.size (s.size + 1) 0 (by omega) (by omega) (by omega)
 simpa using this
end Go.Proofs.Ytjcodcimodnbjaa.P
namespace Go.Proofs.Ytjcodcimodnbjaa.P
open Go.RowKit Go.Proofs.YtjcodcimodnbjaaW.PrintWords Go.Proofs.YtjcodcimodnbjaaW.PrintLast Go.Proofs.YtjcodcimodnbjaaW.PrintMore
attribute [local go_sem] max2_int min2_int max_two min_two max_three min_three max_four min_four
set_option linter.unusedVariables false
set_option linter.unusedSimpArgs false
set_option maxHeartbeats 2000000 in
theorem slices_IndexFunc_Class.callsF (A : Option Addr) (c : Nat) (l : List S76) (g : Nat) (lb : Array Value) (p : S76 → Bool) (w : World) (eg : ∀ args w,(callFunc g args).run Try.prog w = .ok (.enter g args) w)
  (hr : Kd.C k76 w A l.length l) (hc : l.length ≤ c) (hp : ∀ x,x ∈ l → ∀ W,Below w.heap.size w W → Calls Try.prog g (#[.agg #[.string x.f0,.int .i64 x.f1]] ++ lb) W fun e w'=>e = .returned (.bool (p x)) ∧ Below W.heap.size W w') :
  Calls Try.prog 77 #[.slice A l.length c,.func (.func g) #[] lb] w fun e w'=>e = .returned (.int .i64 (idxP p l)) ∧ Below w.heap.size w w':=by
 have HR:=a0_ hr
 have HP:=a0_ hp
 have hmax : l.length ≤ 9223372036854775807:=hr.2.1
 clear hr hp hc
 go_enter Try.func77,Try.ntmps77
 go_wp2
 go_loopg [5,8] l.length (fun gg _ s8 wr=>∃ kk : Nat,kk ≤ l.length ∧ l.length - kk ≤ gg ∧ s8 = .int .i64 kk ∧ Aside0 (Below w.heap.size w wr) ∧ Aside0 (∀ j (hj : j < l.length),j < kk → p l[j] = false))
 case atStart=>exact ⟨0,Nat.zero_le _,by omega,rfl,⟨Below.refl _ w⟩,⟨fun j _ hj=>absurd hj (Nat.not_lt_zero _)⟩⟩
 case round =>
  obtain ⟨kk,hkk,hg,rfl,BW,HA⟩:=hrel
  by_cases hlt : kk < l.length
  ·have hltz : (kk : Int) < (l.length : Int):=by omega
   obtain ⟨ad,ea,hx0,hx1⟩:=at_T76 HR.out (kk : Int) (by omega) (by omega)
   cases ea
   have hrd : rd_T76 l (kk : Int) = l[kk]:=by simp [rd_T76,hlt]
   rw [hrd] at hx0 hx1
   rw [Int.toNat_natCast] at hx0 hx1
   replace hx0:=(BW.out.cell (World.block_lt_of_cell? w _ hx0)).trans hx0
   replace hx1:=(BW.out.cell (World.block_lt_of_cell? w _ hx1)).trans hx1
   have hcall:=HP.out l[kk] (List.getElem_mem hlt) wr BW.out
   clear hrd
   generalize hy : l[kk] = y at hx0 hx1 hcall
   have B:=a0_ hy
   clear hy
   cases hq : p y with
   | true =>
    rw [hq] at hcall
    go_wp2_with (go_at_fn g;refine hcall.mono ?_;rintro e w' ⟨rfl,hb'⟩)
    go_ret
    refine ⟨?_,below_step BW.out hb'⟩
    rw [idxP_hit p l kk hlt (by rw [B.out];exact hq) HA.out];rfl
   | false =>
    rw [hq] at hcall
    go_wp2_with (go_at_fn g;refine hcall.mono ?_;rintro e w' ⟨rfl,hb'⟩)
    go_roundg (l.length - (kk + 1))
    case measure=>omega
    case rel =>
     refine ⟨kk + 1,by omega,by omega,by go_num,⟨below_step BW.out hb'⟩,⟨fun j hj hjk=>?_⟩⟩
     by_cases e : j = kk
     ·subst e
      rw [B.out];exact hq
     ·exact HA.out j hj (by omega)
  ·have hltz : ¬ (kk : Int) < (l.length : Int):=by omega
   have : kk = l.length:=by omega
   subst this
   go_wp2
   go_ret
   refine ⟨?_,BW.out⟩
   rw [idxP_miss p l (fun j hj=>HA.out j hj hj)];rfl
end Go.Proofs.Ytjcodcimodnbjaa.P
namespace Go.Proofs.Ytjcodcimodnbjaa.P
open Go.RowKit Go.Proofs.YtjcodcimodnbjaaW.PrintWords Go.Proofs.YtjcodcimodnbjaaW.PrintLast Go.Proofs.YtjcodcimodnbjaaW.PrintMore
attribute [local go_sem] max2_int min2_int max_two min_two max_three min_three max_four min_four
set_option linter.unusedVariables false
set_option linter.unusedSimpArgs false
theorem impl_Tree_named_1.callsF (B : Nat) (nm : ByteArray) (x : S76) (w : World) (hB : w.heap[B]? = some (.cells #[.string nm] 9 (0,0))) :
  Calls Try.prog 78 #[.agg #[.string x.f0,.int .i64 x.f1],.pointer (some ⟨B,0,none⟩)] w fun e w'=>e = .returned (.bool (x.f0.toList == nm.toList)) ∧ Below w.heap.size w w':=by
 have hc : w.cell? ⟨B,0,none⟩ = some (.string nm):=(blk_cell hB 0).trans rfl
 have hlt : B < w.heap.size:=(Array.getElem?_eq_some_iff.1 hB).1
 have hne : B ≠ w.heap.size:=by omega
 clear hB
 go_enter Try.func78,Try.ntmps78
 go_wp2
 all_goals (go_ret;exact ⟨by simp_all,(Below.refl _ w).alloc (Nat.le_refl _) _⟩)
end Go.Proofs.Ytjcodcimodnbjaa.P
namespace Go.Proofs.Ytjcodcimodnbjaa.P
open Go.RowKit Go.Proofs.YtjcodcimodnbjaaW.PrintWords Go.Proofs.YtjcodcimodnbjaaW.PrintLast Go.Proofs.YtjcodcimodnbjaaW.PrintMore
attribute [local go_sem] max2_int min2_int max_two min_two max_three min_three max_four min_four
set_option linter.unusedVariables false
set_option linter.unusedSimpArgs false
def impl_Tree_named.f (l0_0 : List (S76)) (a1 : ByteArray) : Option Int:=some (idxP (fun x : S76=>x.f0.toList == a1.toList) l0_0)
set_option maxHeartbeats 2000000 in
theorem impl_Tree_named.calls (A0_0 : Option Addr) (c0_0 : Nat) (l0_0 : List (S76)) (a1 : ByteArray) (r : Int) (w : World) (hr0_0 : Kd.C k76 w A0_0 l0_0.length l0_0) (hc0_0 : l0_0.length ≤ c0_0) (h : impl_Tree_named.f l0_0 a1 = some r) :
  Calls Try.prog 65 #[.agg #[.slice A0_0 l0_0.length c0_0],.string a1] w fun e w'=>e = .returned (.int .i64 r) ∧ Below w.heap.size w w':=by
 obtain rfl:=Option.some.inj h
 clear h
 have hu31:=Try.underlying35
 have eg : ∀ args w,(callFunc 78 args).run Try.prog w = .ok (.enter 78 args) w:=enters_of Try.func78 (by kernel_rfl) rfl
 have hcon:=fun (W : World) (hb : Below w.heap.size w W) (hB : W.heap[w.heap.size + 1]? = some (.cells #[.string a1] 9 (0,0)))=>slices_IndexFunc_Class.callsF A0_0 c0_0 l0_0 78 #[.pointer (some ⟨w.heap.size + 1,0,none⟩)] (fun x=>x.f0.toList == a1.toList) W eg (Kd.C_below hr0_0 hb) hc0_0 (fun x _ W' hW=>by
  have:=impl_Tree_named_1.callsF (w.heap.size + 1) a1 x W' (blk_keptB hB hW)
  simpa using this)
 clear hr0_0 hc0_0
 generalize idxP (fun x : S76=>x.f0.toList == a1.toList) l0_0 = r at hcon ⊢
 have HC:=a0_ hcon
 clear hcon
 go_enter Try.func65,Try.ntmps65
 go_wp2_with (go_at_call 77;refine (HC.out _ ?hb ?hB).mono ?_;(case hb=>exact below2 w _ _);(case hB=>exact heap_new2 w _ _);rintro e w' ⟨rfl,hb'⟩)
 go_ret
 exact ⟨rfl,(below2 w _ _).trans (hb'.mono (by simp;omega))⟩
end Go.Proofs.Ytjcodcimodnbjaa.P
