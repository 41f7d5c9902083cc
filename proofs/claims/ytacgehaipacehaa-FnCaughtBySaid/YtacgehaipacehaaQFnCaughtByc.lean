/- Texts under the proof of FnCaughtBy: helper words, the functions' contracts and the plain laws. No condition. -/
import Derived.Test.YtacgehaipacehaaQFnCaughtBya
import Derived.Test.YtacgehaipacehaaQFnCaughtByb
namespace Go.Proofs.Ytacgehaipacehaa.P
open Go.RowKit Go.Proofs.YtacgehaipacehaaW.PrintWords Go.Proofs.YtacgehaipacehaaW.PrintLast Go.Proofs.YtacgehaipacehaaW.PrintMore
attribute [local go_sem] max2_int min2_int max_two min_two max_three min_three max_four min_four
set_option linter.unusedVariables false
set_option linter.unusedSimpArgs false
def laws_ascends.l0 : Nat → List Int → Int → Option (Bool)
 | 0,_,_=>none
 | k + 1,x0,x3=>if x3 < (x0.length : Int) then (if 0 ≤ x3 then (if 0 ≤ (wrap64 (x3 - 1)) then (if (wrap64 (x3 - 1)) < (x0.length : Int) then (if (rd x0 x3) ≤ (rd x0 (wrap64 (x3 - 1))) then (some false) else (laws_ascends.l0 k x0 (wrap64 (x3 + 1)))) else (none)) else (none)) else (none)) else (some true)
def laws_ascends.f (k : Nat) (l0 : List Int) : Option (Bool):=laws_ascends.l0 k l0 1
theorem laws_ascends.mono_l : ∀ k,(∀ y0 y1,LeO (laws_ascends.l0 k y0 y1) (laws_ascends.l0 (k + 1) y0 y1))
 | 0=>fun _ _ r h=>by simp [laws_ascends.l0] at h
 | k + 1=>by
  have ih0:=laws_ascends.mono_l k
  ·intro y0 y1
   unfold laws_ascends.l0
   repeat' first
   | (with_reducible exact ih0 _ _)
   | (with_reducible exact LeO.refl _)
   | (with_reducible exact LeO.none _)
   | (with_reducible refine LeO.ite ?_ ?_)
   | (with_reducible refine LeO.bind ?_ (fun _=>?_))
   | exact ih0 _ _
   | exact LeO.none _
   | refine LeO.ite ?_ ?_
   | refine LeO.bind ?_ (fun _=>?_)
theorem laws_ascends.mono : ∀ a0 k,LeO (laws_ascends.f k a0) (laws_ascends.f (k + 1) a0):=by
 intro a0 k
 have ih0:=laws_ascends.mono_l k
 unfold laws_ascends.f
 repeat' first
   | (with_reducible exact ih0 _ _)
   | (with_reducible exact LeO.refl _)
   | (with_reducible exact LeO.none _)
   | (with_reducible refine LeO.ite ?_ ?_)
   | (with_reducible refine LeO.bind ?_ (fun _=>?_))
   | exact ih0 _ _
   | exact LeO.none _
   | refine LeO.ite ?_ ?_
   | refine LeO.bind ?_ (fun _=>?_)
set_option maxHeartbeats 8000000 in
set_option maxRecDepth 100000 in
theorem laws_ascends.calls (k : Nat) (A0 : Option Addr) (c0 : Nat) (l0 : List Int) (r : Bool) (w : World) (hr0 : Kd.C (Kd.int .i64) w A0 l0.length l0) (hc0 : l0.length ≤ c0) (h : laws_ascends.f k l0 = some r) :
  Calls Try.prog 20 #[.slice A0 l0.length c0] w fun e w'=>e = .returned (.bool r) ∧ Drawn0 w w':=by
 have HR0:=a0_ hr0
 have HC0:=a0_ hc0
 clear hr0 hc0
 have H : (laws_ascends.l0 k l0 1) = some r:=h
 clear h
 have H':=a0_ H
 clear H
 go_enter Try.func20,Try.ntmps20
 go_wp2
 repeat (go_quiet (fail);try go_wp2)
 go_loopg [3] k (fun kq v3 w'=>∃ (x3_1 : Int),v3 = .int .i64 x3_1 ∧ Aside0 (laws_ascends.l0 kq l0 x3_1 = some r) ∧ Aside0 (kq ≤ k) ∧ Drawn0 w w')
 case atStart=>exact ⟨(1),(by first | rfl | (simp;done) | (simp [*];done)),H',⟨Nat.le_refl _⟩,by repeat (first | exact Drawn0.refl _ | apply Drawn0.step)⟩
 case round =>
  clear H'
  obtain ⟨x3_1,rfl,HA,HK1,⟨m1,rfl⟩⟩:=hrel
  cases gk with
  | zero=>exact absurd HA.out (by simp [laws_ascends.l0])
  | succ k1 =>
   have H:=HA.out
   clear HA
   simp only [laws_ascends.l0] at H
   by_cases c2 : x3_1 < (l0.length : Int)
   ·rw [if_pos c2] at H
    have c2b0 : decide (x3_1 < (l0.length : Int)) = true:=decide_eq_true c2
    clear c2
    by_cases c3 : 0 ≤ x3_1
    ·rw [if_pos c3] at H
     have c3b0 : decide (0 ≤ x3_1) = true:=decide_eq_true c3
     clear c3
     obtain ⟨ji4,hji4⟩ : ∃ j_ : Int,(wrap64 (x3_1 - 1)) = j_:=⟨_,rfl⟩
     replace H : (if 0 ≤ (ji4) then (if (ji4) < (l0.length : Int) then (if (rd l0 x3_1) ≤ (rd l0 (ji4)) then (some false) else (laws_ascends.l0 k1 l0 (wrap64 (x3_1 + 1)))) else (none)) else (none)) = some r:=by first | (rw [hji4] at H;exact H) | (simp only [hji4] at H ⊢;exact H)
     have hji4w : (IntKind.i64.wrap (x3_1 - 1)) = ji4:=(i64_w _).trans hji4
     by_cases c5 : 0 ≤ (ji4)
     ·rw [if_pos c5] at H
      have c5b0 : decide (0 ≤ (ji4)) = true:=decide_eq_true c5
      clear c5
      by_cases c6 : (ji4) < (l0.length : Int)
      ·rw [if_pos c6] at H
       have c6b0 : decide ((ji4) < (l0.length : Int)) = true:=decide_eq_true c6
       clear c6
       by_cases c7 : (rd l0 x3_1) ≤ (rd l0 (ji4))
       ·rw [if_pos c7] at H
        have c7b0 : decide ((rd l0 x3_1) ≤ (rd l0 (ji4))) = true:=decide_eq_true c7
        clear c7
        obtain rfl:=Option.some.inj H
        have p1 : 0 ≤ (x3_1 : Int):=of_decide_eq_true (by first | (with_reducible assumption) | assumption)
        have q1 : x3_1 < (l0.length : Int):=of_decide_eq_true (by first | (with_reducible assumption) | assumption)
        obtain ⟨ad1,e1,hx1_0⟩:=Kd.at_int HR0.out x3_1 p1 q1
        cases e1
        replace p1:=eq_true p1
        replace q1:=eq_true q1
        have p2 : 0 ≤ ((ji4) : Int):=of_decide_eq_true (by first | (with_reducible assumption) | assumption)
        have q2 : (ji4) < (l0.length : Int):=of_decide_eq_true (by first | (with_reducible assumption) | assumption)
        obtain ⟨ad2,e2,hx2_0⟩:=Kd.at_int HR0.out (ji4) p2 q2
        obtain rfl : ad1 = ad2:=(by injection e2)
        replace p2:=eq_true p2
        replace q2:=eq_true q2
        go_wp2
        repeat (go_quiet (fail);try go_wp2)
        go_ret
        exact ⟨by first | rfl | (simp;done) | (simp only [← hji4] <;> (first | rfl | simp)) | (simp [*];done),by repeat (first | exact Drawn0.refl _ | apply Drawn0.step)⟩
       ·rw [if_neg c7] at H
        have c7b0 : decide ((rd l0 x3_1) ≤ (rd l0 (ji4))) = false:=decide_eq_false c7
        clear c7
        have H':=a0_ H
        clear H
        have p1 : 0 ≤ (x3_1 : Int):=of_decide_eq_true (by first | (with_reducible assumption) | assumption)
        have q1 : x3_1 < (l0.length : Int):=of_decide_eq_true (by first | (with_reducible assumption) | assumption)
        obtain ⟨ad1,e1,hx1_0⟩:=Kd.at_int HR0.out x3_1 p1 q1
        cases e1
        replace p1:=eq_true p1
        replace q1:=eq_true q1
        have p2 : 0 ≤ ((ji4) : Int):=of_decide_eq_true (by first | (with_reducible assumption) | assumption)
        have q2 : (ji4) < (l0.length : Int):=of_decide_eq_true (by first | (with_reducible assumption) | assumption)
        obtain ⟨ad2,e2,hx2_0⟩:=Kd.at_int HR0.out (ji4) p2 q2
        obtain rfl : ad1 = ad2:=(by injection e2)
        replace p2:=eq_true p2
        replace q2:=eq_true q2
        go_wp2
        repeat (go_quiet (fail);try go_wp2)
        go_roundg k1
        case measure=>have:=HK1.out;omega
        case rel=>exact ⟨(wrap64 (x3_1 + 1)),(by first | rfl | (simp;done) | (simp [*];done)),H',⟨by have:=HK1.out;omega⟩,by repeat (first | exact Drawn0.refl _ | apply Drawn0.step)⟩
      ·rw [if_neg c6] at H
       exact absurd H (by simp)
     ·rw [if_neg c5] at H
      exact absurd H (by simp)
    ·rw [if_neg c3] at H
     exact absurd H (by simp)
   ·rw [if_neg c2] at H
    have c2b0 : decide (x3_1 < (l0.length : Int)) = false:=decide_eq_false c2
    clear c2
    obtain rfl:=Option.some.inj H
    go_wp2
    repeat (go_quiet (fail);try go_wp2)
    go_ret
    exact ⟨by first | rfl | (simp;done) | (simp [*];done),by repeat (first | exact Drawn0.refl _ | apply Drawn0.step)⟩
end Go.Proofs.Ytacgehaipacehaa.P
namespace Go.Proofs.Ytacgehaipacehaa.P
open Go.RowKit Go.Proofs.YtacgehaipacehaaW.PrintWords Go.Proofs.YtacgehaipacehaaW.PrintLast Go.Proofs.YtacgehaipacehaaW.PrintMore
attribute [local go_sem] max2_int min2_int max_two min_two max_three min_three max_four min_four
set_option linter.unusedVariables false
set_option linter.unusedSimpArgs false
mutual
def laws_FnCaughtBy.j0 : Nat → List Int → List Int → Bool → List (S125) → Option (Bool)
 | 0,_,_,_,_=>none
 | k + 1,x4,x5,x34,x308000=>if x34 = true then ((spec_CaughtBy.f k x308000 x4).bind fun t316=>((laws_equalInts.f k x5 t316).bind fun t319=>(some t319))) else ((impl_DeadCatches.f k x308000 x4).bind fun t320=>(laws_FnCaughtBy.l0 k x4 x5 t320 (([] : List Int)) 0 x308000))
def laws_FnCaughtBy.l0 : Nat → List Int → List Int → List Int → List Int → Int → List (S125) → Option (Bool)
 | 0,_,_,_,_,_,_=>none
 | k + 1,x4,x5,x6,x7,x8,x308000=>if x8 < (x4.length : Int) then ((laws_isIn.f k x6 x8).bind fun t326=>(if t326 = true then (laws_FnCaughtBy.l0 k x4 x5 x6 x7 (wrap64 (x8 + 1)) x308000) else (if 0 ≤ x8 then (if x7.length < 17592186044416 then (laws_FnCaughtBy.l0 k x4 x5 x6 (x7 ++ [rd x4 x8]) (wrap64 (x8 + 1)) x308000) else (none)) else (none)))) else (laws_FnCaughtBy.l1 k x5 x7 0 x308000)
def laws_FnCaughtBy.l1 : Nat → List Int → List Int → Int → List (S125) → Option (Bool)
 | 0,_,_,_,_=>none
 | k + 1,x5,x7,x9,x308000=>if x9 < (x5.length : Int) then (if 0 ≤ x9 then ((impl_BelowOf.f x308000 (rd x5 x9)).bind fun t337=>(laws_FnCaughtBy.l2 k x5 x7 x9 t337 0 x308000)) else (none)) else ((laws_ascends.f k x5).bind fun t331=>(if t331 = true then ((impl_CaughtBy.f x308000 x7).bind fun t332=>((laws_equalInts.f k t332 x5).bind fun t335=>(some t335))) else (some false)))
def laws_FnCaughtBy.l2 : Nat → List Int → List Int → Int → List Int → Int → List (S125) → Option (Bool)
 | 0,_,_,_,_,_,_=>none
 | k + 1,x5,x7,x9,x10,x11,x308000=>if x11 < (x10.length : Int) then (if 0 ≤ x11 then ((laws_isIn.f k x5 (rd x10 x11)).bind fun t341=>(if t341 = true then (laws_FnCaughtBy.l2 k x5 x7 x9 x10 (wrap64 (x11 + 1)) x308000) else (some false))) else (none)) else (laws_FnCaughtBy.l1 k x5 x7 (wrap64 (x9 + 1)) x308000)
end
def laws_FnCaughtBy.f (k : Nat) (l0 : List Int) : Option (Bool):=if (l0.length : Int) > 1048576 then (some true) else ((spec_DrawCaughtBy.f k l0).bind fun bt301=>((impl_CaughtBy.f bt301.1 bt301.2).bind fun t308=>((spec_CaughtBy.f k bt301.1 bt301.2).bind fun t311=>((laws_equalInts.f k t308 t311).bind fun t314=>(if t314 = true then ((impl_FirstCatch.f bt301.1 bt301.2 0).bind fun t315=>(laws_FnCaughtBy.j0 k bt301.2 t308 (t315 == (-2)) bt301.1)) else (laws_FnCaughtBy.j0 k bt301.2 t308 true bt301.1))))))
theorem laws_FnCaughtBy.mono_l : ∀ k,(∀ y0 y1 y2 y3,LeO (laws_FnCaughtBy.j0 k y0 y1 y2 y3) (laws_FnCaughtBy.j0 (k + 1) y0 y1 y2 y3)) ∧ (∀ y0 y1 y2 y3 y4 y5,LeO (laws_FnCaughtBy.l0 k y0 y1 y2 y3 y4 y5) (laws_FnCaughtBy.l0 (k + 1) y0 y1 y2 y3 y4 y5)) ∧ (∀ y0 y1 y2 y3,LeO (laws_FnCaughtBy.l1 k y0 y1 y2 y3) (laws_FnCaughtBy.l1 (k + 1) y0 y1 y2 y3)) ∧ (∀ y0 y1 y2 y3 y4 y5,LeO (laws_FnCaughtBy.l2 k y0 y1 y2 y3 y4 y5) (laws_FnCaughtBy.l2 (k + 1) y0 y1 y2 y3 y4 y5))
 | 0=>⟨fun _ _ _ _ r h=>by simp [laws_FnCaughtBy.j0] at h,fun _ _ _ _ _ _ r h=>by simp [laws_FnCaughtBy.l0] at h,fun _ _ _ _ r h=>by simp [laws_FnCaughtBy.l1] at h,fun _ _ _ _ _ _ r h=>by simp [laws_FnCaughtBy.l2] at h⟩
 | k + 1=>by
  obtain ⟨ih0,ih1,ih2,ih3⟩:=laws_FnCaughtBy.mono_l k
  refine ⟨?_,?_,?_,?_⟩
  ·intro y0 y1 y2 y3
   unfold laws_FnCaughtBy.j0
   repeat' first
   | (with_reducible exact ih0 _ _ _ _)
   | (with_reducible exact ih1 _ _ _ _ _ _)
   | (with_reducible exact ih2 _ _ _ _)
   | (with_reducible exact ih3 _ _ _ _ _ _)
   | (with_reducible exact impl_DeadCatches.mono _ _ _)
   | (with_reducible exact laws_ascends.mono _ _)
   | (with_reducible exact laws_equalInts.mono _ _ _)
   | (with_reducible exact laws_isIn.mono _ _ _)
   | (with_reducible exact spec_CaughtBy.mono _ _ _)
   | (with_reducible exact spec_DrawCaughtBy.mono _ _)
   | (with_reducible exact LeO.refl _)
   | (with_reducible exact LeO.none _)
   | (with_reducible refine LeO.ite ?_ ?_)
   | (with_reducible refine LeO.bind ?_ (fun _=>?_))
   | exact ih0 _ _ _ _
   | exact ih1 _ _ _ _ _ _
   | exact ih2 _ _ _ _
   | exact ih3 _ _ _ _ _ _
   | exact impl_DeadCatches.mono _ _ _
   | exact laws_ascends.mono _ _
   | exact laws_equalInts.mono _ _ _
   | exact laws_isIn.mono _ _ _
   | exact spec_CaughtBy.mono _ _ _
   | exact spec_DrawCaughtBy.mono _ _
   | exact LeO.none _
   | refine LeO.ite ?_ ?_
   | refine LeO.bind ?_ (fun _=>?_)
  ·intro y0 y1 y2 y3 y4 y5
   unfold laws_FnCaughtBy.l0
   repeat' first
   | (with_reducible exact ih0 _ _ _ _)
   | (with_reducible exact ih1 _ _ _ _ _ _)
   | (with_reducible exact ih2 _ _ _ _)
   | (with_reducible exact ih3 _ _ _ _ _ _)
   | (with_reducible exact impl_DeadCatches.mono _ _ _)
   | (with_reducible exact laws_ascends.mono _ _)
   | (with_reducible exact laws_equalInts.mono _ _ _)
   | (with_reducible exact laws_isIn.mono _ _ _)
   | (with_reducible exact spec_CaughtBy.mono _ _ _)
   | (with_reducible exact spec_DrawCaughtBy.mono _ _)
   | (with_reducible exact LeO.refl _)
   | (with_reducible exact LeO.none _)
   | (with_reducible refine LeO.ite ?_ ?_)
   | (with_reducible refine LeO.bind ?_ (fun _=>?_))
   | exact ih0 _ _ _ _
   | exact ih1 _ _ _ _ _ _
   | exact ih2 _ _ _ _
   | exact ih3 _ _ _ _ _ _
   | exact impl_DeadCatches.mono _ _ _
   | exact laws_ascends.mono _ _
   | exact laws_equalInts.mono _ _ _
   | exact laws_isIn.mono _ _ _
   | exact spec_CaughtBy.mono _ _ _
   | exact spec_DrawCaughtBy.mono _ _
   | exact LeO.none _
   | refine LeO.ite ?_ ?_
   | refine LeO.bind ?_ (fun _=>?_)
  ·intro y0 y1 y2 y3
   unfold laws_FnCaughtBy.l1
   repeat' first
   | (with_reducible exact ih0 _ _ _ _)
   | (with_reducible exact ih1 _ _ _ _ _ _)
   | (with_reducible exact ih2 _ _ _ _)
   | (with_reducible exact ih3 _ _ _ _ _ _)
   | (with_reducible exact impl_DeadCatches.mono _ _ _)
   | (with_reducible exact laws_ascends.mono _ _)
   | (with_reducible exact laws_equalInts.mono _ _ _)
   | (with_reducible exact laws_isIn.mono _ _ _)
   | (with_reducible exact spec_CaughtBy.mono _ _ _)
   | (with_reducible exact spec_DrawCaughtBy.mono _ _)
   | (with_reducible exact LeO.refl _)
   | (with_reducible exact LeO.none _)
   | (with_reducible refine LeO.ite ?_ ?_)
   | (with_reducible refine LeO.bind ?_ (fun _=>?_))
   | exact ih0 _ _ _ _
   | exact ih1 _ _ _ _ _ _
   | exact ih2 _ _ _ _
   | exact ih3 _ _ _ _ _ _
   | exact impl_DeadCatches.mono _ _ _
   | exact laws_ascends.mono _ _
   | exact laws_equalInts.mono _ _ _
   | exact laws_isIn.mono _ _ _
   | exact spec_CaughtBy.mono _ _ _
   | exact spec_DrawCaughtBy.mono _ _
   | exact LeO.none _
   | refine LeO.ite ?_ ?_
   | refine LeO.bind ?_ (fun _=>?_)
  ·intro y0 y1 y2 y3 y4 y5
   unfold laws_FnCaughtBy.l2
   repeat' first
   | (with_reducible exact ih0 _ _ _ _)
   | (with_reducible exact ih1 _ _ _ _ _ _)
   | (with_reducible exact ih2 _ _ _ _)
   | (with_reducible exact ih3 _ _ _ _ _ _)
   | (with_reducible exact impl_DeadCatches.mono _ _ _)
   | (with_reducible exact laws_ascends.mono _ _)
   | (with_reducible exact laws_equalInts.mono _ _ _)
   | (with_reducible exact laws_isIn.mono _ _ _)
   | (with_reducible exact spec_CaughtBy.mono _ _ _)
   | (with_reducible exact spec_DrawCaughtBy.mono _ _)
   | (with_reducible exact LeO.refl _)
   | (with_reducible exact LeO.none _)
   | (with_reducible refine LeO.ite ?_ ?_)
   | (with_reducible refine LeO.bind ?_ (fun _=>?_))
   | exact ih0 _ _ _ _
   | exact ih1 _ _ _ _ _ _
   | exact ih2 _ _ _ _
   | exact ih3 _ _ _ _ _ _
   | exact impl_DeadCatches.mono _ _ _
   | exact laws_ascends.mono _ _
   | exact laws_equalInts.mono _ _ _
   | exact laws_isIn.mono _ _ _
   | exact spec_CaughtBy.mono _ _ _
   | exact spec_DrawCaughtBy.mono _ _
   | exact LeO.none _
   | refine LeO.ite ?_ ?_
   | refine LeO.bind ?_ (fun _=>?_)
theorem laws_FnCaughtBy.mono : ∀ a0 k,LeO (laws_FnCaughtBy.f k a0) (laws_FnCaughtBy.f (k + 1) a0):=by
 intro a0 k
 obtain ⟨ih0,ih1,ih2,ih3⟩:=laws_FnCaughtBy.mono_l k
 unfold laws_FnCaughtBy.f
 repeat' first
   | (with_reducible exact ih0 _ _ _ _)
   | (with_reducible exact ih1 _ _ _ _ _ _)
   | (with_reducible exact ih2 _ _ _ _)
   | (with_reducible exact ih3 _ _ _ _ _ _)
   | (with_reducible exact impl_DeadCatches.mono _ _ _)
   | (with_reducible exact laws_ascends.mono _ _)
   | (with_reducible exact laws_equalInts.mono _ _ _)
   | (with_reducible exact laws_isIn.mono _ _ _)
   | (with_reducible exact spec_CaughtBy.mono _ _ _)
   | (with_reducible exact spec_DrawCaughtBy.mono _ _)
   | (with_reducible exact LeO.refl _)
   | (with_reducible exact LeO.none _)
   | (with_reducible refine LeO.ite ?_ ?_)
   | (with_reducible refine LeO.bind ?_ (fun _=>?_))
   | exact ih0 _ _ _ _
   | exact ih1 _ _ _ _ _ _
   | exact ih2 _ _ _ _
   | exact ih3 _ _ _ _ _ _
   | exact impl_DeadCatches.mono _ _ _
   | exact laws_ascends.mono _ _
   | exact laws_equalInts.mono _ _ _
   | exact laws_isIn.mono _ _ _
   | exact spec_CaughtBy.mono _ _ _
   | exact spec_DrawCaughtBy.mono _ _
   | exact LeO.none _
   | refine LeO.ite ?_ ?_
   | refine LeO.bind ?_ (fun _=>?_)
set_option maxHeartbeats 8000000 in
set_option maxRecDepth 100000 in
theorem laws_FnCaughtBy.calls (k : Nat) (A0 : Option Addr) (c0 : Nat) (l0 : List Int) (r : Bool) (w : World) (hr0 : Kd.C (Kd.int .u8) w A0 l0.length l0) (hc0 : l0.length ≤ c0) (h : laws_FnCaughtBy.f k l0 = some r) :
  Calls Try.prog 3 #[.slice A0 l0.length c0] w fun e w'=>e = .returned (.bool r) ∧ Below w.heap.size w w':=by
 have hu25:=Try.underlying25
 have HR0:=a0_ hr0
 have HC0:=a0_ hc0
 clear hr0 hc0
 have HB:=a0_ (Below.refl w.heap.size w)
 have H : (if (l0.length : Int) > 1048576 then (some true) else ((spec_DrawCaughtBy.f k l0).bind fun bt301=>((impl_CaughtBy.f bt301.1 bt301.2).bind fun t308=>((spec_CaughtBy.f k bt301.1 bt301.2).bind fun t311=>((laws_equalInts.f k t308 t311).bind fun t314=>(if t314 = true then ((impl_FirstCatch.f bt301.1 bt301.2 0).bind fun t315=>(laws_FnCaughtBy.j0 k bt301.2 t308 (t315 == (-2)) bt301.1)) else (laws_FnCaughtBy.j0 k bt301.2 t308 true bt301.1))))))) = some r:=h
 clear h
 by_cases c2 : (l0.length : Int) > 1048576
 ·rw [if_pos c2] at H
  have c2b0 : decide (1048576 < (l0.length : Int)) = true:=decide_eq_true c2
  have c2b1 : decide (1048576 < l0.length) = true:=decide_eq_true (by omega)
  clear c2
  obtain rfl:=Option.some.inj H
  go_enter Try.func3,Try.ntmps3
  go_wp2
  go_ret
  exact ⟨by first | rfl | (simp [errW_none,errW_some] <;> rfl) | (simp [*,errW_none,errW_some] <;> rfl),hb_⟩
 ·rw [if_neg c2] at H
  have c2b0 : decide (1048576 < (l0.length : Int)) = false:=decide_eq_false c2
  have c2b1 : decide (1048576 < l0.length) = false:=decide_eq_false (by omega)
  clear c2
  replace H:=Option.bind_eq_some_iff.mp H
  obtain ⟨⟨t301,t304⟩,A30,H⟩:=H
  try dsimp only at H
  have A3:=a0_ A30
  clear A30
  replace H:=Option.bind_eq_some_iff.mp H
  obtain ⟨t308,A40,H⟩:=H
  try dsimp only at H
  have A4:=a0_ A40
  clear A40
  have HC5:=a0_ H
  clear H
  go_enter Try.func3,Try.ntmps3
  go_upto_region 5 with (first | ((with_reducible refine gate_callee (f:=12) rfl ?_);refine goesL_ (some 17) rfl rfl Try.func12 (by kernel_rfl) rfl #[.slice A0 l0.length c0] rfl lm_ ?_;(with_reducible refine (spec_DrawCaughtBy.calls k _ _ l0 t301 t304 _ ?side1 ?side2 A3.out).mono ?_);(case side1=>repeat (first | exact HR0.out | (with_reducible refine Kd.C_alloc ?_ _) | (with_reducible refine Kd.C_drewN ?_ _) | (with_reducible refine Kd.C_drew ?_)));(case side2=>exact HC0.out);rintro e w6 ⟨v302,v305,rfl,ho0,ho1,hb⟩;refine ⟨_,rfl,?_⟩;have HO303:=a0_ (Kd.R_lower ho0 (below_size hb_));have HO306:=a0_ (Kd.R_lower ho1 (below_size hb_));replace HB:=a0_ (below_step hb_ hb);(try clear hb);(try clear ho0);(try clear ho1)) | ((with_reducible refine gate_dst (N:=3) rfl ?_);refine box_event ?hg (N:=3) ?hd (cs:=#[.slice none 0 0]) (t:=25) ?hr ?_;(case hd=>rfl);(case hg=>rfl);(case hr=>first | (go_simp;done) | (go_simp;rfl));intro gb307 hg w7 hbox hb;replace HO303:=rb_ HO303 hb;replace HO306:=rb_ HO306 hb;have BK307:=a0_ (hbox);have GW307:=a0_ ((by rw [hg];exact (below_size hb_) : w.heap.size ≤ gb307));have GE307:=a0_ ((by rw [hg];exact (below_size hb_) : w.heap.size ≤ gb307));replace HB:=a0_ (below_step hb_ hb);clear hb hbox hg;obtain ⟨Ao8,co8,eo8⟩:=Kd.R_slice HO303.out;subst eo8;have hcz9_0 : w7.cell? ⟨gb307,0,none⟩ = some (.slice none 0 0):=(blk_cell BK307.out 0).trans rfl;have hfz9_0:=blk_frozen BK307.out 0;obtain ⟨Ao10,co10,eo10⟩:=Kd.R_slice HO306.out;subst eo10) | ((with_reducible refine gate_callee (f:=13) rfl ?_);refine goesL_ (some 22) rfl rfl Try.func13 (by kernel_rfl) rfl #[.agg #[.slice Ao8 t301.length co8],.slice Ao10 t304.length co10] rfl lm_ ?_;(with_reducible refine (impl_CaughtBy.calls _ _ t301 _ _ t304 t308 _ ?side1 ?side2 ?side3 ?side4 A4.out).mono ?_);(case side1=>refine (Kd.R_reads' (e:=125) (base:=w.heap.size) (ok:=fun k_=>True) (n:=t301.length) (c:=co8) ?_).2.2;exact (by (with_reducible repeat (first | apply Kd.R_alloc | apply Kd.R_drewN | apply Kd.R_drew));exact (Kd.R_mono (Kd.R_far (p:=⟨gb307,0,none⟩) (Kd.R_types HO303.out BK307.out (by decide)) (fun _ hk=>hk.2) (.slice Ao8 t301.length co8)) (fun _ h_=>h_.1))));(case side2=>exact (Kd.R_reads' HO303.out).2.1);(case side3=>refine (Kd.R_reads' (e:=3) (base:=w.heap.size) (ok:=fun k_=>True) (n:=t304.length) (c:=co10) ?_).2.2;exact (by (with_reducible repeat (first | apply Kd.R_alloc | apply Kd.R_drewN | apply Kd.R_drew));exact (Kd.R_mono (Kd.R_far (p:=⟨gb307,0,none⟩) (Kd.R_types HO306.out BK307.out (by decide)) (fun _ hk=>hk.2) (.slice Ao8 t301.length co8)) (fun _ h_=>h_.1))));(case side4=>exact (Kd.R_reads' HO306.out).2.1);rintro e w11 ⟨v309,rfl,ho0,hb⟩;refine ⟨_,rfl,?_⟩;have n0_:=a0_ (Kd.R_below (by (with_reducible repeat (first | apply Kd.R_alloc | apply Kd.R_drewN | apply Kd.R_drew));exact (Kd.R_mono (Kd.R_far (p:=⟨gb307,0,none⟩) (Kd.R_types HO303.out BK307.out (by decide)) (fun _ hk=>hk.2) (.slice Ao8 t301.length co8)) (fun _ h_=>h_.1))) hb);have n1_:=a0_ (Kd.R_elder' (by (with_reducible repeat (first | apply Kd.R_alloc | apply Kd.R_drewN | apply Kd.R_drew));exact (Kd.R_mono (Kd.R_far (p:=⟨gb307,0,none⟩) (Kd.R_types HO306.out BK307.out (by decide)) (fun _ hk=>hk.2) (.slice Ao8 t301.length co8)) (fun _ h_=>h_.1))) (Kd.R_base ho0) hb);have n2_:=a0_ (Kd.R_lower (Kd.R_new' ho0 (Kd.R_lt (by (with_reducible repeat (first | apply Kd.R_alloc | apply Kd.R_drewN | apply Kd.R_drew));exact (Kd.R_mono (Kd.R_far (p:=⟨gb307,0,none⟩) (Kd.R_types HO306.out BK307.out (by decide)) (fun _ hk=>hk.2) (.slice Ao8 t301.length co8)) (fun _ h_=>h_.1))))) (below_size hb_));have n3_:=a0_ (blk_below (g:=gb307) (o:=.cells #[.slice Ao8 t301.length co8] 25 (0,0)) (by (with_reducible repeat (first | refine blk_drewN ?_ _ | refine blk_drew ?_ | refine blk_alloc ?_ _));refine blk_put (cs:=#[.slice none 0 0]) ?_ 0 _ rfl;(with_reducible repeat (first | refine blk_drewN ?_ _ | refine blk_drew ?_ | refine blk_alloc ?_ _));exact BK307.out) hb);have n4_:=a0_ (below_step hb_ hb);clear HO303 HO306;clear BK307 HB;have HO303:=n0_;have HO306:=n1_;have HO310:=n2_;have BK307:=n3_;have HB:=n4_;clear n0_ n1_ n2_ n3_ n4_;(try clear hb);(try clear ho0)))
  (try simp only [Act.put,s1_,s2_,s3_])
  go_cut [34] (fun v34 wc=>∃ (kq : Nat) (x34_4 : Bool),v34 = .bool x34_4 ∧ Aside0 (laws_FnCaughtBy.j0 kq t304 t308 x34_4 t301 = some r) ∧ Aside0 (kq ≤ k) ∧ Aside0 (Kd.R (Kd.int .i64) 3 wc w.heap.size (fun k_=>some k_ ≠ (v309 : Value).ownBlock) (.slice Ao10 t304.length co10) t304) ∧ Aside0 (Kd.R (Kd.int .i64) 3 wc w.heap.size (fun k_=>some k_ ≠ ((.slice Ao10 t304.length co10) : Value).ownBlock) v309 t308) ∧ Aside0 (Kd.R k125 125 wc w.heap.size (fun _=>True) (.slice Ao8 t301.length co8) t301) ∧ Aside0 (wc.heap[gb307]? = some (.cells #[(.slice Ao8 t301.length co8)] 25 (0,0))) ∧ Aside0 (Below w.heap.size w wc))
  case first =>
   have H:=HC5.out
   clear HC5
   replace H:=Option.bind_eq_some_iff.mp H
   obtain ⟨t311,A120,H⟩:=H
   try dsimp only at H
   have A12:=a0_ A120
   clear A120
   replace H:=Option.bind_eq_some_iff.mp H
   obtain ⟨t314,A130,H⟩:=H
   try dsimp only at H
   have A13:=a0_ A130
   clear A130
   by_cases c14 : t314 = true
   ·subst c14
    have H1 : ((impl_FirstCatch.f t301 t304 0).bind fun t315=>(laws_FnCaughtBy.j0 k t304 t308 (t315 == (-2)) t301)) = some r:=by rw [if_pos rfl] at H;exact H
    clear H
    have H:=H1
    clear H1
    replace H:=Option.bind_eq_some_iff.mp H
    obtain ⟨t315,A150,H⟩:=H
    try dsimp only at H
    have A15:=a0_ A150
    clear A150
    have H':=a0_ H
    clear H
    have hcz16_0 : w11.cell? ⟨gb307,0,none⟩ = some (.slice Ao8 t301.length co8):=(blk_cell BK307.out 0).trans rfl
    have hfz16_0:=blk_frozen BK307.out 0
    go_wp2_with (first | ((with_reducible refine gate_callee (f:=15) rfl ?_);refine goesL_ (some 26) rfl rfl Try.func15 (by kernel_rfl) rfl #[.agg #[.slice Ao8 t301.length co8],.slice Ao10 t304.length co10] rfl lm_ ?_;(with_reducible refine (spec_CaughtBy.calls k _ _ t301 _ _ t304 t311 _ ?side1 ?side2 ?side3 ?side4 A12.out).mono ?_);(case side1=>exact cc_ (Kd.R_reads' HO303.out).2.2);(case side2=>exact (Kd.R_reads' HO303.out).2.1);(case side3=>exact cc_ (Kd.R_reads' HO306.out).2.2);(case side4=>exact (Kd.R_reads' HO306.out).2.1);rintro e w17 ⟨v312,rfl,ho0,hb⟩;refine ⟨_,rfl,?_⟩;have n0_:=rb_ HO303 hb;have n1_:=a0_ (Kd.R_elder' (rr_ HO306.out) (Kd.R_base ho0) hb);have n2_:=a0_ (Kd.R_elder' (rr_ HO310.out) (Kd.R_base ho0) hb);have n3_:=a0_ (Kd.R_lower (Kd.R_new' (Kd.R_new' ho0 (Kd.R_lt (rr_ HO306.out))) (Kd.R_lt (rr_ HO310.out))) (below_size hb_));have n4_:=kb_ BK307 hb;have n5_:=a0_ (below_step hb_ hb);clear HO303 HO306;clear HO310 BK307 HB;have HO303:=n0_;have HO306:=n1_;have HO310:=n2_;have HO313:=n3_;have BK307:=n4_;have HB:=n5_;clear n0_ n1_ n2_ n3_ n4_ n5_;(try clear hb);(try clear ho0);obtain ⟨Ao18,co18,eo18⟩:=Kd.R_slice HO310.out;subst eo18;obtain ⟨Ao19,co19,eo19⟩:=Kd.R_slice HO313.out;subst eo19) | ((with_reducible refine gate_callee (f:=14) rfl ?_);refine goesL_ (some 27) rfl rfl Try.func14 (by kernel_rfl) rfl #[.slice Ao18 t308.length co18,.slice Ao19 t311.length co19] rfl lm_ ?_;(with_reducible refine (laws_equalInts.calls k _ _ t308 _ _ t311 true _ ?side1 ?side2 ?side3 ?side4 A13.out).mono ?_);(case side1=>exact cc_ (Kd.R_reads' HO310.out).2.2);(case side2=>exact (Kd.R_reads' HO310.out).2.1);(case side3=>exact cc_ (Kd.R_reads' HO313.out).2.2);(case side4=>exact (Kd.R_reads' HO313.out).2.1);rintro e w' ⟨rfl,⟨nd,rfl⟩⟩;refine ⟨_,rfl,?_⟩;have hcz20_0 : w17.cell? ⟨gb307,0,none⟩ = some (.slice Ao8 t301.length co8):=(blk_cell BK307.out 0).trans rfl;have hfz20_0:=blk_frozen BK307.out 0) | (go_at_call 16;(with_reducible refine (impl_FirstCatch.calls _ _ t301 _ _ t304 0 t315 _ ?side1 ?side2 ?side3 ?side4 A15.out).mono ?_);(case side1=>exact cc_ (Kd.R_reads' HO303.out).2.2);(case side2=>exact (Kd.R_reads' HO303.out).2.1);(case side3=>exact cc_ (Kd.R_reads' HO306.out).2.2);(case side4=>exact (Kd.R_reads' HO306.out).2.1);rintro e w21 ⟨rfl,hb⟩;replace HO303:=rb_ HO303 hb;replace HO306:=rb_ HO306 hb;replace HO310:=rb_ HO310 hb;replace HO313:=rb_ HO313 hb;replace BK307:=kb_ BK307 hb;replace HB:=a0_ (below_step hb_ hb);(try clear hb);(try clear hb2);(try clear hk);(try clear hi)))
    go_meet
    case rel=>exact ⟨_,((t315 == (-2))),(by first | rfl | (simp;done) | (simp [*];done)),H',⟨by first | omega | exact Nat.le_refl _⟩,⟨by (with_reducible repeat (first | apply Kd.R_alloc | apply Kd.R_drewN | apply Kd.R_drew));exact Kd.R_mono HO306.out (fun _ hk=>hk.1.2)⟩,⟨by (with_reducible repeat (first | apply Kd.R_alloc | apply Kd.R_drewN | apply Kd.R_drew));exact Kd.R_mono HO310.out (fun _ hk=>hk.1.2)⟩,⟨by (with_reducible repeat (first | apply Kd.R_alloc | apply Kd.R_drewN | apply Kd.R_drew));exact HO303.out⟩,⟨by (with_reducible repeat (first | refine blk_drewN ?_ _ | refine blk_drew ?_ | refine blk_alloc ?_ _));exact BK307.out⟩,⟨hb_⟩⟩
   ·replace c14:=Bool.eq_false_iff.mpr c14
    subst c14
    have H1 : (laws_FnCaughtBy.j0 k t304 t308 true t301) = some r:=by rw [if_neg (show ¬ (false = true) by decide)] at H;exact H
    clear H
    have H:=H1
    clear H1
    have H':=a0_ H
    clear H
    have hcz22_0 : w11.cell? ⟨gb307,0,none⟩ = some (.slice Ao8 t301.length co8):=(blk_cell BK307.out 0).trans rfl
    have hfz22_0:=blk_frozen BK307.out 0
    go_wp2_with (first | ((with_reducible refine gate_callee (f:=15) rfl ?_);refine goesL_ (some 26) rfl rfl Try.func15 (by kernel_rfl) rfl #[.agg #[.slice Ao8 t301.length co8],.slice Ao10 t304.length co10] rfl lm_ ?_;(with_reducible refine (spec_CaughtBy.calls k _ _ t301 _ _ t304 t311 _ ?side1 ?side2 ?side3 ?side4 A12.out).mono ?_);(case side1=>exact cc_ (Kd.R_reads' HO303.out).2.2);(case side2=>exact (Kd.R_reads' HO303.out).2.1);(case side3=>exact cc_ (Kd.R_reads' HO306.out).2.2);(case side4=>exact (Kd.R_reads' HO306.out).2.1);rintro e w23 ⟨v312,rfl,ho0,hb⟩;refine ⟨_,rfl,?_⟩;have n0_:=rb_ HO303 hb;have n1_:=a0_ (Kd.R_elder' (rr_ HO306.out) (Kd.R_base ho0) hb);have n2_:=a0_ (Kd.R_elder' (rr_ HO310.out) (Kd.R_base ho0) hb);have n3_:=a0_ (Kd.R_lower (Kd.R_new' (Kd.R_new' ho0 (Kd.R_lt (rr_ HO306.out))) (Kd.R_lt (rr_ HO310.out))) (below_size hb_));have n4_:=kb_ BK307 hb;have n5_:=a0_ (below_step hb_ hb);clear HO303 HO306;clear HO310 BK307 HB;have HO303:=n0_;have HO306:=n1_;have HO310:=n2_;have HO313:=n3_;have BK307:=n4_;have HB:=n5_;clear n0_ n1_ n2_ n3_ n4_ n5_;(try clear hb);(try clear ho0);obtain ⟨Ao24,co24,eo24⟩:=Kd.R_slice HO310.out;subst eo24;obtain ⟨Ao25,co25,eo25⟩:=Kd.R_slice HO313.out;subst eo25) | ((with_reducible refine gate_callee (f:=14) rfl ?_);refine goesL_ (some 27) rfl rfl Try.func14 (by kernel_rfl) rfl #[.slice Ao24 t308.length co24,.slice Ao25 t311.length co25] rfl lm_ ?_;(with_reducible refine (laws_equalInts.calls k _ _ t308 _ _ t311 false _ ?side1 ?side2 ?side3 ?side4 A13.out).mono ?_);(case side1=>exact cc_ (Kd.R_reads' HO310.out).2.2);(case side2=>exact (Kd.R_reads' HO310.out).2.1);(case side3=>exact cc_ (Kd.R_reads' HO313.out).2.2);(case side4=>exact (Kd.R_reads' HO313.out).2.1);rintro e w' ⟨rfl,⟨nd,rfl⟩⟩;refine ⟨_,rfl,?_⟩))
    go_meet
    case rel=>exact ⟨_,(true),(by first | rfl | (simp;done) | (simp [*];done)),H',⟨by first | omega | exact Nat.le_refl _⟩,⟨by (with_reducible repeat (first | apply Kd.R_alloc | apply Kd.R_drewN | apply Kd.R_drew));exact Kd.R_mono HO306.out (fun _ hk=>hk.1.2)⟩,⟨by (with_reducible repeat (first | apply Kd.R_alloc | apply Kd.R_drewN | apply Kd.R_drew));exact Kd.R_mono HO310.out (fun _ hk=>hk.1.2)⟩,⟨by (with_reducible repeat (first | apply Kd.R_alloc | apply Kd.R_drewN | apply Kd.R_drew));exact HO303.out⟩,⟨by (with_reducible repeat (first | refine blk_drewN ?_ _ | refine blk_drew ?_ | refine blk_alloc ?_ _));exact BK307.out⟩,⟨hb_⟩⟩
  case rest =>
   clear HC5
   try clear c1
   try clear c2
   try clear c2b0
   try clear c2b1
   try clear p2
   try clear c3
   try clear c12
   try clear c13
   try clear c14
   try clear c15
   try clear hcz16_0
   try clear hcz20_0
   try clear hcz22_0
   try clear hcz9_0
   try clear hfz16_0
   try clear hfz20_0
   try clear hfz22_0
   try clear hfz9_0
   obtain ⟨kq,x34_4,rfl,HA,HJ4,HO_4,HO_5,Z308,BK307,HB⟩:=hcut
   cases kq with
   | zero=>exact absurd HA.out (by simp [laws_FnCaughtBy.j0])
   | succ kj4 =>
    have H:=HA.out
    clear HA
    simp only [laws_FnCaughtBy.j0] at H
    by_cases c26 : x34_4 = true
    ·subst c26
     have H1 : ((spec_CaughtBy.f kj4 t301 t304).bind fun t316=>((laws_equalInts.f kj4 t308 t316).bind fun t319=>(some t319))) = some r:=by rw [if_pos rfl] at H;exact H
     clear H
     have H:=H1
     clear H1
     replace H:=Option.bind_eq_some_iff.mp H
     obtain ⟨t316,A270,H⟩:=H
     try dsimp only at H
     have A27:=a0_ A270
     clear A270
     replace H:=Option.bind_eq_some_iff.mp H
     obtain ⟨t319,A280,H⟩:=H
     replace H : (some t319) = some r:=H
     have A28:=a0_ A280
     clear A280
     obtain rfl:=Option.some.inj H
     have hcz29_0 : wc.cell? ⟨gb307,0,none⟩ = some (.slice Ao8 t301.length co8):=(blk_cell BK307.out 0).trans rfl
     have hfz29_0:=blk_frozen BK307.out 0
     go_wp2_with (first | ((with_reducible refine gate_callee (f:=15) rfl ?_);refine goesL_ (some 38) rfl rfl Try.func15 (by kernel_rfl) rfl #[.agg #[.slice Ao8 t301.length co8],.slice Ao10 t304.length co10] rfl lm_ ?_;(with_reducible refine (spec_CaughtBy.calls kj4 _ _ t301 _ _ t304 t316 _ ?side1 ?side2 ?side3 ?side4 A27.out).mono ?_);(case side1=>exact cc_ (Kd.R_reads' Z308.out).2.2);(case side2=>exact (Kd.R_reads' Z308.out).2.1);(case side3=>exact cc_ (Kd.R_reads' HO_4.out).2.2);(case side4=>exact (Kd.R_reads' HO_4.out).2.1);rintro e w30 ⟨v317,rfl,ho0,hb⟩;refine ⟨_,rfl,?_⟩;have n0_:=a0_ (Kd.R_elder' (rr_ HO_4.out) (Kd.R_base ho0) hb);have n1_:=a0_ (Kd.R_elder' (rr_ HO_5.out) (Kd.R_base ho0) hb);have n2_:=rb_ Z308 hb;have n3_:=a0_ (Kd.R_lower (Kd.R_new' (Kd.R_new' ho0 (Kd.R_lt (rr_ HO_4.out))) (Kd.R_lt (rr_ HO_5.out))) (below_size hb_));have n4_:=kb_ BK307 hb;have n5_:=a0_ (below_step hb_ hb);clear HO_4 HO_5;clear Z308 BK307 HB;have HO_4:=n0_;have HO_5:=n1_;have Z308:=n2_;have HO318:=n3_;have BK307:=n4_;have HB:=n5_;clear n0_ n1_ n2_ n3_ n4_ n5_;(try clear hb);(try clear ho0);obtain ⟨Ao31,co31,eo31⟩:=Kd.R_slice HO_5.out;subst eo31;obtain ⟨Ao32,co32,eo32⟩:=Kd.R_slice HO318.out;subst eo32) | ((with_reducible refine gate_callee (f:=14) rfl ?_);refine goesL_ (some 39) rfl rfl Try.func14 (by kernel_rfl) rfl #[.slice Ao31 t308.length co31,.slice Ao32 t316.length co32] rfl lm_ ?_;(with_reducible refine (laws_equalInts.calls kj4 _ _ t308 _ _ t316 t319 _ ?side1 ?side2 ?side3 ?side4 A28.out).mono ?_);(case side1=>exact cc_ (Kd.R_reads' HO_5.out).2.2);(case side2=>exact (Kd.R_reads' HO_5.out).2.1);(case side3=>exact cc_ (Kd.R_reads' HO318.out).2.2);(case side4=>exact (Kd.R_reads' HO318.out).2.1);rintro e w' ⟨rfl,⟨nd,rfl⟩⟩;refine ⟨_,rfl,?_⟩))
     go_ret
     exact ⟨by first | rfl | (simp [errW_none,errW_some] <;> rfl) | (simp [*,errW_none,errW_some] <;> rfl),hb_⟩
    ·replace c26:=Bool.eq_false_iff.mpr c26
     subst c26
     have H1 : ((impl_DeadCatches.f kj4 t301 t304).bind fun t320=>(laws_FnCaughtBy.l0 kj4 t304 t308 t320 (([] : List Int)) 0 t301)) = some r:=by rw [if_neg (show ¬ (false = true) by decide)] at H;exact H
     clear H
     have H:=H1
     clear H1
     replace H:=Option.bind_eq_some_iff.mp H
     obtain ⟨t320,A330,H⟩:=H
     try dsimp only at H
     have A33:=a0_ A330
     clear A330
     obtain ⟨y323,hy323⟩ : ∃ y_ : List Int,y_ = (([] : List Int)):=⟨_,rfl⟩
     replace H : (laws_FnCaughtBy.l0 kj4 t304 t308 t320 y323 0 t301) = some r:=by first | (rw [hy323];with_reducible exact H) | (have H2_:=(Option.bind_some _ _).symm.trans H;rw [hy323];with_reducible exact H2_) | (have H2_:=(Option.bind_some _ _).symm.trans H;with_reducible exact H2_) | with_reducible exact H | (rw [hy323];exact H) | exact H
     have Ny323:=a0_ hy323
     clear hy323
     have H':=a0_ H
     clear H
     have hcz34_0 : wc.cell? ⟨gb307,0,none⟩ = some (.slice Ao8 t301.length co8):=(blk_cell BK307.out 0).trans rfl
     have hfz34_0:=blk_frozen BK307.out 0
     go_wp2_with (first | ((with_reducible refine gate_callee (f:=17) rfl ?_);refine goesL_ (some 42) rfl rfl Try.func17 (by kernel_rfl) rfl #[.agg #[.slice Ao8 t301.length co8],.slice Ao10 t304.length co10] rfl lm_ ?_;(with_reducible refine (impl_DeadCatches.calls kj4 _ _ t301 _ _ t304 t320 _ ?side1 ?side2 ?side3 ?side4 A33.out).mono ?_);(case side1=>exact cc_ (Kd.R_reads' Z308.out).2.2);(case side2=>exact (Kd.R_reads' Z308.out).2.1);(case side3=>exact cc_ (Kd.R_reads' HO_4.out).2.2);(case side4=>exact (Kd.R_reads' HO_4.out).2.1);rintro e w35 ⟨v321,rfl,ho0,hb⟩;refine ⟨_,rfl,?_⟩;have n0_:=a0_ (Kd.R_elder' (rr_ HO_4.out) (Kd.R_base ho0) hb);have n1_:=a0_ (Kd.R_elder' (rr_ HO_5.out) (Kd.R_base ho0) hb);have n2_:=rb_ Z308 hb;have n3_:=a0_ (Kd.R_lower (Kd.R_new' (Kd.R_new' ho0 (Kd.R_lt (rr_ HO_4.out))) (Kd.R_lt (rr_ HO_5.out))) (below_size hb_));have n4_:=kb_ BK307 hb;have n5_:=a0_ (below_step hb_ hb);clear HO_4 HO_5;clear Z308 BK307 HB;have HO_4:=n0_;have HO_5:=n1_;have Z308:=n2_;have HO322:=n3_;have BK307:=n4_;have HB:=n5_;clear n0_ n1_ n2_ n3_ n4_ n5_;(try clear hb);(try clear ho0)) | ((with_reducible refine gate_dst (N:=43) rfl ?_);refine Kd.R_lit (Kd.int .i64) _ 3 ?hg (N:=43) ?hd (xs:=([] : List Int)) (inner:=[]) (ok:=fun _=>True) (okp:=fun _=>True) ?hr ?hp (fun _ hk=>hk) trivial (Below.refl _ _) (Nat.le_refl _) (by simp) ?_;(case hd=>rfl);(case hg=>rfl);(case hr=>first | (go_simp;done) | (go_simp;rfl));(case hp=>exact (Reps.none _ _));intro v324 w36 ho37 hb hg_ hnew_;clear hg_ hnew_;(first | rw [← Ny323.out] at ho37 | (simp only [Int.reduceToNat] at ho37;rw [← Ny323.out] at ho37));have n0_:=a0_ (Kd.R_elder' (rr_ HO_4.out) (Kd.R_base ho37) hb);have n1_:=a0_ (Kd.R_elder' (rr_ HO_5.out) (Kd.R_base ho37) hb);have n2_:=rb_ Z308 hb;have n3_:=a0_ (Kd.R_elder' (rr_ HO322.out) (Kd.R_base ho37) hb);have n4_:=a0_ (Kd.R_lower (Kd.R_new' (Kd.R_new' (Kd.R_new' ho37 (Kd.R_lt (rr_ HO_4.out))) (Kd.R_lt (rr_ HO_5.out))) (Kd.R_lt (rr_ HO322.out))) (below_size hb_));have n5_:=kb_ BK307 hb;have n6_:=a0_ (below_step hb_ hb);clear HO_4 HO_5;clear Z308 HO322;clear BK307 HB;have HO_4:=n0_;have HO_5:=n1_;have Z308:=n2_;have HO322:=n3_;have HO325:=n4_;have BK307:=n5_;have HB:=n6_;clear n0_ n1_ n2_ n3_ n4_ n5_ n6_;clear hb ho37))
     go_loopg [7,8] kj4 (fun kq v7 v8 w'=>∃ (x7_2 : List Int) (x8_2 : Int),v8 = .int .i64 x8_2 ∧ Aside0 (laws_FnCaughtBy.l0 kq t304 t308 t320 x7_2 x8_2 t301 = some r) ∧ Aside0 (kq ≤ kj4) ∧ Aside0 (Kd.R (Kd.int .i64) 3 w' w.heap.size (fun k_=>some k_ ≠ (v309 : Value).ownBlock ∧ some k_ ≠ (v321 : Value).ownBlock ∧ some k_ ≠ (v7 : Value).ownBlock) (.slice Ao10 t304.length co10) t304) ∧ Aside0 (Kd.R (Kd.int .i64) 3 w' w.heap.size (fun k_=>some k_ ≠ ((.slice Ao10 t304.length co10) : Value).ownBlock ∧ some k_ ≠ (v321 : Value).ownBlock ∧ some k_ ≠ (v7 : Value).ownBlock) v309 t308) ∧ Aside0 (Kd.R (Kd.int .i64) 3 w' w.heap.size (fun k_=>some k_ ≠ ((.slice Ao10 t304.length co10) : Value).ownBlock ∧ some k_ ≠ (v309 : Value).ownBlock ∧ some k_ ≠ (v7 : Value).ownBlock) v321 t320) ∧ Aside0 (Kd.R (Kd.int .i64) 3 w' w.heap.size (fun k_=>some k_ ≠ ((.slice Ao10 t304.length co10) : Value).ownBlock ∧ some k_ ≠ (v309 : Value).ownBlock ∧ some k_ ≠ (v321 : Value).ownBlock) v7 x7_2) ∧ Aside0 (Kd.R k125 125 w' w.heap.size (fun _=>True) (.slice Ao8 t301.length co8) t301) ∧ Aside0 (w'.heap[gb307]? = some (.cells #[(.slice Ao8 t301.length co8)] 25 (0,0))) ∧ Aside0 (Below w.heap.size w w'))
     case atStart=>exact ⟨(y323),(0),(by first | rfl | (simp;done) | (simp [*];done)),H',⟨Nat.le_refl _⟩,⟨by (with_reducible repeat (first | apply Kd.R_alloc | apply Kd.R_drewN | apply Kd.R_drew));exact Kd.R_mono HO_4.out (fun _ hk=>⟨hk.1.1,⟨hk.1.2,hk.2⟩⟩)⟩,⟨by (with_reducible repeat (first | apply Kd.R_alloc | apply Kd.R_drewN | apply Kd.R_drew));exact Kd.R_mono HO_5.out (fun _ hk=>⟨hk.1.1,⟨hk.1.2,hk.2⟩⟩)⟩,⟨by (with_reducible repeat (first | apply Kd.R_alloc | apply Kd.R_drewN | apply Kd.R_drew));exact Kd.R_mono HO322.out (fun _ hk=>⟨hk.1.1.2,⟨hk.1.2,hk.2⟩⟩)⟩,⟨by (with_reducible repeat (first | apply Kd.R_alloc | apply Kd.R_drewN | apply Kd.R_drew));exact Kd.R_mono HO325.out (fun _ hk=>⟨hk.1.1.2,⟨hk.1.2,hk.2⟩⟩)⟩,⟨by (with_reducible repeat (first | apply Kd.R_alloc | apply Kd.R_drewN | apply Kd.R_drew));exact Z308.out⟩,⟨by (with_reducible repeat (first | refine blk_drewN ?_ _ | refine blk_drew ?_ | refine blk_alloc ?_ _));exact BK307.out⟩,⟨hb_⟩⟩
     case round =>
      clear H'
      try clear c1
      try clear c2
      try clear c2b0
      try clear c2b1
      try clear p2
      try clear c3
      try clear c12
      try clear c13
      try clear c14
      try clear c15
      try clear c17
      try clear c26
      try clear hcz16_0
      try clear hcz20_0
      try clear hcz22_0
      try clear hcz29_0
      try clear hcz34_0
      try clear hcz9_0
      try clear hfz16_0
      try clear hfz20_0
      try clear hfz22_0
      try clear hfz29_0
      try clear hfz34_0
      try clear hfz9_0
      try clear p2
      obtain ⟨x7_2,x8_2,rfl,HA,HK2,HO_4,HO_5,HO_6,HO_7,Z308,BK307,HB⟩:=hrel
      cases gk with
      | zero=>exact absurd HA.out (by simp [laws_FnCaughtBy.l0])
      | succ k2 =>
       have H:=HA.out
       clear HA
       simp only [laws_FnCaughtBy.l0] at H
       by_cases c38 : x8_2 < (t304.length : Int)
       ·rw [if_pos c38] at H
        have c38b0 : decide (x8_2 < (t304.length : Int)) = true:=decide_eq_true c38
        clear c38
        replace H:=Option.bind_eq_some_iff.mp H
        obtain ⟨t326,A390,H⟩:=H
        try dsimp only at H
        have A39:=a0_ A390
        clear A390
        by_cases c40 : t326 = true
        ·subst c40
         have H1 : (laws_FnCaughtBy.l0 k2 t304 t308 t320 x7_2 (wrap64 (x8_2 + 1)) t301) = some r:=by rw [if_pos rfl] at H;exact H
         clear H
         have H:=H1
         clear H1
         have H':=a0_ H
         clear H
         obtain ⟨Ao41,co41,eo41⟩:=Kd.R_slice HO_6.out
         subst eo41
         go_wp2_with (first | ((with_reducible refine gate_callee (f:=18) rfl ?_);refine goesL_ (some 52) rfl rfl Try.func18 (by kernel_rfl) rfl #[.slice Ao41 t320.length co41,.int .i64 x8_2] rfl lm_ ?_;(with_reducible refine (laws_isIn.calls k2 _ _ t320 x8_2 true _ ?side1 ?side2 A39.out).mono ?_);(case side1=>exact cc_ (Kd.R_reads' HO_6.out).2.2);(case side2=>exact (Kd.R_reads' HO_6.out).2.1);rintro e w' ⟨rfl,⟨nd,rfl⟩⟩;refine ⟨_,rfl,?_⟩))
         go_roundg k2
         case measure=>have:=HJ4.out;have:=HK2.out;omega
         case rel=>exact ⟨(x7_2),(wrap64 (x8_2 + 1)),(by first | rfl | (simp;done) | (simp [*];done)),H',⟨by have:=HJ4.out;have:=HK2.out;omega⟩,⟨by (with_reducible repeat (first | apply Kd.R_alloc | apply Kd.R_drewN | apply Kd.R_drew));exact HO_4.out⟩,⟨by (with_reducible repeat (first | apply Kd.R_alloc | apply Kd.R_drewN | apply Kd.R_drew));exact HO_5.out⟩,⟨by (with_reducible repeat (first | apply Kd.R_alloc | apply Kd.R_drewN | apply Kd.R_drew));exact HO_6.out⟩,⟨by (with_reducible repeat (first | apply Kd.R_alloc | apply Kd.R_drewN | apply Kd.R_drew));exact HO_7.out⟩,⟨by (with_reducible repeat (first | apply Kd.R_alloc | apply Kd.R_drewN | apply Kd.R_drew));exact Z308.out⟩,⟨by (with_reducible repeat (first | refine blk_drewN ?_ _ | refine blk_drew ?_ | refine blk_alloc ?_ _));exact BK307.out⟩,⟨hb_⟩⟩
        ·replace c40:=Bool.eq_false_iff.mpr c40
         subst c40
         have H1 : (if 0 ≤ x8_2 then (if x7_2.length < 17592186044416 then (laws_FnCaughtBy.l0 k2 t304 t308 t320 (x7_2 ++ [rd t304 x8_2]) (wrap64 (x8_2 + 1)) t301) else (none)) else (none)) = some r:=by rw [if_neg (show ¬ (false = true) by decide)] at H;exact H
         clear H
         have H:=H1
         clear H1
         by_cases c42 : 0 ≤ x8_2
         ·rw [if_pos c42] at H
          have c42b0 : decide (0 ≤ x8_2) = true:=decide_eq_true c42
          clear c42
          by_cases c43 : x7_2.length < 17592186044416
          ·rw [if_pos c43] at H
           have LMc43:=a0_ c43
           clear c43
           obtain ⟨y328,hy328⟩ : ∃ y_ : List Int,y_ = (x7_2 ++ [rd t304 x8_2]):=⟨_,rfl⟩
           replace H : (laws_FnCaughtBy.l0 k2 t304 t308 t320 y328 (wrap64 (x8_2 + 1)) t301) = some r:=by first | (rw [hy328];with_reducible exact H) | (have H2_:=(Option.bind_some _ _).symm.trans H;rw [hy328];with_reducible exact H2_) | (have H2_:=(Option.bind_some _ _).symm.trans H;with_reducible exact H2_) | with_reducible exact H | (rw [hy328];exact H) | exact H
           have Ny328:=a0_ hy328
           clear hy328
           have H':=a0_ H
           clear H
           obtain ⟨Ao44,co44,eo44⟩:=Kd.R_slice HO_6.out
           subst eo44
           go_wp2_with (first | ((with_reducible refine gate_callee (f:=18) rfl ?_);refine goesL_ (some 52) rfl rfl Try.func18 (by kernel_rfl) rfl #[.slice Ao44 t320.length co44,.int .i64 x8_2] rfl lm_ ?_;(with_reducible refine (laws_isIn.calls k2 _ _ t320 x8_2 false _ ?side1 ?side2 A39.out).mono ?_);(case side1=>exact cc_ (Kd.R_reads' HO_6.out).2.2);(case side2=>exact (Kd.R_reads' HO_6.out).2.1);rintro e w' ⟨rfl,⟨nd,rfl⟩⟩;refine ⟨_,rfl,?_⟩;have p327 : 0 ≤ (x8_2 : Int):=of_decide_eq_true (by first | (with_reducible assumption) | assumption);have q327 : x8_2 < (t304.length : Int):=of_decide_eq_true (by first | (with_reducible assumption) | assumption);obtain ⟨ad327,e327,hx327_0⟩:=Kd.at_int (Kd.R_reads' HO_4.out).2.2 x8_2 p327 q327;cases e327;replace p327:=eq_true p327;replace q327:=eq_true q327) | ((with_reducible refine gate_builtin (b:=.append) (xs:=#[.tmp 54,.tmp 59]) rfl ?_);at_builtin;refine Kd.R_append (Kd.int .i64) (w0:=w) w.heap.size rfl (.tmp 54) (.tmp 59) 26 3 (.int .i64 0) 8 rfl Try.underlying26 info3 rfl (by decide) (by omega) u7 x7_2 (rd t304 x8_2) [.int .i64 (rd t304 x8_2)] (fun k_=>some k_ ≠ (.slice (some ad327) t304.length co10 : Value).ownBlock ∧ some k_ ≠ (v309 : Value).ownBlock ∧ some k_ ≠ (.slice Ao44 t320.length co44 : Value).ownBlock) (fun _=>False) rfl rfl ?aP (fun _ hk=>hk.elim) ?aF ?aO ?aB ?aS ?aL ?_;(case aP=>exact rfl);(case aB=>exact hb_);(case aF=>exact (fun k_ hk=>⟨Kd.fresh' (Kd.R_lt (rr_ HO_4.out)) k_ hk,Kd.fresh' (Kd.R_lt (rr_ HO_5.out)) k_ hk,Kd.fresh' (Kd.R_lt (rr_ HO_6.out)) k_ hk⟩));(case aO=>exact (rr_ HO_7.out));(case aS=>exact (below_size hb_));(case aL=>have:=LMc43.out;omega);intro v329 w45 ho hb hg hat;rw [← Ny328.out] at ho;replace HO_4:=a0_ (Kd.R_after (ok:=(fun k_=>some k_ ≠ (v309 : Value).ownBlock ∧ some k_ ≠ (.slice Ao44 t320.length co44 : Value).ownBlock)) (rm_ HO_4.out (fun _ hk=>⟨⟨hk.1,hk.2.1⟩,hk.2.2⟩)) hg hat);replace HO_5:=a0_ (Kd.R_after (ok:=(fun k_=>some k_ ≠ (.slice (some ad327) t304.length co10 : Value).ownBlock ∧ some k_ ≠ (.slice Ao44 t320.length co44 : Value).ownBlock)) (rm_ HO_5.out (fun _ hk=>⟨⟨hk.1,hk.2.1⟩,hk.2.2⟩)) hg hat);replace HO_6:=a0_ (Kd.R_after (ok:=(fun k_=>some k_ ≠ (.slice (some ad327) t304.length co10 : Value).ownBlock ∧ some k_ ≠ (v309 : Value).ownBlock)) (rm_ HO_6.out (fun _ hk=>⟨⟨hk.1,hk.2.1⟩,hk.2.2⟩)) hg hat);replace Z308:=a0_ (Kd.R_over' (rr_ Z308.out) (Kd.R_typed (rr_ HO_7.out)) (by decide) hg);replace BK307:=a0_ (blk_grown (bb_ BK307.out) hg (Kd.R_ne HO_7.out BK307.out (by decide)));have HO330:=a0_ (ho);replace HB:=a0_ (hb);clear HO_7;clear ho hb hg hat))
           go_roundg k2
           case measure=>have:=HJ4.out;have:=HK2.out;omega
           case rel=>exact ⟨(y328),(wrap64 (x8_2 + 1)),(by first | rfl | (simp;done) | (simp [*];done)),H',⟨by have:=HJ4.out;have:=HK2.out;omega⟩,⟨by (with_reducible repeat (first | apply Kd.R_alloc | apply Kd.R_drewN | apply Kd.R_drew));exact Kd.R_mono HO_4.out (fun _ hk=>⟨hk.1.1,⟨hk.1.2,hk.2⟩⟩)⟩,⟨by (with_reducible repeat (first | apply Kd.R_alloc | apply Kd.R_drewN | apply Kd.R_drew));exact Kd.R_mono HO_5.out (fun _ hk=>⟨hk.1.1,⟨hk.1.2,hk.2⟩⟩)⟩,⟨by (with_reducible repeat (first | apply Kd.R_alloc | apply Kd.R_drewN | apply Kd.R_drew));exact Kd.R_mono HO_6.out (fun _ hk=>⟨hk.1.1,⟨hk.1.2,hk.2⟩⟩)⟩,⟨by (with_reducible repeat (first | apply Kd.R_alloc | apply Kd.R_drewN | apply Kd.R_drew));exact HO330.out⟩,⟨by (with_reducible repeat (first | apply Kd.R_alloc | apply Kd.R_drewN | apply Kd.R_drew));exact Z308.out⟩,⟨by (with_reducible repeat (first | refine blk_drewN ?_ _ | refine blk_drew ?_ | refine blk_alloc ?_ _));exact BK307.out⟩,⟨hb_⟩⟩
          ·rw [if_neg c43] at H
           exact absurd H (by simp)
         ·rw [if_neg c42] at H
          exact absurd H (by simp)
       ·rw [if_neg c38] at H
        have c38b0 : decide (x8_2 < (t304.length : Int)) = false:=decide_eq_false c38
        clear c38
        have H':=a0_ H
        clear H
        go_wp2
        go_loopg [9] k2 (fun kq v9 w'=>∃ (x9_3 : Int),v9 = .int .i64 x9_3 ∧ Aside0 (laws_FnCaughtBy.l1 kq t308 x7_2 x9_3 t301 = some r) ∧ Aside0 (kq ≤ k2) ∧ Aside0 (Kd.R (Kd.int .i64) 3 w' w.heap.size (fun k_=>some k_ ≠ (u7 : Value).ownBlock) v309 t308) ∧ Aside0 (Kd.R (Kd.int .i64) 3 w' w.heap.size (fun k_=>some k_ ≠ (v309 : Value).ownBlock) u7 x7_2) ∧ Aside0 (Kd.R k125 125 w' w.heap.size (fun _=>True) (.slice Ao8 t301.length co8) t301) ∧ Aside0 (w'.heap[gb307]? = some (.cells #[(.slice Ao8 t301.length co8)] 25 (0,0))) ∧ Aside0 (Below w.heap.size w w'))
        case atStart=>exact ⟨(0),(by first | rfl | (simp;done) | (simp [*];done)),H',⟨Nat.le_refl _⟩,⟨by (with_reducible repeat (first | apply Kd.R_alloc | apply Kd.R_drewN | apply Kd.R_drew));exact Kd.R_mono HO_5.out (fun _ hk=>hk.2.2)⟩,⟨by (with_reducible repeat (first | apply Kd.R_alloc | apply Kd.R_drewN | apply Kd.R_drew));exact Kd.R_mono HO_7.out (fun _ hk=>hk.2.1)⟩,⟨by (with_reducible repeat (first | apply Kd.R_alloc | apply Kd.R_drewN | apply Kd.R_drew));exact Z308.out⟩,⟨by (with_reducible repeat (first | refine blk_drewN ?_ _ | refine blk_drew ?_ | refine blk_alloc ?_ _));exact BK307.out⟩,⟨hb_⟩⟩
        case round =>
         clear H'
         try clear c1
         try clear c2
         try clear c2b0
         try clear c2b1
         try clear p2
         try clear c3
         try clear p3
         try clear q3
         try clear hx3
         try clear c4
         try clear p6
         try clear c12
         try clear c13
         try clear c14
         try clear c15
         try clear c17
         try clear c18
         try clear c26
         try clear p32
         try clear q32
         try clear hx32
         try clear c38
         try clear c38b0
         try clear c40
         try clear c42
         try clear c42b0
         try clear c43
         try clear hcz16_0
         try clear hcz20_0
         try clear hcz22_0
         try clear hcz29_0
         try clear hcz34_0
         try clear hcz9_0
         try clear hfz16_0
         try clear hfz20_0
         try clear hfz22_0
         try clear hfz29_0
         try clear hfz34_0
         try clear hfz9_0
         try clear hx327_0
         try clear p2
         try clear p327
         try clear q327
         obtain ⟨x9_3,rfl,HA,HK3,HO_5,HO_7,Z308,BK307,HB⟩:=hrel
         cases gk with
         | zero=>exact absurd HA.out (by simp [laws_FnCaughtBy.l1])
         | succ k3 =>
          have H:=HA.out
          clear HA
          simp only [laws_FnCaughtBy.l1] at H
          by_cases c46 : x9_3 < (t308.length : Int)
          ·rw [if_pos c46] at H
           have c46b0 : decide (x9_3 < (t308.length : Int)) = true:=decide_eq_true c46
           clear c46
           by_cases c47 : 0 ≤ x9_3
           ·rw [if_pos c47] at H
            have c47b0 : decide (0 ≤ x9_3) = true:=decide_eq_true c47
            clear c47
            replace H:=Option.bind_eq_some_iff.mp H
            obtain ⟨t337,A480,H⟩:=H
            replace H : (laws_FnCaughtBy.l2 k3 t308 x7_2 x9_3 t337 0 t301) = some r:=H
            have A48:=a0_ A480
            clear A480
            have H':=a0_ H
            clear H
            obtain ⟨Ao49,co49,eo49⟩:=Kd.R_slice HO_5.out
            subst eo49
            try go_wp2
            have n0_:=a0_ (Kd.R_drew HO_5.out)
            have n1_:=a0_ (Kd.R_drew HO_7.out)
            have n2_:=a0_ (Kd.R_drew Z308.out)
            have n3_:=a0_ (blk_drew BK307.out)
            have n4_:=a0_ (below_drew1 HB.out)
            clear HO_5
            clear HO_7
            clear Z308
            clear BK307
            clear HB
            have HO_5:=n0_
            have HO_7:=n1_
            have Z308:=n2_
            have BK307:=n3_
            have HB:=n4_
            clear n0_ n1_ n2_ n3_ n4_
            have p336 : 0 ≤ (x9_3 : Int):=of_decide_eq_true (by first | (with_reducible assumption) | assumption)
            have q336 : x9_3 < (t308.length : Int):=of_decide_eq_true (by first | (with_reducible assumption) | assumption)
            obtain ⟨ad336,e336,hx336_0⟩:=Kd.at_int (Kd.R_reads' HO_5.out).2.2 x9_3 p336 q336
            cases e336
            replace p336:=eq_true p336
            replace q336:=eq_true q336
            refine start_ (n:=7) (S:=fun w'=>w'.cell? ⟨gb307,0,none⟩ = some (.slice Ao8 t301.length co8) ∧ w'.cell? (ad336.add (x9_3).toNat) = some (.int .i64 (rd t308 x9_3))) (ds:=[]) #[false,false,false,false,false,false,false] (by kernel_rfl) rfl rfl ⟨(blk_cell BK307.out 0).trans rfl,hx336_0⟩ (fun hHeld=>?_)
            generalize wr.drew = w50 at HO_5 HO_7 Z308 BK307 HB hx336_0 hHeld ⊢
            refine pure_ (i:=1) (N:=some 68) (v:=?_) (a':=?_) #[false,true,false,false,false,false,false] rfl rfl (by kernel_rfl) (fun _ _ _ h=>h) (Or.inl ⟨by rfl,?_⟩) ?_ ?_
            rotate_left
            ·intro w'
             go_simp
             with_reducible rfl
            rotate_left
            ·simp only [Act.put,s1_,s2_,s3_,i64_w,i32_w]
             rfl
            refine pure_ (i:=2) (N:=some 69) (v:=?_) (a':=?_) #[false,true,true,false,false,false,false] rfl rfl (by kernel_rfl) (fun _ _ _ h=>h) (Or.inl ⟨by rfl,?_⟩) ?_ ?_
            rotate_left
            ·intro w'
             go_simp
             with_reducible rfl
            rotate_left
            ·simp only [Act.put,s1_,s2_,s3_,i64_w,i32_w]
             rfl
            refine pure_ (i:=3) (N:=some 70) (v:=?_) (a':=?_) #[false,true,true,true,false,false,false] rfl rfl (by kernel_rfl) (fun _ _ _ h=>h) (Or.inl ⟨by rfl,?_⟩) ?_ ?_
            rotate_left
            ·intro w'
             go_simp
             with_reducible rfl
            rotate_left
            ·simp only [Act.put,s1_,s2_,s3_,i64_w,i32_w]
             rfl
            refine take_ (i:=0) (N:=some 67) (v:=?_) (a':=?_) #[true,true,true,true,false,false,false] rfl rfl (by kernel_rfl) (fun _ _ _ h=>h) (Or.inl ⟨by rfl,?_⟩) hHeld ?_ ?_
            rotate_left
            ·rintro w' ⟨s0,s1⟩
             go_simp
             with_reducible rfl
            rotate_left
            ·simp only [Act.put,s1_,s2_,s3_,i64_w,i32_w]
             rfl
            refine take_ (i:=4) (N:=some 71) (v:=?_) (a':=?_) #[true,true,true,true,true,false,false] rfl rfl (by kernel_rfl) (fun _ _ _ h=>h) (Or.inl ⟨by rfl,?_⟩) hHeld ?_ ?_
            rotate_left
            ·rintro w' ⟨s0,s1⟩
             go_simp
             with_reducible rfl
            rotate_left
            ·simp only [Act.put,s1_,s2_,s3_,i64_w,i32_w]
             rfl
            refine one_ (i:=5) (N:=some 72) #[true,true,true,true,true,true,false] rfl rfl (by kernel_rfl) (by decide) (fun K hK=>?_)
            refine goes_ Try.func19 (by kernel_rfl) rfl #[.agg #[.slice Ao8 t301.length co8],.int .i64 (rd t308 x9_3)] (by rfl) rfl rfl lm_ ?_
            with_reducible refine (impl_BelowOf.calls _ _ t301 (rd t308 x9_3) t337 _ ?side1 ?side2 A48.out).mono ?_
            (case side1=>exact cc_ (Kd.R_reads' Z308.out).2.2)
            (case side2=>exact (Kd.R_reads' Z308.out).2.1)
            rintro e w51 ⟨v338,rfl,ho0,hb⟩
            have HS1_:=(hb.cell (World.block_lt_of_cell? _ _ (hHeld.2))).trans (hHeld.2)
            refine ⟨_,rfl,?_⟩
            have n0_:=a0_ (Kd.R_elder' (rr_ HO_5.out) (Kd.R_base ho0) hb)
            have n1_:=a0_ (Kd.R_elder' (rr_ HO_7.out) (Kd.R_base ho0) hb)
            have n2_:=rb_ Z308 hb
            have n3_:=a0_ (Kd.R_lower (Kd.R_new' (Kd.R_new' ho0 (Kd.R_lt (rr_ HO_5.out))) (Kd.R_lt (rr_ HO_7.out))) (below_size hb_))
            have n4_:=kb_ BK307 hb
            have n5_:=a0_ (below_step hb_ hb)
            clear HO_5
            clear HO_7
            clear Z308
            clear BK307
            clear HB
            have HO_5:=n0_
            have HO_7:=n1_
            have Z308:=n2_
            have HO339:=n3_
            have BK307:=n4_
            have HB:=n5_
            clear n0_ n1_ n2_ n3_ n4_ n5_
            (try clear hb)
            (try clear hb2)
            (try clear hk)
            (try clear hi)
            (try clear ho0)
            refine hK.out _ _ ⟨(blk_cell BK307.out 0).trans rfl,HS1_⟩ (fun hHeld=>?_)
            clear hK K
            refine norm_ (a':=?_) ?_ ?_
            rotate_left
            ·show Act.put _ (some 72) _ = _
             simp only [Act.put,s1_,s2_,s3_,i64_w,i32_w]
             rfl
            refine pure_ (i:=6) (N:=some 10) (v:=?_) (a':=?_) #[true,true,true,true,true,true,true] rfl rfl (by kernel_rfl) (fun _ _ _ h=>h) (Or.inl ⟨by rfl,?_⟩) ?_ ?_
            rotate_left
            ·intro w'
             go_simp
             with_reducible rfl
            rotate_left
            ·simp only [Act.put,s1_,s2_,s3_,i64_w,i32_w]
             rfl
            refine done_ (by kernel_rfl) ?_
            try go_wp2
            go_loopg [11] k3 (fun kq v11 w'=>∃ (x11_4 : Int),v11 = .int .i64 x11_4 ∧ Aside0 (laws_FnCaughtBy.l2 kq t308 x7_2 x9_3 t337 x11_4 t301 = some r) ∧ Aside0 (kq ≤ k3) ∧ Aside0 (Kd.R (Kd.int .i64) 3 w' w.heap.size (fun k_=>some k_ ≠ (u7 : Value).ownBlock ∧ some k_ ≠ (v338 : Value).ownBlock) (.slice (some ad336) t308.length co49) t308) ∧ Aside0 (Kd.R (Kd.int .i64) 3 w' w.heap.size (fun k_=>some k_ ≠ ((.slice (some ad336) t308.length co49) : Value).ownBlock ∧ some k_ ≠ (v338 : Value).ownBlock) u7 x7_2) ∧ Aside0 (Kd.R (Kd.int .i64) 3 w' w.heap.size (fun k_=>some k_ ≠ ((.slice (some ad336) t308.length co49) : Value).ownBlock ∧ some k_ ≠ (u7 : Value).ownBlock) v338 t337) ∧ Aside0 (Kd.R k125 125 w' w.heap.size (fun _=>True) (.slice Ao8 t301.length co8) t301) ∧ Aside0 (w'.heap[gb307]? = some (.cells #[(.slice Ao8 t301.length co8)] 25 (0,0))) ∧ Aside0 (Below w.heap.size w w'))
            case atStart=>exact ⟨(0),(by first | rfl | (simp;done) | (simp [*];done)),H',⟨Nat.le_refl _⟩,⟨by (with_reducible repeat (first | apply Kd.R_alloc | apply Kd.R_drewN | apply Kd.R_drew));exact HO_5.out⟩,⟨by (with_reducible repeat (first | apply Kd.R_alloc | apply Kd.R_drewN | apply Kd.R_drew));exact HO_7.out⟩,⟨by (with_reducible repeat (first | apply Kd.R_alloc | apply Kd.R_drewN | apply Kd.R_drew));exact Kd.R_mono HO339.out (fun _ hk=>⟨hk.1.2,hk.2⟩)⟩,⟨by (with_reducible repeat (first | apply Kd.R_alloc | apply Kd.R_drewN | apply Kd.R_drew));exact Z308.out⟩,⟨by (with_reducible repeat (first | refine blk_drewN ?_ _ | refine blk_drew ?_ | refine blk_alloc ?_ _));exact BK307.out⟩,⟨hb_⟩⟩
            case round =>
             clear H'
             try clear c1
             try clear c2
             try clear c2b0
             try clear c2b1
             try clear p2
             try clear c3
             try clear p3
             try clear q3
             try clear hx3
             try clear c4
             try clear p6
             try clear c12
             try clear c13
             try clear c14
             try clear c15
             try clear c17
             try clear c18
             try clear c19
             try clear c26
             try clear p32
             try clear q32
             try clear hx32
             try clear p33
             try clear q33
             try clear hx33
             try clear c38
             try clear c38b0
             try clear c40
             try clear c42
             try clear c42b0
             try clear c43
             try clear c46
             try clear c46b0
             try clear c47
             try clear c47b0
             try clear hcz16_0
             try clear hcz20_0
             try clear hcz22_0
             try clear hcz29_0
             try clear hcz34_0
             try clear hcz9_0
             try clear hfz16_0
             try clear hfz20_0
             try clear hfz22_0
             try clear hfz29_0
             try clear hfz34_0
             try clear hfz9_0
             try clear hx327_0
             try clear hx336_0
             try clear p2
             try clear p3
             try clear p32
             try clear p327
             try clear p336
             try clear p6
             try clear q3
             try clear q32
             try clear q327
             try clear q336
             obtain ⟨x11_4,rfl,HA,HK4,HO_5,HO_7,HO_10,Z308,BK307,HB⟩:=hrel
             cases gk with
             | zero=>exact absurd HA.out (by simp [laws_FnCaughtBy.l2])
             | succ k4 =>
              have H:=HA.out
              clear HA
              simp only [laws_FnCaughtBy.l2] at H
              by_cases c52 : x11_4 < (t337.length : Int)
              ·rw [if_pos c52] at H
               have c52b0 : decide (x11_4 < (t337.length : Int)) = true:=decide_eq_true c52
               clear c52
               by_cases c53 : 0 ≤ x11_4
               ·rw [if_pos c53] at H
                have c53b0 : decide (0 ≤ x11_4) = true:=decide_eq_true c53
                clear c53
                replace H:=Option.bind_eq_some_iff.mp H
                obtain ⟨t341,A540,H⟩:=H
                try dsimp only at H
                have A54:=a0_ A540
                clear A540
                by_cases c55 : t341 = true
                ·subst c55
                 have H1 : (laws_FnCaughtBy.l2 k4 t308 x7_2 x9_3 t337 (wrap64 (x11_4 + 1)) t301) = some r:=by rw [if_pos rfl] at H;exact H
                 clear H
                 have H:=H1
                 clear H1
                 have H':=a0_ H
                 clear H
                 obtain ⟨Ao56,co56,eo56⟩:=Kd.R_slice HO_10.out
                 subst eo56
                 have p340 : 0 ≤ (x11_4 : Int):=of_decide_eq_true (by first | (with_reducible assumption) | assumption)
                 have q340 : x11_4 < (t337.length : Int):=of_decide_eq_true (by first | (with_reducible assumption) | assumption)
                 obtain ⟨ad340,e340,hx340_0⟩:=Kd.at_int (Kd.R_reads' HO_10.out).2.2 x11_4 p340 q340
                 cases e340
                 replace p340:=eq_true p340
                 replace q340:=eq_true q340
                 go_wp2_with (first | ((with_reducible refine gate_callee (f:=18) rfl ?_);refine goesL_ (some 84) rfl rfl Try.func18 (by kernel_rfl) rfl #[.slice (some ad336) t308.length co49,.int .i64 (rd t337 x11_4)] rfl lm_ ?_;(with_reducible refine (laws_isIn.calls k4 _ _ t308 (rd t337 x11_4) true _ ?side1 ?side2 A54.out).mono ?_);(case side1=>exact cc_ (Kd.R_reads' HO_5.out).2.2);(case side2=>exact (Kd.R_reads' HO_5.out).2.1);rintro e w' ⟨rfl,⟨nd,rfl⟩⟩;refine ⟨_,rfl,?_⟩))
                 go_roundg k4
                 case measure=>have:=HJ4.out;have:=HK2.out;have:=HK3.out;have:=HK4.out;omega
                 case rel=>exact ⟨(wrap64 (x11_4 + 1)),(by first | rfl | (simp;done) | (simp [*];done)),H',⟨by have:=HJ4.out;have:=HK2.out;have:=HK3.out;have:=HK4.out;omega⟩,⟨by (with_reducible repeat (first | apply Kd.R_alloc | apply Kd.R_drewN | apply Kd.R_drew));exact HO_5.out⟩,⟨by (with_reducible repeat (first | apply Kd.R_alloc | apply Kd.R_drewN | apply Kd.R_drew));exact HO_7.out⟩,⟨by (with_reducible repeat (first | apply Kd.R_alloc | apply Kd.R_drewN | apply Kd.R_drew));exact HO_10.out⟩,⟨by (with_reducible repeat (first | apply Kd.R_alloc | apply Kd.R_drewN | apply Kd.R_drew));exact Z308.out⟩,⟨by (with_reducible repeat (first | refine blk_drewN ?_ _ | refine blk_drew ?_ | refine blk_alloc ?_ _));exact BK307.out⟩,⟨hb_⟩⟩
                ·replace c55:=Bool.eq_false_iff.mpr c55
                 subst c55
                 have H1 : (some false) = some r:=by rw [if_neg (show ¬ (false = true) by decide)] at H;exact H
                 clear H
                 have H:=H1
                 clear H1
                 obtain rfl:=Option.some.inj H
                 obtain ⟨Ao57,co57,eo57⟩:=Kd.R_slice HO_10.out
                 subst eo57
                 have p340 : 0 ≤ (x11_4 : Int):=of_decide_eq_true (by first | (with_reducible assumption) | assumption)
                 have q340 : x11_4 < (t337.length : Int):=of_decide_eq_true (by first | (with_reducible assumption) | assumption)
                 obtain ⟨ad340,e340,hx340_0⟩:=Kd.at_int (Kd.R_reads' HO_10.out).2.2 x11_4 p340 q340
                 cases e340
                 replace p340:=eq_true p340
                 replace q340:=eq_true q340
                 go_wp2_with (first | ((with_reducible refine gate_callee (f:=18) rfl ?_);refine goesL_ (some 84) rfl rfl Try.func18 (by kernel_rfl) rfl #[.slice (some ad336) t308.length co49,.int .i64 (rd t337 x11_4)] rfl lm_ ?_;(with_reducible refine (laws_isIn.calls k4 _ _ t308 (rd t337 x11_4) false _ ?side1 ?side2 A54.out).mono ?_);(case side1=>exact cc_ (Kd.R_reads' HO_5.out).2.2);(case side2=>exact (Kd.R_reads' HO_5.out).2.1);rintro e w' ⟨rfl,⟨nd,rfl⟩⟩;refine ⟨_,rfl,?_⟩))
                 go_ret
                 exact ⟨by first | rfl | (simp [errW_none,errW_some] <;> rfl) | (simp [*,errW_none,errW_some] <;> rfl),hb_⟩
               ·rw [if_neg c53] at H
                exact absurd H (by simp)
              ·rw [if_neg c52] at H
               have c52b0 : decide (x11_4 < (t337.length : Int)) = false:=decide_eq_false c52
               clear c52
               have H':=a0_ H
               clear H
               obtain ⟨Ao58,co58,eo58⟩:=Kd.R_slice HO_10.out
               subst eo58
               go_wp2
               go_roundg k4
               case measure=>have:=HJ4.out;have:=HK2.out;have:=HK3.out;have:=HK4.out;omega
               case rel=>exact ⟨(wrap64 (x9_3 + 1)),(by first | rfl | (simp;done) | (simp [*];done)),H',⟨by have:=HJ4.out;have:=HK2.out;have:=HK3.out;have:=HK4.out;omega⟩,⟨by (with_reducible repeat (first | apply Kd.R_alloc | apply Kd.R_drewN | apply Kd.R_drew));exact Kd.R_mono HO_5.out (fun _ hk=>hk.1)⟩,⟨by (with_reducible repeat (first | apply Kd.R_alloc | apply Kd.R_drewN | apply Kd.R_drew));exact Kd.R_mono HO_7.out (fun _ hk=>hk.1)⟩,⟨by (with_reducible repeat (first | apply Kd.R_alloc | apply Kd.R_drewN | apply Kd.R_drew));exact Z308.out⟩,⟨by (with_reducible repeat (first | refine blk_drewN ?_ _ | refine blk_drew ?_ | refine blk_alloc ?_ _));exact BK307.out⟩,⟨hb_⟩⟩
           ·rw [if_neg c47] at H
            exact absurd H (by simp)
          ·rw [if_neg c46] at H
           have c46b0 : decide (x9_3 < (t308.length : Int)) = false:=decide_eq_false c46
           clear c46
           replace H:=Option.bind_eq_some_iff.mp H
           obtain ⟨t331,A590,H⟩:=H
           try dsimp only at H
           have A59:=a0_ A590
           clear A590
           by_cases c60 : t331 = true
           ·subst c60
            have H1 : ((impl_CaughtBy.f t301 x7_2).bind fun t332=>((laws_equalInts.f k3 t332 t308).bind fun t335=>(some t335))) = some r:=by rw [if_pos rfl] at H;exact H
            clear H
            have H:=H1
            clear H1
            replace H:=Option.bind_eq_some_iff.mp H
            obtain ⟨t332,A610,H⟩:=H
            try dsimp only at H
            have A61:=a0_ A610
            clear A610
            replace H:=Option.bind_eq_some_iff.mp H
            obtain ⟨t335,A620,H⟩:=H
            replace H : (some t335) = some r:=H
            have A62:=a0_ A620
            clear A620
            obtain rfl:=Option.some.inj H
            obtain ⟨Ao63,co63,eo63⟩:=Kd.R_slice HO_5.out
            subst eo63
            go_wp2_with (first | ((with_reducible refine gate_callee (f:=20) rfl ?_);refine goesL_ (some 87) rfl rfl Try.func20 (by kernel_rfl) rfl #[.slice Ao63 t308.length co63] rfl lm_ ?_;(with_reducible refine (laws_ascends.calls k3 _ _ t308 true _ ?side1 ?side2 A59.out).mono ?_);(case side1=>exact cc_ (Kd.R_reads' HO_5.out).2.2);(case side2=>exact (Kd.R_reads' HO_5.out).2.1);rintro e w' ⟨rfl,⟨nd,rfl⟩⟩;refine ⟨_,rfl,?_⟩;have hcz64_0 : wr.cell? ⟨gb307,0,none⟩ = some (.slice Ao8 t301.length co8):=(blk_cell BK307.out 0).trans rfl;have hfz64_0:=blk_frozen BK307.out 0;obtain ⟨Ao65,co65,eo65⟩:=Kd.R_slice HO_7.out;subst eo65) | (go_at_call 13;(with_reducible refine (impl_CaughtBy.calls _ _ t301 _ _ x7_2 t332 _ ?side1 ?side2 ?side3 ?side4 A61.out).mono ?_);(case side1=>exact cc_ (Kd.R_reads' Z308.out).2.2);(case side2=>exact (Kd.R_reads' Z308.out).2.1);(case side3=>exact cc_ (Kd.R_reads' HO_7.out).2.2);(case side4=>exact (Kd.R_reads' HO_7.out).2.1);rintro e w66 ⟨v333,rfl,ho0,hb⟩;have n0_:=a0_ (Kd.R_elder' (rr_ HO_5.out) (Kd.R_base ho0) hb);have n1_:=a0_ (Kd.R_elder' (rr_ HO_7.out) (Kd.R_base ho0) hb);have n2_:=rb_ Z308 hb;have n3_:=a0_ (Kd.R_lower (Kd.R_new' (Kd.R_new' ho0 (Kd.R_lt (rr_ HO_5.out))) (Kd.R_lt (rr_ HO_7.out))) (below_size hb_));have n4_:=kb_ BK307 hb;have n5_:=a0_ (below_step hb_ hb);clear HO_5 HO_7;clear Z308 BK307 HB;have HO_5:=n0_;have HO_7:=n1_;have Z308:=n2_;have HO334:=n3_;have BK307:=n4_;have HB:=n5_;clear n0_ n1_ n2_ n3_ n4_ n5_;(try clear hb);(try clear ho0);obtain ⟨Ao67,co67,eo67⟩:=Kd.R_slice HO334.out;subst eo67) | (go_at_call 14;(with_reducible refine (laws_equalInts.calls k3 _ _ t332 _ _ t308 t335 _ ?side1 ?side2 ?side3 ?side4 A62.out).mono ?_);(case side1=>exact cc_ (Kd.R_reads' HO334.out).2.2);(case side2=>exact (Kd.R_reads' HO334.out).2.1);(case side3=>exact cc_ (Kd.R_reads' HO_5.out).2.2);(case side4=>exact (Kd.R_reads' HO_5.out).2.1);rintro e w' ⟨rfl,⟨nd,rfl⟩⟩))
            go_ret
            exact ⟨by first | rfl | (simp [errW_none,errW_some] <;> rfl) | (simp [*,errW_none,errW_some] <;> rfl),hb_⟩
           ·replace c60:=Bool.eq_false_iff.mpr c60
            subst c60
            have H1 : (some false) = some r:=by rw [if_neg (show ¬ (false = true) by decide)] at H;exact H
            clear H
            have H:=H1
            clear H1
            obtain rfl:=Option.some.inj H
            obtain ⟨Ao68,co68,eo68⟩:=Kd.R_slice HO_5.out
            subst eo68
            go_wp2_with (first | ((with_reducible refine gate_callee (f:=20) rfl ?_);refine goesL_ (some 87) rfl rfl Try.func20 (by kernel_rfl) rfl #[.slice Ao68 t308.length co68] rfl lm_ ?_;(with_reducible refine (laws_ascends.calls k3 _ _ t308 false _ ?side1 ?side2 A59.out).mono ?_);(case side1=>exact cc_ (Kd.R_reads' HO_5.out).2.2);(case side2=>exact (Kd.R_reads' HO_5.out).2.1);rintro e w' ⟨rfl,⟨nd,rfl⟩⟩;refine ⟨_,rfl,?_⟩))
            go_ret
            exact ⟨by first | rfl | (simp [errW_none,errW_some] <;> rfl) | (simp [*,errW_none,errW_some] <;> rfl),hb_⟩
def laws_FnCaughtBy.Pure : Prop:=∀ (l0 : List Int),l0.length ≤ maxLen → l0.length * 1 ≤ 140737488351232 → (∀ x ∈ l0,(Lit.int .u8 x).wf = true) → ∃ k,laws_FnCaughtBy.f k l0 = some true
theorem laws_FnCaughtBy.walk (P : laws_FnCaughtBy.Pure) (a0 : Option Addr) (len0 cap0 : Nat) (z0 : List Int) (w : World) (w0 : (a0 = none ∧ len0 = 0 ∧ cap0 = 0 ∧ z0 = []) ∨ ∃ x,a0 = some x ∧ len0 ≤ cap0 ∧ cap0 ≤ maxLen ∧ z0.length = cap0 ∧ (∀ i,i < z0.length → w.cell? (x.add i) = some (.int .u8 (z0.getD i 0))) ∧ ∀ n ∈ z0,(Lit.int .u8 n).wf = true) (y0 : len0 * 1 ≤ 140737488351232) :
  Calls Try.prog 3 #[.slice a0 len0 cap0] w fun e w'=>e = .returned (.bool true) ∧ Below w.heap.size w w':=by
 obtain ⟨l0,rfl,hr0,hm0,hw0,hc0⟩:=ReadsInt.ofRowC w0
 obtain ⟨k,h⟩:=P l0 hm0 y0 hw0
 refine (laws_FnCaughtBy.calls k _ _ l0 true w (Kd.C_of_reads (d:=(0 : Int)) (h1:=fun _=>rfl) hr0) hc0 h).mono ?_
 rintro e w' ⟨rfl,hd⟩
 exact ⟨rfl,hd⟩
end Go.Proofs.Ytacgehaipacehaa.P
namespace Go.Proofs.Ytacgehaipacehaa.P
open Go.RowKit Go.Proofs.YtacgehaipacehaaW.PrintWords Go.Proofs.YtacgehaipacehaaW.PrintLast Go.Proofs.YtacgehaipacehaaW.PrintMore
attribute [local go_sem] max2_int min2_int max_two min_two max_three min_three max_four min_four
set_option linter.unusedVariables false
set_option linter.unusedSimpArgs false
theorem isA_self {t : List Cls} (hv : vT t = true) (a : Int) (h0 : 0 ≤ a) (h1 : a < (t.length : Int)) : isA t a a = true:=by
 unfold isA
 rw [abv_step hv a h0 h1,List.contains_iff_mem]
 exact List.mem_cons_self
theorem isA_up {t : List Cls} (hv : vT t = true) (a b : Int) (h0 : 0 ≤ a) (h1 : a < (t.length : Int)) (hne : b ≠ a) : isA t a b = isA t (rd_T125 t a).f1 b:=by
 unfold isA
 rw [abv_step hv a h0 h1,List.contains_cons,beq_eq_false_iff_ne.2 hne,Bool.false_or]
theorem isA_neg (t : List Cls) (a b : Int) (h0 : a < 0) : isA t a b = false:=by
 unfold isA
 rw [abv_neg t a h0]
 rfl
theorem isA_le {t : List Cls} (hv : vT t = true) : ∀ (n : Nat) (a b : Int),a < (n : Int) → a < (t.length : Int) → isA t a b = true → 0 ≤ b ∧ b ≤ a:=by
 intro n
 induction n with
 | zero =>
  intro a b hn _ h
  rw [isA_neg t a b (by omega)] at h
  cases h
 | succ n ih =>
  intro a b hn h1 h
  by_cases h0 : 0 ≤ a
  ·by_cases e : b = a
   ·omega
   ·rw [isA_up hv a b h0 h1 e] at h
    have hp:=vT_par' hv a h0 h1
    have:=ih _ b (by omega) (by omega) h
    omega
  ·rw [isA_neg t a b (by omega)] at h
   cases h
theorem isA_trans {t : List Cls} (hv : vT t = true) : ∀ (n : Nat) (a b c : Int),a < (n : Int) → a < (t.length : Int) → isA t a b = true → isA t b c = true → isA t a c = true:=by
 intro n
 induction n with
 | zero =>
  intro a b c hn _ h _
  rw [isA_neg t a b (by omega)] at h
  cases h
 | succ n ih =>
  intro a b c hn h1 h hbc
  by_cases h0 : 0 ≤ a
  ·by_cases e : b = a
   ·rw [← e];exact hbc
   ·have hle:=isA_le hv (n + 1) a b hn h1 h
    rw [isA_up hv a b h0 h1 e] at h
    have hp:=vT_par' hv a h0 h1
    have hbc2:=isA_le hv (b.toNat + 1) b c (by omega) (by omega) hbc
    by_cases e2 : c = a
    ·omega
    ·rw [isA_up hv a c h0 h1 e2]
     exact ih _ b c (by omega) (by omega) h hbc
  ·rw [isA_neg t a b (by omega)] at h
   cases h
theorem isA_root {t : List Cls} (hv : vT t = true) : ∀ (n : Nat) (a : Int),a < (n : Int) → 0 ≤ a → a < (t.length : Int) → isA t a 0 = true:=by
 intro n
 induction n with
 | zero=>intro a hn h0 _;omega
 | succ n ih =>
  intro a hn h0 h1
  by_cases e : a = 0
  ·subst e
   exact isA_self hv 0 h0 h1
  ·rw [isA_up hv a 0 h0 h1 (fun hh=>e hh.symm)]
   have hp:=vT_par hv a.toNat (by omega) (by omega)
   have hp2:=vT_par' hv a h0 h1
   have e3 : (rd_T125 t a).f1 = (t.getD a.toNat z125).f1:=rfl
   exact ih _ (by omega) (by omega) (by omega)
end Go.Proofs.Ytacgehaipacehaa.P
namespace Go.Proofs.Ytacgehaipacehaa.Pure
open Go.RowKit Go.Proofs.Ytacgehaipacehaa.P
open Go.Proofs.YtacgehaipacehaaW.PrintWords (rd rdOf wrap_succ wrap_pred wrap_in toL_beq idxP)
set_option linter.unusedVariables false
theorem clss_len (t : List Cls) : (clss t).length = t.length:=by simp [clss]
theorem idxP_neg2 {α : Type} (p : α → Bool) (l : List α) : (idxP p l == (-2)) = false:=by
 unfold idxP
 cases l.findIdx? p with
 | none=>rfl
 | some i=>exact beq_eq_false_iff_ne.2 (by simp only;omega)
def livN (t : List Cls) (l : List Int) (n : Nat) : List Int:=((List.range n).filter (fun i=>!((l.take i).any (fun b=>isA t (l.getD i 0) b)))).map (fun i=>l.getD i 0)
theorem livN_succ (t : List Cls) (l : List Int) (n : Nat) : livN t l (n + 1) = livN t l n ++ (if (l.take n).any (fun b=>isA t (l.getD n 0) b) = true then [] else [l.getD n 0]):=by
 unfold livN
 rw [List.range_succ,List.filter_append,List.map_append,List.filter_cons,List.filter_nil]
 congr 1
 cases (l.take n).any (fun b=>isA t (l.getD n 0) b) <;> rfl
theorem livN_len (t : List Cls) (l : List Int) (n : Nat) : (livN t l n).length ≤ n:=by
 unfold livN
 rw [List.length_map]
 exact Nat.le_trans (List.length_filter_le _ _) (by simp)
theorem livN_mem (t : List Cls) (l : List Int) (n : Nat) (hn : n ≤ l.length) : ∀ x ∈ livN t l n,x ∈ l:=by
 intro x hx
 unfold livN at hx
 obtain ⟨i,hi,rfl⟩:=List.mem_map.1 hx
 have:=(List.mem_filter.1 hi).1
 rw [List.mem_range] at this
 rw [List.getD_eq_getElem?_getD,List.getElem?_eq_getElem (show i < l.length by omega)]
 exact List.getElem_mem _
theorem deadN_in (t : List Cls) (l : List Int) (n i : Nat) (hi : i < n) : (deadN t l n).contains (i : Int) = (l.take i).any (fun b=>isA t (l.getD i 0) b):=by
 unfold deadN
 cases h : (l.take i).any (fun b=>isA t (l.getD i 0) b) with
 | true =>
  rw [List.contains_iff_mem]
  exact List.mem_map.2 ⟨i,List.mem_filter.2 ⟨by simpa using hi,h⟩,rfl⟩
 | false =>
  cases h2 : (((List.range n).filter (fun i=>(l.take i).any (fun b=>isA t (l.getD i 0) b))).map (fun i : Nat=>(i : Int))).contains (i : Int) with
  | false=>rfl
  | true =>
   rw [List.contains_iff_mem] at h2
   obtain ⟨j,hj,e⟩:=List.mem_map.1 h2
   obtain rfl : j = i:=by omega
   rw [(List.mem_filter.1 hj).2] at h
   cases h
theorem liv_any {t : List Cls} (hv : vT t = true) (l : List Int) (hl : ∀ x ∈ l,hasC t x = true) (a : Int) (ha : a < (t.length : Int)) : ∀ n,n ≤ l.length → (livN t l n).any (isA t a) = (l.take n).any (isA t a):=by
 intro n
 induction n with
 | zero=>intro _;rfl
 | succ n ih =>
  intro hn
  have hlt : n < l.length:=by omega
  have e : l.getD n 0 = l[n]:=by simp [List.getD,hlt]
  rw [livN_succ,List.any_append,ih (by omega),List.take_succ_eq_append_getElem hlt,List.any_append,e]
  cases hd : (l.take n).any (fun b=>isA t l[n] b) with
  | false=>simp
  | true =>
   rw [if_pos rfl,List.any_nil,Bool.or_false,List.any_cons,List.any_nil,Bool.or_false]
   cases hx : isA t a l[n] with
   | false=>rw [Bool.or_false]
   | true =>
    rw [Bool.or_true]
    obtain ⟨b,hb,hbb⟩:=List.any_eq_true.1 hd
    exact List.any_eq_true.2 ⟨b,hb,isA_trans hv (a.toNat + 1) a l[n] b (by omega) ha hx hbb⟩
theorem fil_congr (t : List Cls) (p q : Int → Bool) (h : ∀ a : Int,0 ≤ a → a < (t.length : Int) → p a = q a) : fil t p = fil t q:=by
 unfold fil
 refine List.filter_congr (fun a ha=>?_)
 unfold clss at ha
 obtain ⟨i,hi,rfl⟩:=List.mem_map.1 ha
 rw [List.mem_range] at hi
 exact h _ (by omega) (by omega)
theorem fil_mem {t : List Cls} {p : Int → Bool} {a : Int} : a ∈ fil t p ↔ (0 ≤ a ∧ a < (t.length : Int)) ∧ p a = true:=by
 unfold fil clss
 rw [List.mem_filter,List.mem_map]
 constructor
 ·rintro ⟨⟨i,hi,rfl⟩,h⟩
  rw [List.mem_range] at hi
  exact ⟨by omega,h⟩
 ·rintro ⟨h,h2⟩
  exact ⟨⟨a.toNat,by rw [List.mem_range];omega,by omega⟩,h2⟩
theorem fil_asc (t : List Cls) (p : Int → Bool) : (fil t p).Pairwise (· < ·):=by
 unfold fil clss
 refine List.Pairwise.filter _ ?_
 rw [List.pairwise_map]
 refine List.Pairwise.imp (fun h=>?_) (List.pairwise_lt_range (n:=t.length))
 omega
theorem ascends_ev (l : List Int) (hl : l.length ≤ 1000000) (ha : l.Pairwise (· < ·)) : Ev (fun k=>laws_ascends.f k l) true:=by
 have key : ∀ d j,j + d = l.length → 1 ≤ j → Ev (fun k=>laws_ascends.l0 k l (j : Int)) true:=by
  intro d
  induction d with
  | zero =>
   intro j hj _
   refine Ev.succ ?_
   simp only [laws_ascends.l0]
   exact Ev.neg (by omega) (Ev.const rfl)
  | succ d ih =>
   intro j hj j1
   refine Ev.succ ?_
   have e1 : wrap64 ((j : Int) - 1) = ((j - 1 : Nat) : Int):=by rw [wrap_in (by omega) (by omega)];omega
   have h1 : rd l (j : Int) = l[j]'(by omega):=by simp [rd,show j < l.length by omega]
   have h2 : rd l ((j - 1 : Nat) : Int) = l[j - 1]'(by omega):=by simp [rd,show j - 1 < l.length by omega]
   have h3:=List.pairwise_iff_getElem.1 ha (j - 1) j (by omega) (by omega) (by omega)
   simp only [laws_ascends.l0,e1,h1,h2]
   rw [wrap_succ (i:=(j : Int)) (n:=l.length) (by omega) (by omega) (by omega)]
   exact Ev.pos (by omega) (Ev.pos (by omega) (Ev.pos (by omega) (Ev.pos (by omega) (Ev.neg (by omega) (ih (j + 1) (by omega) (by omega))))))
 by_cases h0 : l.length = 0
 ·refine Ev.succ (F:=fun k=>laws_ascends.f k l) ?_
  simp only [laws_ascends.f,laws_ascends.l0]
  exact Ev.neg (by omega) (Ev.const rfl)
 ·exact key (l.length - 1) 1 (by omega) (Nat.le_refl _)
theorem FnCaughtBy : laws_FnCaughtBy.Pure:=by
 intro l0 _ _ hw
 refine Ev.out (F:=fun k=>laws_FnCaughtBy.f k l0) ?_
 unfold laws_FnCaughtBy.f
 by_cases hbig : (l0.length : Int) > 1048576
 ·exact Ev.pos hbig (Ev.const rfl)
 refine Ev.neg hbig ?_
 obtain ⟨t,l,hd,ht,hs,hl8⟩:=spec_DrawCaughtBy_ev l0 hw
 have hI:=impl_CaughtBy_ev t l hs
 have hS:=spec_CaughtBy_ev t l (by omega) (by omega) hs
 have hlen : (caughtP t l).length ≤ 8:=by
  unfold caughtP
  split
  ·unfold caughtBy fil
   have:=List.length_filter_le (fun a=>l.any (isA t a)) (clss t)
   rw [clss_len] at this
   omega
  ·simp
 have hcat:=impl_catchesOk_ev t l hs
 refine Ev.bind hd (Ev.bind hI (Ev.bind hS (Ev.bind (laws_equalInts_ev _ (by omega)) (Ev.pos rfl ?_))))
 have hFC : impl_FirstCatch.f t l 0 = some (if okCat t l = true then idxP (fun b=>isA t 0 b) l else -2):=by
  unfold impl_FirstCatch.f
  rw [hcat]
  simp only [Option.bind_some]
  cases hk : okCat t l with
  | false=>simp
  | true =>
   have hv : vT t = true:=by unfold okCat at hk;rw [Bool.and_eq_true] at hk;exact hk.1
   have h1:=vT_len hv
   rw [if_pos rfl,impl_Tree_has_ev t 0 (by omega)]
   have h0 : hasC t 0 = true:=hasC_iff.2 ⟨Int.le_refl _,by omega⟩
   rw [h0]
   simp only [Option.bind_some]
   rw [if_pos trivial,if_pos trivial,impl_Tree_first.f,if_pos ⟨hv,by omega⟩]
   rfl
 refine Ev.bind (Ev.const hFC) ?_
 cases hk : okCat t l with
 | false =>
  rw [if_neg (by simp)]
  refine Ev.succ ?_
  simp only [laws_FnCaughtBy.j0]
  exact Ev.pos (by rfl) (Ev.bind hS (Ev.bind (laws_equalInts_ev _ (by omega)) (Ev.const rfl)))
 | true =>
  rw [if_pos rfl,idxP_neg2]
  refine Ev.succ ?_
  simp only [laws_FnCaughtBy.j0]
  have hk2:=hk
  unfold okCat at hk2
  simp only [Bool.and_eq_true,decide_eq_true_eq,List.all_eq_true] at hk2
  obtain ⟨hv,hl6,hall⟩:=hk2
  have hDd:=impl_DeadCatches_ev t l (by omega) hs
  have hdp : deadP t l = deadN t l l.length:=by unfold deadP;rw [if_pos hk]
  rw [hdp] at hDd
  have hdl : (deadN t l l.length).length ≤ l.length:=by
   unfold deadN
   rw [List.length_map]
   exact Nat.le_trans (List.length_filter_le _ _) (by simp)
  have hcp : caughtP t l = caughtBy t l:=by unfold caughtP;rw [if_pos hk]
  rw [hcp] at hlen ⊢
  have hasc : (caughtBy t l).Pairwise (· < ·):=fil_asc t _
  have hliv : caughtP t (livN t l l.length) = caughtBy t l:=by
   have h1:=livN_len t l l.length
   have h2:=livN_mem t l l.length (Nat.le_refl _)
   unfold caughtP
   rw [if_pos]
   ·unfold caughtBy
    refine fil_congr t _ _ (fun a a0 a1=>?_)
    have:=liv_any hv l hall a a1 l.length (Nat.le_refl _)
    rwa [List.take_length] at this
   ·unfold okCat
    simp only [Bool.and_eq_true,decide_eq_true_eq,List.all_eq_true]
    exact ⟨hv,by omega,fun x hx=>hall x (h2 x hx)⟩
  have hI2:=impl_CaughtBy_ev t (livN t l l.length) hs
  rw [hliv] at hI2
  have hB : ∀ x ∈ caughtBy t l,impl_BelowOf.f t x = some (fil t (fun b=>isA t b x)) ∧ ∀ y ∈ fil t (fun b=>isA t b x),(caughtBy t l).contains y = true:=by
   intro x hx
   obtain ⟨⟨x0,x1⟩,hx2⟩:=fil_mem.1 hx
   constructor
   ·rw [impl_BelowOf.f,if_pos hs]
    unfold belowP
    rw [if_pos (by rw [hv,hasC_iff.2 ⟨x0,x1⟩];rfl)]
   ·intro y hy
    obtain ⟨⟨y0,y1⟩,hy2⟩:=fil_mem.1 hy
    rw [List.contains_iff_mem]
    refine fil_mem.2 ⟨⟨y0,y1⟩,?_⟩
    obtain ⟨b,hb,hbb⟩:=List.any_eq_true.1 hx2
    exact List.any_eq_true.2 ⟨b,hb,isA_trans hv (y.toNat + 1) y x b (by omega) y1 hy2 hbb⟩
  have hbl : ∀ x,(fil t (fun b=>isA t b x)).length ≤ 8:=by
   intro x
   unfold fil
   have:=List.length_filter_le (fun b=>isA t b x) (clss t)
   rw [clss_len] at this
   omega
  have last : ∀ d j,j + d = (caughtBy t l).length → Ev (fun k=>laws_FnCaughtBy.l1 k (caughtBy t l) (livN t l l.length) (j : Int) t) true:=by
   intro d
   induction d with
   | zero =>
    intro j hj
    refine Ev.succ ?_
    simp only [laws_FnCaughtBy.l1]
    exact Ev.neg (by omega) (Ev.bind (ascends_ev _ (by omega) hasc) (Ev.pos rfl (Ev.bind hI2 (Ev.bind (laws_equalInts_ev _ (by omega)) (Ev.const rfl)))))
   | succ d ih =>
    intro j hj
    refine Ev.succ ?_
    have hlt : j < (caughtBy t l).length:=by omega
    have hr : rd (caughtBy t l) (j : Int) = (caughtBy t l)[j]:=by simp [rd,hlt]
    obtain ⟨hb1,hb2⟩:=hB _ (List.getElem_mem hlt)
    have hb3:=hbl (caughtBy t l)[j]
    simp only [laws_FnCaughtBy.l1,hr]
    refine Ev.pos (by omega) (Ev.pos (by omega) (Ev.bind (Ev.const hb1) ?_))
    generalize fil t (fun b=>isA t b (caughtBy t l)[j]) = B at hb2 hb3
    have inner : ∀ e i,i + e = B.length → Ev (fun k=>laws_FnCaughtBy.l2 k (caughtBy t l) (livN t l l.length) (j : Int) B (i : Int) t) true:=by
     intro e
     induction e with
     | zero =>
      intro i hi
      refine Ev.succ ?_
      simp only [laws_FnCaughtBy.l2]
      rw [wrap_succ (i:=(j : Int)) (n:=(caughtBy t l).length) (by omega) (by omega) (by omega)]
      exact Ev.neg (by omega) (ih (j + 1) (by omega))
     | succ e ihe =>
      intro i hi
      refine Ev.succ ?_
      have hlt2 : i < B.length:=by omega
      have hr2 : rd B (i : Int) = B[i]:=by simp [rd,hlt2]
      have hin:=laws_isIn_ev (caughtBy t l) B[i] (by omega)
      rw [hb2 _ (List.getElem_mem hlt2)] at hin
      simp only [laws_FnCaughtBy.l2,hr2]
      rw [wrap_succ (i:=(i : Int)) (n:=B.length) (by omega) (by omega) (by omega)]
      exact Ev.pos (by omega) (Ev.pos (by omega) (Ev.bind hin (Ev.pos rfl (ihe (i + 1) (by omega)))))
    exact inner B.length 0 (by omega)
  have first : ∀ d j,j + d = l.length → Ev (fun k=>laws_FnCaughtBy.l0 k l (caughtBy t l) (deadN t l l.length) (livN t l j) (j : Int) t) true:=by
   intro d
   induction d with
   | zero =>
    intro j hj
    refine Ev.succ ?_
    have e : j = l.length:=by omega
    subst e
    simp only [laws_FnCaughtBy.l0]
    exact Ev.neg (by omega) (last (caughtBy t l).length 0 (by omega))
   | succ d ih =>
    intro j hj
    refine Ev.succ ?_
    have hlt : j < l.length:=by omega
    have hr : rd l (j : Int) = l.getD j 0:=by simp [rd]
    have hin:=laws_isIn_ev (deadN t l l.length) (j : Int) (by omega)
    rw [deadN_in t l l.length j hlt] at hin
    have hjl:=livN_len t l j
    have hi:=ih (j + 1) (by omega)
    rw [livN_succ] at hi
    simp only [laws_FnCaughtBy.l0,hr]
    rw [wrap_succ (i:=(j : Int)) (n:=l.length) (by omega) (by omega) (by omega)]
    refine Ev.pos (by omega) (Ev.bind hin ?_)
    cases hdd : (l.take j).any (fun b=>isA t (l.getD j 0) b) with
    | true =>
     rw [hdd,if_pos rfl,List.append_nil] at hi
     exact Ev.pos rfl hi
    | false =>
     rw [hdd,if_neg (by simp)] at hi
     exact Ev.neg (by simp) (Ev.pos (by omega) (Ev.pos (by omega) hi))
  exact Ev.neg (by simp) (Ev.bind hDd (first l.length 0 (by omega)))
end Go.Proofs.Ytacgehaipacehaa.Pure
