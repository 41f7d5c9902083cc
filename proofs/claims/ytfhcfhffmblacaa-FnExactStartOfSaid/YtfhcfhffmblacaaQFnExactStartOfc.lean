/- Texts under the proof of FnExactStartOf: helper words, the functions' contracts and the plain laws. No condition. -/
import Derived.Test.YtfhcfhffmblacaaQFnExactStartOfa
import Derived.Test.YtfhcfhffmblacaaQFnExactStartOfb
namespace Go.Proofs.Ytfhcfhffmblacaa.P
open Go.RowKit Go.Proofs.YtfhcfhffmblacaaW.PrintWords Go.Proofs.YtfhcfhffmblacaaW.PrintLast Go.Proofs.YtfhcfhffmblacaaW.PrintMore
attribute [local go_sem] max2_int min2_int max_two min_two max_three min_three max_four min_four
set_option linter.unusedVariables false
set_option linter.unusedSimpArgs false
theorem impl_ValidHeap_1.callsF (B : Nat) (A : Option Addr) (c : Nat) (h : List Fau) (f u : Int) (w : World) (hc : h.length ≤ c) (hB : w.heap[B]? = some (.cells #[.slice A h.length c] 37 (0,0))) (hr : Kd.C k79 w A h.length h) :
  Calls Try.prog 57 #[.int .i64 f,.int .i64 u,.pointer (some ⟨B,0,none⟩)] w fun e w'=>e = .returned (.bool (lnkB h f u)) ∧ Below w.heap.size w w':=by
 have hu37:=Try.underlying37
 have hcell : w.cell? ⟨B,0,none⟩ = some (.slice A h.length c):=(blk_cell hB 0).trans rfl
 have hcon:=impl_Heap_has.calls A c h u (hasF h u) w hr hc (impl_Heap_has_ev h u hr.2.1)
 unfold lnkB
 clear hB hr
 generalize hasF h u = q at hcon ⊢
 by_cases h1 : u = -1
 ·have hd1 : (u == -1) = true:=beq_iff_eq.2 h1
  clear h1
  rw [hd1,Bool.true_or]
  go_enter Try.func57,Try.ntmps57
  go_wp2
  go_ret
  exact ⟨rfl,Below.refl _ w⟩
 ·have hd1 : (u == -1) = false:=beq_eq_false_iff_ne.2 h1
  clear h1
  rw [hd1,Bool.false_or]
  cases q with
  | false =>
   go_enter Try.func57,Try.ntmps57
   go_wp2_with (go_at_call 58;refine hcon.mono ?_;rintro e w' ⟨rfl,hb'⟩)
   go_ret
   exact ⟨rfl,hb'⟩
  | true =>
   rw [Bool.true_and]
   cases h2 : (u != f) <;>
   ·go_enter Try.func57,Try.ntmps57
    go_wp2_with (go_at_call 58;refine hcon.mono ?_;rintro e w' ⟨rfl,hb'⟩)
    go_ret
    exact ⟨rfl,hb'⟩
end Go.Proofs.Ytfhcfhffmblacaa.P
namespace Go.Proofs.Ytfhcfhffmblacaa.P
open Go.RowKit Go.Proofs.YtfhcfhffmblacaaW.PrintWords Go.Proofs.YtfhcfhffmblacaaW.PrintLast Go.Proofs.YtfhcfhffmblacaaW.PrintMore
attribute [local go_sem] max2_int min2_int max_two min_two max_three min_three max_four min_four
set_option linter.unusedVariables false
set_option linter.unusedSimpArgs false
def impl_Tree_has.f (l0_0 : List (S106)) (a1 : Int) : Option (Bool):=(impl_within.f a1 0 (wrap64 ((l0_0.length : Int) - 1))).bind fun t2=>(some t2)
set_option maxHeartbeats 8000000 in
set_option maxRecDepth 100000 in
theorem impl_Tree_has.calls (A0_0 : Option Addr) (c0_0 : Nat) (l0_0 : List (S106)) (a1 : Int) (r : Bool) (w : World) (hr0_0 : Kd.C k106 w A0_0 l0_0.length l0_0) (hc0_0 : l0_0.length ≤ c0_0) (h : impl_Tree_has.f l0_0 a1 = some r) :
  Calls Try.prog 59 #[.agg #[.slice A0_0 l0_0.length c0_0],.int .i64 a1] w fun e w'=>e = .returned (.bool r) ∧ Below w.heap.size w w':=by
 have hu33:=Try.underlying33
 have HR0_0:=a0_ hr0_0
 have HC0_0:=a0_ hc0_0
 clear hr0_0 hc0_0
 have HB:=a0_ (Below.refl w.heap.size w)
 have H : ((impl_within.f a1 0 (wrap64 ((l0_0.length : Int) - 1))).bind fun t2=>(some t2)) = some r:=h
 clear h
 replace H:=Option.bind_eq_some_iff.mp H
 obtain ⟨t2,A30,H⟩:=H
 replace H : (some t2) = some r:=H
 have A3:=a0_ A30
 clear A30
 obtain rfl:=Option.some.inj H
 go_enter Try.func59,Try.ntmps59
 go_wp2_with (first | ((with_reducible refine gate_dst (N:=2) rfl ?_);refine box_event ?hg (N:=2) ?hd (cs:=#[.slice A0_0 l0_0.length c0_0]) (t:=33) ?hr ?_;(case hd=>rfl);(case hg=>rfl);(case hr=>first | (go_simp;done) | (go_simp;rfl));intro gb1 hg w4 hbox hb;have BK1:=a0_ (hbox);have GW1:=a0_ ((by rw [hg];exact (below_size hb_) : w.heap.size ≤ gb1));have GE1:=a0_ ((by rw [hg];exact (below_size hb_) : w.heap.size ≤ gb1));replace HB:=a0_ (below_step hb_ hb);clear hb hbox hg;have hcz5_0 : w4.cell? ⟨gb1,0,none⟩ = some (.slice A0_0 l0_0.length c0_0):=(blk_cell BK1.out 0).trans rfl;have hfz5_0:=blk_frozen BK1.out 0) | ((with_reducible refine gate_callee (f:=93) rfl ?_);refine goesL_ (some 10) rfl rfl Try.func93 (by kernel_rfl) rfl #[.int .i64 a1,.int .i64 0,.int .i64 (wrap64 ((l0_0.length : Int) - 1))] rfl lm_ ?_;(with_reducible refine (impl_within.calls a1 0 (wrap64 ((l0_0.length : Int) - 1)) t2 _ A3.out).mono ?_);rintro e w' ⟨rfl,⟨nd,rfl⟩⟩;refine ⟨_,rfl,?_⟩))
 go_ret
 exact ⟨by first | rfl | (simp [errW_none,errW_some] <;> rfl) | (simp [*,errW_none,errW_some] <;> rfl),hb_⟩
theorem impl_Tree_has_ev (t : List Cls) (a : Int) (hl : t.length ≤ 9223372036854775807) : impl_Tree_has.f t a = some (hasC t a):=by
 unfold impl_Tree_has.f impl_within.f hasC
 rw [wrap_pred (by omega) (by omega)]
 by_cases h0 : a ≥ 0
 ·rw [if_pos h0]
  have h0' : 0 ≤ a:=h0
  simp only [Option.bind_some,Option.some.injEq,decide_eq_true h0',Bool.true_and]
  by_cases h1 : a < (t.length : Int)
  ·rw [decide_eq_true h1,decide_eq_true (by omega)]
  ·rw [decide_eq_false h1,decide_eq_false (by omega)]
 ·rw [if_neg h0]
  have h0' : ¬ 0 ≤ a:=h0
  simp [decide_eq_false h0']
end Go.Proofs.Ytfhcfhffmblacaa.P
namespace Go.Proofs.Ytfhcfhffmblacaa.P
open Go.RowKit Go.Proofs.YtfhcfhffmblacaaW.PrintWords Go.Proofs.YtfhcfhffmblacaaW.PrintLast Go.Proofs.YtfhcfhffmblacaaW.PrintMore
attribute [local go_sem] max2_int min2_int max_two min_two max_three min_three max_four min_four
set_option linter.unusedVariables false
set_option linter.unusedSimpArgs false
def impl_codeOk.f (a0 : Int) : Option (Bool):=(impl_within.f a0 0 99).bind fun t1=>(some t1)
set_option maxHeartbeats 8000000 in
set_option maxRecDepth 100000 in
theorem impl_codeOk.calls (a0 : Int) (r : Bool) (w : World) (h : impl_codeOk.f a0 = some r) :
  Calls Try.prog 60 #[.int .i64 a0] w fun e w'=>e = .returned (.bool r) ∧ Drawn0 w w':=by
 have H : ((impl_within.f a0 0 99).bind fun t1=>(some t1)) = some r:=h
 clear h
 replace H:=Option.bind_eq_some_iff.mp H
 obtain ⟨t1,A20,H⟩:=H
 replace H : (some t1) = some r:=H
 have A2:=a0_ A20
 clear A20
 obtain rfl:=Option.some.inj H
 go_enter Try.func60,Try.ntmps60
 go_wp2_with (first | ((with_reducible refine gate_callee (f:=93) rfl ?_);refine goesL_ (some 4) rfl rfl Try.func93 (by kernel_rfl) rfl #[.int .i64 a0,.int .i64 0,.int .i64 99] rfl lm_ ?_;(with_reducible refine (impl_within.calls a0 0 99 t1 _ A2.out).mono ?_);rintro e w' ⟨rfl,⟨nd,rfl⟩⟩;refine ⟨_,rfl,?_⟩))
 go_ret
 exact ⟨by first | rfl | (simp;done) | (simp [*];done),by repeat (first | exact Drawn0.refl _ | apply Drawn0.step)⟩
theorem impl_codeOk_ev (a : Int) : impl_codeOk.f a = some (decide (0 ≤ a) && decide (a ≤ 99)):=by
 unfold impl_codeOk.f
 rw [impl_within_ev]
 rfl
end Go.Proofs.Ytfhcfhffmblacaa.P
namespace Go.Proofs.Ytfhcfhffmblacaa.P
open Go.RowKit Go.Proofs.YtfhcfhffmblacaaW.PrintWords Go.Proofs.YtfhcfhffmblacaaW.PrintLast Go.Proofs.YtfhcfhffmblacaaW.PrintMore
attribute [local go_sem] max2_int min2_int max_two min_two max_three min_three max_four min_four
set_option linter.unusedVariables false
set_option linter.unusedSimpArgs false
def slices_Index_int.l0 : Nat → List Int → Int → Int → Int → Option (Int)
 | 0,_,_,_,_=>none
 | k + 1,x0,x1,x7,x8=>if x8 < x7 then (if 0 ≤ x8 then (if x8 < (x0.length : Int) then (if x1 = (rd x0 x8) then (some x8) else (slices_Index_int.l0 k x0 x1 x7 (wrap64 (x8 + 1)))) else (none)) else (none)) else (some (-1))
def slices_Index_int.f (k : Nat) (l0 : List Int) (a1 : Int) : Option (Int):=slices_Index_int.l0 k l0 a1 (l0.length : Int) 0
theorem slices_Index_int.mono_l : ∀ k,(∀ y0 y1 y2 y3,LeO (slices_Index_int.l0 k y0 y1 y2 y3) (slices_Index_int.l0 (k + 1) y0 y1 y2 y3))
 | 0=>fun _ _ _ _ r h=>by simp [slices_Index_int.l0] at h
 | k + 1=>by
  have ih0:=slices_Index_int.mono_l k
  ·intro y0 y1 y2 y3
   unfold slices_Index_int.l0
   repeat' first
   | (with_reducible exact ih0 _ _ _ _)
   | (with_reducible exact LeO.refl _)
   | (with_reducible exact LeO.none _)
   | (with_reducible refine LeO.ite ?_ ?_)
   | (with_reducible refine LeO.bind ?_ (fun _=>?_))
   | exact ih0 _ _ _ _
   | exact LeO.none _
   | refine LeO.ite ?_ ?_
   | refine LeO.bind ?_ (fun _=>?_)
theorem slices_Index_int.mono : ∀ a0 a1 k,LeO (slices_Index_int.f k a0 a1) (slices_Index_int.f (k + 1) a0 a1):=by
 intro a0 a1 k
 have ih0:=slices_Index_int.mono_l k
 unfold slices_Index_int.f
 repeat' first
   | (with_reducible exact ih0 _ _ _ _)
   | (with_reducible exact LeO.refl _)
   | (with_reducible exact LeO.none _)
   | (with_reducible refine LeO.ite ?_ ?_)
   | (with_reducible refine LeO.bind ?_ (fun _=>?_))
   | exact ih0 _ _ _ _
   | exact LeO.none _
   | refine LeO.ite ?_ ?_
   | refine LeO.bind ?_ (fun _=>?_)
set_option maxHeartbeats 8000000 in
set_option maxRecDepth 100000 in
theorem slices_Index_int.calls (k : Nat) (A0 : Option Addr) (c0 : Nat) (l0 : List Int) (a1 : Int) (r : Int) (w : World) (hr0 : Kd.C (Kd.int .i64) w A0 l0.length l0) (hc0 : l0.length ≤ c0) (h : slices_Index_int.f k l0 a1 = some r) :
  Calls Try.prog 110 #[.slice A0 l0.length c0,.int .i64 a1] w fun e w'=>e = .returned (.int .i64 r) ∧ Drawn0 w w':=by
 have HR0:=a0_ hr0
 have HC0:=a0_ hc0
 clear hr0 hc0
 have H : (slices_Index_int.l0 k l0 a1 (l0.length : Int) 0) = some r:=h
 clear h
 have H':=a0_ H
 clear H
 go_enter Try.func110,Try.ntmps110
 go_wp2
 go_loopg [8] k (fun kq v8 w'=>∃ (x8_1 : Int),v8 = .int .i64 x8_1 ∧ Aside0 (slices_Index_int.l0 kq l0 a1 (l0.length : Int) x8_1 = some r) ∧ Aside0 (kq ≤ k) ∧ Drawn0 w w')
 case atStart=>exact ⟨(0),(by first | rfl | (simp;done) | (simp [*];done)),H',⟨Nat.le_refl _⟩,by repeat (first | exact Drawn0.refl _ | apply Drawn0.step)⟩
 case round =>
  clear H'
  try clear c1
  try clear p2
  obtain ⟨x8_1,rfl,HA,HK1,⟨m1,rfl⟩⟩:=hrel
  cases gk with
  | zero=>exact absurd HA.out (by simp [slices_Index_int.l0])
  | succ k1 =>
   have H:=HA.out
   clear HA
   simp only [slices_Index_int.l0] at H
   by_cases c3 : x8_1 < (l0.length : Int)
   ·rw [if_pos c3] at H
    have c3b0 : decide (x8_1 < (l0.length : Int)) = true:=decide_eq_true c3
    clear c3
    by_cases c4 : 0 ≤ x8_1
    ·rw [if_pos c4] at H
     have c4b0 : decide (0 ≤ x8_1) = true:=decide_eq_true c4
     clear c4
     by_cases c5 : x8_1 < (l0.length : Int)
     ·rw [if_pos c5] at H
      have c5b0 : decide (x8_1 < (l0.length : Int)) = true:=decide_eq_true c5
      clear c5
      by_cases c6 : a1 = (rd l0 x8_1)
      ·rw [if_pos c6] at H
       have c6b0 : (a1 == (rd l0 x8_1)) = true:=beq_iff_eq.mpr c6
       have c6b1 : (a1 != (rd l0 x8_1)) = false:=bne_eq_false_iff_eq.mpr c6
       clear c6
       obtain rfl:=Option.some.inj H
       have p1 : 0 ≤ (x8_1 : Int):=of_decide_eq_true (by first | (with_reducible assumption) | assumption)
       have q1 : x8_1 < (l0.length : Int):=of_decide_eq_true (by first | (with_reducible assumption) | assumption)
       obtain ⟨ad1,e1,hx1_0⟩:=Kd.at_int HR0.out x8_1 p1 q1
       cases e1
       replace p1:=eq_true p1
       replace q1:=eq_true q1
       go_wp2
       go_ret
       exact ⟨by first | rfl | (simp;done) | (simp [*];done),by repeat (first | exact Drawn0.refl _ | apply Drawn0.step)⟩
      ·rw [if_neg c6] at H
       have c6b0 : (a1 == (rd l0 x8_1)) = false:=beq_eq_false_iff_ne.mpr c6
       have c6b1 : (a1 != (rd l0 x8_1)) = true:=bne_iff_ne.mpr c6
       have H':=a0_ H
       clear H
       have p1 : 0 ≤ (x8_1 : Int):=of_decide_eq_true (by first | (with_reducible assumption) | assumption)
       have q1 : x8_1 < (l0.length : Int):=of_decide_eq_true (by first | (with_reducible assumption) | assumption)
       obtain ⟨ad1,e1,hx1_0⟩:=Kd.at_int HR0.out x8_1 p1 q1
       cases e1
       replace p1:=eq_true p1
       replace q1:=eq_true q1
       go_wp2
       go_roundg k1
       case measure=>have:=HK1.out;omega
       case rel=>exact ⟨(wrap64 (x8_1 + 1)),(by first | rfl | (simp;done) | (simp [*];done)),H',⟨by have:=HK1.out;omega⟩,by repeat (first | exact Drawn0.refl _ | apply Drawn0.step)⟩
     ·rw [if_neg c5] at H
      exact absurd H (by simp)
    ·rw [if_neg c4] at H
     exact absurd H (by simp)
   ·rw [if_neg c3] at H
    have c3b0 : decide (x8_1 < (l0.length : Int)) = false:=decide_eq_false c3
    clear c3
    obtain rfl:=Option.some.inj H
    go_wp2
    go_ret
    exact ⟨by first | rfl | (simp;done) | (simp [*];done),by repeat (first | exact Drawn0.refl _ | apply Drawn0.step)⟩
theorem slices_Index_int_l0 (l : List Int) (x : Int) (hs : l.length ≤ 9223372036854775807) (d : Nat) : ∀ (k : Nat) (i : Nat),i ≤ l.length → l.length - i = d → d < k → (∀ j (hj : j < l.length),j < i → decide (x = l[j]) = false) → slices_Index_int.l0 k l x (l.length : Int) (i : Int) = some (idxP (fun y=>decide (x = y)) l):=by
 induction d with
 | zero =>
  intro k i hi hd hk hA
  obtain ⟨k,rfl⟩ : ∃ m,k = m + 1:=⟨k - 1,by omega⟩
  simp only [slices_Index_int.l0]
  rw [if_neg (show ¬ (i : Int) < (l.length : Int) by omega),idxP_miss _ l (fun j hj=>hA j hj (by omega))]
 | succ d ih =>
  intro k i hi hd hk hA
  obtain ⟨k,rfl⟩ : ∃ m,k = m + 1:=⟨k - 1,by omega⟩
  have hlt : i < l.length:=by omega
  simp only [slices_Index_int.l0]
  have hrd : rd l (i : Int) = l[i]:=by simp [rd,hlt]
  rw [if_pos (show (i : Int) < (l.length : Int) by omega),if_pos (show (0 : Int) ≤ (i : Int) by omega),if_pos (show (i : Int) < (l.length : Int) by omega),hrd]
  by_cases h1 : x = l[i]
  ·rw [if_pos h1,idxP_hit (fun y=>decide (x = y)) l i hlt (decide_eq_true h1) hA]
  ·rw [if_neg h1,wrap_succ (n:=l.length) (by omega) (by omega) (by omega)]
   rw [show ((i : Int) + 1) = ((i + 1 : Nat) : Int) by omega]
   refine ih k (i + 1) (by omega) (by omega) (by omega) (fun j hj hji=>?_)
   by_cases e : j = i
   ·subst e;exact decide_eq_false h1
   ·exact hA j hj (by omega)
end Go.Proofs.Ytfhcfhffmblacaa.P
namespace Go.Proofs.Ytfhcfhffmblacaa.P
open Go.RowKit Go.Proofs.YtfhcfhffmblacaaW.PrintWords Go.Proofs.YtfhcfhffmblacaaW.PrintLast Go.Proofs.YtfhcfhffmblacaaW.PrintMore
attribute [local go_sem] max2_int min2_int max_two min_two max_three min_three max_four min_four
set_option linter.unusedVariables false
set_option linter.unusedSimpArgs false
def slices_Contains_int.f (k : Nat) (l0 : List Int) (a1 : Int) : Option (Bool):=(slices_Index_int.f k l0 a1).bind fun t1=>(some (decide (t1 ≥ 0)))
theorem slices_Contains_int.mono : ∀ a0 a1 k,LeO (slices_Contains_int.f k a0 a1) (slices_Contains_int.f (k + 1) a0 a1):=by
 intro a0 a1 k
 unfold slices_Contains_int.f
 repeat' first
   | (with_reducible exact slices_Index_int.mono _ _ _)
   | (with_reducible exact LeO.refl _)
   | (with_reducible exact LeO.none _)
   | (with_reducible refine LeO.ite ?_ ?_)
   | (with_reducible refine LeO.bind ?_ (fun _=>?_))
   | exact slices_Index_int.mono _ _ _
   | exact LeO.none _
   | refine LeO.ite ?_ ?_
   | refine LeO.bind ?_ (fun _=>?_)
set_option maxHeartbeats 8000000 in
set_option maxRecDepth 100000 in
theorem slices_Contains_int.calls (k : Nat) (A0 : Option Addr) (c0 : Nat) (l0 : List Int) (a1 : Int) (r : Bool) (w : World) (hr0 : Kd.C (Kd.int .i64) w A0 l0.length l0) (hc0 : l0.length ≤ c0) (h : slices_Contains_int.f k l0 a1 = some r) :
  Calls Try.prog 102 #[.slice A0 l0.length c0,.int .i64 a1] w fun e w'=>e = .returned (.bool r) ∧ Drawn0 w w':=by
 have HR0:=a0_ hr0
 have HC0:=a0_ hc0
 clear hr0 hc0
 have H : ((slices_Index_int.f k l0 a1).bind fun t1=>(some (decide (t1 ≥ 0)))) = some r:=h
 clear h
 replace H:=Option.bind_eq_some_iff.mp H
 obtain ⟨t1,A30,H⟩:=H
 replace H : (some (decide (t1 ≥ 0))) = some r:=H
 have A3:=a0_ A30
 clear A30
 obtain rfl:=Option.some.inj H
 go_enter Try.func102,Try.ntmps102
 go_wp2_with (first | ((with_reducible refine gate_callee (f:=110) rfl ?_);refine goesL_ (some 7) rfl rfl Try.func110 (by kernel_rfl) rfl #[.slice A0 l0.length c0,.int .i64 a1] rfl lm_ ?_;(with_reducible refine (slices_Index_int.calls k _ _ l0 a1 t1 _ ?side1 ?side2 A3.out).mono ?_);(case side1=>repeat (first | exact HR0.out | (with_reducible refine Kd.C_alloc ?_ _) | (with_reducible refine Kd.C_drewN ?_ _) | (with_reducible refine Kd.C_drew ?_)));(case side2=>exact HC0.out);rintro e w' ⟨rfl,⟨nd,rfl⟩⟩;refine ⟨_,rfl,?_⟩))
 go_ret
 exact ⟨by first | rfl | (simp;done) | (simp [*];done),by repeat (first | exact Drawn0.refl _ | apply Drawn0.step)⟩
theorem slices_Contains_int_ev (l : List Int) (x : Int) (hs : l.length ≤ 9223372036854775807) (k : Nat) (hk : l.length < k) : slices_Contains_int.f k l x = some (l.contains x):=by
 unfold slices_Contains_int.f slices_Index_int.f
 have h0:=slices_Index_int_l0 l x hs l.length k 0 (by omega) (by omega) hk (fun j _ hj=>absurd hj (Nat.not_lt_zero _))
 rw [show ((0 : Nat) : Int) = 0 from rfl] at h0
 rw [h0]
 simp only [Option.bind_some,Option.some.injEq]
 rw [idxP_nonneg]
 rw [Bool.eq_iff_iff,List.any_eq_true,List.contains_iff_mem]
 constructor
 ·rintro ⟨y,hy,e⟩
  have : x = y:=of_decide_eq_true e
  rw [this];exact hy
 ·intro hm;exact ⟨x,hm,decide_eq_true rfl⟩
end Go.Proofs.Ytfhcfhffmblacaa.P
namespace Go.Proofs.Ytfhcfhffmblacaa.P
open Go.RowKit Go.Proofs.YtfhcfhffmblacaaW.PrintWords Go.Proofs.YtfhcfhffmblacaaW.PrintLast Go.Proofs.YtfhcfhffmblacaaW.PrintMore
attribute [local go_sem] max2_int min2_int max_two min_two max_three min_three max_four min_four
set_option linter.unusedVariables false
set_option linter.unusedSimpArgs false
def slices_Clip_int.f (l0 : List Int) : Option (List Int):=if 0 ≤ (l0.length : Int) then (if (l0.length : Int) ≤ (l0.length : Int) then (some (l0.take ((l0.length : Int) : Int).toNat)) else (none)) else (none)
set_option maxHeartbeats 8000000 in
set_option maxRecDepth 100000 in
theorem slices_Clip_int.calls (P0_ : Nat → Prop) (u9000_ : Value) (l0 : List Int) (r : List Int) (w0 w : World) (hB : Below w0.heap.size w0 w) (ho0 : Kd.R (Kd.int .i64) 3 w w0.heap.size P0_ u9000_ l0) (h : slices_Clip_int.f l0 = some r) :
  Calls Try.prog 103 #[u9000_] w fun e w'=>∃ v0_ : Value,e = .returned (v0_) ∧ Kd.R (Kd.int .i64) 3 w' w0.heap.size (fun k_=>(P0_ k_ ∨ w.heap.size ≤ k_)) v0_ r ∧ Below w0.heap.size w0 w' ∧ Kept w w' (fun k_=>P0_ k_):=by
 have HO0:=a0_ (show Kd.R (Kd.int .i64) 3 w w0.heap.size (fun k_=>(P0_ k_ ∨ w.heap.size ≤ k_)) u9000_ l0 from Kd.R_mono ho0 (fun k_ hk=>(.inl hk)))
 have HK:=a0_ (Kept.refl w (fun k_=>P0_ k_))
 have HW0:=a0_ hB.size
 have HB:=a0_ hB
 clear hB
 have H : (if 0 ≤ (l0.length : Int) then (if (l0.length : Int) ≤ (l0.length : Int) then (some (l0.take ((l0.length : Int) : Int).toNat)) else (none)) else (none)) = some r:=h
 clear h
 by_cases c2 : 0 ≤ (l0.length : Int)
 ·rw [if_pos c2] at H
  have c2b0:=eq_true c2
  have c2b1 : decide (0 ≤ (l0.length : Int)) = true:=decide_eq_true c2
  clear c2
  by_cases c3 : (l0.length : Int) ≤ (l0.length : Int)
  ·rw [if_pos c3] at H
   have c3b0:=eq_true c3
   have c3b1 : decide ((l0.length : Int) ≤ (l0.length : Int)) = true:=decide_eq_true c3
   clear c3
   obtain ⟨y1,hy1⟩ : ∃ y_ : List Int,y_ = (l0.take ((l0.length : Int) : Int).toNat):=⟨_,rfl⟩
   replace H : (some y1) = some r:=by first | (rw [hy1];with_reducible exact H) | (have H2_:=(Option.bind_some _ _).symm.trans H;rw [hy1];with_reducible exact H2_) | (have H2_:=(Option.bind_some _ _).symm.trans H;with_reducible exact H2_) | with_reducible exact H | (rw [hy1];exact H) | exact H
   have Ny1:=a0_ hy1
   clear hy1
   obtain rfl:=Option.some.inj H
   obtain ⟨Ao4,co4,eo4⟩:=Kd.R_slice HO0.out
   subst eo4
   have q5 : l0.length ≤ co4:=(Kd.R_reads' HO0.out).2.1
   have hr5:=Kd.R_clip2 HO0.out (((l0.length : Int) : Int).toNat) (by omega)
   rw [← Ny1.out] at hr5
   clear HO0
   have HO3:=a0_ hr5
   clear hr5
   go_enter Try.func103,Try.ntmps103
   go_wp2
   go_ret
   exact ⟨_,by first | rfl | (simp [errW_none,errW_some] <;> rfl) | (simp [*,errW_none,errW_some] <;> rfl),by (with_reducible repeat (first | apply Kd.R_alloc | apply Kd.R_drewN | apply Kd.R_drew));exact HO3.out,hb_,by repeat (first | (with_reducible first | exact HK.out | apply Kept.alloc | apply Kept.drewN | apply Kept.drew) | exact HK.out)⟩
  ·rw [if_neg c3] at H
   exact absurd H (by simp)
 ·rw [if_neg c2] at H
  exact absurd H (by simp)
theorem slices_Clip_int_ev (l : List Int) : slices_Clip_int.f l = some l:=by
 unfold slices_Clip_int.f
 rw [if_pos (by omega),if_pos (by omega)]
 simp
end Go.Proofs.Ytfhcfhffmblacaa.P
namespace Go.Proofs.Ytfhcfhffmblacaa.P
open Go.RowKit Go.Proofs.YtfhcfhffmblacaaW.PrintWords Go.Proofs.YtfhcfhffmblacaaW.PrintLast Go.Proofs.YtfhcfhffmblacaaW.PrintMore
attribute [local go_sem] max2_int min2_int max_two min_two max_three min_three max_four min_four
set_option linter.unusedVariables false
set_option linter.unusedSimpArgs false
set_option maxHeartbeats 4000000 in
set_option maxRecDepth 100000 in
theorem impl_walk.callsF (n : Nat) (next : Int → Int) (g : Nat) (ba lb : Array Value) (f0 : Int) (w : World) (eg : ∀ args w,(callFunc g args).run Try.prog w = .ok (.enter g args) w)
  (hf : f0 < (n : Int)) (hn : n ≤ 2097152) (hnx : ∀ x : Int,0 ≤ x → x < (n : Int) → next x < (n : Int)) (hp : ∀ x : Int,0 ≤ x → x < (n : Int) → ∀ W,Below w.heap.size w W → Calls Try.prog g (ba ++ #[.int .i64 x] ++ lb) W fun e w'=>e = .returned (.int .i64 (next x)) ∧ Below W.heap.size W w') :
  Calls Try.prog 70 #[.int .i64 f0,.func (.func g) ba lb] w fun e w'=>∃ v : Value,e = .returned v ∧ Kd.R (Kd.int .i64) 3 w' w.heap.size (fun _=>True) v (walkL next n [] f0) ∧ Below w.heap.size w w':=by
 have HP:=a0_ hp
 have HNX:=a0_ hnx
 have HN:=a0_ hn
 have HF:=a0_ hf
 have HRL:=a0_ (restN_le n [])
 clear hp hnx hf
 have HB:=a0_ (Below.refl w.heap.size w)
 go_enter Try.func70,Try.ntmps70
 go_wp2_with ((with_reducible refine gate_dst (N:=6) rfl ?_);refine Kd.R_lit (Kd.int .i64) _ 3 ?hg (N:=6) ?hd (xs:=([] : List Int)) (inner:=[]) (ok:=fun _=>True) (okp:=fun _=>True) ?hr ?hp (fun _ hk=>hk) trivial (Below.refl _ _) (Nat.le_refl _) (by simp) ?_;(case hd=>rfl);(case hg=>rfl);(case hr=>first | (go_simp;done) | (go_simp;rfl));(case hp=>exact (Reps.none _ _));intro v2 w4 ho5 hb hg_ hnew_;clear hg_ hnew_;have HO:=a0_ (Kd.R_lower ho5 (below_size HB.out));replace HB:=a0_ (below_step HB.out hb);clear hb ho5)
 go_loopg [0,5] n (fun gg s0 s5 wr=>∃ (f : Int) (out : List Int) (d : Nat),d ≤ gg ∧ s0 = .int .i64 f ∧ Aside0 (f < (n : Int)) ∧ Aside0 (restN n out ≤ d) ∧ Aside0 (out.length + d ≤ n) ∧ Aside0 (walkL next d out f = walkL next n [] f0) ∧ Aside0 (Kd.R (Kd.int .i64) 3 wr w.heap.size (fun _=>True) s5 out) ∧ Aside0 (Below w.heap.size w wr))
 case atStart=>exact ⟨f0,[],n,by omega,rfl,HF,HRL,⟨by simp⟩,⟨rfl⟩,HO,HB⟩
 case round =>
  clear HO HB HRL HF
  obtain ⟨f,out,d,hd,rfl,HF,HR,HL,HE,HO,HB⟩:=hrel
  obtain ⟨Ao,co,eo⟩:=Kd.R_slice HO.out
  subst eo
  have HRC:=Kd.R_reads' HO.out
  have hcap:=HRC.2.1
  have HCL:=a0_ (slices_Clip_int_ev out)
  have hco:=slices_Contains_int.calls (out.length + 1) Ao co out f (out.contains f) wr HRC.2.2 hcap (slices_Contains_int_ev out f (by have:=HL.out;omega) _ (by omega))
  by_cases h0 : 0 ≤ f
  ·have h0b:=eq_true h0
   cases hq : out.contains f with
   | true =>
    rw [hq] at hco
    have HS:=a0_ (walkL_stop next d out f (by rw [hq];simp))
    have HCO:=a0_ hco
    clear hco hq
    go_wp2_with (first
     | (go_at_call 102;refine (HCO.out).mono ?_;rintro e w' ⟨rfl,hd'⟩;have hb':=hd'.below;replace HO:=a0_ (Kd.R_below HO.out hb');replace HB:=a0_ (below_step HB.out hb');clear hb' hd')
     | (go_at_call 103;refine (slices_Clip_int.calls (fun _=>True) _ out out w _ HB.out HO.out HCL.out).mono ?_;rintro e w2 ⟨v9,rfl,ho9,hb9,hk9⟩))
    go_ret
    exact ⟨_,rfl,Kd.R_mono (by rw [← HE.out,HS.out];exact ho9) (fun _ _=>trivial),hb9⟩
   | false =>
    rw [hq] at hco
    have HCO:=a0_ hco
    obtain ⟨d',hd'⟩ : ∃ d',d = d' + 1:=⟨d - 1,by
     have h1:=restN_zero (n:=n) (out:=out) h0 HF.out
     have h2:=HR.out
     apply Classical.byContradiction
     intro hn0
     rw [h1 (by omega)] at hq
     cases hq⟩
    subst hd'
    have HR2:=a0_ (show restN n (out ++ [f]) ≤ d' by have h1:=restN_lt h0 HF.out hq;have h2:=HR.out;omega)
    have HE2:=a0_ (show walkL next d' (out ++ [f]) (next f) = walkL next n [] f0 by rw [← HE.out,walkL,if_pos ⟨h0,hq⟩])
    have HF2:=a0_ (HNX.out f h0 HF.out)
    have HCALL:=a0_ (HP.out f h0 HF.out)
    clear hco hq
    go_wp2_with (first
     | (go_at_call 102;refine (HCO.out).mono ?_;rintro e w' ⟨rfl,hd'⟩;have hb':=hd'.below;replace HO:=a0_ (Kd.R_below HO.out hb');replace HB:=a0_ (below_step HB.out hb');clear hb' hd')
     | ((with_reducible refine gate_builtin (b:=.append) (xs:=#[.tmp 18,.tmp 20]) rfl ?_);at_builtin;refine Kd.R_append (Kd.int .i64) (w0:=w) w.heap.size rfl (.tmp 18) (.tmp 20) 44 3 (.int .i64 0) 8 rfl Try.underlying44 info3 rfl (by decide) (by omega) _ _ f [.int .i64 f] (fun _=>True) (fun _=>False) rfl rfl rfl (fun _ hk=>hk.elim) (fun _ _=>trivial) HO.out HB.out (below_size HB.out) (by have:=HL.out;have:=HN.out;omega) ?_;intro v3 w3 ho hb hg3 hat;replace HO:=a0_ ho;replace HB:=a0_ hb;clear ho hb hg3 hat)
     | (go_at_fn g;refine (HCALL.out _ HB.out).mono ?_;rintro e w2 ⟨rfl,hb2⟩;replace HO:=a0_ (Kd.R_below HO.out hb2);replace HB:=a0_ (below_step HB.out hb2);clear hb2))
    go_roundg d'
    case measure=>omega
    case rel=>exact ⟨next f,out ++ [f],d',by omega,rfl,HF2,HR2,⟨by have:=HL.out;rw [List.length_append,List.length_singleton];omega⟩,HE2,HO,HB⟩
  ·have HS:=a0_ (walkL_stop next d out f (fun h=>h0 h.1))
   clear hco
   go_wp2_with (go_at_call 103;refine (slices_Clip_int.calls (fun _=>True) _ out out w _ HB.out HO.out HCL.out).mono ?_;rintro e w2 ⟨v9,rfl,ho9,hb9,hk9⟩)
   go_ret
   exact ⟨_,rfl,Kd.R_mono (by rw [← HE.out,HS.out];exact ho9) (fun _ _=>trivial),hb9⟩
end Go.Proofs.Ytfhcfhffmblacaa.P
namespace Go.Proofs.Ytfhcfhffmblacaa.P
open Go.RowKit Go.Proofs.YtfhcfhffmblacaaW.PrintWords Go.Proofs.YtfhcfhffmblacaaW.PrintLast Go.Proofs.YtfhcfhffmblacaaW.PrintMore
attribute [local go_sem] max2_int min2_int max_two min_two max_three min_three max_four min_four
set_option linter.unusedVariables false
set_option linter.unusedSimpArgs false
theorem impl_Heap_contexts_1.callsF (B : Nat) (A : Option Addr) (c : Nat) (h : List Fau) (x : Int) (w : World) (h0 : 0 ≤ x) (h1 : x < (h.length : Int)) (hB : w.heap[B]? = some (.cells #[.slice A h.length c] 37 (0,0))) (hr : Kd.C k79 w A h.length h) :
  Calls Try.prog 94 #[.int .i64 x,.pointer (some ⟨B,0,none⟩)] w fun e w'=>e = .returned (.int .i64 (ctxN h x)) ∧ Below w.heap.size w w':=by
 have hu37:=Try.underlying37
 have hu79:=Try.underlying79
 have hcell : w.cell? ⟨B,0,none⟩ = some (.slice A h.length c):=(blk_cell hB 0).trans rfl
 obtain ⟨ad,ea,hx0,hx1,hx2,hx3,hx4⟩:=at_T79 hr x h0 h1
 cases ea
 have hrd : (rd_T79 h x).f3 = ctxN h x:=by simp [rd_T79,ctxN]
 rw [hrd] at hx3
 have p0:=eq_true h0
 have p1:=eq_true h1
 clear hB hr hx0 hx1 hx2 hx4 hrd
 generalize ctxN h x = r at hx3 ⊢
 go_enter Try.func94,Try.ntmps94
 go_wp2
 go_ret
 exact ⟨rfl,Below.refl _ w⟩
end Go.Proofs.Ytfhcfhffmblacaa.P
namespace Go.Proofs.Ytfhcfhffmblacaa.P
open Go.RowKit Go.Proofs.YtfhcfhffmblacaaW.PrintWords Go.Proofs.YtfhcfhffmblacaaW.PrintLast Go.Proofs.YtfhcfhffmblacaaW.PrintMore
attribute [local go_sem] max2_int min2_int max_two min_two max_three min_three max_four min_four
set_option linter.unusedVariables false
set_option linter.unusedSimpArgs false
theorem impl_Heap_contexts.callsF (A : Option Addr) (c : Nat) (h : List Fau) (f : Int) (w : World) (hf : f < (h.length : Int)) (hn : h.length ≤ 2097152) (hc : ∀ x : Int,0 ≤ x → x < (h.length : Int) → ctxN h x < (h.length : Int)) (hr : Kd.C k79 w A h.length h) :
  Calls Try.prog 61 #[.agg #[.slice A h.length c],.int .i64 f] w fun e w'=>∃ v : Value,e = .returned v ∧ Kd.R (Kd.int .i64) 3 w' w.heap.size (fun _=>True) v (ctxL h f) ∧ Below w.heap.size w w':=by
 have hu37:=Try.underlying37
 have eg : ∀ args w,(callFunc 94 args).run Try.prog w = .ok (.enter 94 args) w:=enters_of Try.func94 (by kernel_rfl) rfl
 have HB:=a0_ (below1 w (.cells #[.slice A h.length c] 37))
 have BK:=a0_ (heap_new1 w (.cells #[.slice A h.length c] 37))
 have HW:=a0_ (fun (W : World) (hb : Below w.heap.size w W) (hB : W.heap[w.heap.size]? = some (.cells #[.slice A h.length c] 37 (0,0)))=>impl_walk.callsF h.length (ctxN h) 94 #[] #[.pointer (some ⟨w.heap.size,0,none⟩)] f W eg hf hn hc (fun x h0 h1 W' hW=>impl_Heap_contexts_1.callsF w.heap.size A c h x W' h0 h1 (blk_keptB hB hW) (Kd.C_below (Kd.C_below hr hb) hW)))
 unfold ctxL
 clear hr eg hc hf
 generalize walkL (ctxN h) h.length [] f = r at HW ⊢
 go_enter Try.func61,Try.ntmps61
 go_wp2_with (go_at_call 70;refine (HW.out _ HB.out BK.out).mono ?_;rintro e w2 ⟨v2,rfl,ho2,hb2⟩)
 go_ret
 exact ⟨_,rfl,Kd.R_lower ho2 (below_size HB.out),below_step HB.out hb2⟩
def ctxOkB (h : List Fau) : Bool:=(List.range h.length).all (fun i=>decide (ctxN h ((i : Nat) : Int) < (h.length : Int)))
def impl_Heap_contexts.f (l0_0 : List Fau) (a1 : Int) : Option (List Int):=if ctxOkB l0_0 = true ∧ (a1 < (l0_0.length : Int) ∧ l0_0.length ≤ 2097152) then some (ctxL l0_0 a1) else none
theorem ctxOkB_out {h : List Fau} (hb : ctxOkB h = true) (x : Int) (h0 : 0 ≤ x) (h1 : x < (h.length : Int)) : ctxN h x < (h.length : Int):=by
 have:=all_at hb x.toNat (by omega)
 rw [show ((x.toNat : Nat) : Int) = x by omega] at this
 exact of_decide_eq_true this
theorem ctxOkB_of {h : List Fau} (hb : ∀ x : Int,0 ≤ x → x < (h.length : Int) → ctxN h x < (h.length : Int)) : ctxOkB h = true:=all_of (fun i hi=>decide_eq_true (hb (i : Int) (by omega) (by omega)))
theorem impl_Heap_contexts.calls (A0_0 : Option Addr) (c0_0 : Nat) (l0_0 : List (S79)) (a1 : Int) (r : List Int) (w : World) (hr0_0 : Kd.C k79 w A0_0 l0_0.length l0_0) (hc0_0 : l0_0.length ≤ c0_0) (h : impl_Heap_contexts.f l0_0 a1 = some r) :
  Calls Try.prog 61 #[.agg #[.slice A0_0 l0_0.length c0_0],.int .i64 a1] w fun e w'=>∃ v0_ : Value,e = .returned (v0_) ∧ Kd.R (Kd.int .i64) 3 w' w.heap.size (fun _=>True) v0_ r ∧ Below w.heap.size w w':=by
 have hsm : ctxOkB l0_0 = true ∧ (a1 < (l0_0.length : Int) ∧ l0_0.length ≤ 2097152):=by
  apply Classical.byContradiction
  intro hn
  rw [impl_Heap_contexts.f,if_neg hn] at h
  cases h
 rw [impl_Heap_contexts.f,if_pos hsm] at h
 obtain rfl:=Option.some.inj h
 exact impl_Heap_contexts.callsF A0_0 c0_0 l0_0 a1 w hsm.2.1 hsm.2.2 (ctxOkB_out hsm.1) hr0_0
end Go.Proofs.Ytfhcfhffmblacaa.P
namespace Go.Proofs.Ytfhcfhffmblacaa.P
open Go.RowKit Go.Proofs.YtfhcfhffmblacaaW.PrintWords Go.Proofs.YtfhcfhffmblacaaW.PrintLast Go.Proofs.YtfhcfhffmblacaaW.PrintMore
attribute [local go_sem] max2_int min2_int max_two min_two max_three min_three max_four min_four
set_option linter.unusedVariables false
set_option linter.unusedSimpArgs false
def impl_ValidHeap.f (l0_0 : List Cls) (l1_0 : List Fau) : Option Bool:=if smT l0_0 = true ∧ l1_0.length ≤ 2097152 then some (vH l0_0 l1_0) else none
set_option maxHeartbeats 4000000 in
set_option maxRecDepth 100000 in
theorem impl_ValidHeap.calls (A0_0 : Option Addr) (c0_0 : Nat) (l0_0 : List (S106)) (A1_0 : Option Addr) (c1_0 : Nat) (l1_0 : List (S79)) (r : Bool) (w : World) (hr0_0 : Kd.C k106 w A0_0 l0_0.length l0_0) (hc0_0 : l0_0.length ≤ c0_0) (hr1_0 : Kd.C k79 w A1_0 l1_0.length l1_0) (hc1_0 : l1_0.length ≤ c1_0) (h : impl_ValidHeap.f l0_0 l1_0 = some r) :
  Calls Try.prog 19 #[.agg #[.slice A0_0 l0_0.length c0_0],.agg #[.slice A1_0 l1_0.length c1_0]] w fun e w'=>e = .returned (.bool r) ∧ Below w.heap.size w w':=by
 have hu31:=Try.underlying33
 have hu37:=Try.underlying37
 have hu79:=Try.underlying79
 have hsm : smT l0_0 = true ∧ l1_0.length ≤ 2097152:=by
  apply Classical.byContradiction
  intro hn
  rw [impl_ValidHeap.f,if_neg hn] at h
  cases h
 rw [impl_ValidHeap.f,if_pos hsm] at h
 have HR:=a0_ (Option.some.inj h)
 have hlm:=hsm.2
 have HV:=a0_ (fun (W : World) (hb : Below w.heap.size w W)=>impl_ValidTree.calls A0_0 c0_0 l0_0 (vT l0_0) W (Kd.C_below hr0_0 hb) hc0_0 (by rw [impl_ValidTree.f,if_pos hsm.1]))
 have HH:=a0_ (fun (a : Int) (W : World) (hb : Below w.heap.size w W)=>impl_Tree_has.calls A0_0 c0_0 l0_0 a (hasC l0_0 a) W (Kd.C_below hr0_0 hb) hc0_0 (impl_Tree_has_ev l0_0 a hr0_0.2.1))
 have HL:=a0_ (fun (f u : Int) (W : World) (hb : Below w.heap.size w W) (hB : W.heap[w.heap.size + 1]? = some (.cells #[.slice A1_0 l1_0.length c1_0] 37 (0,0)))=>impl_ValidHeap_1.callsF (w.heap.size + 1) A1_0 c1_0 l1_0 f u W hc1_0 hB (Kd.C_below hr1_0 hb))
 have HX:=a0_ (fun (hf : fsH l0_0 l1_0 = true) (f : Int) (h1 : f < (l1_0.length : Int)) (W : World) (hb : Below w.heap.size w W)=>impl_Heap_contexts.callsF A1_0 c1_0 l1_0 f W h1 hsm.2 (fun x h0 h1=>(fsH_ctx hf x h0 h1).2) (Kd.C_below hr1_0 hb))
 have eg : ∀ args w,(callFunc 57 args).run Try.prog w = .ok (.enter 57 args) w:=enters_of Try.func57 (by kernel_rfl) rfl
 have HRD:=a0_ hr1_0
 have HC1:=a0_ hc1_0
 clear h hsm hr0_0 hr1_0
 have BK1:=a0_ (heap_old2 w (.cells #[.slice A0_0 l0_0.length c0_0] 33) (.cells #[.slice A1_0 l1_0.length c1_0] 37))
 have BK2:=a0_ (heap_new2 w (.cells #[.slice A0_0 l0_0.length c0_0] 33) (.cells #[.slice A1_0 l1_0.length c1_0] 37))
 have HB:=a0_ (below2 w (.cells #[.slice A0_0 l0_0.length c0_0] 33) (.cells #[.slice A1_0 l1_0.length c1_0] 37))
 have hcell:=(blk_cell BK1.out 0).trans rfl
 have hcell2:=(blk_cell BK2.out 0).trans rfl
 go_enter Try.func19,Try.ntmps19
 go_wp2
 clear hcell hcell2
 go_loopg [14] l1_0.length (fun gg s14 wr=>∃ kk : Nat,kk ≤ l1_0.length ∧ l1_0.length - kk ≤ gg ∧ s14 = .int .i64 kk ∧ Aside0 (Below w.heap.size w wr) ∧ Aside0 (wr.heap[w.heap.size]? = some (.cells #[.slice A0_0 l0_0.length c0_0] 33 (0,0))) ∧ Aside0 (wr.heap[w.heap.size + 1]? = some (.cells #[.slice A1_0 l1_0.length c1_0] 37 (0,0))) ∧ Aside0 (∀ j,j < kk → okF l0_0 l1_0 j (l1_0.getD j z79) = true))
 case atStart=>exact ⟨0,Nat.zero_le _,by omega,rfl,HB,BK1,BK2,⟨fun j hj=>absurd hj (Nat.not_lt_zero _)⟩⟩
 case round =>
  clear HB BK1 BK2
  obtain ⟨kk,hkk,hg,rfl,HB,BK1,BK2,HA⟩:=hrel
  by_cases hlt : kk < l1_0.length
  ·have hltz : (kk : Int) < (l1_0.length : Int):=by omega
   obtain ⟨ad,ea,hx0,hx1,hx2,hx3,hx4⟩:=at_T79 HRD.out (kk : Int) (by omega) (by omega)
   cases ea
   have hrd : rd_T79 l1_0 (kk : Int) = l1_0.getD kk z79:=by simp [rd_T79]
   rw [hrd] at hx0 hx1 hx2 hx3 hx4
   rw [Int.toNat_natCast] at hx0 hx1 hx2 hx3 hx4
   replace hx0:=(HB.out.cell (World.block_lt_of_cell? w _ hx0)).trans hx0
   replace hx1:=(HB.out.cell (World.block_lt_of_cell? w _ hx1)).trans hx1
   replace hx2:=(HB.out.cell (World.block_lt_of_cell? w _ hx2)).trans hx2
   replace hx3:=(HB.out.cell (World.block_lt_of_cell? w _ hx3)).trans hx3
   replace hx4:=(HB.out.cell (World.block_lt_of_cell? w _ hx4)).trans hx4
   clear hrd
   have hdf : okF l0_0 l1_0 kk (l1_0.getD kk z79) = (hasC l0_0 (l1_0.getD kk z79).f0 && ((decide (0 ≤ (l1_0.getD kk z79).f1) && decide ((l1_0.getD kk z79).f1 ≤ 99)) && (lnkB l1_0 (kk : Int) (l1_0.getD kk z79).f2 && lnkB l1_0 (kk : Int) (l1_0.getD kk z79).f3))):=rfl
   have hrf : ∀ b,okF l0_0 l1_0 kk (l1_0.getD kk z79) = b → b = false → vH l0_0 l1_0 = false:=fun b e1 e2=>by unfold vH fsH;rw [all_false hlt (e1.trans e2)];rfl
   generalize hy : l1_0.getD kk z79 = y at hx0 hx1 hx2 hx3 hx4 hdf hrf
   have NB:=a0_ hy
   clear hy
   obtain ⟨y0,y1,y2,y3,y4⟩:=y
   go_upto_region 5 with (fail)
   have HB1:=a0_ (below_alloc HB.out (.cells #[.int .i64 y0,.int .i64 y1,.int .i64 y2,.int .i64 y3,.bool y4] 79))
   have BKA:=a0_ (blk_alloc BK1.out (.cells #[.int .i64 y0,.int .i64 y1,.int .i64 y2,.int .i64 y3,.bool y4] 79))
   have BKB:=a0_ (blk_alloc BK2.out (.cells #[.int .i64 y0,.int .i64 y1,.int .i64 y2,.int .i64 y3,.bool y4] 79))
   have BY:=a0_ (heap_new1 wr (.cells #[.int .i64 y0,.int .i64 y1,.int .i64 y2,.int .i64 y3,.bool y4] 79))
   clear HB BK1 BK2 hx0 hx1 hx2 hx3 hx4
   generalize wr.alloc (.cells #[.int .i64 y0,.int .i64 y1,.int .i64 y2,.int .i64 y3,.bool y4] 79) = W1 at HB1 BKA BKB BY ⊢
   generalize wr.heap.size = gb at BY ⊢
   have HB:=HB1
   have BK1:=BKA
   have BK2:=BKB
   clear HB1 BKA BKB
   have hcell:=(blk_cell BK1.out 0).trans rfl
   have hx0:=(blk_cell BY.out 0).trans rfl
   have hx1:=(blk_cell BY.out 1).trans rfl
   have hx2:=(blk_cell BY.out 2).trans rfl
   have hx3:=(blk_cell BY.out 3).trans rfl
   replace HH:=a0_ (fun (_ : Unit)=>HH.out y0)
   have HC:=a0_ (impl_codeOk_ev y1)
   have HL2:=a0_ (HL.out (kk : Int) y2)
   have HL3:=a0_ (HL.out (kk : Int) y3)
   simp only at hdf
   generalize hasC l0_0 y0 = q1 at HH hdf
   generalize (decide (0 ≤ y1) && decide (y1 ≤ 99)) = q2 at HC hdf
   generalize lnkB l1_0 (kk : Int) y2 = q3 at HL2 hdf
   generalize lnkB l1_0 (kk : Int) y3 = q4 at HL3 hdf
   cases q1 with
   | false =>
    have HRF:=a0_ (hrf _ hdf rfl)
    clear hdf hrf HV HX
    go_wp2_with (first | (go_at_call 59;(with_reducible refine (HH.out () _ HB.out).mono ?_);rintro e w' ⟨rfl,hb'⟩;replace BK1:=a0_ (blk_keptB BK1.out hb');replace BK2:=a0_ (blk_keptB BK2.out hb');replace BY:=a0_ (blk_keptB BY.out hb');replace HB:=a0_ (below_step HB.out hb');clear hb';have hx0:=(blk_cell BY.out 0).trans rfl;have hx1:=(blk_cell BY.out 1).trans rfl;have hx2:=(blk_cell BY.out 2).trans rfl;have hx3:=(blk_cell BY.out 3).trans rfl) | (go_at_call 60;(with_reducible refine (impl_codeOk.calls _ _ _ HC.out).mono ?_);rintro e w' ⟨rfl,hd'⟩;have hb':=hd'.below;replace BK1:=a0_ (blk_keptB BK1.out hb');replace BK2:=a0_ (blk_keptB BK2.out hb');replace BY:=a0_ (blk_keptB BY.out hb');replace HB:=a0_ (below_step HB.out hb');clear hb' hd';have hx0:=(blk_cell BY.out 0).trans rfl;have hx1:=(blk_cell BY.out 1).trans rfl;have hx2:=(blk_cell BY.out 2).trans rfl;have hx3:=(blk_cell BY.out 3).trans rfl) | (go_at_fn 57;(with_reducible refine (HL2.out _ HB.out BK2.out).mono ?_);rintro e w' ⟨rfl,hb'⟩;replace BK1:=a0_ (blk_keptB BK1.out hb');replace BK2:=a0_ (blk_keptB BK2.out hb');replace BY:=a0_ (blk_keptB BY.out hb');replace HB:=a0_ (below_step HB.out hb');clear hb';have hx0:=(blk_cell BY.out 0).trans rfl;have hx1:=(blk_cell BY.out 1).trans rfl;have hx2:=(blk_cell BY.out 2).trans rfl;have hx3:=(blk_cell BY.out 3).trans rfl) | (go_at_fn 57;(with_reducible refine (HL3.out _ HB.out BK2.out).mono ?_);rintro e w' ⟨rfl,hb'⟩;replace BK1:=a0_ (blk_keptB BK1.out hb');replace BK2:=a0_ (blk_keptB BK2.out hb');replace BY:=a0_ (blk_keptB BY.out hb');replace HB:=a0_ (below_step HB.out hb');clear hb';have hx0:=(blk_cell BY.out 0).trans rfl;have hx1:=(blk_cell BY.out 1).trans rfl;have hx2:=(blk_cell BY.out 2).trans rfl;have hx3:=(blk_cell BY.out 3).trans rfl))
    go_ret
    exact ⟨by rw [← HR.out,HRF.out];rfl,HB.out⟩
   | true =>
    cases q2 with
    | false =>
     have HRF:=a0_ (hrf _ hdf rfl)
     clear hdf hrf HV HX
     go_wp2_with (first | (go_at_call 59;(with_reducible refine (HH.out () _ HB.out).mono ?_);rintro e w' ⟨rfl,hb'⟩;replace BK1:=a0_ (blk_keptB BK1.out hb');replace BK2:=a0_ (blk_keptB BK2.out hb');replace BY:=a0_ (blk_keptB BY.out hb');replace HB:=a0_ (below_step HB.out hb');clear hb';have hx0:=(blk_cell BY.out 0).trans rfl;have hx1:=(blk_cell BY.out 1).trans rfl;have hx2:=(blk_cell BY.out 2).trans rfl;have hx3:=(blk_cell BY.out 3).trans rfl) | (go_at_call 60;(with_reducible refine (impl_codeOk.calls _ _ _ HC.out).mono ?_);rintro e w' ⟨rfl,hd'⟩;have hb':=hd'.below;replace BK1:=a0_ (blk_keptB BK1.out hb');replace BK2:=a0_ (blk_keptB BK2.out hb');replace BY:=a0_ (blk_keptB BY.out hb');replace HB:=a0_ (below_step HB.out hb');clear hb' hd';have hx0:=(blk_cell BY.out 0).trans rfl;have hx1:=(blk_cell BY.out 1).trans rfl;have hx2:=(blk_cell BY.out 2).trans rfl;have hx3:=(blk_cell BY.out 3).trans rfl) | (go_at_fn 57;(with_reducible refine (HL2.out _ HB.out BK2.out).mono ?_);rintro e w' ⟨rfl,hb'⟩;replace BK1:=a0_ (blk_keptB BK1.out hb');replace BK2:=a0_ (blk_keptB BK2.out hb');replace BY:=a0_ (blk_keptB BY.out hb');replace HB:=a0_ (below_step HB.out hb');clear hb';have hx0:=(blk_cell BY.out 0).trans rfl;have hx1:=(blk_cell BY.out 1).trans rfl;have hx2:=(blk_cell BY.out 2).trans rfl;have hx3:=(blk_cell BY.out 3).trans rfl) | (go_at_fn 57;(with_reducible refine (HL3.out _ HB.out BK2.out).mono ?_);rintro e w' ⟨rfl,hb'⟩;replace BK1:=a0_ (blk_keptB BK1.out hb');replace BK2:=a0_ (blk_keptB BK2.out hb');replace BY:=a0_ (blk_keptB BY.out hb');replace HB:=a0_ (below_step HB.out hb');clear hb';have hx0:=(blk_cell BY.out 0).trans rfl;have hx1:=(blk_cell BY.out 1).trans rfl;have hx2:=(blk_cell BY.out 2).trans rfl;have hx3:=(blk_cell BY.out 3).trans rfl))
     go_ret
     exact ⟨by rw [← HR.out,HRF.out];rfl,HB.out⟩
    | true =>
     cases q3 with
     | false =>
      have HRF:=a0_ (hrf _ hdf rfl)
      clear hdf hrf HV HX
      go_wp2_with (first | (go_at_call 59;(with_reducible refine (HH.out () _ HB.out).mono ?_);rintro e w' ⟨rfl,hb'⟩;replace BK1:=a0_ (blk_keptB BK1.out hb');replace BK2:=a0_ (blk_keptB BK2.out hb');replace BY:=a0_ (blk_keptB BY.out hb');replace HB:=a0_ (below_step HB.out hb');clear hb';have hx0:=(blk_cell BY.out 0).trans rfl;have hx1:=(blk_cell BY.out 1).trans rfl;have hx2:=(blk_cell BY.out 2).trans rfl;have hx3:=(blk_cell BY.out 3).trans rfl) | (go_at_call 60;(with_reducible refine (impl_codeOk.calls _ _ _ HC.out).mono ?_);rintro e w' ⟨rfl,hd'⟩;have hb':=hd'.below;replace BK1:=a0_ (blk_keptB BK1.out hb');replace BK2:=a0_ (blk_keptB BK2.out hb');replace BY:=a0_ (blk_keptB BY.out hb');replace HB:=a0_ (below_step HB.out hb');clear hb' hd';have hx0:=(blk_cell BY.out 0).trans rfl;have hx1:=(blk_cell BY.out 1).trans rfl;have hx2:=(blk_cell BY.out 2).trans rfl;have hx3:=(blk_cell BY.out 3).trans rfl) | (go_at_fn 57;(with_reducible refine (HL2.out _ HB.out BK2.out).mono ?_);rintro e w' ⟨rfl,hb'⟩;replace BK1:=a0_ (blk_keptB BK1.out hb');replace BK2:=a0_ (blk_keptB BK2.out hb');replace BY:=a0_ (blk_keptB BY.out hb');replace HB:=a0_ (below_step HB.out hb');clear hb';have hx0:=(blk_cell BY.out 0).trans rfl;have hx1:=(blk_cell BY.out 1).trans rfl;have hx2:=(blk_cell BY.out 2).trans rfl;have hx3:=(blk_cell BY.out 3).trans rfl) | (go_at_fn 57;(with_reducible refine (HL3.out _ HB.out BK2.out).mono ?_);rintro e w' ⟨rfl,hb'⟩;replace BK1:=a0_ (blk_keptB BK1.out hb');replace BK2:=a0_ (blk_keptB BK2.out hb');replace BY:=a0_ (blk_keptB BY.out hb');replace HB:=a0_ (below_step HB.out hb');clear hb';have hx0:=(blk_cell BY.out 0).trans rfl;have hx1:=(blk_cell BY.out 1).trans rfl;have hx2:=(blk_cell BY.out 2).trans rfl;have hx3:=(blk_cell BY.out 3).trans rfl))
      go_ret
      exact ⟨by rw [← HR.out,HRF.out];rfl,HB.out⟩
     | true =>
      cases q4 with
      | false =>
       have HRF:=a0_ (hrf _ hdf rfl)
       clear hdf hrf HV HX
       go_wp2_with (first | (go_at_call 59;(with_reducible refine (HH.out () _ HB.out).mono ?_);rintro e w' ⟨rfl,hb'⟩;replace BK1:=a0_ (blk_keptB BK1.out hb');replace BK2:=a0_ (blk_keptB BK2.out hb');replace BY:=a0_ (blk_keptB BY.out hb');replace HB:=a0_ (below_step HB.out hb');clear hb';have hx0:=(blk_cell BY.out 0).trans rfl;have hx1:=(blk_cell BY.out 1).trans rfl;have hx2:=(blk_cell BY.out 2).trans rfl;have hx3:=(blk_cell BY.out 3).trans rfl) | (go_at_call 60;(with_reducible refine (impl_codeOk.calls _ _ _ HC.out).mono ?_);rintro e w' ⟨rfl,hd'⟩;have hb':=hd'.below;replace BK1:=a0_ (blk_keptB BK1.out hb');replace BK2:=a0_ (blk_keptB BK2.out hb');replace BY:=a0_ (blk_keptB BY.out hb');replace HB:=a0_ (below_step HB.out hb');clear hb' hd';have hx0:=(blk_cell BY.out 0).trans rfl;have hx1:=(blk_cell BY.out 1).trans rfl;have hx2:=(blk_cell BY.out 2).trans rfl;have hx3:=(blk_cell BY.out 3).trans rfl) | (go_at_fn 57;(with_reducible refine (HL2.out _ HB.out BK2.out).mono ?_);rintro e w' ⟨rfl,hb'⟩;replace BK1:=a0_ (blk_keptB BK1.out hb');replace BK2:=a0_ (blk_keptB BK2.out hb');replace BY:=a0_ (blk_keptB BY.out hb');replace HB:=a0_ (below_step HB.out hb');clear hb';have hx0:=(blk_cell BY.out 0).trans rfl;have hx1:=(blk_cell BY.out 1).trans rfl;have hx2:=(blk_cell BY.out 2).trans rfl;have hx3:=(blk_cell BY.out 3).trans rfl) | (go_at_fn 57;(with_reducible refine (HL3.out _ HB.out BK2.out).mono ?_);rintro e w' ⟨rfl,hb'⟩;replace BK1:=a0_ (blk_keptB BK1.out hb');replace BK2:=a0_ (blk_keptB BK2.out hb');replace BY:=a0_ (blk_keptB BY.out hb');replace HB:=a0_ (below_step HB.out hb');clear hb';have hx0:=(blk_cell BY.out 0).trans rfl;have hx1:=(blk_cell BY.out 1).trans rfl;have hx2:=(blk_cell BY.out 2).trans rfl;have hx3:=(blk_cell BY.out 3).trans rfl))
       go_ret
       exact ⟨by rw [← HR.out,HRF.out];rfl,HB.out⟩
      | true =>
       have HDF:=a0_ hdf
       clear hdf hrf HV HX
       go_wp2_with (first | (go_at_call 59;(with_reducible refine (HH.out () _ HB.out).mono ?_);rintro e w' ⟨rfl,hb'⟩;replace BK1:=a0_ (blk_keptB BK1.out hb');replace BK2:=a0_ (blk_keptB BK2.out hb');replace BY:=a0_ (blk_keptB BY.out hb');replace HB:=a0_ (below_step HB.out hb');clear hb';have hx0:=(blk_cell BY.out 0).trans rfl;have hx1:=(blk_cell BY.out 1).trans rfl;have hx2:=(blk_cell BY.out 2).trans rfl;have hx3:=(blk_cell BY.out 3).trans rfl) | (go_at_call 60;(with_reducible refine (impl_codeOk.calls _ _ _ HC.out).mono ?_);rintro e w' ⟨rfl,hd'⟩;have hb':=hd'.below;replace BK1:=a0_ (blk_keptB BK1.out hb');replace BK2:=a0_ (blk_keptB BK2.out hb');replace BY:=a0_ (blk_keptB BY.out hb');replace HB:=a0_ (below_step HB.out hb');clear hb' hd';have hx0:=(blk_cell BY.out 0).trans rfl;have hx1:=(blk_cell BY.out 1).trans rfl;have hx2:=(blk_cell BY.out 2).trans rfl;have hx3:=(blk_cell BY.out 3).trans rfl) | (go_at_fn 57;(with_reducible refine (HL2.out _ HB.out BK2.out).mono ?_);rintro e w' ⟨rfl,hb'⟩;replace BK1:=a0_ (blk_keptB BK1.out hb');replace BK2:=a0_ (blk_keptB BK2.out hb');replace BY:=a0_ (blk_keptB BY.out hb');replace HB:=a0_ (below_step HB.out hb');clear hb';have hx0:=(blk_cell BY.out 0).trans rfl;have hx1:=(blk_cell BY.out 1).trans rfl;have hx2:=(blk_cell BY.out 2).trans rfl;have hx3:=(blk_cell BY.out 3).trans rfl) | (go_at_fn 57;(with_reducible refine (HL3.out _ HB.out BK2.out).mono ?_);rintro e w' ⟨rfl,hb'⟩;replace BK1:=a0_ (blk_keptB BK1.out hb');replace BK2:=a0_ (blk_keptB BK2.out hb');replace BY:=a0_ (blk_keptB BY.out hb');replace HB:=a0_ (below_step HB.out hb');clear hb';have hx0:=(blk_cell BY.out 0).trans rfl;have hx1:=(blk_cell BY.out 1).trans rfl;have hx2:=(blk_cell BY.out 2).trans rfl;have hx3:=(blk_cell BY.out 3).trans rfl))
       go_roundg (l1_0.length - (kk + 1))
       case measure=>omega
       case rel =>
        refine ⟨kk + 1,by omega,by omega,by go_num,HB,BK1,BK2,⟨fun j hj=>?_⟩⟩
        by_cases e : j = kk
        ·subst e;rw [NB.out];exact HDF.out
        ·exact HA.out j (by omega)
  ·have hltz : ¬ (kk : Int) < (l1_0.length : Int):=by omega
   have : kk = l1_0.length:=by omega
   subst this
   have hfs : fsH l0_0 l1_0 = true:=all_of HA.out
   replace HX:=a0_ (HX.out hfs)
   have HCT:=a0_ (fsH_ctx hfs)
   have hrr : r = (esH l1_0 && (vT l0_0 && decide (l1_0.length ≤ 24))):=by rw [← HR.out];unfold vH;rw [hfs,Bool.true_and]
   have HRR:=a0_ hrr
   have hcell:=(blk_cell BK1.out 0).trans rfl
   have hcell2:=(blk_cell BK2.out 0).trans rfl
   clear HA HR hfs hrr HH HL
   go_wp2
   clear hcell hcell2
   go_loopg [50] l1_0.length (fun gg s50 wr=>∃ kk : Nat,kk ≤ l1_0.length ∧ l1_0.length - kk ≤ gg ∧ s50 = .int .i64 kk ∧ Aside0 (Below w.heap.size w wr) ∧ Aside0 (wr.heap[w.heap.size]? = some (.cells #[.slice A0_0 l0_0.length c0_0] 33 (0,0))) ∧ Aside0 (wr.heap[w.heap.size + 1]? = some (.cells #[.slice A1_0 l1_0.length c1_0] 37 (0,0))) ∧ Aside0 (∀ j,j < kk → endB l1_0 j = true))
   case atStart=>exact ⟨0,Nat.zero_le _,by omega,rfl,HB,BK1,BK2,⟨fun j hj=>absurd hj (Nat.not_lt_zero _)⟩⟩
   case round =>
    clear HB BK1 BK2 hltz
    obtain ⟨kk,hkk,hg,rfl,HB,BK1,BK2,HA⟩:=hrel
    have hcell:=(blk_cell BK1.out 0).trans rfl
    have hcell2:=(blk_cell BK2.out 0).trans rfl
    by_cases hlt : kk < l1_0.length
    ·have hltz : (kk : Int) < (l1_0.length : Int):=by omega
     have hX:=HX.out (kk : Int) hltz
     have hpos:=ctxL_pos l1_0 (kk : Int) (by omega) hltz
     have hlen:=ctxL_len l1_0 (kk : Int)
     have hmem:=ctxL_mem (fun x h0 h1=>(HCT.out x h0 h1).2) (kk : Int) hltz
     have hlast:=hmem _ (lastI_mem hpos)
     have hdf : endB l1_0 kk = decide (ctxN l1_0 (lastI (ctxL l1_0 (kk : Int))) < 0):=rfl
     have hlo:=HCT.out _ hlast.1 hlast.2
     have hrdl : rd (ctxL l1_0 (kk : Int)) (((ctxL l1_0 (kk : Int)).length : Int) - 1) = lastI (ctxL l1_0 (kk : Int)):=by
      unfold lastI
      rw [show (((ctxL l1_0 (kk : Int)).length : Int) - 1) = (((ctxL l1_0 (kk : Int)).length - 1 : Nat) : Int) by omega]
      exact rd_nat _ _ (by omega)
     generalize hL : ctxL l1_0 (kk : Int) = L at hX hpos hlen hlast hdf hlo hrdl
     generalize hz : lastI L = la at hlast hdf hlo hrdl
     obtain ⟨ad,ea,hx0,hx1,hx2,hx3,hx4⟩:=at_T79 HRD.out la hlast.1 hlast.2
     cases ea
     have hrd : (rd_T79 l1_0 la).f3 = ctxN l1_0 la:=by simp [rd_T79,ctxN]
     rw [hrd] at hx3
     have HX3:=a0_ hx3
     have HXX:=a0_ hX
     generalize ctxN l1_0 la = cx at HX3 hdf hlo
     clear hx0 hx1 hx2 hx3 hx4 hrd hmem hL hz hX
     obtain ⟨ix,hix⟩ : ∃ ix,ix = (L.length : Int) - 1:=⟨_,rfl⟩
     have hw1 : wrap64 ((L.length : Int) - 1) = ix:=(wrap_in (by omega) (by omega)).trans hix.symm
     have hw2 : IntKind.i64.wrap ((L.length : Int) - 1) = ix:=(i64_w _).trans hw1
     rw [← hix] at hrdl
     have HRL:=a0_ hrdl
     have hl0:=eq_true hlast.1
     have hl1:=eq_true hlast.2
     have hl2 : 0 ≤ ix:=by omega
     have hl3 : ix < (L.length : Int):=by omega
     clear hix
     have HLO:=a0_ hlo
     have HDF:=a0_ hdf
     clear hrdl hlast hlo hdf
     go_upto_region 12 with (go_at_call 61;refine (HXX.out _ HB.out).mono ?_;rintro e w2 ⟨v9,rfl,ho9,hb9⟩;replace BK1:=a0_ (blk_keptB BK1.out hb9);replace BK2:=a0_ (blk_keptB BK2.out hb9);replace HB:=a0_ (below_step HB.out hb9);obtain ⟨Ao,co,eo⟩:=Kd.R_slice ho9;subst eo;have HO9:=a0_ ho9;clear ho9 hb9)
     obtain ⟨ae,eae,hy0⟩:=Kd.at_int (Kd.R_reads' HO9.out).2.2 ix hl2 hl3
     cases eae
     rw [HRL.out] at hy0
     have hx3:=(HB.out.cell (World.block_lt_of_cell? w _ HX3.out)).trans HX3.out
     have hcell2:=(blk_cell BK2.out 0).trans rfl
     cases hq : (cx != -1) with
     | true =>
      have HRF:=a0_ (show r = false by
       have hc : cx ≠ -1:=bne_iff_ne.1 hq
       have hd:=HDF.out
       rw [decide_eq_false (show ¬ cx < 0 by have:=HLO.out;omega)] at hd
       rw [HRR.out];unfold esH;rw [all_false hlt hd];rfl)
      clear hlt
      go_quiet (fail)
      go_wp2
      go_ret
      exact ⟨by rw [HRF.out];rfl,pw_below_drewN HB.out _⟩
     | false =>
      have HDT:=a0_ (show endB l1_0 kk = true by
       have hc : cx = -1:=bne_eq_false_iff_eq.1 hq
       rw [HDF.out]
       exact decide_eq_true (by omega))
      go_quiet (fail)
      go_wp2
      go_roundg (l1_0.length - (kk + 1))
      case measure=>omega
      case rel =>
       refine ⟨kk + 1,by omega,by omega,by go_num,⟨pw_below_drewN HB.out _⟩,⟨blk_drewN BK1.out _⟩,⟨blk_drewN BK2.out _⟩,⟨fun j hj=>?_⟩⟩
       by_cases e : j = kk
       ·subst e;exact HDT.out
       ·exact HA.out j (by omega)
    ·have hltz : ¬ (kk : Int) < (l1_0.length : Int):=by omega
     have : kk = l1_0.length:=by omega
     subst this
     have hes : esH l1_0 = true:=all_of HA.out
     have hrr:=HRR.out
     rw [hes,Bool.true_and] at hrr
     have hd24 : decide (l1_0.length ≤ 24) = decide ((l1_0.length : Int) ≤ 24):=decide_eq_decide.2 (by omega)
     rw [hd24] at hrr
     clear HA hes HX HCT HRR hd24
     cases hv : vT l0_0 with
     | false =>
      rw [hv] at HV hrr
      clear hv
      go_wp2_with (go_at_call 62;refine (HV.out _ HB.out).mono ?_;rintro e w1 ⟨rfl,hb1⟩;replace HB:=a0_ (below_step HB.out hb1);replace BK2:=a0_ (blk_keptB BK2.out hb1);clear hb1;have hcell2:=(blk_cell BK2.out 0).trans rfl)
      go_ret
      exact ⟨by rw [hrr];rfl,HB.out⟩
     | true =>
      rw [hv,Bool.true_and] at hrr
      rw [hv] at HV
      have HRR:=a0_ hrr
      clear hv hrr
      go_wp2_with (go_at_call 62;refine (HV.out _ HB.out).mono ?_;rintro e w1 ⟨rfl,hb1⟩;replace HB:=a0_ (below_step HB.out hb1);replace BK2:=a0_ (blk_keptB BK2.out hb1);clear hb1;have hcell2:=(blk_cell BK2.out 0).trans rfl)
      go_ret
      exact ⟨by rw [HRR.out];rfl,HB.out⟩
theorem impl_ValidHeap_ev (t : List Cls) (h : List Fau) (hs : smT t = true) (hl : h.length ≤ 2097152) : impl_ValidHeap.f t h = some (vH t h):=by rw [impl_ValidHeap.f,if_pos ⟨hs,hl⟩]
end Go.Proofs.Ytfhcfhffmblacaa.P
namespace Go.Proofs.Ytfhcfhffmblacaa.P
open Go.RowKit Go.Proofs.YtfhcfhffmblacaaW.PrintWords Go.Proofs.YtfhcfhffmblacaaW.PrintLast Go.Proofs.YtfhcfhffmblacaaW.PrintMore
attribute [local go_sem] max2_int min2_int max_two min_two max_three min_three max_four min_four
set_option linter.unusedVariables false
set_option linter.unusedSimpArgs false
set_option maxHeartbeats 2000000 in
theorem slices_IndexFunc_int.callsF (A : Option Addr) (c : Nat) (l : List Int) (g : Nat) (lb : Array Value) (p : Int → Bool) (w : World) (eg : ∀ args w,(callFunc g args).run Try.prog w = .ok (.enter g args) w)
  (hr : Kd.C (Kd.int .i64) w A l.length l) (hc : l.length ≤ c) (hp : ∀ x,x ∈ l → ∀ W,Below w.heap.size w W → Calls Try.prog g (#[.int .i64 x] ++ lb) W fun e w'=>e = .returned (.bool (p x)) ∧ Below W.heap.size W w') :
  Calls Try.prog 109 #[.slice A l.length c,.func (.func g) #[] lb] w fun e w'=>e = .returned (.int .i64 (idxP p l)) ∧ Below w.heap.size w w':=by
 have HR:=a0_ hr
 have HP:=a0_ hp
 have hmax : l.length ≤ 9223372036854775807:=hr.2.1
 clear hr hp hc
 go_enter Try.func109,Try.ntmps109
 go_wp2
 go_loopg [5,8] l.length (fun gg _ s8 wr=>∃ kk : Nat,kk ≤ l.length ∧ l.length - kk ≤ gg ∧ s8 = .int .i64 kk ∧ Aside0 (Below w.heap.size w wr) ∧ Aside0 (∀ j (hj : j < l.length),j < kk → p l[j] = false))
 case atStart=>exact ⟨0,Nat.zero_le _,by omega,rfl,⟨Below.refl _ w⟩,⟨fun j _ hj=>absurd hj (Nat.not_lt_zero _)⟩⟩
 case round =>
  obtain ⟨kk,hkk,hg,rfl,BW,HA⟩:=hrel
  by_cases hlt : kk < l.length
  ·have hltz : (kk : Int) < (l.length : Int):=by omega
   obtain ⟨ad,ea,hx0⟩:=Kd.at_int HR.out (kk : Int) (by omega) (by omega)
   cases ea
   have hrd : rd l (kk : Int) = l[kk]:=by simp [rd,hlt]
   rw [hrd] at hx0
   rw [Int.toNat_natCast] at hx0
   replace hx0:=(BW.out.cell (World.block_lt_of_cell? w _ hx0)).trans hx0
   have hcall:=HP.out l[kk] (List.getElem_mem hlt) wr BW.out
   clear hrd
   generalize hy : l[kk] = y at hx0 hcall
   have B:=a0_ hy
   clear hy
   cases hq : p y with
   | true =>
    rw [hq] at hcall
    go_wp2_with (go_at_fn g;refine hcall.mono ?_;rintro e w' ⟨rfl,hb'⟩)
    go_ret
    refine ⟨?_,below_step BW.out hb'⟩
    rw [idxP_hit p l kk hlt (by rw [B.out];exact hq) HA.out];rfl
   | false =>
    rw [hq] at hcall
    go_wp2_with (go_at_fn g;refine hcall.mono ?_;rintro e w' ⟨rfl,hb'⟩)
    go_roundg (l.length - (kk + 1))
    case measure=>omega
    case rel =>
     refine ⟨kk + 1,by omega,by omega,by go_num,⟨below_step BW.out hb'⟩,⟨fun j hj hjk=>?_⟩⟩
     by_cases e : j = kk
     ·subst e
      rw [B.out];exact hq
     ·exact HA.out j hj (by omega)
  ·have hltz : ¬ (kk : Int) < (l.length : Int):=by omega
   have : kk = l.length:=by omega
   subst this
   go_wp2
   go_ret
   refine ⟨?_,BW.out⟩
   rw [idxP_miss p l (fun j hj=>HA.out j hj hj)];rfl
end Go.Proofs.Ytfhcfhffmblacaa.P
namespace Go.Proofs.Ytfhcfhffmblacaa.P
open Go.RowKit Go.Proofs.YtfhcfhffmblacaaW.PrintWords Go.Proofs.YtfhcfhffmblacaaW.PrintLast Go.Proofs.YtfhcfhffmblacaaW.PrintMore
attribute [local go_sem] max2_int min2_int max_two min_two max_three min_three max_four min_four
set_option linter.unusedVariables false
set_option linter.unusedSimpArgs false
set_option maxHeartbeats 2000000 in
theorem slices_ContainsFunc_int.callsF (A : Option Addr) (c : Nat) (l : List Int) (g : Nat) (lb : Array Value) (p : Int → Bool) (w : World) (eg : ∀ args w,(callFunc g args).run Try.prog w = .ok (.enter g args) w)
  (hr : Kd.C (Kd.int .i64) w A l.length l) (hc : l.length ≤ c) (hp : ∀ x,x ∈ l → ∀ W,Below w.heap.size w W → Calls Try.prog g (#[.int .i64 x] ++ lb) W fun e w'=>e = .returned (.bool (p x)) ∧ Below W.heap.size W w') :
  Calls Try.prog 99 #[.slice A l.length c,.func (.func g) #[] lb] w fun e w'=>e = .returned (.bool (l.any p)) ∧ Below w.heap.size w w':=by
 have hcon:=slices_IndexFunc_int.callsF A c l g lb p w eg hr hc hp
 rw [← idxP_nonneg]
 clear eg hr hc hp
 generalize idxP p l = r at hcon ⊢
 go_enter Try.func99,Try.ntmps99
 go_wp2_with (go_at_call 109;refine hcon.mono ?_;rintro e w' ⟨rfl,hb'⟩)
 go_ret
 exact ⟨rfl,hb'⟩
end Go.Proofs.Ytfhcfhffmblacaa.P
namespace Go.Proofs.Ytfhcfhffmblacaa.P
open Go.RowKit Go.Proofs.YtfhcfhffmblacaaW.PrintWords Go.Proofs.YtfhcfhffmblacaaW.PrintLast Go.Proofs.YtfhcfhffmblacaaW.PrintMore
attribute [local go_sem] max2_int min2_int max_two min_two max_three min_three max_four min_four
set_option linter.unusedVariables false
set_option linter.unusedSimpArgs false
theorem impl_faultsIn_1.callsF (B : Nat) (A : Option Addr) (c : Nat) (h : List Fau) (f : Int) (w : World) (hc : h.length ≤ c) (hB : w.heap[B]? = some (.cells #[.slice A h.length c] 37 (0,0))) (hr : Kd.C k79 w A h.length h) :
  Calls Try.prog 100 #[.int .i64 f,.pointer (some ⟨B,0,none⟩)] w fun e w'=>e = .returned (.bool (!hasF h f)) ∧ Below w.heap.size w w':=by
 have hu37:=Try.underlying37
 have hcell : w.cell? ⟨B,0,none⟩ = some (.slice A h.length c):=(blk_cell hB 0).trans rfl
 have hcon:=impl_Heap_has.calls A c h f (hasF h f) w hr hc (impl_Heap_has_ev h f hr.2.1)
 clear hB hr
 generalize hasF h f = q at hcon ⊢
 go_enter Try.func100,Try.ntmps100
 go_wp2_with (go_at_call 58;refine hcon.mono ?_;rintro e w' ⟨rfl,hb'⟩)
 go_ret
 exact ⟨rfl,hb'⟩
end Go.Proofs.Ytfhcfhffmblacaa.P
namespace Go.Proofs.Ytfhcfhffmblacaa.P
open Go.RowKit Go.Proofs.YtfhcfhffmblacaaW.PrintWords Go.Proofs.YtfhcfhffmblacaaW.PrintLast Go.Proofs.YtfhcfhffmblacaaW.PrintMore
attribute [local go_sem] max2_int min2_int max_two min_two max_three min_three max_four min_four
set_option linter.unusedVariables false
set_option linter.unusedSimpArgs false
def impl_faultsIn.f (l0_0 : List Cls) (l1_0 : List Fau) (l2 : List Int) : Option Bool:=if smT l0_0 = true ∧ l1_0.length ≤ 2097152 then some (vH l0_0 l1_0 && !(l2.any (fun f=>!hasF l1_0 f))) else none
set_option maxHeartbeats 2000000 in
set_option maxRecDepth 100000 in
theorem impl_faultsIn.calls (A0_0 : Option Addr) (c0_0 : Nat) (l0_0 : List (S106)) (A1_0 : Option Addr) (c1_0 : Nat) (l1_0 : List (S79)) (A2 : Option Addr) (c2 : Nat) (l2 : List Int) (r : Bool) (w : World) (hr0_0 : Kd.C k106 w A0_0 l0_0.length l0_0) (hc0_0 : l0_0.length ≤ c0_0) (hr1_0 : Kd.C k79 w A1_0 l1_0.length l1_0) (hc1_0 : l1_0.length ≤ c1_0) (hr2 : Kd.C (Kd.int .i64) w A2 l2.length l2) (hc2 : l2.length ≤ c2) (h : impl_faultsIn.f l0_0 l1_0 l2 = some r) :
  Calls Try.prog 67 #[.agg #[.slice A0_0 l0_0.length c0_0],.agg #[.slice A1_0 l1_0.length c1_0],.slice A2 l2.length c2] w fun e w'=>e = .returned (.bool r) ∧ Below w.heap.size w w':=by
 have hu33:=Try.underlying33
 have hu37:=Try.underlying37
 have hsm : smT l0_0 = true ∧ l1_0.length ≤ 2097152:=by
  apply Classical.byContradiction
  intro hn
  rw [impl_faultsIn.f,if_neg hn] at h
  cases h
 rw [impl_faultsIn.f,if_pos hsm] at h
 obtain rfl:=Option.some.inj h
 clear h
 have HV:=a0_ (fun (W : World) (hb : Below w.heap.size w W)=>impl_ValidHeap.calls A0_0 c0_0 l0_0 A1_0 c1_0 l1_0 (vH l0_0 l1_0) W (Kd.C_below hr0_0 hb) hc0_0 (Kd.C_below hr1_0 hb) hc1_0 (by rw [impl_ValidHeap.f,if_pos hsm]))
 have eg : ∀ args w,(callFunc 100 args).run Try.prog w = .ok (.enter 100 args) w:=enters_of Try.func100 (by kernel_rfl) rfl
 have HC:=a0_ (fun (W : World) (hb : Below w.heap.size w W) (hB : W.heap[w.heap.size + 1]? = some (.cells #[.slice A1_0 l1_0.length c1_0] 37 (0,0)))=>slices_ContainsFunc_int.callsF A2 c2 l2 100 #[.pointer (some ⟨w.heap.size + 1,0,none⟩)] (fun f=>!hasF l1_0 f) W eg (Kd.C_below hr2 hb) hc2 (fun x _ W' hW=>impl_faultsIn_1.callsF (w.heap.size + 1) A1_0 c1_0 l1_0 x W' hc1_0 (blk_keptB hB hW) (Kd.C_below (Kd.C_below hr1_0 hb) hW)))
 have BK1:=a0_ (heap_old2 w (.cells #[.slice A0_0 l0_0.length c0_0] 33) (.cells #[.slice A1_0 l1_0.length c1_0] 37))
 have BK2:=a0_ (heap_new2 w (.cells #[.slice A0_0 l0_0.length c0_0] 33) (.cells #[.slice A1_0 l1_0.length c1_0] 37))
 have HB:=a0_ (below2 w (.cells #[.slice A0_0 l0_0.length c0_0] 33) (.cells #[.slice A1_0 l1_0.length c1_0] 37))
 have hcell:=(blk_cell BK1.out 0).trans rfl
 have hcell2:=(blk_cell BK2.out 0).trans rfl
 clear hr0_0 hr1_0 hr2 hsm eg
 generalize (l2.any fun f=>!hasF l1_0 f) = q at HC ⊢
 cases hv : vH l0_0 l1_0 with
 | false =>
  rw [hv] at HV
  clear HC hv
  go_enter Try.func67,Try.ntmps67
  go_wp2_with (go_at_call 19;refine (HV.out _ HB.out).mono ?_;rintro e w' ⟨rfl,hb'⟩)
  go_ret
  exact ⟨rfl,below_step HB.out hb'⟩
 | true =>
  rw [hv] at HV
  clear hv
  go_enter Try.func67,Try.ntmps67
  go_wp2_with (first
   | (go_at_call 19;refine (HV.out _ HB.out).mono ?_;rintro e w' ⟨rfl,hb'⟩;replace HB:=a0_ (below_step HB.out hb');replace BK2:=a0_ (blk_keptB BK2.out hb');clear hb')
   | (go_at_call 99;refine (HC.out _ HB.out BK2.out).mono ?_;rintro e w2 ⟨rfl,hb2⟩))
  go_ret
  exact ⟨by simp,below_step HB.out hb2⟩
theorem impl_faultsIn_ev (t : List Cls) (h : List Fau) (f : Int) (hs : smT t = true) (hl : h.length ≤ 2097152) : impl_faultsIn.f t h [f] = some (vH t h && hasF h f):=by
 rw [impl_faultsIn.f,if_pos ⟨hs,hl⟩]
 simp
theorem hasF_in {h : List Fau} {f : Int} (hb : hasF h f = true) : 0 ≤ f ∧ f < (h.length : Int):=by
 unfold hasF at hb
 simp only [Bool.and_eq_true,decide_eq_true_eq] at hb
 omega
end Go.Proofs.Ytfhcfhffmblacaa.P
namespace Go.Proofs.Ytfhcfhffmblacaa.P
open Go.RowKit Go.Proofs.YtfhcfhffmblacaaW.PrintWords Go.Proofs.YtfhcfhffmblacaaW.PrintLast Go.Proofs.YtfhcfhffmblacaaW.PrintMore
attribute [local go_sem] max2_int min2_int max_two min_two max_three min_three max_four min_four
set_option linter.unusedVariables false
set_option linter.unusedSimpArgs false
def impl_StartOf.f (l0_0 : List (S106)) (l1_0 : List Int) (a1_1 : Int) (a1_2 : Int) (l1_3 : List (S79)) : Option (Bool × Int × Int × Bool):=(impl_ValidTree.f l0_0).bind fun t4=>(if t4 = true then (if a1_1 = 0 then (some (false,0,0,true)) else (if a1_1 = 2 then ((impl_faultsIn.f l0_0 l1_3 (([a1_2] : List Int))).bind fun t8=>(if t8 = true then (if 0 ≤ a1_2 then (if a1_2 < (l1_3.length : Int) then (some (true,(rd_T79 l1_3 a1_2).f0,(rd_T79 l1_3 a1_2).f1,true)) else (none)) else (none)) else (some (false,0,0,false)))) else (some (false,0,0,false)))) else (some (false,0,0,false)))
set_option maxHeartbeats 8000000 in
set_option maxRecDepth 100000 in
theorem impl_StartOf.calls (A0_0 : Option Addr) (c0_0 : Nat) (l0_0 : List (S106)) (A1_0 : Option Addr) (c1_0 : Nat) (l1_0 : List Int) (a1_1 : Int) (a1_2 : Int) (A1_3 : Option Addr) (c1_3 : Nat) (l1_3 : List (S79)) (r1 : Bool) (r2 : Int) (r3 : Int) (r4 : Bool) (w : World) (hr0_0 : Kd.C k106 w A0_0 l0_0.length l0_0) (hc0_0 : l0_0.length ≤ c0_0) (hr1_0 : Kd.C (Kd.int .i64) w A1_0 l1_0.length l1_0) (hc1_0 : l1_0.length ≤ c1_0) (hr1_3 : Kd.C k79 w A1_3 l1_3.length l1_3) (hc1_3 : l1_3.length ≤ c1_3) (h : impl_StartOf.f l0_0 l1_0 a1_1 a1_2 l1_3 = some (r1,r2,r3,r4)) :
  Calls Try.prog 49 #[.agg #[.slice A0_0 l0_0.length c0_0],.agg #[.slice A1_0 l1_0.length c1_0,.int .i64 a1_1,.int .i64 a1_2,.slice A1_3 l1_3.length c1_3]] w fun e w'=>e = .returned (.tuple #[.agg #[.bool r1,.int .i64 r2,.int .i64 r3],.bool r4]) ∧ Below w.heap.size w w':=by
 have hu33:=Try.underlying33
 have hu67:=Try.underlying67
 have hu63:=Try.underlying63
 have hu37:=Try.underlying37
 have hu79:=Try.underlying79
 have HR0_0:=a0_ hr0_0
 have HC0_0:=a0_ hc0_0
 clear hr0_0 hc0_0
 have HR1_0:=a0_ hr1_0
 have HC1_0:=a0_ hc1_0
 clear hr1_0 hc1_0
 have HR1_3:=a0_ hr1_3
 have HC1_3:=a0_ hc1_3
 clear hr1_3 hc1_3
 have HB:=a0_ (Below.refl w.heap.size w)
 have H : ((impl_ValidTree.f l0_0).bind fun t4=>(if t4 = true then (if a1_1 = 0 then (some (false,0,0,true)) else (if a1_1 = 2 then ((impl_faultsIn.f l0_0 l1_3 (([a1_2] : List Int))).bind fun t8=>(if t8 = true then (if 0 ≤ a1_2 then (if a1_2 < (l1_3.length : Int) then (some (true,(rd_T79 l1_3 a1_2).f0,(rd_T79 l1_3 a1_2).f1,true)) else (none)) else (none)) else (some (false,0,0,false)))) else (some (false,0,0,false)))) else (some (false,0,0,false)))) = some (r1,r2,r3,r4):=h
 clear h
 replace H:=Option.bind_eq_some_iff.mp H
 obtain ⟨t4,A30,H⟩:=H
 replace H : (if t4 = true then (if a1_1 = 0 then (some (false,0,0,true)) else (if a1_1 = 2 then ((impl_faultsIn.f l0_0 l1_3 (([a1_2] : List Int))).bind fun t8=>(if t8 = true then (if 0 ≤ a1_2 then (if a1_2 < (l1_3.length : Int) then (some (true,(rd_T79 l1_3 a1_2).f0,(rd_T79 l1_3 a1_2).f1,true)) else (none)) else (none)) else (some (false,0,0,false)))) else (some (false,0,0,false)))) else (some (false,0,0,false))) = some (r1,r2,r3,r4):=H
 have A3:=a0_ A30
 clear A30
 by_cases c4 : t4 = true
 ·subst c4
  have H1 : (if a1_1 = 0 then (some (false,0,0,true)) else (if a1_1 = 2 then ((impl_faultsIn.f l0_0 l1_3 (([a1_2] : List Int))).bind fun t8=>(if t8 = true then (if 0 ≤ a1_2 then (if a1_2 < (l1_3.length : Int) then (some (true,(rd_T79 l1_3 a1_2).f0,(rd_T79 l1_3 a1_2).f1,true)) else (none)) else (none)) else (some (false,0,0,false)))) else (some (false,0,0,false)))) = some (r1,r2,r3,r4):=by rw [if_pos rfl] at H;exact H
  clear H
  have H:=H1
  clear H1
  by_cases c5 : a1_1 = 0
  ·rw [if_pos c5] at H
   have c5b0 : (a1_1 == 0) = true:=beq_iff_eq.mpr c5
   have c5b1 : (a1_1 != 0) = false:=bne_eq_false_iff_eq.mpr c5
   clear c5
   simp only [Option.some.injEq,Prod.mk.injEq] at H
   obtain ⟨rfl,rfl,rfl,rfl⟩:=H
   go_enter Try.func49,Try.ntmps49
   go_wp2_with (first | ((with_reducible refine gate_dst (N:=2) rfl ?_);(try (refine gate_guard (by rfl) ?_;dsimp only));refine box_event ?hg (N:=2) ?hd (cs:=#[.slice A0_0 l0_0.length c0_0]) (t:=33) ?hr ?_;(case hd=>rfl);(case hg=>rfl);(case hr=>first | (go_simp;done) | (go_simp;rfl));intro gb1 hg w6 hbox hb;have BK1:=a0_ (hbox);have GW1:=a0_ ((by rw [hg];exact (below_size hb_) : w.heap.size ≤ gb1));have GE1:=a0_ ((by rw [hg];exact (below_size hb_) : w.heap.size ≤ gb1));replace HB:=a0_ (below_step hb_ hb);clear hb hbox hg) | ((with_reducible refine gate_dst (N:=3) rfl ?_);(try (refine gate_guard (by rfl) ?_;dsimp only));refine box_event ?hg (N:=3) ?hd (cs:=#[.slice A1_0 l1_0.length c1_0,.int .i64 a1_1,.int .i64 a1_2,.slice A1_3 l1_3.length c1_3]) (t:=67) ?hr ?_;(case hd=>rfl);(case hg=>rfl);(case hr=>first | (go_simp;done) | (go_simp;rfl));intro gb2 hg w7 hbox hb;have n0_:=kb_ BK1 hb;have n1_:=a0_ (below_step hb_ hb);have n2_:=a0_ (hbox);have n3_:=a0_ ((by rw [hg];exact (below_size hb_) : w.heap.size ≤ gb2));have n4_:=a0_ ((by rw [hg];exact (below_size hb_) : w.heap.size ≤ gb2));have n5_:=a0_ ((by rw [hg];exact Nat.ne_of_lt (blk_lt (bb_ BK1.out)) : gb1 ≠ gb2));have n6_:=a0_ ((by rw [hg];exact Nat.ne_of_gt (blk_lt (bb_ BK1.out)) : gb2 ≠ gb1));clear BK1 HB;have BK1:=n0_;have HB:=n1_;have BK2:=n2_;have GW2:=n3_;have GE2:=n4_;have NB1_2:=n5_;have NB2_1:=n6_;clear n0_ n1_ n2_ n3_ n4_ n5_ n6_;clear hb hbox hg) | ((with_reducible refine gate_dst (N:=4) rfl ?_);(try (refine gate_guard (by rfl) ?_;dsimp only));refine box_event ?hg (N:=4) ?hd (cs:=#[.bool false,.int .i64 0,.int .i64 0]) (t:=63) ?hr ?_;(case hd=>rfl);(case hg=>rfl);(case hr=>first | (go_simp;done) | (go_simp;rfl));intro gb3 hg w8 hbox hb;have n0_:=kb_ BK1 hb;have n1_:=kb_ BK2 hb;have n2_:=a0_ (below_step hb_ hb);have n3_:=a0_ (hbox);have n4_:=a0_ ((by rw [hg];exact (below_size hb_) : w.heap.size ≤ gb3));have n5_:=a0_ ((by rw [hg];exact (below_size hb_) : w.heap.size ≤ gb3));have n6_:=a0_ ((by rw [hg];exact Nat.ne_of_lt (blk_lt (bb_ BK1.out)) : gb1 ≠ gb3));have n7_:=a0_ ((by rw [hg];exact Nat.ne_of_gt (blk_lt (bb_ BK1.out)) : gb3 ≠ gb1));have n8_:=a0_ ((by rw [hg];exact Nat.ne_of_lt (blk_lt (bb_ BK2.out)) : gb2 ≠ gb3));have n9_:=a0_ ((by rw [hg];exact Nat.ne_of_gt (blk_lt (bb_ BK2.out)) : gb3 ≠ gb2));clear BK1 BK2 HB;have BK1:=n0_;have BK2:=n1_;have HB:=n2_;have BK3:=n3_;have GW3:=n4_;have GE3:=n5_;have NB1_3:=n6_;have NB3_1:=n7_;have NB2_3:=n8_;have NB3_2:=n9_;clear n0_ n1_ n2_ n3_ n4_ n5_ n6_ n7_ n8_ n9_;clear hb hbox hg;have hnb9:=NB1_2.out;have hnc9:=NB2_1.out;have hnb10:=NB1_3.out;have hnc10:=NB3_1.out;have hcz11_0 : w8.cell? ⟨gb1,0,none⟩ = some (.slice A0_0 l0_0.length c0_0):=(blk_cell BK1.out 0).trans rfl;have hfz11_0:=blk_frozen BK1.out 0) | ((with_reducible refine gate_callee (f:=62) rfl ?_);refine goesL_ (some 9) rfl rfl Try.func62 (by kernel_rfl) rfl #[.agg #[.slice A0_0 l0_0.length c0_0]] rfl lm_ ?_;(with_reducible refine (impl_ValidTree.calls _ _ l0_0 true _ ?side1 ?side2 A3.out).mono ?_);(case side1=>exact cc_ (Kd.C_below HR0_0.out HB.out));(case side2=>exact HC0_0.out);rintro e w12 ⟨rfl,hb⟩;refine ⟨_,rfl,?_⟩;replace BK1:=kb_ BK1 hb;replace BK2:=kb_ BK2 hb;replace BK3:=kb_ BK3 hb;replace HB:=a0_ (below_step hb_ hb);(try clear hb);have hnb13:=NB2_3.out;have hnc13:=NB3_2.out;have hcz14_0 : w12.cell? ⟨gb2,0,none⟩ = some (.slice A1_0 l1_0.length c1_0):=(blk_cell BK2.out 0).trans rfl;have hcz14_1 : w12.cell? ⟨gb2,1,none⟩ = some (.int .i64 a1_1):=(blk_cell BK2.out 1).trans rfl;have hcz14_2 : w12.cell? ⟨gb2,2,none⟩ = some (.int .i64 a1_2):=(blk_cell BK2.out 2).trans rfl;have hcz14_3 : w12.cell? ⟨gb2,3,none⟩ = some (.slice A1_3 l1_3.length c1_3):=(blk_cell BK2.out 3).trans rfl;have hfz14_0:=blk_frozen BK2.out 0;have hfz14_1:=blk_frozen BK2.out 1;have hfz14_2:=blk_frozen BK2.out 2;have hfz14_3:=blk_frozen BK2.out 3;have hcz15_0 : w12.cell? ⟨gb3,0,none⟩ = some (.bool false):=(blk_cell BK3.out 0).trans rfl;have hcz15_1 : w12.cell? ⟨gb3,1,none⟩ = some (.int .i64 0):=(blk_cell BK3.out 1).trans rfl;have hcz15_2 : w12.cell? ⟨gb3,2,none⟩ = some (.int .i64 0):=(blk_cell BK3.out 2).trans rfl;have hfz15_0:=blk_frozen BK3.out 0;have hfz15_1:=blk_frozen BK3.out 1;have hfz15_2:=blk_frozen BK3.out 2))
   refine bodyPost_ret (results_ct rfl _ _ gb3 63 #[.bool false,.int .i64 0,.int .i64 0] (0,0) _ rfl (by (with_reducible repeat (first | refine blk_drewN ?_ _ | refine blk_drew ?_ | refine blk_alloc ?_ _));refine blk_put (cs:=#[.bool false,.int .i64 0,.int .i64 0]) ?_ 2 _ rfl;(with_reducible repeat (first | refine blk_drewN ?_ _ | refine blk_drew ?_ | refine blk_alloc ?_ _));refine blk_put (cs:=#[.bool false,.int .i64 0,.int .i64 0]) ?_ 1 _ rfl;(with_reducible repeat (first | refine blk_drewN ?_ _ | refine blk_drew ?_ | refine blk_alloc ?_ _));refine blk_put (cs:=#[.bool false,.int .i64 0,.int .i64 0]) ?_ 0 _ rfl;(with_reducible repeat (first | refine blk_drewN ?_ _ | refine blk_drew ?_ | refine blk_alloc ?_ _));exact BK3.out) Try.underlying63 rfl (by kernel_rfl)) rfl ?_
   exact ⟨by first | rfl | (simp [errW_none,errW_some] <;> rfl) | (simp [*,errW_none,errW_some] <;> rfl),hb_⟩
  ·rw [if_neg c5] at H
   have c5b0 : (a1_1 == 0) = false:=beq_eq_false_iff_ne.mpr c5
   have c5b1 : (a1_1 != 0) = true:=bne_iff_ne.mpr c5
   by_cases c16 : a1_1 = 2
   ·rw [if_pos c16] at H
    have c16b0 : (a1_1 == 2) = true:=beq_iff_eq.mpr c16
    have c16b1 : (a1_1 != 2) = false:=bne_eq_false_iff_eq.mpr c16
    clear c16
    obtain ⟨y5,hy5⟩ : ∃ y_ : List Int,y_ = (([a1_2] : List Int)):=⟨_,rfl⟩
    replace H : ((impl_faultsIn.f l0_0 l1_3 y5).bind fun t8=>(if t8 = true then (if 0 ≤ a1_2 then (if a1_2 < (l1_3.length : Int) then (some (true,(rd_T79 l1_3 a1_2).f0,(rd_T79 l1_3 a1_2).f1,true)) else (none)) else (none)) else (some (false,0,0,false)))) = some (r1,r2,r3,r4):=by first | (rw [hy5];with_reducible exact H) | (have H2_:=(Option.bind_some _ _).symm.trans H;rw [hy5];with_reducible exact H2_) | (have H2_:=(Option.bind_some _ _).symm.trans H;with_reducible exact H2_) | with_reducible exact H | (rw [hy5];exact H) | exact H
    have Ny5:=a0_ hy5
    clear hy5
    replace H:=Option.bind_eq_some_iff.mp H
    obtain ⟨t8,A170,H⟩:=H
    replace H : (if t8 = true then (if 0 ≤ a1_2 then (if a1_2 < (l1_3.length : Int) then (some (true,(rd_T79 l1_3 a1_2).f0,(rd_T79 l1_3 a1_2).f1,true)) else (none)) else (none)) else (some (false,0,0,false))) = some (r1,r2,r3,r4):=H
    have A17:=a0_ A170
    clear A170
    by_cases c18 : t8 = true
    ·subst c18
     have H1 : (if 0 ≤ a1_2 then (if a1_2 < (l1_3.length : Int) then (some (true,(rd_T79 l1_3 a1_2).f0,(rd_T79 l1_3 a1_2).f1,true)) else (none)) else (none)) = some (r1,r2,r3,r4):=by rw [if_pos rfl] at H;exact H
     clear H
     have H:=H1
     clear H1
     by_cases c19 : 0 ≤ a1_2
     ·rw [if_pos c19] at H
      have c19b0 : decide (0 ≤ a1_2) = true:=decide_eq_true c19
      clear c19
      by_cases c20 : a1_2 < (l1_3.length : Int)
      ·rw [if_pos c20] at H
       have c20b0 : decide (a1_2 < (l1_3.length : Int)) = true:=decide_eq_true c20
       clear c20
       simp only [Option.some.injEq,Prod.mk.injEq] at H
       obtain ⟨rfl,rfl,rfl,rfl⟩:=H
       go_enter Try.func49,Try.ntmps49
       go_wp2_with (first | ((with_reducible refine gate_dst (N:=2) rfl ?_);(try (refine gate_guard (by rfl) ?_;dsimp only));refine box_event ?hg (N:=2) ?hd (cs:=#[.slice A0_0 l0_0.length c0_0]) (t:=33) ?hr ?_;(case hd=>rfl);(case hg=>rfl);(case hr=>first | (go_simp;done) | (go_simp;rfl));intro gb1 hg w21 hbox hb;have BK1:=a0_ (hbox);have GW1:=a0_ ((by rw [hg];exact (below_size hb_) : w.heap.size ≤ gb1));have GE1:=a0_ ((by rw [hg];exact (below_size hb_) : w.heap.size ≤ gb1));replace HB:=a0_ (below_step hb_ hb);clear hb hbox hg) | ((with_reducible refine gate_dst (N:=3) rfl ?_);(try (refine gate_guard (by rfl) ?_;dsimp only));refine box_event ?hg (N:=3) ?hd (cs:=#[.slice A1_0 l1_0.length c1_0,.int .i64 a1_1,.int .i64 a1_2,.slice A1_3 l1_3.length c1_3]) (t:=67) ?hr ?_;(case hd=>rfl);(case hg=>rfl);(case hr=>first | (go_simp;done) | (go_simp;rfl));intro gb2 hg w22 hbox hb;have n0_:=kb_ BK1 hb;have n1_:=a0_ (below_step hb_ hb);have n2_:=a0_ (hbox);have n3_:=a0_ ((by rw [hg];exact (below_size hb_) : w.heap.size ≤ gb2));have n4_:=a0_ ((by rw [hg];exact (below_size hb_) : w.heap.size ≤ gb2));have n5_:=a0_ ((by rw [hg];exact Nat.ne_of_lt (blk_lt (bb_ BK1.out)) : gb1 ≠ gb2));have n6_:=a0_ ((by rw [hg];exact Nat.ne_of_gt (blk_lt (bb_ BK1.out)) : gb2 ≠ gb1));clear BK1 HB;have BK1:=n0_;have HB:=n1_;have BK2:=n2_;have GW2:=n3_;have GE2:=n4_;have NB1_2:=n5_;have NB2_1:=n6_;clear n0_ n1_ n2_ n3_ n4_ n5_ n6_;clear hb hbox hg) | ((with_reducible refine gate_dst (N:=4) rfl ?_);(try (refine gate_guard (by rfl) ?_;dsimp only));refine box_event ?hg (N:=4) ?hd (cs:=#[.bool false,.int .i64 0,.int .i64 0]) (t:=63) ?hr ?_;(case hd=>rfl);(case hg=>rfl);(case hr=>first | (go_simp;done) | (go_simp;rfl));intro gb3 hg w23 hbox hb;have n0_:=kb_ BK1 hb;have n1_:=kb_ BK2 hb;have n2_:=a0_ (below_step hb_ hb);have n3_:=a0_ (hbox);have n4_:=a0_ ((by rw [hg];exact (below_size hb_) : w.heap.size ≤ gb3));have n5_:=a0_ ((by rw [hg];exact (below_size hb_) : w.heap.size ≤ gb3));have n6_:=a0_ ((by rw [hg];exact Nat.ne_of_lt (blk_lt (bb_ BK1.out)) : gb1 ≠ gb3));have n7_:=a0_ ((by rw [hg];exact Nat.ne_of_gt (blk_lt (bb_ BK1.out)) : gb3 ≠ gb1));have n8_:=a0_ ((by rw [hg];exact Nat.ne_of_lt (blk_lt (bb_ BK2.out)) : gb2 ≠ gb3));have n9_:=a0_ ((by rw [hg];exact Nat.ne_of_gt (blk_lt (bb_ BK2.out)) : gb3 ≠ gb2));clear BK1 BK2 HB;have BK1:=n0_;have BK2:=n1_;have HB:=n2_;have BK3:=n3_;have GW3:=n4_;have GE3:=n5_;have NB1_3:=n6_;have NB3_1:=n7_;have NB2_3:=n8_;have NB3_2:=n9_;clear n0_ n1_ n2_ n3_ n4_ n5_ n6_ n7_ n8_ n9_;clear hb hbox hg;have hnb24:=NB1_2.out;have hnc24:=NB2_1.out;have hnb25:=NB1_3.out;have hnc25:=NB3_1.out;have hcz26_0 : w23.cell? ⟨gb1,0,none⟩ = some (.slice A0_0 l0_0.length c0_0):=(blk_cell BK1.out 0).trans rfl;have hfz26_0:=blk_frozen BK1.out 0) | ((with_reducible refine gate_callee (f:=62) rfl ?_);refine goesL_ (some 9) rfl rfl Try.func62 (by kernel_rfl) rfl #[.agg #[.slice A0_0 l0_0.length c0_0]] rfl lm_ ?_;(with_reducible refine (impl_ValidTree.calls _ _ l0_0 true _ ?side1 ?side2 A3.out).mono ?_);(case side1=>exact cc_ (Kd.C_below HR0_0.out HB.out));(case side2=>exact HC0_0.out);rintro e w27 ⟨rfl,hb⟩;refine ⟨_,rfl,?_⟩;replace BK1:=kb_ BK1 hb;replace BK2:=kb_ BK2 hb;replace BK3:=kb_ BK3 hb;replace HB:=a0_ (below_step hb_ hb);(try clear hb);have hnb28:=NB2_3.out;have hnc28:=NB3_2.out;have hcz29_0 : w27.cell? ⟨gb2,0,none⟩ = some (.slice A1_0 l1_0.length c1_0):=(blk_cell BK2.out 0).trans rfl;have hcz29_1 : w27.cell? ⟨gb2,1,none⟩ = some (.int .i64 a1_1):=(blk_cell BK2.out 1).trans rfl;have hcz29_2 : w27.cell? ⟨gb2,2,none⟩ = some (.int .i64 a1_2):=(blk_cell BK2.out 2).trans rfl;have hcz29_3 : w27.cell? ⟨gb2,3,none⟩ = some (.slice A1_3 l1_3.length c1_3):=(blk_cell BK2.out 3).trans rfl;have hfz29_0:=blk_frozen BK2.out 0;have hfz29_1:=blk_frozen BK2.out 1;have hfz29_2:=blk_frozen BK2.out 2;have hfz29_3:=blk_frozen BK2.out 3;have hcz30_0 : w27.cell? ⟨gb1,0,none⟩ = some (.slice A0_0 l0_0.length c0_0):=(blk_cell BK1.out 0).trans rfl;have hfz30_0:=blk_frozen BK1.out 0) | ((with_reducible refine gate_dst (N:=27) rfl ?_);(try (refine gate_guard (by rfl) ?_;dsimp only));refine Kd.R_lit (Kd.int .i64) _ 3 ?hg (N:=27) ?hd (xs:=([a1_2] : List Int)) (inner:=[.int .i64 a1_2]) (ok:=fun _=>True) (okp:=fun _=>True) ?hr ?hp (fun _ hk=>hk) trivial (Below.refl _ _) (Nat.le_refl _) (by simp) ?_;(case hd=>rfl);(case hg=>rfl);(case hr=>first | (go_simp;done) | (go_simp;rfl));(case hp=>exact (Reps.one (show Kd.M (Kd.int .i64) _ _ _ a1_2 [.int .i64 a1_2] from rfl) (Reps.none _ _)));intro v6 w31 ho32 hb hg_ hnew_;clear hg_ hnew_;(first | rw [← Ny5.out] at ho32 | (simp only [Int.reduceToNat] at ho32;rw [← Ny5.out] at ho32));have HO7:=a0_ (Kd.R_lower ho32 (below_size hb_));replace BK1:=kb_ BK1 hb;replace BK2:=kb_ BK2 hb;replace BK3:=kb_ BK3 hb;replace HB:=a0_ (below_step hb_ hb);clear hb ho32;obtain ⟨Ao33,co33,eo33⟩:=Kd.R_slice HO7.out;subst eo33) | (go_at_call 67;(with_reducible refine (impl_faultsIn.calls _ _ l0_0 _ _ l1_3 _ _ y5 true _ ?side1 ?side2 ?side3 ?side4 ?side5 ?side6 A17.out).mono ?_);(case side1=>exact cc_ (Kd.C_below HR0_0.out HB.out));(case side2=>exact HC0_0.out);(case side3=>exact cc_ (Kd.C_below HR1_3.out HB.out));(case side4=>exact HC1_3.out);(case side5=>exact cc_ (Kd.R_reads' HO7.out).2.2);(case side6=>exact (Kd.R_reads' HO7.out).2.1);rintro e w34 ⟨rfl,hb⟩;replace HO7:=rb_ HO7 hb;replace BK1:=kb_ BK1 hb;replace BK2:=kb_ BK2 hb;replace BK3:=kb_ BK3 hb;replace HB:=a0_ (below_step hb_ hb);(try clear hb);have hcz35_0 : w34.cell? ⟨gb2,0,none⟩ = some (.slice A1_0 l1_0.length c1_0):=(blk_cell BK2.out 0).trans rfl;have hcz35_1 : w34.cell? ⟨gb2,1,none⟩ = some (.int .i64 a1_1):=(blk_cell BK2.out 1).trans rfl;have hcz35_2 : w34.cell? ⟨gb2,2,none⟩ = some (.int .i64 a1_2):=(blk_cell BK2.out 2).trans rfl;have hcz35_3 : w34.cell? ⟨gb2,3,none⟩ = some (.slice A1_3 l1_3.length c1_3):=(blk_cell BK2.out 3).trans rfl;have hfz35_0:=blk_frozen BK2.out 0;have hfz35_1:=blk_frozen BK2.out 1;have hfz35_2:=blk_frozen BK2.out 2;have hfz35_3:=blk_frozen BK2.out 3;have p9 : 0 ≤ (a1_2 : Int):=of_decide_eq_true (by first | (with_reducible assumption) | assumption);have q9 : a1_2 < (l1_3.length : Int):=of_decide_eq_true (by first | (with_reducible assumption) | assumption);obtain ⟨ad9,e9,hx9_0,hx9_1,hx9_2,hx9_3,hx9_4⟩:=at_T79 HR1_3.out a1_2 p9 q9;cases e9;replace hx9_0:=(HB.out.cell (World.block_lt_of_cell? w _ hx9_0)).trans hx9_0;replace hx9_1:=(HB.out.cell (World.block_lt_of_cell? w _ hx9_1)).trans hx9_1;replace hx9_2:=(HB.out.cell (World.block_lt_of_cell? w _ hx9_2)).trans hx9_2;replace hx9_3:=(HB.out.cell (World.block_lt_of_cell? w _ hx9_3)).trans hx9_3;replace hx9_4:=(HB.out.cell (World.block_lt_of_cell? w _ hx9_4)).trans hx9_4;replace p9:=eq_true p9;replace q9:=eq_true q9) | ((with_reducible refine gate_dst (N:=6) rfl ?_);(try (refine gate_guard (by rfl) ?_;dsimp only));refine box_event ?hg (N:=6) ?hd (cs:=#[.int .i64 0,.int .i64 0,.int .i64 0,.int .i64 0,.bool false]) (t:=79) ?hr ?_;(case hd=>rfl);(case hg=>rfl);(case hr=>first | (go_simp;done) | (go_simp;rfl));intro gb10 hg w36 hbox hb;have n0_:=rb_ HO7 hb;have n1_:=kb_ BK1 hb;have n2_:=kb_ BK2 hb;have n3_:=kb_ BK3 hb;have n4_:=a0_ (below_step hb_ hb);have n5_:=a0_ (hbox);have n6_:=a0_ ((by rw [hg];exact (below_size hb_) : w.heap.size ≤ gb10));have n7_:=a0_ ((by rw [hg];exact (below_size hb_) : w.heap.size ≤ gb10));have n8_:=a0_ ((by rw [hg];exact Nat.ne_of_lt (blk_lt (bb_ BK1.out)) : gb1 ≠ gb10));have n9_:=a0_ ((by rw [hg];exact Nat.ne_of_gt (blk_lt (bb_ BK1.out)) : gb10 ≠ gb1));have n10_:=a0_ ((by rw [hg];exact Nat.ne_of_lt (blk_lt (bb_ BK2.out)) : gb2 ≠ gb10));have n11_:=a0_ ((by rw [hg];exact Nat.ne_of_gt (blk_lt (bb_ BK2.out)) : gb10 ≠ gb2));have n12_:=a0_ ((by rw [hg];exact Nat.ne_of_lt (blk_lt (bb_ BK3.out)) : gb3 ≠ gb10));have n13_:=a0_ ((by rw [hg];exact Nat.ne_of_gt (blk_lt (bb_ BK3.out)) : gb10 ≠ gb3));clear HO7 BK1;clear BK2 BK3 HB;have HO7:=n0_;have BK1:=n1_;have BK2:=n2_;have BK3:=n3_;have HB:=n4_;have BK10:=n5_;have GW10:=n6_;have GE10:=n7_;have NB1_10:=n8_;have NB10_1:=n9_;have NB2_10:=n10_;have NB10_2:=n11_;have NB3_10:=n12_;have NB10_3:=n13_;clear n0_ n1_ n2_ n3_ n4_ n5_ n6_ n7_ n8_ n9_ n10_ n11_ n12_ n13_;clear hb hbox hg;have hnb37:=NB10_1.out;have hnc37:=NB1_10.out;have hnb38:=NB10_2.out;have hnc38:=NB2_10.out;have hnb39:=NB10_3.out;have hnc39:=NB3_10.out;have hcz40_0 : w36.cell? ⟨gb10,0,none⟩ = some (.int .i64 0):=(blk_cell BK10.out 0).trans rfl;have hcz40_1 : w36.cell? ⟨gb10,1,none⟩ = some (.int .i64 0):=(blk_cell BK10.out 1).trans rfl;have hcz40_2 : w36.cell? ⟨gb10,2,none⟩ = some (.int .i64 0):=(blk_cell BK10.out 2).trans rfl;have hcz40_3 : w36.cell? ⟨gb10,3,none⟩ = some (.int .i64 0):=(blk_cell BK10.out 3).trans rfl;have hcz40_4 : w36.cell? ⟨gb10,4,none⟩ = some (.bool false):=(blk_cell BK10.out 4).trans rfl;have hfz40_0:=blk_frozen BK10.out 0;have hfz40_1:=blk_frozen BK10.out 1;have hfz40_2:=blk_frozen BK10.out 2;have hfz40_3:=blk_frozen BK10.out 3;have hfz40_4:=blk_frozen BK10.out 4;have hcz41_0 : w36.cell? ⟨gb3,0,none⟩ = some (.bool false):=(blk_cell BK3.out 0).trans rfl;have hcz41_1 : w36.cell? ⟨gb3,1,none⟩ = some (.int .i64 0):=(blk_cell BK3.out 1).trans rfl;have hcz41_2 : w36.cell? ⟨gb3,2,none⟩ = some (.int .i64 0):=(blk_cell BK3.out 2).trans rfl;have hfz41_0:=blk_frozen BK3.out 0;have hfz41_1:=blk_frozen BK3.out 1;have hfz41_2:=blk_frozen BK3.out 2))
       refine bodyPost_ret (results_ct rfl _ _ gb3 63 #[.bool true,.int .i64 ((rd_T79 l1_3 a1_2).f0),.int .i64 ((rd_T79 l1_3 a1_2).f1)] (0,0) _ rfl (by (with_reducible repeat (first | refine blk_drewN ?_ _ | refine blk_drew ?_ | refine blk_alloc ?_ _));refine blk_put (cs:=#[.bool true,.int .i64 ((rd_T79 l1_3 a1_2).f0),.int .i64 0]) ?_ 2 _ rfl;(with_reducible repeat (first | refine blk_drewN ?_ _ | refine blk_drew ?_ | refine blk_alloc ?_ _));refine blk_put (cs:=#[.bool true,.int .i64 0,.int .i64 0]) ?_ 1 _ rfl;(with_reducible repeat (first | refine blk_drewN ?_ _ | refine blk_drew ?_ | refine blk_alloc ?_ _));refine blk_put (cs:=#[.bool false,.int .i64 0,.int .i64 0]) ?_ 0 _ rfl;(with_reducible repeat (first | refine blk_drewN ?_ _ | refine blk_drew ?_ | refine blk_alloc ?_ _));refine blk_far ?_ NB3_10.out _;(with_reducible repeat (first | refine blk_drewN ?_ _ | refine blk_drew ?_ | refine blk_alloc ?_ _));refine blk_far ?_ NB3_10.out _;(with_reducible repeat (first | refine blk_drewN ?_ _ | refine blk_drew ?_ | refine blk_alloc ?_ _));refine blk_far ?_ NB3_10.out _;(with_reducible repeat (first | refine blk_drewN ?_ _ | refine blk_drew ?_ | refine blk_alloc ?_ _));refine blk_far ?_ NB3_10.out _;(with_reducible repeat (first | refine blk_drewN ?_ _ | refine blk_drew ?_ | refine blk_alloc ?_ _));refine blk_far ?_ NB3_10.out _;(with_reducible repeat (first | refine blk_drewN ?_ _ | refine blk_drew ?_ | refine blk_alloc ?_ _));exact BK3.out) Try.underlying63 rfl (by kernel_rfl)) rfl ?_
       exact ⟨by first | rfl | (simp [errW_none,errW_some] <;> rfl) | (simp [*,errW_none,errW_some] <;> rfl),hb_⟩
      ·rw [if_neg c20] at H
       exact absurd H (by simp)
     ·rw [if_neg c19] at H
      exact absurd H (by simp)
    ·replace c18:=Bool.eq_false_iff.mpr c18
     subst c18
     have H1 : (some (false,0,0,false)) = some (r1,r2,r3,r4):=by rw [if_neg (show ¬ (false = true) by decide)] at H;exact H
     clear H
     have H:=H1
     clear H1
     simp only [Option.some.injEq,Prod.mk.injEq] at H
     obtain ⟨rfl,rfl,rfl,rfl⟩:=H
     go_enter Try.func49,Try.ntmps49
     go_wp2_with (first | ((with_reducible refine gate_dst (N:=2) rfl ?_);(try (refine gate_guard (by rfl) ?_;dsimp only));refine box_event ?hg (N:=2) ?hd (cs:=#[.slice A0_0 l0_0.length c0_0]) (t:=33) ?hr ?_;(case hd=>rfl);(case hg=>rfl);(case hr=>first | (go_simp;done) | (go_simp;rfl));intro gb1 hg w42 hbox hb;have BK1:=a0_ (hbox);have GW1:=a0_ ((by rw [hg];exact (below_size hb_) : w.heap.size ≤ gb1));have GE1:=a0_ ((by rw [hg];exact (below_size hb_) : w.heap.size ≤ gb1));replace HB:=a0_ (below_step hb_ hb);clear hb hbox hg) | ((with_reducible refine gate_dst (N:=3) rfl ?_);(try (refine gate_guard (by rfl) ?_;dsimp only));refine box_event ?hg (N:=3) ?hd (cs:=#[.slice A1_0 l1_0.length c1_0,.int .i64 a1_1,.int .i64 a1_2,.slice A1_3 l1_3.length c1_3]) (t:=67) ?hr ?_;(case hd=>rfl);(case hg=>rfl);(case hr=>first | (go_simp;done) | (go_simp;rfl));intro gb2 hg w43 hbox hb;have n0_:=kb_ BK1 hb;have n1_:=a0_ (below_step hb_ hb);have n2_:=a0_ (hbox);have n3_:=a0_ ((by rw [hg];exact (below_size hb_) : w.heap.size ≤ gb2));have n4_:=a0_ ((by rw [hg];exact (below_size hb_) : w.heap.size ≤ gb2));have n5_:=a0_ ((by rw [hg];exact Nat.ne_of_lt (blk_lt (bb_ BK1.out)) : gb1 ≠ gb2));have n6_:=a0_ ((by rw [hg];exact Nat.ne_of_gt (blk_lt (bb_ BK1.out)) : gb2 ≠ gb1));clear BK1 HB;have BK1:=n0_;have HB:=n1_;have BK2:=n2_;have GW2:=n3_;have GE2:=n4_;have NB1_2:=n5_;have NB2_1:=n6_;clear n0_ n1_ n2_ n3_ n4_ n5_ n6_;clear hb hbox hg) | ((with_reducible refine gate_dst (N:=4) rfl ?_);(try (refine gate_guard (by rfl) ?_;dsimp only));refine box_event ?hg (N:=4) ?hd (cs:=#[.bool false,.int .i64 0,.int .i64 0]) (t:=63) ?hr ?_;(case hd=>rfl);(case hg=>rfl);(case hr=>first | (go_simp;done) | (go_simp;rfl));intro gb3 hg w44 hbox hb;have n0_:=kb_ BK1 hb;have n1_:=kb_ BK2 hb;have n2_:=a0_ (below_step hb_ hb);have n3_:=a0_ (hbox);have n4_:=a0_ ((by rw [hg];exact (below_size hb_) : w.heap.size ≤ gb3));have n5_:=a0_ ((by rw [hg];exact (below_size hb_) : w.heap.size ≤ gb3));have n6_:=a0_ ((by rw [hg];exact Nat.ne_of_lt (blk_lt (bb_ BK1.out)) : gb1 ≠ gb3));have n7_:=a0_ ((by rw [hg];exact Nat.ne_of_gt (blk_lt (bb_ BK1.out)) : gb3 ≠ gb1));have n8_:=a0_ ((by rw [hg];exact Nat.ne_of_lt (blk_lt (bb_ BK2.out)) : gb2 ≠ gb3));have n9_:=a0_ ((by rw [hg];exact Nat.ne_of_gt (blk_lt (bb_ BK2.out)) : gb3 ≠ gb2));clear BK1 BK2 HB;have BK1:=n0_;have BK2:=n1_;have HB:=n2_;have BK3:=n3_;have GW3:=n4_;have GE3:=n5_;have NB1_3:=n6_;have NB3_1:=n7_;have NB2_3:=n8_;have NB3_2:=n9_;clear n0_ n1_ n2_ n3_ n4_ n5_ n6_ n7_ n8_ n9_;clear hb hbox hg;have hnb45:=NB1_2.out;have hnc45:=NB2_1.out;have hnb46:=NB1_3.out;have hnc46:=NB3_1.out;have hcz47_0 : w44.cell? ⟨gb1,0,none⟩ = some (.slice A0_0 l0_0.length c0_0):=(blk_cell BK1.out 0).trans rfl;have hfz47_0:=blk_frozen BK1.out 0) | ((with_reducible refine gate_callee (f:=62) rfl ?_);refine goesL_ (some 9) rfl rfl Try.func62 (by kernel_rfl) rfl #[.agg #[.slice A0_0 l0_0.length c0_0]] rfl lm_ ?_;(with_reducible refine (impl_ValidTree.calls _ _ l0_0 true _ ?side1 ?side2 A3.out).mono ?_);(case side1=>exact cc_ (Kd.C_below HR0_0.out HB.out));(case side2=>exact HC0_0.out);rintro e w48 ⟨rfl,hb⟩;refine ⟨_,rfl,?_⟩;replace BK1:=kb_ BK1 hb;replace BK2:=kb_ BK2 hb;replace BK3:=kb_ BK3 hb;replace HB:=a0_ (below_step hb_ hb);(try clear hb);have hnb49:=NB2_3.out;have hnc49:=NB3_2.out;have hcz50_0 : w48.cell? ⟨gb2,0,none⟩ = some (.slice A1_0 l1_0.length c1_0):=(blk_cell BK2.out 0).trans rfl;have hcz50_1 : w48.cell? ⟨gb2,1,none⟩ = some (.int .i64 a1_1):=(blk_cell BK2.out 1).trans rfl;have hcz50_2 : w48.cell? ⟨gb2,2,none⟩ = some (.int .i64 a1_2):=(blk_cell BK2.out 2).trans rfl;have hcz50_3 : w48.cell? ⟨gb2,3,none⟩ = some (.slice A1_3 l1_3.length c1_3):=(blk_cell BK2.out 3).trans rfl;have hfz50_0:=blk_frozen BK2.out 0;have hfz50_1:=blk_frozen BK2.out 1;have hfz50_2:=blk_frozen BK2.out 2;have hfz50_3:=blk_frozen BK2.out 3;have hcz51_0 : w48.cell? ⟨gb1,0,none⟩ = some (.slice A0_0 l0_0.length c0_0):=(blk_cell BK1.out 0).trans rfl;have hfz51_0:=blk_frozen BK1.out 0) | ((with_reducible refine gate_dst (N:=27) rfl ?_);(try (refine gate_guard (by rfl) ?_;dsimp only));refine Kd.R_lit (Kd.int .i64) _ 3 ?hg (N:=27) ?hd (xs:=([a1_2] : List Int)) (inner:=[.int .i64 a1_2]) (ok:=fun _=>True) (okp:=fun _=>True) ?hr ?hp (fun _ hk=>hk) trivial (Below.refl _ _) (Nat.le_refl _) (by simp) ?_;(case hd=>rfl);(case hg=>rfl);(case hr=>first | (go_simp;done) | (go_simp;rfl));(case hp=>exact (Reps.one (show Kd.M (Kd.int .i64) _ _ _ a1_2 [.int .i64 a1_2] from rfl) (Reps.none _ _)));intro v6 w52 ho53 hb hg_ hnew_;clear hg_ hnew_;(first | rw [← Ny5.out] at ho53 | (simp only [Int.reduceToNat] at ho53;rw [← Ny5.out] at ho53));have HO7:=a0_ (Kd.R_lower ho53 (below_size hb_));replace BK1:=kb_ BK1 hb;replace BK2:=kb_ BK2 hb;replace BK3:=kb_ BK3 hb;replace HB:=a0_ (below_step hb_ hb);clear hb ho53;obtain ⟨Ao54,co54,eo54⟩:=Kd.R_slice HO7.out;subst eo54) | (go_at_call 67;(with_reducible refine (impl_faultsIn.calls _ _ l0_0 _ _ l1_3 _ _ y5 false _ ?side1 ?side2 ?side3 ?side4 ?side5 ?side6 A17.out).mono ?_);(case side1=>exact cc_ (Kd.C_below HR0_0.out HB.out));(case side2=>exact HC0_0.out);(case side3=>exact cc_ (Kd.C_below HR1_3.out HB.out));(case side4=>exact HC1_3.out);(case side5=>exact cc_ (Kd.R_reads' HO7.out).2.2);(case side6=>exact (Kd.R_reads' HO7.out).2.1);rintro e w55 ⟨rfl,hb⟩;replace HO7:=rb_ HO7 hb;replace BK1:=kb_ BK1 hb;replace BK2:=kb_ BK2 hb;replace BK3:=kb_ BK3 hb;replace HB:=a0_ (below_step hb_ hb);(try clear hb);have hcz56_0 : w55.cell? ⟨gb3,0,none⟩ = some (.bool false):=(blk_cell BK3.out 0).trans rfl;have hcz56_1 : w55.cell? ⟨gb3,1,none⟩ = some (.int .i64 0):=(blk_cell BK3.out 1).trans rfl;have hcz56_2 : w55.cell? ⟨gb3,2,none⟩ = some (.int .i64 0):=(blk_cell BK3.out 2).trans rfl;have hfz56_0:=blk_frozen BK3.out 0;have hfz56_1:=blk_frozen BK3.out 1;have hfz56_2:=blk_frozen BK3.out 2))
     refine bodyPost_ret (results_ct rfl _ _ gb3 63 #[.bool false,.int .i64 0,.int .i64 0] (0,0) _ rfl (by (with_reducible repeat (first | refine blk_drewN ?_ _ | refine blk_drew ?_ | refine blk_alloc ?_ _));refine blk_put (cs:=#[.bool false,.int .i64 0,.int .i64 0]) ?_ 2 _ rfl;(with_reducible repeat (first | refine blk_drewN ?_ _ | refine blk_drew ?_ | refine blk_alloc ?_ _));refine blk_put (cs:=#[.bool false,.int .i64 0,.int .i64 0]) ?_ 1 _ rfl;(with_reducible repeat (first | refine blk_drewN ?_ _ | refine blk_drew ?_ | refine blk_alloc ?_ _));refine blk_put (cs:=#[.bool false,.int .i64 0,.int .i64 0]) ?_ 0 _ rfl;(with_reducible repeat (first | refine blk_drewN ?_ _ | refine blk_drew ?_ | refine blk_alloc ?_ _));exact BK3.out) Try.underlying63 rfl (by kernel_rfl)) rfl ?_
     exact ⟨by first | rfl | (simp [errW_none,errW_some] <;> rfl) | (simp [*,errW_none,errW_some] <;> rfl),hb_⟩
   ·rw [if_neg c16] at H
    have c16b0 : (a1_1 == 2) = false:=beq_eq_false_iff_ne.mpr c16
    have c16b1 : (a1_1 != 2) = true:=bne_iff_ne.mpr c16
    simp only [Option.some.injEq,Prod.mk.injEq] at H
    obtain ⟨rfl,rfl,rfl,rfl⟩:=H
    go_enter Try.func49,Try.ntmps49
    go_wp2_with (first | ((with_reducible refine gate_dst (N:=2) rfl ?_);(try (refine gate_guard (by rfl) ?_;dsimp only));refine box_event ?hg (N:=2) ?hd (cs:=#[.slice A0_0 l0_0.length c0_0]) (t:=33) ?hr ?_;(case hd=>rfl);(case hg=>rfl);(case hr=>first | (go_simp;done) | (go_simp;rfl));intro gb1 hg w57 hbox hb;have BK1:=a0_ (hbox);have GW1:=a0_ ((by rw [hg];exact (below_size hb_) : w.heap.size ≤ gb1));have GE1:=a0_ ((by rw [hg];exact (below_size hb_) : w.heap.size ≤ gb1));replace HB:=a0_ (below_step hb_ hb);clear hb hbox hg) | ((with_reducible refine gate_dst (N:=3) rfl ?_);(try (refine gate_guard (by rfl) ?_;dsimp only));refine box_event ?hg (N:=3) ?hd (cs:=#[.slice A1_0 l1_0.length c1_0,.int .i64 a1_1,.int .i64 a1_2,.slice A1_3 l1_3.length c1_3]) (t:=67) ?hr ?_;(case hd=>rfl);(case hg=>rfl);(case hr=>first | (go_simp;done) | (go_simp;rfl));intro gb2 hg w58 hbox hb;have n0_:=kb_ BK1 hb;have n1_:=a0_ (below_step hb_ hb);have n2_:=a0_ (hbox);have n3_:=a0_ ((by rw [hg];exact (below_size hb_) : w.heap.size ≤ gb2));have n4_:=a0_ ((by rw [hg];exact (below_size hb_) : w.heap.size ≤ gb2));have n5_:=a0_ ((by rw [hg];exact Nat.ne_of_lt (blk_lt (bb_ BK1.out)) : gb1 ≠ gb2));have n6_:=a0_ ((by rw [hg];exact Nat.ne_of_gt (blk_lt (bb_ BK1.out)) : gb2 ≠ gb1));clear BK1 HB;have BK1:=n0_;have HB:=n1_;have BK2:=n2_;have GW2:=n3_;have GE2:=n4_;have NB1_2:=n5_;have NB2_1:=n6_;clear n0_ n1_ n2_ n3_ n4_ n5_ n6_;clear hb hbox hg) | ((with_reducible refine gate_dst (N:=4) rfl ?_);(try (refine gate_guard (by rfl) ?_;dsimp only));refine box_event ?hg (N:=4) ?hd (cs:=#[.bool false,.int .i64 0,.int .i64 0]) (t:=63) ?hr ?_;(case hd=>rfl);(case hg=>rfl);(case hr=>first | (go_simp;done) | (go_simp;rfl));intro gb3 hg w59 hbox hb;have n0_:=kb_ BK1 hb;have n1_:=kb_ BK2 hb;have n2_:=a0_ (below_step hb_ hb);have n3_:=a0_ (hbox);have n4_:=a0_ ((by rw [hg];exact (below_size hb_) : w.heap.size ≤ gb3));have n5_:=a0_ ((by rw [hg];exact (below_size hb_) : w.heap.size ≤ gb3));have n6_:=a0_ ((by rw [hg];exact Nat.ne_of_lt (blk_lt (bb_ BK1.out)) : gb1 ≠ gb3));have n7_:=a0_ ((by rw [hg];exact Nat.ne_of_gt (blk_lt (bb_ BK1.out)) : gb3 ≠ gb1));have n8_:=a0_ ((by rw [hg];exact Nat.ne_of_lt (blk_lt (bb_ BK2.out)) : gb2 ≠ gb3));have n9_:=a0_ ((by rw [hg];exact Nat.ne_of_gt (blk_lt (bb_ BK2.out)) : gb3 ≠ gb2));clear BK1 BK2 HB;have BK1:=n0_;have BK2:=n1_;have HB:=n2_;have BK3:=n3_;have GW3:=n4_;have GE3:=n5_;have NB1_3:=n6_;have NB3_1:=n7_;have NB2_3:=n8_;have NB3_2:=n9_;clear n0_ n1_ n2_ n3_ n4_ n5_ n6_ n7_ n8_ n9_;clear hb hbox hg;have hnb60:=NB1_2.out;have hnc60:=NB2_1.out;have hnb61:=NB1_3.out;have hnc61:=NB3_1.out;have hcz62_0 : w59.cell? ⟨gb1,0,none⟩ = some (.slice A0_0 l0_0.length c0_0):=(blk_cell BK1.out 0).trans rfl;have hfz62_0:=blk_frozen BK1.out 0) | ((with_reducible refine gate_callee (f:=62) rfl ?_);refine goesL_ (some 9) rfl rfl Try.func62 (by kernel_rfl) rfl #[.agg #[.slice A0_0 l0_0.length c0_0]] rfl lm_ ?_;(with_reducible refine (impl_ValidTree.calls _ _ l0_0 true _ ?side1 ?side2 A3.out).mono ?_);(case side1=>exact cc_ (Kd.C_below HR0_0.out HB.out));(case side2=>exact HC0_0.out);rintro e w63 ⟨rfl,hb⟩;refine ⟨_,rfl,?_⟩;replace BK1:=kb_ BK1 hb;replace BK2:=kb_ BK2 hb;replace BK3:=kb_ BK3 hb;replace HB:=a0_ (below_step hb_ hb);(try clear hb);have hnb64:=NB2_3.out;have hnc64:=NB3_2.out;have hcz65_0 : w63.cell? ⟨gb2,0,none⟩ = some (.slice A1_0 l1_0.length c1_0):=(blk_cell BK2.out 0).trans rfl;have hcz65_1 : w63.cell? ⟨gb2,1,none⟩ = some (.int .i64 a1_1):=(blk_cell BK2.out 1).trans rfl;have hcz65_2 : w63.cell? ⟨gb2,2,none⟩ = some (.int .i64 a1_2):=(blk_cell BK2.out 2).trans rfl;have hcz65_3 : w63.cell? ⟨gb2,3,none⟩ = some (.slice A1_3 l1_3.length c1_3):=(blk_cell BK2.out 3).trans rfl;have hfz65_0:=blk_frozen BK2.out 0;have hfz65_1:=blk_frozen BK2.out 1;have hfz65_2:=blk_frozen BK2.out 2;have hfz65_3:=blk_frozen BK2.out 3;have hcz66_0 : w63.cell? ⟨gb3,0,none⟩ = some (.bool false):=(blk_cell BK3.out 0).trans rfl;have hcz66_1 : w63.cell? ⟨gb3,1,none⟩ = some (.int .i64 0):=(blk_cell BK3.out 1).trans rfl;have hcz66_2 : w63.cell? ⟨gb3,2,none⟩ = some (.int .i64 0):=(blk_cell BK3.out 2).trans rfl;have hfz66_0:=blk_frozen BK3.out 0;have hfz66_1:=blk_frozen BK3.out 1;have hfz66_2:=blk_frozen BK3.out 2))
    refine bodyPost_ret (results_ct rfl _ _ gb3 63 #[.bool false,.int .i64 0,.int .i64 0] (0,0) _ rfl (by (with_reducible repeat (first | refine blk_drewN ?_ _ | refine blk_drew ?_ | refine blk_alloc ?_ _));refine blk_put (cs:=#[.bool false,.int .i64 0,.int .i64 0]) ?_ 2 _ rfl;(with_reducible repeat (first | refine blk_drewN ?_ _ | refine blk_drew ?_ | refine blk_alloc ?_ _));refine blk_put (cs:=#[.bool false,.int .i64 0,.int .i64 0]) ?_ 1 _ rfl;(with_reducible repeat (first | refine blk_drewN ?_ _ | refine blk_drew ?_ | refine blk_alloc ?_ _));refine blk_put (cs:=#[.bool false,.int .i64 0,.int .i64 0]) ?_ 0 _ rfl;(with_reducible repeat (first | refine blk_drewN ?_ _ | refine blk_drew ?_ | refine blk_alloc ?_ _));exact BK3.out) Try.underlying63 rfl (by kernel_rfl)) rfl ?_
    exact ⟨by first | rfl | (simp [errW_none,errW_some] <;> rfl) | (simp [*,errW_none,errW_some] <;> rfl),hb_⟩
 ·replace c4:=Bool.eq_false_iff.mpr c4
  subst c4
  have H1 : (some (false,0,0,false)) = some (r1,r2,r3,r4):=by rw [if_neg (show ¬ (false = true) by decide)] at H;exact H
  clear H
  have H:=H1
  clear H1
  simp only [Option.some.injEq,Prod.mk.injEq] at H
  obtain ⟨rfl,rfl,rfl,rfl⟩:=H
  go_enter Try.func49,Try.ntmps49
  go_wp2_with (first | ((with_reducible refine gate_dst (N:=2) rfl ?_);(try (refine gate_guard (by rfl) ?_;dsimp only));refine box_event ?hg (N:=2) ?hd (cs:=#[.slice A0_0 l0_0.length c0_0]) (t:=33) ?hr ?_;(case hd=>rfl);(case hg=>rfl);(case hr=>first | (go_simp;done) | (go_simp;rfl));intro gb1 hg w67 hbox hb;have BK1:=a0_ (hbox);have GW1:=a0_ ((by rw [hg];exact (below_size hb_) : w.heap.size ≤ gb1));have GE1:=a0_ ((by rw [hg];exact (below_size hb_) : w.heap.size ≤ gb1));replace HB:=a0_ (below_step hb_ hb);clear hb hbox hg) | ((with_reducible refine gate_dst (N:=3) rfl ?_);(try (refine gate_guard (by rfl) ?_;dsimp only));refine box_event ?hg (N:=3) ?hd (cs:=#[.slice A1_0 l1_0.length c1_0,.int .i64 a1_1,.int .i64 a1_2,.slice A1_3 l1_3.length c1_3]) (t:=67) ?hr ?_;(case hd=>rfl);(case hg=>rfl);(case hr=>first | (go_simp;done) | (go_simp;rfl));intro gb2 hg w68 hbox hb;have n0_:=kb_ BK1 hb;have n1_:=a0_ (below_step hb_ hb);have n2_:=a0_ (hbox);have n3_:=a0_ ((by rw [hg];exact (below_size hb_) : w.heap.size ≤ gb2));have n4_:=a0_ ((by rw [hg];exact (below_size hb_) : w.heap.size ≤ gb2));have n5_:=a0_ ((by rw [hg];exact Nat.ne_of_lt (blk_lt (bb_ BK1.out)) : gb1 ≠ gb2));have n6_:=a0_ ((by rw [hg];exact Nat.ne_of_gt (blk_lt (bb_ BK1.out)) : gb2 ≠ gb1));clear BK1 HB;have BK1:=n0_;have HB:=n1_;have BK2:=n2_;have GW2:=n3_;have GE2:=n4_;have NB1_2:=n5_;have NB2_1:=n6_;clear n0_ n1_ n2_ n3_ n4_ n5_ n6_;clear hb hbox hg) | ((with_reducible refine gate_dst (N:=4) rfl ?_);(try (refine gate_guard (by rfl) ?_;dsimp only));refine box_event ?hg (N:=4) ?hd (cs:=#[.bool false,.int .i64 0,.int .i64 0]) (t:=63) ?hr ?_;(case hd=>rfl);(case hg=>rfl);(case hr=>first | (go_simp;done) | (go_simp;rfl));intro gb3 hg w69 hbox hb;have n0_:=kb_ BK1 hb;have n1_:=kb_ BK2 hb;have n2_:=a0_ (below_step hb_ hb);have n3_:=a0_ (hbox);have n4_:=a0_ ((by rw [hg];exact (below_size hb_) : w.heap.size ≤ gb3));have n5_:=a0_ ((by rw [hg];exact (below_size hb_) : w.heap.size ≤ gb3));have n6_:=a0_ ((by rw [hg];exact Nat.ne_of_lt (blk_lt (bb_ BK1.out)) : gb1 ≠ gb3));have n7_:=a0_ ((by rw [hg];exact Nat.ne_of_gt (blk_lt (bb_ BK1.out)) : gb3 ≠ gb1));have n8_:=a0_ ((by rw [hg];exact Nat.ne_of_lt (blk_lt (bb_ BK2.out)) : gb2 ≠ gb3));have n9_:=a0_ ((by rw [hg];exact Nat.ne_of_gt (blk_lt (bb_ BK2.out)) : gb3 ≠ gb2));clear BK1 BK2 HB;have BK1:=n0_;have BK2:=n1_;have HB:=n2_;have BK3:=n3_;have GW3:=n4_;have GE3:=n5_;have NB1_3:=n6_;have NB3_1:=n7_;have NB2_3:=n8_;have NB3_2:=n9_;clear n0_ n1_ n2_ n3_ n4_ n5_ n6_ n7_ n8_ n9_;clear hb hbox hg;have hnb70:=NB1_2.out;have hnc70:=NB2_1.out;have hnb71:=NB1_3.out;have hnc71:=NB3_1.out;have hcz72_0 : w69.cell? ⟨gb1,0,none⟩ = some (.slice A0_0 l0_0.length c0_0):=(blk_cell BK1.out 0).trans rfl;have hfz72_0:=blk_frozen BK1.out 0) | ((with_reducible refine gate_callee (f:=62) rfl ?_);refine goesL_ (some 9) rfl rfl Try.func62 (by kernel_rfl) rfl #[.agg #[.slice A0_0 l0_0.length c0_0]] rfl lm_ ?_;(with_reducible refine (impl_ValidTree.calls _ _ l0_0 false _ ?side1 ?side2 A3.out).mono ?_);(case side1=>exact cc_ (Kd.C_below HR0_0.out HB.out));(case side2=>exact HC0_0.out);rintro e w73 ⟨rfl,hb⟩;refine ⟨_,rfl,?_⟩;replace BK1:=kb_ BK1 hb;replace BK2:=kb_ BK2 hb;replace BK3:=kb_ BK3 hb;replace HB:=a0_ (below_step hb_ hb);(try clear hb);have hnb74:=NB3_2.out;have hnc74:=NB2_3.out;have hcz75_0 : w73.cell? ⟨gb3,0,none⟩ = some (.bool false):=(blk_cell BK3.out 0).trans rfl;have hcz75_1 : w73.cell? ⟨gb3,1,none⟩ = some (.int .i64 0):=(blk_cell BK3.out 1).trans rfl;have hcz75_2 : w73.cell? ⟨gb3,2,none⟩ = some (.int .i64 0):=(blk_cell BK3.out 2).trans rfl;have hfz75_0:=blk_frozen BK3.out 0;have hfz75_1:=blk_frozen BK3.out 1;have hfz75_2:=blk_frozen BK3.out 2))
  refine bodyPost_ret (results_ct rfl _ _ gb3 63 #[.bool false,.int .i64 0,.int .i64 0] (0,0) _ rfl (by (with_reducible repeat (first | refine blk_drewN ?_ _ | refine blk_drew ?_ | refine blk_alloc ?_ _));refine blk_put (cs:=#[.bool false,.int .i64 0,.int .i64 0]) ?_ 2 _ rfl;(with_reducible repeat (first | refine blk_drewN ?_ _ | refine blk_drew ?_ | refine blk_alloc ?_ _));refine blk_put (cs:=#[.bool false,.int .i64 0,.int .i64 0]) ?_ 1 _ rfl;(with_reducible repeat (first | refine blk_drewN ?_ _ | refine blk_drew ?_ | refine blk_alloc ?_ _));refine blk_put (cs:=#[.bool false,.int .i64 0,.int .i64 0]) ?_ 0 _ rfl;(with_reducible repeat (first | refine blk_drewN ?_ _ | refine blk_drew ?_ | refine blk_alloc ?_ _));exact BK3.out) Try.underlying63 rfl (by kernel_rfl)) rfl ?_
  exact ⟨by first | rfl | (simp [errW_none,errW_some] <;> rfl) | (simp [*,errW_none,errW_some] <;> rfl),hb_⟩
theorem impl_StartOf_ev (t : List Cls) (l : List Int) (e v : Int) (h : List Fau) (hs : smT t = true) (hl : h.length ≤ 2097152) : impl_StartOf.f t l e v h = some (staP t e v h):=by
 unfold impl_StartOf.f
 rw [show impl_ValidTree.f t = some (vT t) by rw [impl_ValidTree.f,if_pos hs],Option.bind_some]
 unfold staP
 cases hv : vT t with
 | false=>simp
 | true =>
  rw [if_pos rfl,if_pos rfl]
  by_cases h0 : e = 0
  ·rw [if_pos h0,if_pos h0]
  ·rw [if_neg h0,if_neg h0]
   by_cases h2 : e = 2
   ·rw [if_pos h2,impl_faultsIn_ev t h v hs hl,Option.bind_some]
    cases hq : (vH t h && hasF h v) with
    | false=>simp
    | true =>
     obtain ⟨_,g0,g1⟩:=good_parts hq
     have hrd : rd_T79 h v = fauAt h v:=by simp [rd_T79,fauAt]
     rw [if_pos rfl,if_pos g0,if_pos g1,if_pos ⟨h2,rfl⟩,hrd]
   ·rw [if_neg h2,if_neg (fun h=>h2 h.1)]
end Go.Proofs.Ytfhcfhffmblacaa.P
namespace Go.Proofs.Ytfhcfhffmblacaa.P
open Go.RowKit Go.Proofs.YtfhcfhffmblacaaW.PrintWords Go.Proofs.YtfhcfhffmblacaaW.PrintLast Go.Proofs.YtfhcfhffmblacaaW.PrintMore
attribute [local go_sem] max2_int min2_int max_two min_two max_three min_three max_four min_four
set_option linter.unusedVariables false
set_option linter.unusedSimpArgs false
def laws_eqStart.f (a0_0 : Bool) (a0_1 : Int) (a0_2 : Int) (a1_0 : Bool) (a1_1 : Int) (a1_2 : Int) : Option (Bool):=if (a0_0 != a1_0) = true then (some false) else (if a0_1 = a1_1 then (if a0_2 = a1_2 then (some true) else (some false)) else (some false))
set_option maxHeartbeats 8000000 in
set_option maxRecDepth 100000 in
theorem laws_eqStart.calls (a0_0 : Bool) (a0_1 : Int) (a0_2 : Int) (a1_0 : Bool) (a1_1 : Int) (a1_2 : Int) (r : Bool) (w : World) (h : laws_eqStart.f a0_0 a0_1 a0_2 a1_0 a1_1 a1_2 = some r) :
  Calls Try.prog 50 #[.agg #[.bool a0_0,.int .i64 a0_1,.int .i64 a0_2],.agg #[.bool a1_0,.int .i64 a1_1,.int .i64 a1_2]] w fun e w'=>e = .returned (.bool r) ∧ Below w.heap.size w w':=by
 have hu63:=Try.underlying63
 have HB:=a0_ (Below.refl w.heap.size w)
 have H : (if (a0_0 != a1_0) = true then (some false) else (if a0_1 = a1_1 then (if a0_2 = a1_2 then (some true) else (some false)) else (some false))) = some r:=h
 clear h
 by_cases c3 : (a0_0 != a1_0) = true
 ·rw [if_pos c3] at H
  have c3b0 : (a0_0 != a1_0) = true:=c3
  (try (have c3b1 : decide (a0_0 = a1_0) = false:=by simpa using c3))
  (try (have c3b2 : (a0_0 == a1_0) = false:=by simpa using c3))
  (try (have c3b3 : ¬ (a0_0 = a1_0):=by simpa using c3))
  clear c3
  obtain rfl:=Option.some.inj H
  go_enter Try.func50,Try.ntmps50
  go_wp2_with (first | ((with_reducible refine gate_dst (N:=2) rfl ?_);refine box_event ?hg (N:=2) ?hd (cs:=#[.bool a0_0,.int .i64 a0_1,.int .i64 a0_2]) (t:=63) ?hr ?_;(case hd=>rfl);(case hg=>rfl);(case hr=>first | (go_simp;done) | (go_simp;rfl));intro gb1 hg w4 hbox hb;have BK1:=a0_ (hbox);have GW1:=a0_ ((by rw [hg];exact (below_size hb_) : w.heap.size ≤ gb1));have GE1:=a0_ ((by rw [hg];exact (below_size hb_) : w.heap.size ≤ gb1));replace HB:=a0_ (below_step hb_ hb);clear hb hbox hg) | ((with_reducible refine gate_dst (N:=3) rfl ?_);refine box_event ?hg (N:=3) ?hd (cs:=#[.bool a1_0,.int .i64 a1_1,.int .i64 a1_2]) (t:=63) ?hr ?_;(case hd=>rfl);(case hg=>rfl);(case hr=>first | (go_simp;done) | (go_simp;rfl));intro gb2 hg w5 hbox hb;have n0_:=kb_ BK1 hb;have n1_:=a0_ (below_step hb_ hb);have n2_:=a0_ (hbox);have n3_:=a0_ ((by rw [hg];exact (below_size hb_) : w.heap.size ≤ gb2));have n4_:=a0_ ((by rw [hg];exact (below_size hb_) : w.heap.size ≤ gb2));have n5_:=a0_ ((by rw [hg];exact Nat.ne_of_lt (blk_lt (bb_ BK1.out)) : gb1 ≠ gb2));have n6_:=a0_ ((by rw [hg];exact Nat.ne_of_gt (blk_lt (bb_ BK1.out)) : gb2 ≠ gb1));clear BK1 HB;have BK1:=n0_;have HB:=n1_;have BK2:=n2_;have GW2:=n3_;have GE2:=n4_;have NB1_2:=n5_;have NB2_1:=n6_;clear n0_ n1_ n2_ n3_ n4_ n5_ n6_;clear hb hbox hg;have hnb6:=NB1_2.out;have hnc6:=NB2_1.out;have hcz7_0 : w5.cell? ⟨gb1,0,none⟩ = some (.bool a0_0):=(blk_cell BK1.out 0).trans rfl;have hcz7_1 : w5.cell? ⟨gb1,1,none⟩ = some (.int .i64 a0_1):=(blk_cell BK1.out 1).trans rfl;have hcz7_2 : w5.cell? ⟨gb1,2,none⟩ = some (.int .i64 a0_2):=(blk_cell BK1.out 2).trans rfl;have hfz7_0:=blk_frozen BK1.out 0;have hfz7_1:=blk_frozen BK1.out 1;have hfz7_2:=blk_frozen BK1.out 2;have hcz8_0 : w5.cell? ⟨gb2,0,none⟩ = some (.bool a1_0):=(blk_cell BK2.out 0).trans rfl;have hcz8_1 : w5.cell? ⟨gb2,1,none⟩ = some (.int .i64 a1_1):=(blk_cell BK2.out 1).trans rfl;have hcz8_2 : w5.cell? ⟨gb2,2,none⟩ = some (.int .i64 a1_2):=(blk_cell BK2.out 2).trans rfl;have hfz8_0:=blk_frozen BK2.out 0;have hfz8_1:=blk_frozen BK2.out 1;have hfz8_2:=blk_frozen BK2.out 2))
  go_ret
  exact ⟨by first | rfl | (simp [errW_none,errW_some] <;> rfl) | (simp [*,errW_none,errW_some] <;> rfl),hb_⟩
 ·rw [if_neg c3] at H
  have c3b0 : (a0_0 != a1_0) = false:=by simpa using c3
  (try (have c3b1 : decide (a0_0 = a1_0) = true:=by simpa using c3))
  (try (have c3b2 : (a0_0 == a1_0) = true:=by simpa using c3))
  clear c3
  by_cases c9 : a0_1 = a1_1
  ·rw [if_pos c9] at H
   have c9b0 : (a0_1 == a1_1) = true:=beq_iff_eq.mpr c9
   have c9b1 : (a0_1 != a1_1) = false:=bne_eq_false_iff_eq.mpr c9
   clear c9
   by_cases c10 : a0_2 = a1_2
   ·rw [if_pos c10] at H
    have c10b0 : (a0_2 == a1_2) = true:=beq_iff_eq.mpr c10
    have c10b1 : (a0_2 != a1_2) = false:=bne_eq_false_iff_eq.mpr c10
    clear c10
    obtain rfl:=Option.some.inj H
    go_enter Try.func50,Try.ntmps50
    go_wp2_with (first | ((with_reducible refine gate_dst (N:=2) rfl ?_);refine box_event ?hg (N:=2) ?hd (cs:=#[.bool a0_0,.int .i64 a0_1,.int .i64 a0_2]) (t:=63) ?hr ?_;(case hd=>rfl);(case hg=>rfl);(case hr=>first | (go_simp;done) | (go_simp;rfl));intro gb1 hg w11 hbox hb;have BK1:=a0_ (hbox);have GW1:=a0_ ((by rw [hg];exact (below_size hb_) : w.heap.size ≤ gb1));have GE1:=a0_ ((by rw [hg];exact (below_size hb_) : w.heap.size ≤ gb1));replace HB:=a0_ (below_step hb_ hb);clear hb hbox hg) | ((with_reducible refine gate_dst (N:=3) rfl ?_);refine box_event ?hg (N:=3) ?hd (cs:=#[.bool a1_0,.int .i64 a1_1,.int .i64 a1_2]) (t:=63) ?hr ?_;(case hd=>rfl);(case hg=>rfl);(case hr=>first | (go_simp;done) | (go_simp;rfl));intro gb2 hg w12 hbox hb;have n0_:=kb_ BK1 hb;have n1_:=a0_ (below_step hb_ hb);have n2_:=a0_ (hbox);have n3_:=a0_ ((by rw [hg];exact (below_size hb_) : w.heap.size ≤ gb2));have n4_:=a0_ ((by rw [hg];exact (below_size hb_) : w.heap.size ≤ gb2));have n5_:=a0_ ((by rw [hg];exact Nat.ne_of_lt (blk_lt (bb_ BK1.out)) : gb1 ≠ gb2));have n6_:=a0_ ((by rw [hg];exact Nat.ne_of_gt (blk_lt (bb_ BK1.out)) : gb2 ≠ gb1));clear BK1 HB;have BK1:=n0_;have HB:=n1_;have BK2:=n2_;have GW2:=n3_;have GE2:=n4_;have NB1_2:=n5_;have NB2_1:=n6_;clear n0_ n1_ n2_ n3_ n4_ n5_ n6_;clear hb hbox hg;have hnb13:=NB1_2.out;have hnc13:=NB2_1.out;have hcz14_0 : w12.cell? ⟨gb1,0,none⟩ = some (.bool a0_0):=(blk_cell BK1.out 0).trans rfl;have hcz14_1 : w12.cell? ⟨gb1,1,none⟩ = some (.int .i64 a0_1):=(blk_cell BK1.out 1).trans rfl;have hcz14_2 : w12.cell? ⟨gb1,2,none⟩ = some (.int .i64 a0_2):=(blk_cell BK1.out 2).trans rfl;have hfz14_0:=blk_frozen BK1.out 0;have hfz14_1:=blk_frozen BK1.out 1;have hfz14_2:=blk_frozen BK1.out 2;have hcz15_0 : w12.cell? ⟨gb2,0,none⟩ = some (.bool a1_0):=(blk_cell BK2.out 0).trans rfl;have hcz15_1 : w12.cell? ⟨gb2,1,none⟩ = some (.int .i64 a1_1):=(blk_cell BK2.out 1).trans rfl;have hcz15_2 : w12.cell? ⟨gb2,2,none⟩ = some (.int .i64 a1_2):=(blk_cell BK2.out 2).trans rfl;have hfz15_0:=blk_frozen BK2.out 0;have hfz15_1:=blk_frozen BK2.out 1;have hfz15_2:=blk_frozen BK2.out 2))
    go_ret
    exact ⟨by first | rfl | (simp [errW_none,errW_some] <;> rfl) | (simp [*,errW_none,errW_some] <;> rfl),hb_⟩
   ·rw [if_neg c10] at H
    have c10b0 : (a0_2 == a1_2) = false:=beq_eq_false_iff_ne.mpr c10
    have c10b1 : (a0_2 != a1_2) = true:=bne_iff_ne.mpr c10
    obtain rfl:=Option.some.inj H
    go_enter Try.func50,Try.ntmps50
    go_wp2_with (first | ((with_reducible refine gate_dst (N:=2) rfl ?_);refine box_event ?hg (N:=2) ?hd (cs:=#[.bool a0_0,.int .i64 a0_1,.int .i64 a0_2]) (t:=63) ?hr ?_;(case hd=>rfl);(case hg=>rfl);(case hr=>first | (go_simp;done) | (go_simp;rfl));intro gb1 hg w16 hbox hb;have BK1:=a0_ (hbox);have GW1:=a0_ ((by rw [hg];exact (below_size hb_) : w.heap.size ≤ gb1));have GE1:=a0_ ((by rw [hg];exact (below_size hb_) : w.heap.size ≤ gb1));replace HB:=a0_ (below_step hb_ hb);clear hb hbox hg) | ((with_reducible refine gate_dst (N:=3) rfl ?_);refine box_event ?hg (N:=3) ?hd (cs:=#[.bool a1_0,.int .i64 a1_1,.int .i64 a1_2]) (t:=63) ?hr ?_;(case hd=>rfl);(case hg=>rfl);(case hr=>first | (go_simp;done) | (go_simp;rfl));intro gb2 hg w17 hbox hb;have n0_:=kb_ BK1 hb;have n1_:=a0_ (below_step hb_ hb);have n2_:=a0_ (hbox);have n3_:=a0_ ((by rw [hg];exact (below_size hb_) : w.heap.size ≤ gb2));have n4_:=a0_ ((by rw [hg];exact (below_size hb_) : w.heap.size ≤ gb2));have n5_:=a0_ ((by rw [hg];exact Nat.ne_of_lt (blk_lt (bb_ BK1.out)) : gb1 ≠ gb2));have n6_:=a0_ ((by rw [hg];exact Nat.ne_of_gt (blk_lt (bb_ BK1.out)) : gb2 ≠ gb1));clear BK1 HB;have BK1:=n0_;have HB:=n1_;have BK2:=n2_;have GW2:=n3_;have GE2:=n4_;have NB1_2:=n5_;have NB2_1:=n6_;clear n0_ n1_ n2_ n3_ n4_ n5_ n6_;clear hb hbox hg;have hnb18:=NB1_2.out;have hnc18:=NB2_1.out;have hcz19_0 : w17.cell? ⟨gb1,0,none⟩ = some (.bool a0_0):=(blk_cell BK1.out 0).trans rfl;have hcz19_1 : w17.cell? ⟨gb1,1,none⟩ = some (.int .i64 a0_1):=(blk_cell BK1.out 1).trans rfl;have hcz19_2 : w17.cell? ⟨gb1,2,none⟩ = some (.int .i64 a0_2):=(blk_cell BK1.out 2).trans rfl;have hfz19_0:=blk_frozen BK1.out 0;have hfz19_1:=blk_frozen BK1.out 1;have hfz19_2:=blk_frozen BK1.out 2;have hcz20_0 : w17.cell? ⟨gb2,0,none⟩ = some (.bool a1_0):=(blk_cell BK2.out 0).trans rfl;have hcz20_1 : w17.cell? ⟨gb2,1,none⟩ = some (.int .i64 a1_1):=(blk_cell BK2.out 1).trans rfl;have hcz20_2 : w17.cell? ⟨gb2,2,none⟩ = some (.int .i64 a1_2):=(blk_cell BK2.out 2).trans rfl;have hfz20_0:=blk_frozen BK2.out 0;have hfz20_1:=blk_frozen BK2.out 1;have hfz20_2:=blk_frozen BK2.out 2))
    go_ret
    exact ⟨by first | rfl | (simp [errW_none,errW_some] <;> rfl) | (simp [*,errW_none,errW_some] <;> rfl),hb_⟩
  ·rw [if_neg c9] at H
   have c9b0 : (a0_1 == a1_1) = false:=beq_eq_false_iff_ne.mpr c9
   have c9b1 : (a0_1 != a1_1) = true:=bne_iff_ne.mpr c9
   obtain rfl:=Option.some.inj H
   go_enter Try.func50,Try.ntmps50
   go_wp2_with (first | ((with_reducible refine gate_dst (N:=2) rfl ?_);refine box_event ?hg (N:=2) ?hd (cs:=#[.bool a0_0,.int .i64 a0_1,.int .i64 a0_2]) (t:=63) ?hr ?_;(case hd=>rfl);(case hg=>rfl);(case hr=>first | (go_simp;done) | (go_simp;rfl));intro gb1 hg w21 hbox hb;have BK1:=a0_ (hbox);have GW1:=a0_ ((by rw [hg];exact (below_size hb_) : w.heap.size ≤ gb1));have GE1:=a0_ ((by rw [hg];exact (below_size hb_) : w.heap.size ≤ gb1));replace HB:=a0_ (below_step hb_ hb);clear hb hbox hg) | ((with_reducible refine gate_dst (N:=3) rfl ?_);refine box_event ?hg (N:=3) ?hd (cs:=#[.bool a1_0,.int .i64 a1_1,.int .i64 a1_2]) (t:=63) ?hr ?_;(case hd=>rfl);(case hg=>rfl);(case hr=>first | (go_simp;done) | (go_simp;rfl));intro gb2 hg w22 hbox hb;have n0_:=kb_ BK1 hb;have n1_:=a0_ (below_step hb_ hb);have n2_:=a0_ (hbox);have n3_:=a0_ ((by rw [hg];exact (below_size hb_) : w.heap.size ≤ gb2));have n4_:=a0_ ((by rw [hg];exact (below_size hb_) : w.heap.size ≤ gb2));have n5_:=a0_ ((by rw [hg];exact Nat.ne_of_lt (blk_lt (bb_ BK1.out)) : gb1 ≠ gb2));have n6_:=a0_ ((by rw [hg];exact Nat.ne_of_gt (blk_lt (bb_ BK1.out)) : gb2 ≠ gb1));clear BK1 HB;have BK1:=n0_;have HB:=n1_;have BK2:=n2_;have GW2:=n3_;have GE2:=n4_;have NB1_2:=n5_;have NB2_1:=n6_;clear n0_ n1_ n2_ n3_ n4_ n5_ n6_;clear hb hbox hg;have hnb23:=NB1_2.out;have hnc23:=NB2_1.out;have hcz24_0 : w22.cell? ⟨gb1,0,none⟩ = some (.bool a0_0):=(blk_cell BK1.out 0).trans rfl;have hcz24_1 : w22.cell? ⟨gb1,1,none⟩ = some (.int .i64 a0_1):=(blk_cell BK1.out 1).trans rfl;have hcz24_2 : w22.cell? ⟨gb1,2,none⟩ = some (.int .i64 a0_2):=(blk_cell BK1.out 2).trans rfl;have hfz24_0:=blk_frozen BK1.out 0;have hfz24_1:=blk_frozen BK1.out 1;have hfz24_2:=blk_frozen BK1.out 2;have hcz25_0 : w22.cell? ⟨gb2,0,none⟩ = some (.bool a1_0):=(blk_cell BK2.out 0).trans rfl;have hcz25_1 : w22.cell? ⟨gb2,1,none⟩ = some (.int .i64 a1_1):=(blk_cell BK2.out 1).trans rfl;have hcz25_2 : w22.cell? ⟨gb2,2,none⟩ = some (.int .i64 a1_2):=(blk_cell BK2.out 2).trans rfl;have hfz25_0:=blk_frozen BK2.out 0;have hfz25_1:=blk_frozen BK2.out 1;have hfz25_2:=blk_frozen BK2.out 2))
   go_ret
   exact ⟨by first | rfl | (simp [errW_none,errW_some] <;> rfl) | (simp [*,errW_none,errW_some] <;> rfl),hb_⟩
end Go.Proofs.Ytfhcfhffmblacaa.P
namespace Go.Proofs.Ytfhcfhffmblacaa.P
open Go.RowKit Go.Proofs.YtfhcfhffmblacaaW.PrintWords Go.Proofs.YtfhcfhffmblacaaW.PrintLast Go.Proofs.YtfhcfhffmblacaaW.PrintMore
attribute [local go_sem] max2_int min2_int max_two min_two max_three min_three max_four min_four
set_option linter.unusedVariables false
set_option linter.unusedSimpArgs false
def laws_eqFault.f (a0_0 : Int) (a0_1 : Int) (a0_2 : Int) (a0_3 : Int) (a0_4 : Bool) (a1_0 : Int) (a1_1 : Int) (a1_2 : Int) (a1_3 : Int) (a1_4 : Bool) : Option (Bool):=if a0_0 = a1_0 then (if a0_1 = a1_1 then (if a0_2 = a1_2 then (if a0_3 = a1_3 then (if (a0_4 != a1_4) = true then (some false) else (some true)) else (some false)) else (some false)) else (some false)) else (some false)
set_option maxHeartbeats 8000000 in
set_option maxRecDepth 100000 in
theorem laws_eqFault.calls (a0_0 : Int) (a0_1 : Int) (a0_2 : Int) (a0_3 : Int) (a0_4 : Bool) (a1_0 : Int) (a1_1 : Int) (a1_2 : Int) (a1_3 : Int) (a1_4 : Bool) (r : Bool) (w : World) (h : laws_eqFault.f a0_0 a0_1 a0_2 a0_3 a0_4 a1_0 a1_1 a1_2 a1_3 a1_4 = some r) :
  Calls Try.prog 98 #[.agg #[.int .i64 a0_0,.int .i64 a0_1,.int .i64 a0_2,.int .i64 a0_3,.bool a0_4],.agg #[.int .i64 a1_0,.int .i64 a1_1,.int .i64 a1_2,.int .i64 a1_3,.bool a1_4]] w fun e w'=>e = .returned (.bool r) ∧ Below w.heap.size w w':=by
 have hu79:=Try.underlying79
 have HB:=a0_ (Below.refl w.heap.size w)
 have H : (if a0_0 = a1_0 then (if a0_1 = a1_1 then (if a0_2 = a1_2 then (if a0_3 = a1_3 then (if (a0_4 != a1_4) = true then (some false) else (some true)) else (some false)) else (some false)) else (some false)) else (some false)) = some r:=h
 clear h
 by_cases c3 : a0_0 = a1_0
 ·rw [if_pos c3] at H
  have c3b0 : (a0_0 == a1_0) = true:=beq_iff_eq.mpr c3
  have c3b1 : (a0_0 != a1_0) = false:=bne_eq_false_iff_eq.mpr c3
  clear c3
  by_cases c4 : a0_1 = a1_1
  ·rw [if_pos c4] at H
   have c4b0 : (a0_1 == a1_1) = true:=beq_iff_eq.mpr c4
   have c4b1 : (a0_1 != a1_1) = false:=bne_eq_false_iff_eq.mpr c4
   clear c4
   by_cases c5 : a0_2 = a1_2
   ·rw [if_pos c5] at H
    have c5b0 : (a0_2 == a1_2) = true:=beq_iff_eq.mpr c5
    have c5b1 : (a0_2 != a1_2) = false:=bne_eq_false_iff_eq.mpr c5
    clear c5
    by_cases c6 : a0_3 = a1_3
    ·rw [if_pos c6] at H
     have c6b0 : (a0_3 == a1_3) = true:=beq_iff_eq.mpr c6
     have c6b1 : (a0_3 != a1_3) = false:=bne_eq_false_iff_eq.mpr c6
     clear c6
     by_cases c7 : (a0_4 != a1_4) = true
     ·rw [if_pos c7] at H
      have c7b0 : (a0_4 != a1_4) = true:=c7
      (try (have c7b1 : decide (a0_4 = a1_4) = false:=by simpa using c7))
      (try (have c7b2 : (a0_4 == a1_4) = false:=by simpa using c7))
      (try (have c7b3 : ¬ (a0_4 = a1_4):=by simpa using c7))
      clear c7
      obtain rfl:=Option.some.inj H
      go_enter Try.func98,Try.ntmps98
      go_wp2_with (first | ((with_reducible refine gate_dst (N:=2) rfl ?_);refine box_event ?hg (N:=2) ?hd (cs:=#[.int .i64 a0_0,.int .i64 a0_1,.int .i64 a0_2,.int .i64 a0_3,.bool a0_4]) (t:=79) ?hr ?_;(case hd=>rfl);(case hg=>rfl);(case hr=>first | (go_simp;done) | (go_simp;rfl));intro gb1 hg w8 hbox hb;have BK1:=a0_ (hbox);have GW1:=a0_ ((by rw [hg];exact (below_size hb_) : w.heap.size ≤ gb1));have GE1:=a0_ ((by rw [hg];exact (below_size hb_) : w.heap.size ≤ gb1));replace HB:=a0_ (below_step hb_ hb);clear hb hbox hg) | ((with_reducible refine gate_dst (N:=3) rfl ?_);refine box_event ?hg (N:=3) ?hd (cs:=#[.int .i64 a1_0,.int .i64 a1_1,.int .i64 a1_2,.int .i64 a1_3,.bool a1_4]) (t:=79) ?hr ?_;(case hd=>rfl);(case hg=>rfl);(case hr=>first | (go_simp;done) | (go_simp;rfl));intro gb2 hg w9 hbox hb;have n0_:=kb_ BK1 hb;have n1_:=a0_ (below_step hb_ hb);have n2_:=a0_ (hbox);have n3_:=a0_ ((by rw [hg];exact (below_size hb_) : w.heap.size ≤ gb2));have n4_:=a0_ ((by rw [hg];exact (below_size hb_) : w.heap.size ≤ gb2));have n5_:=a0_ ((by rw [hg];exact Nat.ne_of_lt (blk_lt (bb_ BK1.out)) : gb1 ≠ gb2));have n6_:=a0_ ((by rw [hg];exact Nat.ne_of_gt (blk_lt (bb_ BK1.out)) : gb2 ≠ gb1));clear BK1 HB;have BK1:=n0_;have HB:=n1_;have BK2:=n2_;have GW2:=n3_;have GE2:=n4_;have NB1_2:=n5_;have NB2_1:=n6_;clear n0_ n1_ n2_ n3_ n4_ n5_ n6_;clear hb hbox hg;have hnb10:=NB1_2.out;have hnc10:=NB2_1.out;have hcz11_0 : w9.cell? ⟨gb1,0,none⟩ = some (.int .i64 a0_0):=(blk_cell BK1.out 0).trans rfl;have hcz11_1 : w9.cell? ⟨gb1,1,none⟩ = some (.int .i64 a0_1):=(blk_cell BK1.out 1).trans rfl;have hcz11_2 : w9.cell? ⟨gb1,2,none⟩ = some (.int .i64 a0_2):=(blk_cell BK1.out 2).trans rfl;have hcz11_3 : w9.cell? ⟨gb1,3,none⟩ = some (.int .i64 a0_3):=(blk_cell BK1.out 3).trans rfl;have hcz11_4 : w9.cell? ⟨gb1,4,none⟩ = some (.bool a0_4):=(blk_cell BK1.out 4).trans rfl;have hfz11_0:=blk_frozen BK1.out 0;have hfz11_1:=blk_frozen BK1.out 1;have hfz11_2:=blk_frozen BK1.out 2;have hfz11_3:=blk_frozen BK1.out 3;have hfz11_4:=blk_frozen BK1.out 4;have hcz12_0 : w9.cell? ⟨gb2,0,none⟩ = some (.int .i64 a1_0):=(blk_cell BK2.out 0).trans rfl;have hcz12_1 : w9.cell? ⟨gb2,1,none⟩ = some (.int .i64 a1_1):=(blk_cell BK2.out 1).trans rfl;have hcz12_2 : w9.cell? ⟨gb2,2,none⟩ = some (.int .i64 a1_2):=(blk_cell BK2.out 2).trans rfl;have hcz12_3 : w9.cell? ⟨gb2,3,none⟩ = some (.int .i64 a1_3):=(blk_cell BK2.out 3).trans rfl;have hcz12_4 : w9.cell? ⟨gb2,4,none⟩ = some (.bool a1_4):=(blk_cell BK2.out 4).trans rfl;have hfz12_0:=blk_frozen BK2.out 0;have hfz12_1:=blk_frozen BK2.out 1;have hfz12_2:=blk_frozen BK2.out 2;have hfz12_3:=blk_frozen BK2.out 3;have hfz12_4:=blk_frozen BK2.out 4))
      go_ret
      exact ⟨by first | rfl | (simp [errW_none,errW_some] <;> rfl) | (simp [*,errW_none,errW_some] <;> rfl),hb_⟩
     ·rw [if_neg c7] at H
      have c7b0 : (a0_4 != a1_4) = false:=by simpa using c7
      (try (have c7b1 : decide (a0_4 = a1_4) = true:=by simpa using c7))
      (try (have c7b2 : (a0_4 == a1_4) = true:=by simpa using c7))
      clear c7
      obtain rfl:=Option.some.inj H
      go_enter Try.func98,Try.ntmps98
      go_wp2_with (first | ((with_reducible refine gate_dst (N:=2) rfl ?_);refine box_event ?hg (N:=2) ?hd (cs:=#[.int .i64 a0_0,.int .i64 a0_1,.int .i64 a0_2,.int .i64 a0_3,.bool a0_4]) (t:=79) ?hr ?_;(case hd=>rfl);(case hg=>rfl);(case hr=>first | (go_simp;done) | (go_simp;rfl));intro gb1 hg w13 hbox hb;have BK1:=a0_ (hbox);have GW1:=a0_ ((by rw [hg];exact (below_size hb_) : w.heap.size ≤ gb1));have GE1:=a0_ ((by rw [hg];exact (below_size hb_) : w.heap.size ≤ gb1));replace HB:=a0_ (below_step hb_ hb);clear hb hbox hg) | ((with_reducible refine gate_dst (N:=3) rfl ?_);refine box_event ?hg (N:=3) ?hd (cs:=#[.int .i64 a1_0,.int .i64 a1_1,.int .i64 a1_2,.int .i64 a1_3,.bool a1_4]) (t:=79) ?hr ?_;(case hd=>rfl);(case hg=>rfl);(case hr=>first | (go_simp;done) | (go_simp;rfl));intro gb2 hg w14 hbox hb;have n0_:=kb_ BK1 hb;have n1_:=a0_ (below_step hb_ hb);have n2_:=a0_ (hbox);have n3_:=a0_ ((by rw [hg];exact (below_size hb_) : w.heap.size ≤ gb2));have n4_:=a0_ ((by rw [hg];exact (below_size hb_) : w.heap.size ≤ gb2));have n5_:=a0_ ((by rw [hg];exact Nat.ne_of_lt (blk_lt (bb_ BK1.out)) : gb1 ≠ gb2));have n6_:=a0_ ((by rw [hg];exact Nat.ne_of_gt (blk_lt (bb_ BK1.out)) : gb2 ≠ gb1));clear BK1 HB;have BK1:=n0_;have HB:=n1_;have BK2:=n2_;have GW2:=n3_;have GE2:=n4_;have NB1_2:=n5_;have NB2_1:=n6_;clear n0_ n1_ n2_ n3_ n4_ n5_ n6_;clear hb hbox hg;have hnb15:=NB1_2.out;have hnc15:=NB2_1.out;have hcz16_0 : w14.cell? ⟨gb1,0,none⟩ = some (.int .i64 a0_0):=(blk_cell BK1.out 0).trans rfl;have hcz16_1 : w14.cell? ⟨gb1,1,none⟩ = some (.int .i64 a0_1):=(blk_cell BK1.out 1).trans rfl;have hcz16_2 : w14.cell? ⟨gb1,2,none⟩ = some (.int .i64 a0_2):=(blk_cell BK1.out 2).trans rfl;have hcz16_3 : w14.cell? ⟨gb1,3,none⟩ = some (.int .i64 a0_3):=(blk_cell BK1.out 3).trans rfl;have hcz16_4 : w14.cell? ⟨gb1,4,none⟩ = some (.bool a0_4):=(blk_cell BK1.out 4).trans rfl;have hfz16_0:=blk_frozen BK1.out 0;have hfz16_1:=blk_frozen BK1.out 1;have hfz16_2:=blk_frozen BK1.out 2;have hfz16_3:=blk_frozen BK1.out 3;have hfz16_4:=blk_frozen BK1.out 4;have hcz17_0 : w14.cell? ⟨gb2,0,none⟩ = some (.int .i64 a1_0):=(blk_cell BK2.out 0).trans rfl;have hcz17_1 : w14.cell? ⟨gb2,1,none⟩ = some (.int .i64 a1_1):=(blk_cell BK2.out 1).trans rfl;have hcz17_2 : w14.cell? ⟨gb2,2,none⟩ = some (.int .i64 a1_2):=(blk_cell BK2.out 2).trans rfl;have hcz17_3 : w14.cell? ⟨gb2,3,none⟩ = some (.int .i64 a1_3):=(blk_cell BK2.out 3).trans rfl;have hcz17_4 : w14.cell? ⟨gb2,4,none⟩ = some (.bool a1_4):=(blk_cell BK2.out 4).trans rfl;have hfz17_0:=blk_frozen BK2.out 0;have hfz17_1:=blk_frozen BK2.out 1;have hfz17_2:=blk_frozen BK2.out 2;have hfz17_3:=blk_frozen BK2.out 3;have hfz17_4:=blk_frozen BK2.out 4))
      go_ret
      exact ⟨by first | rfl | (simp [errW_none,errW_some] <;> rfl) | (simp [*,errW_none,errW_some] <;> rfl),hb_⟩
    ·rw [if_neg c6] at H
     have c6b0 : (a0_3 == a1_3) = false:=beq_eq_false_iff_ne.mpr c6
     have c6b1 : (a0_3 != a1_3) = true:=bne_iff_ne.mpr c6
     obtain rfl:=Option.some.inj H
     go_enter Try.func98,Try.ntmps98
     go_wp2_with (first | ((with_reducible refine gate_dst (N:=2) rfl ?_);refine box_event ?hg (N:=2) ?hd (cs:=#[.int .i64 a0_0,.int .i64 a0_1,.int .i64 a0_2,.int .i64 a0_3,.bool a0_4]) (t:=79) ?hr ?_;(case hd=>rfl);(case hg=>rfl);(case hr=>first | (go_simp;done) | (go_simp;rfl));intro gb1 hg w18 hbox hb;have BK1:=a0_ (hbox);have GW1:=a0_ ((by rw [hg];exact (below_size hb_) : w.heap.size ≤ gb1));have GE1:=a0_ ((by rw [hg];exact (below_size hb_) : w.heap.size ≤ gb1));replace HB:=a0_ (below_step hb_ hb);clear hb hbox hg) | ((with_reducible refine gate_dst (N:=3) rfl ?_);refine box_event ?hg (N:=3) ?hd (cs:=#[.int .i64 a1_0,.int .i64 a1_1,.int .i64 a1_2,.int .i64 a1_3,.bool a1_4]) (t:=79) ?hr ?_;(case hd=>rfl);(case hg=>rfl);(case hr=>first | (go_simp;done) | (go_simp;rfl));intro gb2 hg w19 hbox hb;have n0_:=kb_ BK1 hb;have n1_:=a0_ (below_step hb_ hb);have n2_:=a0_ (hbox);have n3_:=a0_ ((by rw [hg];exact (below_size hb_) : w.heap.size ≤ gb2));have n4_:=a0_ ((by rw [hg];exact (below_size hb_) : w.heap.size ≤ gb2));have n5_:=a0_ ((by rw [hg];exact Nat.ne_of_lt (blk_lt (bb_ BK1.out)) : gb1 ≠ gb2));have n6_:=a0_ ((by rw [hg];exact Nat.ne_of_gt (blk_lt (bb_ BK1.out)) : gb2 ≠ gb1));clear BK1 HB;have BK1:=n0_;have HB:=n1_;have BK2:=n2_;have GW2:=n3_;have GE2:=n4_;have NB1_2:=n5_;have NB2_1:=n6_;clear n0_ n1_ n2_ n3_ n4_ n5_ n6_;clear hb hbox hg;have hnb20:=NB1_2.out;have hnc20:=NB2_1.out;have hcz21_0 : w19.cell? ⟨gb1,0,none⟩ = some (.int .i64 a0_0):=(blk_cell BK1.out 0).trans rfl;have hcz21_1 : w19.cell? ⟨gb1,1,none⟩ = some (.int .i64 a0_1):=(blk_cell BK1.out 1).trans rfl;have hcz21_2 : w19.cell? ⟨gb1,2,none⟩ = some (.int .i64 a0_2):=(blk_cell BK1.out 2).trans rfl;have hcz21_3 : w19.cell? ⟨gb1,3,none⟩ = some (.int .i64 a0_3):=(blk_cell BK1.out 3).trans rfl;have hcz21_4 : w19.cell? ⟨gb1,4,none⟩ = some (.bool a0_4):=(blk_cell BK1.out 4).trans rfl;have hfz21_0:=blk_frozen BK1.out 0;have hfz21_1:=blk_frozen BK1.out 1;have hfz21_2:=blk_frozen BK1.out 2;have hfz21_3:=blk_frozen BK1.out 3;have hfz21_4:=blk_frozen BK1.out 4;have hcz22_0 : w19.cell? ⟨gb2,0,none⟩ = some (.int .i64 a1_0):=(blk_cell BK2.out 0).trans rfl;have hcz22_1 : w19.cell? ⟨gb2,1,none⟩ = some (.int .i64 a1_1):=(blk_cell BK2.out 1).trans rfl;have hcz22_2 : w19.cell? ⟨gb2,2,none⟩ = some (.int .i64 a1_2):=(blk_cell BK2.out 2).trans rfl;have hcz22_3 : w19.cell? ⟨gb2,3,none⟩ = some (.int .i64 a1_3):=(blk_cell BK2.out 3).trans rfl;have hcz22_4 : w19.cell? ⟨gb2,4,none⟩ = some (.bool a1_4):=(blk_cell BK2.out 4).trans rfl;have hfz22_0:=blk_frozen BK2.out 0;have hfz22_1:=blk_frozen BK2.out 1;have hfz22_2:=blk_frozen BK2.out 2;have hfz22_3:=blk_frozen BK2.out 3;have hfz22_4:=blk_frozen BK2.out 4))
     go_ret
     exact ⟨by first | rfl | (simp [errW_none,errW_some] <;> rfl) | (simp [*,errW_none,errW_some] <;> rfl),hb_⟩
   ·rw [if_neg c5] at H
    have c5b0 : (a0_2 == a1_2) = false:=beq_eq_false_iff_ne.mpr c5
    have c5b1 : (a0_2 != a1_2) = true:=bne_iff_ne.mpr c5
    obtain rfl:=Option.some.inj H
    go_enter Try.func98,Try.ntmps98
    go_wp2_with (first | ((with_reducible refine gate_dst (N:=2) rfl ?_);refine box_event ?hg (N:=2) ?hd (cs:=#[.int .i64 a0_0,.int .i64 a0_1,.int .i64 a0_2,.int .i64 a0_3,.bool a0_4]) (t:=79) ?hr ?_;(case hd=>rfl);(case hg=>rfl);(case hr=>first | (go_simp;done) | (go_simp;rfl));intro gb1 hg w23 hbox hb;have BK1:=a0_ (hbox);have GW1:=a0_ ((by rw [hg];exact (below_size hb_) : w.heap.size ≤ gb1));have GE1:=a0_ ((by rw [hg];exact (below_size hb_) : w.heap.size ≤ gb1));replace HB:=a0_ (below_step hb_ hb);clear hb hbox hg) | ((with_reducible refine gate_dst (N:=3) rfl ?_);refine box_event ?hg (N:=3) ?hd (cs:=#[.int .i64 a1_0,.int .i64 a1_1,.int .i64 a1_2,.int .i64 a1_3,.bool a1_4]) (t:=79) ?hr ?_;(case hd=>rfl);(case hg=>rfl);(case hr=>first | (go_simp;done) | (go_simp;rfl));intro gb2 hg w24 hbox hb;have n0_:=kb_ BK1 hb;have n1_:=a0_ (below_step hb_ hb);have n2_:=a0_ (hbox);have n3_:=a0_ ((by rw [hg];exact (below_size hb_) : w.heap.size ≤ gb2));have n4_:=a0_ ((by rw [hg];exact (below_size hb_) : w.heap.size ≤ gb2));have n5_:=a0_ ((by rw [hg];exact Nat.ne_of_lt (blk_lt (bb_ BK1.out)) : gb1 ≠ gb2));have n6_:=a0_ ((by rw [hg];exact Nat.ne_of_gt (blk_lt (bb_ BK1.out)) : gb2 ≠ gb1));clear BK1 HB;have BK1:=n0_;have HB:=n1_;have BK2:=n2_;have GW2:=n3_;have GE2:=n4_;have NB1_2:=n5_;have NB2_1:=n6_;clear n0_ n1_ n2_ n3_ n4_ n5_ n6_;clear hb hbox hg;have hnb25:=NB1_2.out;have hnc25:=NB2_1.out;have hcz26_0 : w24.cell? ⟨gb1,0,none⟩ = some (.int .i64 a0_0):=(blk_cell BK1.out 0).trans rfl;have hcz26_1 : w24.cell? ⟨gb1,1,none⟩ = some (.int .i64 a0_1):=(blk_cell BK1.out 1).trans rfl;have hcz26_2 : w24.cell? ⟨gb1,2,none⟩ = some (.int .i64 a0_2):=(blk_cell BK1.out 2).trans rfl;have hcz26_3 : w24.cell? ⟨gb1,3,none⟩ = some (.int .i64 a0_3):=(blk_cell BK1.out 3).trans rfl;have hcz26_4 : w24.cell? ⟨gb1,4,none⟩ = some (.bool a0_4):=(blk_cell BK1.out 4).trans rfl;have hfz26_0:=blk_frozen BK1.out 0;have hfz26_1:=blk_frozen BK1.out 1;have hfz26_2:=blk_frozen BK1.out 2;have hfz26_3:=blk_frozen BK1.out 3;have hfz26_4:=blk_frozen BK1.out 4;have hcz27_0 : w24.cell? ⟨gb2,0,none⟩ = some (.int .i64 a1_0):=(blk_cell BK2.out 0).trans rfl;have hcz27_1 : w24.cell? ⟨gb2,1,none⟩ = some (.int .i64 a1_1):=(blk_cell BK2.out 1).trans rfl;have hcz27_2 : w24.cell? ⟨gb2,2,none⟩ = some (.int .i64 a1_2):=(blk_cell BK2.out 2).trans rfl;have hcz27_3 : w24.cell? ⟨gb2,3,none⟩ = some (.int .i64 a1_3):=(blk_cell BK2.out 3).trans rfl;have hcz27_4 : w24.cell? ⟨gb2,4,none⟩ = some (.bool a1_4):=(blk_cell BK2.out 4).trans rfl;have hfz27_0:=blk_frozen BK2.out 0;have hfz27_1:=blk_frozen BK2.out 1;have hfz27_2:=blk_frozen BK2.out 2;have hfz27_3:=blk_frozen BK2.out 3;have hfz27_4:=blk_frozen BK2.out 4))
    go_ret
    exact ⟨by first | rfl | (simp [errW_none,errW_some] <;> rfl) | (simp [*,errW_none,errW_some] <;> rfl),hb_⟩
  ·rw [if_neg c4] at H
   have c4b0 : (a0_1 == a1_1) = false:=beq_eq_false_iff_ne.mpr c4
   have c4b1 : (a0_1 != a1_1) = true:=bne_iff_ne.mpr c4
   obtain rfl:=Option.some.inj H
   go_enter Try.func98,Try.ntmps98
   go_wp2_with (first | ((with_reducible refine gate_dst (N:=2) rfl ?_);refine box_event ?hg (N:=2) ?hd (cs:=#[.int .i64 a0_0,.int .i64 a0_1,.int .i64 a0_2,.int .i64 a0_3,.bool a0_4]) (t:=79) ?hr ?_;(case hd=>rfl);(case hg=>rfl);(case hr=>first | (go_simp;done) | (go_simp;rfl));intro gb1 hg w28 hbox hb;have BK1:=a0_ (hbox);have GW1:=a0_ ((by rw [hg];exact (below_size hb_) : w.heap.size ≤ gb1));have GE1:=a0_ ((by rw [hg];exact (below_size hb_) : w.heap.size ≤ gb1));replace HB:=a0_ (below_step hb_ hb);clear hb hbox hg) | ((with_reducible refine gate_dst (N:=3) rfl ?_);refine box_event ?hg (N:=3) ?hd (cs:=#[.int .i64 a1_0,.int .i64 a1_1,.int .i64 a1_2,.int .i64 a1_3,.bool a1_4]) (t:=79) ?hr ?_;(case hd=>rfl);(case hg=>rfl);(case hr=>first | (go_simp;done) | (go_simp;rfl));intro gb2 hg w29 hbox hb;have n0_:=kb_ BK1 hb;have n1_:=a0_ (below_step hb_ hb);have n2_:=a0_ (hbox);have n3_:=a0_ ((by rw [hg];exact (below_size hb_) : w.heap.size ≤ gb2));have n4_:=a0_ ((by rw [hg];exact (below_size hb_) : w.heap.size ≤ gb2));have n5_:=a0_ ((by rw [hg];exact Nat.ne_of_lt (blk_lt (bb_ BK1.out)) : gb1 ≠ gb2));have n6_:=a0_ ((by rw [hg];exact Nat.ne_of_gt (blk_lt (bb_ BK1.out)) : gb2 ≠ gb1));clear BK1 HB;have BK1:=n0_;have HB:=n1_;have BK2:=n2_;have GW2:=n3_;have GE2:=n4_;have NB1_2:=n5_;have NB2_1:=n6_;clear n0_ n1_ n2_ n3_ n4_ n5_ n6_;clear hb hbox hg;have hnb30:=NB1_2.out;have hnc30:=NB2_1.out;have hcz31_0 : w29.cell? ⟨gb1,0,none⟩ = some (.int .i64 a0_0):=(blk_cell BK1.out 0).trans rfl;have hcz31_1 : w29.cell? ⟨gb1,1,none⟩ = some (.int .i64 a0_1):=(blk_cell BK1.out 1).trans rfl;have hcz31_2 : w29.cell? ⟨gb1,2,none⟩ = some (.int .i64 a0_2):=(blk_cell BK1.out 2).trans rfl;have hcz31_3 : w29.cell? ⟨gb1,3,none⟩ = some (.int .i64 a0_3):=(blk_cell BK1.out 3).trans rfl;have hcz31_4 : w29.cell? ⟨gb1,4,none⟩ = some (.bool a0_4):=(blk_cell BK1.out 4).trans rfl;have hfz31_0:=blk_frozen BK1.out 0;have hfz31_1:=blk_frozen BK1.out 1;have hfz31_2:=blk_frozen BK1.out 2;have hfz31_3:=blk_frozen BK1.out 3;have hfz31_4:=blk_frozen BK1.out 4;have hcz32_0 : w29.cell? ⟨gb2,0,none⟩ = some (.int .i64 a1_0):=(blk_cell BK2.out 0).trans rfl;have hcz32_1 : w29.cell? ⟨gb2,1,none⟩ = some (.int .i64 a1_1):=(blk_cell BK2.out 1).trans rfl;have hcz32_2 : w29.cell? ⟨gb2,2,none⟩ = some (.int .i64 a1_2):=(blk_cell BK2.out 2).trans rfl;have hcz32_3 : w29.cell? ⟨gb2,3,none⟩ = some (.int .i64 a1_3):=(blk_cell BK2.out 3).trans rfl;have hcz32_4 : w29.cell? ⟨gb2,4,none⟩ = some (.bool a1_4):=(blk_cell BK2.out 4).trans rfl;have hfz32_0:=blk_frozen BK2.out 0;have hfz32_1:=blk_frozen BK2.out 1;have hfz32_2:=blk_frozen BK2.out 2;have hfz32_3:=blk_frozen BK2.out 3;have hfz32_4:=blk_frozen BK2.out 4))
   go_ret
   exact ⟨by first | rfl | (simp [errW_none,errW_some] <;> rfl) | (simp [*,errW_none,errW_some] <;> rfl),hb_⟩
 ·rw [if_neg c3] at H
  have c3b0 : (a0_0 == a1_0) = false:=beq_eq_false_iff_ne.mpr c3
  have c3b1 : (a0_0 != a1_0) = true:=bne_iff_ne.mpr c3
  obtain rfl:=Option.some.inj H
  go_enter Try.func98,Try.ntmps98
  go_wp2_with (first | ((with_reducible refine gate_dst (N:=2) rfl ?_);refine box_event ?hg (N:=2) ?hd (cs:=#[.int .i64 a0_0,.int .i64 a0_1,.int .i64 a0_2,.int .i64 a0_3,.bool a0_4]) (t:=79) ?hr ?_;(case hd=>rfl);(case hg=>rfl);(case hr=>first | (go_simp;done) | (go_simp;rfl));intro gb1 hg w33 hbox hb;have BK1:=a0_ (hbox);have GW1:=a0_ ((by rw [hg];exact (below_size hb_) : w.heap.size ≤ gb1));have GE1:=a0_ ((by rw [hg];exact (below_size hb_) : w.heap.size ≤ gb1));replace HB:=a0_ (below_step hb_ hb);clear hb hbox hg) | ((with_reducible refine gate_dst (N:=3) rfl ?_);refine box_event ?hg (N:=3) ?hd (cs:=#[.int .i64 a1_0,.int .i64 a1_1,.int .i64 a1_2,.int .i64 a1_3,.bool a1_4]) (t:=79) ?hr ?_;(case hd=>rfl);(case hg=>rfl);(case hr=>first | (go_simp;done) | (go_simp;rfl));intro gb2 hg w34 hbox hb;have n0_:=kb_ BK1 hb;have n1_:=a0_ (below_step hb_ hb);have n2_:=a0_ (hbox);have n3_:=a0_ ((by rw [hg];exact (below_size hb_) : w.heap.size ≤ gb2));have n4_:=a0_ ((by rw [hg];exact (below_size hb_) : w.heap.size ≤ gb2));have n5_:=a0_ ((by rw [hg];exact Nat.ne_of_lt (blk_lt (bb_ BK1.out)) : gb1 ≠ gb2));have n6_:=a0_ ((by rw [hg];exact Nat.ne_of_gt (blk_lt (bb_ BK1.out)) : gb2 ≠ gb1));clear BK1 HB;have BK1:=n0_;have HB:=n1_;have BK2:=n2_;have GW2:=n3_;have GE2:=n4_;have NB1_2:=n5_;have NB2_1:=n6_;clear n0_ n1_ n2_ n3_ n4_ n5_ n6_;clear hb hbox hg;have hnb35:=NB1_2.out;have hnc35:=NB2_1.out;have hcz36_0 : w34.cell? ⟨gb1,0,none⟩ = some (.int .i64 a0_0):=(blk_cell BK1.out 0).trans rfl;have hcz36_1 : w34.cell? ⟨gb1,1,none⟩ = some (.int .i64 a0_1):=(blk_cell BK1.out 1).trans rfl;have hcz36_2 : w34.cell? ⟨gb1,2,none⟩ = some (.int .i64 a0_2):=(blk_cell BK1.out 2).trans rfl;have hcz36_3 : w34.cell? ⟨gb1,3,none⟩ = some (.int .i64 a0_3):=(blk_cell BK1.out 3).trans rfl;have hcz36_4 : w34.cell? ⟨gb1,4,none⟩ = some (.bool a0_4):=(blk_cell BK1.out 4).trans rfl;have hfz36_0:=blk_frozen BK1.out 0;have hfz36_1:=blk_frozen BK1.out 1;have hfz36_2:=blk_frozen BK1.out 2;have hfz36_3:=blk_frozen BK1.out 3;have hfz36_4:=blk_frozen BK1.out 4;have hcz37_0 : w34.cell? ⟨gb2,0,none⟩ = some (.int .i64 a1_0):=(blk_cell BK2.out 0).trans rfl;have hcz37_1 : w34.cell? ⟨gb2,1,none⟩ = some (.int .i64 a1_1):=(blk_cell BK2.out 1).trans rfl;have hcz37_2 : w34.cell? ⟨gb2,2,none⟩ = some (.int .i64 a1_2):=(blk_cell BK2.out 2).trans rfl;have hcz37_3 : w34.cell? ⟨gb2,3,none⟩ = some (.int .i64 a1_3):=(blk_cell BK2.out 3).trans rfl;have hcz37_4 : w34.cell? ⟨gb2,4,none⟩ = some (.bool a1_4):=(blk_cell BK2.out 4).trans rfl;have hfz37_0:=blk_frozen BK2.out 0;have hfz37_1:=blk_frozen BK2.out 1;have hfz37_2:=blk_frozen BK2.out 2;have hfz37_3:=blk_frozen BK2.out 3;have hfz37_4:=blk_frozen BK2.out 4))
  go_ret
  exact ⟨by first | rfl | (simp [errW_none,errW_some] <;> rfl) | (simp [*,errW_none,errW_some] <;> rfl),hb_⟩
end Go.Proofs.Ytfhcfhffmblacaa.P
namespace Go.Proofs.Ytfhcfhffmblacaa.P
open Go.RowKit Go.Proofs.YtfhcfhffmblacaaW.PrintWords Go.Proofs.YtfhcfhffmblacaaW.PrintLast Go.Proofs.YtfhcfhffmblacaaW.PrintMore
attribute [local go_sem] max2_int min2_int max_two min_two max_three min_three max_four min_four
set_option linter.unusedVariables false
set_option linter.unusedSimpArgs false
def laws_eqFaultS.l0 : Nat → List (S79) → List (S79) → Int → Option (Bool)
 | 0,_,_,_=>none
 | k + 1,x0,x1,x5=>if x5 < (x0.length : Int) then (if 0 ≤ x5 then (if x5 < (x1.length : Int) then ((laws_eqFault.f ((rd_T79 x0 x5).f0) ((rd_T79 x0 x5).f1) ((rd_T79 x0 x5).f2) ((rd_T79 x0 x5).f3) ((rd_T79 x0 x5).f4) ((rd_T79 x1 x5).f0) ((rd_T79 x1 x5).f1) ((rd_T79 x1 x5).f2) ((rd_T79 x1 x5).f3) ((rd_T79 x1 x5).f4)).bind fun t3=>(if t3 = true then (laws_eqFaultS.l0 k x0 x1 (wrap64 (x5 + 1))) else (some false))) else (none)) else (none)) else (some true)
def laws_eqFaultS.f (k : Nat) (l0 : List (S79)) (l1 : List (S79)) : Option (Bool):=if (l0.length : Int) = (l1.length : Int) then (laws_eqFaultS.l0 k l0 l1 0) else (some false)
theorem laws_eqFaultS.mono_l : ∀ k,(∀ y0 y1 y2,LeO (laws_eqFaultS.l0 k y0 y1 y2) (laws_eqFaultS.l0 (k + 1) y0 y1 y2))
 | 0=>fun _ _ _ r h=>by simp [laws_eqFaultS.l0] at h
 | k + 1=>by
  have ih0:=laws_eqFaultS.mono_l k
  ·intro y0 y1 y2
   unfold laws_eqFaultS.l0
   repeat' first
   | (with_reducible exact ih0 _ _ _)
   | (with_reducible exact LeO.refl _)
   | (with_reducible exact LeO.none _)
   | (with_reducible refine LeO.ite ?_ ?_)
   | (with_reducible refine LeO.bind ?_ (fun _=>?_))
   | exact ih0 _ _ _
   | exact LeO.none _
   | refine LeO.ite ?_ ?_
   | refine LeO.bind ?_ (fun _=>?_)
theorem laws_eqFaultS.mono : ∀ a0 a1 k,LeO (laws_eqFaultS.f k a0 a1) (laws_eqFaultS.f (k + 1) a0 a1):=by
 intro a0 a1 k
 have ih0:=laws_eqFaultS.mono_l k
 unfold laws_eqFaultS.f
 repeat' first
   | (with_reducible exact ih0 _ _ _)
   | (with_reducible exact LeO.refl _)
   | (with_reducible exact LeO.none _)
   | (with_reducible refine LeO.ite ?_ ?_)
   | (with_reducible refine LeO.bind ?_ (fun _=>?_))
   | exact ih0 _ _ _
   | exact LeO.none _
   | refine LeO.ite ?_ ?_
   | refine LeO.bind ?_ (fun _=>?_)
def laws_eqFaultS.T6 : Bool × List (List Nat × List Nat):=(true,[([],[]),([],[]),([0,1],[0,1]),([2],[2]),([],[]),([],[]),([4,5],[4,5]),([6],[6]),([3,7],[3,7]),([8],[8])])
def laws_eqFaultS.B6 : List Nat:=[0,0,3,7,0,0,48,112,255,511]
theorem laws_eqFaultS.tab6 : rtab .any (opsOf Try.f64 6) = laws_eqFaultS.T6:=by kernel_rfl
theorem laws_eqFaultS.bits6 : waitsOk laws_eqFaultS.T6.2 laws_eqFaultS.B6 = true:=by kernel_rfl
set_option maxHeartbeats 8000000 in
set_option maxRecDepth 100000 in
theorem laws_eqFaultS.calls (k : Nat) (A0 : Option Addr) (c0 : Nat) (l0 : List (S79)) (A1 : Option Addr) (c1 : Nat) (l1 : List (S79)) (r : Bool) (w : World) (hr0 : Kd.C k79 w A0 l0.length l0) (hc0 : l0.length ≤ c0) (hr1 : Kd.C k79 w A1 l1.length l1) (hc1 : l1.length ≤ c1) (h : laws_eqFaultS.f k l0 l1 = some r) :
  Calls Try.prog 64 #[.slice A0 l0.length c0,.slice A1 l1.length c1] w fun e w'=>e = .returned (.bool r) ∧ Below w.heap.size w w':=by
 have hu79:=Try.underlying79
 have HR0:=a0_ hr0
 have HC0:=a0_ hc0
 clear hr0 hc0
 have HR1:=a0_ hr1
 have HC1:=a0_ hc1
 clear hr1 hc1
 have HB:=a0_ (Below.refl w.heap.size w)
 have H : (if (l0.length : Int) = (l1.length : Int) then (laws_eqFaultS.l0 k l0 l1 0) else (some false)) = some r:=h
 clear h
 by_cases c3 : (l0.length : Int) = (l1.length : Int)
 ·rw [if_pos c3] at H
  have c3b0 : ((l0.length : Int) == (l1.length : Int)) = true:=beq_iff_eq.mpr c3
  have c3b1 : ((l0.length : Int) != (l1.length : Int)) = false:=bne_eq_false_iff_eq.mpr c3
  have c3b2 : (l0.length == l1.length) = true:=by first | simpa using c3 | (simp at c3 ⊢;omega)
  clear c3
  have H':=a0_ H
  clear H
  go_enter Try.func64,Try.ntmps64
  go_wp2
  go_loopg [5] k (fun kq v5 w'=>∃ (x5_1 : Int),v5 = .int .i64 x5_1 ∧ Aside0 (laws_eqFaultS.l0 kq l0 l1 x5_1 = some r) ∧ Aside0 (kq ≤ k) ∧ Aside0 (Below w.heap.size w w'))
  case atStart=>exact ⟨(0),(by first | rfl | (simp;done) | (simp [*];done)),H',⟨Nat.le_refl _⟩,⟨hb_⟩⟩
  case round =>
   clear H'
   try clear c1
   try clear p2
   try clear c3
   try clear c3b0
   try clear c3b1
   try clear c3b2
   obtain ⟨x5_1,rfl,HA,HK1,HB⟩:=hrel
   cases gk with
   | zero=>exact absurd HA.out (by simp [laws_eqFaultS.l0])
   | succ k1 =>
    have H:=HA.out
    clear HA
    simp only [laws_eqFaultS.l0] at H
    by_cases c4 : x5_1 < (l0.length : Int)
    ·rw [if_pos c4] at H
     have c4b0 : decide (x5_1 < (l0.length : Int)) = true:=decide_eq_true c4
     clear c4
     by_cases c5 : 0 ≤ x5_1
     ·rw [if_pos c5] at H
      have c5b0 : decide (0 ≤ x5_1) = true:=decide_eq_true c5
      clear c5
      by_cases c6 : x5_1 < (l1.length : Int)
      ·rw [if_pos c6] at H
       have c6b0 : decide (x5_1 < (l1.length : Int)) = true:=decide_eq_true c6
       clear c6
       replace H:=Option.bind_eq_some_iff.mp H
       obtain ⟨t3,A70,H⟩:=H
       replace H : (if t3 = true then (laws_eqFaultS.l0 k1 l0 l1 (wrap64 (x5_1 + 1))) else (some false)) = some r:=H
       have A7:=a0_ A70
       clear A70
       by_cases c8 : t3 = true
       ·subst c8
        have H1 : (laws_eqFaultS.l0 k1 l0 l1 (wrap64 (x5_1 + 1))) = some r:=by rw [if_pos rfl] at H;exact H
        clear H
        have H:=H1
        clear H1
        have H':=a0_ H
        clear H
        try go_wp2
        have n0_:=a0_ (below_drew1 HB.out)
        clear HB
        have HB:=n0_
        clear n0_
        have p1 : 0 ≤ (x5_1 : Int):=of_decide_eq_true (by first | (with_reducible assumption) | assumption)
        have q1 : x5_1 < (l0.length : Int):=of_decide_eq_true (by first | (with_reducible assumption) | assumption)
        obtain ⟨ad1,e1,hx1_0,hx1_1,hx1_2,hx1_3,hx1_4⟩:=at_T79 HR0.out x5_1 p1 q1
        have hw1_4:=hx1_4
        have hw1_3:=hx1_3
        have hw1_2:=hx1_2
        have hw1_1:=hx1_1
        have hw1_0:=hx1_0
        cases e1
        replace hx1_0:=(HB.out.cell (World.block_lt_of_cell? w _ hx1_0)).trans hx1_0
        replace hx1_1:=(HB.out.cell (World.block_lt_of_cell? w _ hx1_1)).trans hx1_1
        replace hx1_2:=(HB.out.cell (World.block_lt_of_cell? w _ hx1_2)).trans hx1_2
        replace hx1_3:=(HB.out.cell (World.block_lt_of_cell? w _ hx1_3)).trans hx1_3
        replace hx1_4:=(HB.out.cell (World.block_lt_of_cell? w _ hx1_4)).trans hx1_4
        replace p1:=eq_true p1
        replace q1:=eq_true q1
        have p2 : 0 ≤ (x5_1 : Int):=of_decide_eq_true (by first | (with_reducible assumption) | assumption)
        have q2 : x5_1 < (l1.length : Int):=of_decide_eq_true (by first | (with_reducible assumption) | assumption)
        obtain ⟨ad2,e2,hx2_0,hx2_1,hx2_2,hx2_3,hx2_4⟩:=at_T79 HR1.out x5_1 p2 q2
        have hw2_4:=hx2_4
        have hw2_3:=hx2_3
        have hw2_2:=hx2_2
        have hw2_1:=hx2_1
        have hw2_0:=hx2_0
        cases e2
        replace hx2_0:=(HB.out.cell (World.block_lt_of_cell? w _ hx2_0)).trans hx2_0
        replace hx2_1:=(HB.out.cell (World.block_lt_of_cell? w _ hx2_1)).trans hx2_1
        replace hx2_2:=(HB.out.cell (World.block_lt_of_cell? w _ hx2_2)).trans hx2_2
        replace hx2_3:=(HB.out.cell (World.block_lt_of_cell? w _ hx2_3)).trans hx2_3
        replace hx2_4:=(HB.out.cell (World.block_lt_of_cell? w _ hx2_4)).trans hx2_4
        replace p2:=eq_true p2
        replace q2:=eq_true q2
        refine start_ (n:=10) (S:=fun w'=>w'.cell? (ad1.add ((x5_1).toNat * 5)) = some (.int .i64 ((rd_T79 l0 x5_1).f0)) ∧ w'.cell? ⟨(ad1.add ((x5_1).toNat * 5)).block,(ad1.add ((x5_1).toNat * 5)).off + 1,none⟩ = some (.int .i64 ((rd_T79 l0 x5_1).f1)) ∧ w'.cell? ⟨(ad1.add ((x5_1).toNat * 5)).block,(ad1.add ((x5_1).toNat * 5)).off + 2,none⟩ = some (.int .i64 ((rd_T79 l0 x5_1).f2)) ∧ w'.cell? ⟨(ad1.add ((x5_1).toNat * 5)).block,(ad1.add ((x5_1).toNat * 5)).off + 3,none⟩ = some (.int .i64 ((rd_T79 l0 x5_1).f3)) ∧ w'.cell? ⟨(ad1.add ((x5_1).toNat * 5)).block,(ad1.add ((x5_1).toNat * 5)).off + 4,none⟩ = some (.bool ((rd_T79 l0 x5_1).f4)) ∧ w'.cell? (ad2.add ((x5_1).toNat * 5)) = some (.int .i64 ((rd_T79 l1 x5_1).f0)) ∧ w'.cell? ⟨(ad2.add ((x5_1).toNat * 5)).block,(ad2.add ((x5_1).toNat * 5)).off + 1,none⟩ = some (.int .i64 ((rd_T79 l1 x5_1).f1)) ∧ w'.cell? ⟨(ad2.add ((x5_1).toNat * 5)).block,(ad2.add ((x5_1).toNat * 5)).off + 2,none⟩ = some (.int .i64 ((rd_T79 l1 x5_1).f2)) ∧ w'.cell? ⟨(ad2.add ((x5_1).toNat * 5)).block,(ad2.add ((x5_1).toNat * 5)).off + 3,none⟩ = some (.int .i64 ((rd_T79 l1 x5_1).f3)) ∧ w'.cell? ⟨(ad2.add ((x5_1).toNat * 5)).block,(ad2.add ((x5_1).toNat * 5)).off + 4,none⟩ = some (.bool ((rd_T79 l1 x5_1).f4))) (ds:=[]) #[false,false,false,false,false,false,false,false,false,false] (by kernel_rfl) rfl rfl ⟨((HB.out.cell (World.block_lt_of_cell? w _ hw1_0)).trans hw1_0),((HB.out.cell (World.block_lt_of_cell? w _ hw1_1)).trans hw1_1),((HB.out.cell (World.block_lt_of_cell? w _ hw1_2)).trans hw1_2),((HB.out.cell (World.block_lt_of_cell? w _ hw1_3)).trans hw1_3),((HB.out.cell (World.block_lt_of_cell? w _ hw1_4)).trans hw1_4),((HB.out.cell (World.block_lt_of_cell? w _ hw2_0)).trans hw2_0),((HB.out.cell (World.block_lt_of_cell? w _ hw2_1)).trans hw2_1),((HB.out.cell (World.block_lt_of_cell? w _ hw2_2)).trans hw2_2),((HB.out.cell (World.block_lt_of_cell? w _ hw2_3)).trans hw2_3),((HB.out.cell (World.block_lt_of_cell? w _ hw2_4)).trans hw2_4)⟩ (fun hHeld=>?_);refine with_tabW laws_eqFaultS.tab6 laws_eqFaultS.bits6 (fun HT_ HW_=>?_)
        generalize wr.drew = w9 at HB hx1_0 hx1_1 hx1_2 hx1_3 hx1_4 hx2_0 hx2_1 hx2_2 hx2_3 hx2_4 hHeld ⊢
        refine pure_ (i:=0) (N:=some 17) (v:=?_) (a':=?_) #[true,false,false,false,false,false,false,false,false,false] rfl rfl (any_of HT_.out (by kernel_rfl)) (fun _ _ _ h=>h) (Or.inl ⟨by rfl,?_⟩) ?_ ?_
        rotate_left
        ·intro w'
         go_simp
         with_reducible rfl
        rotate_left
        ·simp only [Act.put,s1_,s2_,s3_,i64_w,i32_w]
         rfl
        refine pure_ (i:=1) (N:=some 18) (v:=?_) (a':=?_) #[true,true,false,false,false,false,false,false,false,false] rfl rfl (any_of HT_.out (by kernel_rfl)) (fun _ _ _ h=>h) (Or.inl ⟨by rfl,?_⟩) ?_ ?_
        rotate_left
        ·intro w'
         go_simp
         with_reducible rfl
        rotate_left
        ·simp only [Act.put,s1_,s2_,s3_,i64_w,i32_w]
         rfl
        refine pure_ (i:=2) (N:=some 19) (v:=?_) (a':=?_) #[true,true,true,false,false,false,false,false,false,false] rfl rfl (any_of HT_.out (by kernel_rfl)) (fun _ _ _ h=>h) (Or.inl ⟨by rfl,?_⟩) ?_ ?_
        rotate_left
        ·intro w'
         go_simp
         with_reducible rfl
        rotate_left
        ·simp only [Act.put,s1_,s2_,s3_,i64_w,i32_w]
         rfl
        refine pure_ (i:=4) (N:=some 21) (v:=?_) (a':=?_) #[true,true,true,false,true,false,false,false,false,false] rfl rfl (any_of HT_.out (by kernel_rfl)) (fun _ _ _ h=>h) (Or.inl ⟨by rfl,?_⟩) ?_ ?_
        rotate_left
        ·intro w'
         go_simp
         with_reducible rfl
        rotate_left
        ·simp only [Act.put,s1_,s2_,s3_,i64_w,i32_w]
         rfl
        refine pure_ (i:=5) (N:=some 22) (v:=?_) (a':=?_) #[true,true,true,false,true,true,false,false,false,false] rfl rfl (any_of HT_.out (by kernel_rfl)) (fun _ _ _ h=>h) (Or.inl ⟨by rfl,?_⟩) ?_ ?_
        rotate_left
        ·intro w'
         go_simp
         with_reducible rfl
        rotate_left
        ·simp only [Act.put,s1_,s2_,s3_,i64_w,i32_w]
         rfl
        refine pure_ (i:=6) (N:=some 23) (v:=?_) (a':=?_) #[true,true,true,false,true,true,true,false,false,false] rfl rfl (any_of HT_.out (by kernel_rfl)) (fun _ _ _ h=>h) (Or.inl ⟨by rfl,?_⟩) ?_ ?_
        rotate_left
        ·intro w'
         go_simp
         with_reducible rfl
        rotate_left
        ·simp only [Act.put,s1_,s2_,s3_,i64_w,i32_w]
         rfl
        refine take_ (i:=3) (N:=some 20) (v:=?_) (a':=?_) #[true,true,true,true,true,true,true,false,false,false] rfl rfl (take_ofW HT_.out HW_.out (by kernel_rfl)) (fun _ _ _ h=>h) (Or.inl ⟨by rfl,?_⟩) hHeld ?_ ?_
        rotate_left
        ·rintro w' ⟨s0,s1,s2,s3,s4,s5,s6,s7,s8,s9⟩
         go_simp
         with_reducible rfl
        rotate_left
        ·simp only [Act.put,s1_,s2_,s3_,i64_w,i32_w]
         rfl
        refine take_ (i:=7) (N:=some 24) (v:=?_) (a':=?_) #[true,true,true,true,true,true,true,true,false,false] rfl rfl (take_ofW HT_.out HW_.out (by kernel_rfl)) (fun _ _ _ h=>h) (Or.inl ⟨by rfl,?_⟩) hHeld ?_ ?_
        rotate_left
        ·rintro w' ⟨s0,s1,s2,s3,s4,s5,s6,s7,s8,s9⟩
         go_simp
         with_reducible rfl
        rotate_left
        ·simp only [Act.put,s1_,s2_,s3_,i64_w,i32_w]
         rfl
        refine one_ (i:=8) (N:=some 25) #[true,true,true,true,true,true,true,true,true,false] rfl rfl (one_of HT_.out (by kernel_rfl)) (by decide) (fun K hK=>?_)
        refine goes_ Try.func98 (by kernel_rfl) rfl #[.agg #[.int .i64 ((rd_T79 l0 x5_1).f0),.int .i64 ((rd_T79 l0 x5_1).f1),.int .i64 ((rd_T79 l0 x5_1).f2),.int .i64 ((rd_T79 l0 x5_1).f3),.bool ((rd_T79 l0 x5_1).f4)],.agg #[.int .i64 ((rd_T79 l1 x5_1).f0),.int .i64 ((rd_T79 l1 x5_1).f1),.int .i64 ((rd_T79 l1 x5_1).f2),.int .i64 ((rd_T79 l1 x5_1).f3),.bool ((rd_T79 l1 x5_1).f4)]] (by rfl) rfl rfl lm_ ?_
        with_reducible refine (laws_eqFault.calls ((rd_T79 l0 x5_1).f0) ((rd_T79 l0 x5_1).f1) ((rd_T79 l0 x5_1).f2) ((rd_T79 l0 x5_1).f3) ((rd_T79 l0 x5_1).f4) ((rd_T79 l1 x5_1).f0) ((rd_T79 l1 x5_1).f1) ((rd_T79 l1 x5_1).f2) ((rd_T79 l1 x5_1).f3) ((rd_T79 l1 x5_1).f4) true _ A7.out).mono ?_
        rintro e w10 ⟨rfl,hb⟩
        refine ⟨_,rfl,?_⟩
        have n0_:=a0_ (below_step hb_ hb)
        clear HB
        have HB:=n0_
        clear n0_
        (try clear hb)
        (try clear hb2)
        (try clear hk)
        (try clear hi)
        refine hK.out _ _ ⟨((HB.out.cell (World.block_lt_of_cell? w _ hw1_0)).trans hw1_0),((HB.out.cell (World.block_lt_of_cell? w _ hw1_1)).trans hw1_1),((HB.out.cell (World.block_lt_of_cell? w _ hw1_2)).trans hw1_2),((HB.out.cell (World.block_lt_of_cell? w _ hw1_3)).trans hw1_3),((HB.out.cell (World.block_lt_of_cell? w _ hw1_4)).trans hw1_4),((HB.out.cell (World.block_lt_of_cell? w _ hw2_0)).trans hw2_0),((HB.out.cell (World.block_lt_of_cell? w _ hw2_1)).trans hw2_1),((HB.out.cell (World.block_lt_of_cell? w _ hw2_2)).trans hw2_2),((HB.out.cell (World.block_lt_of_cell? w _ hw2_3)).trans hw2_3),((HB.out.cell (World.block_lt_of_cell? w _ hw2_4)).trans hw2_4)⟩ (fun hHeld=>?_)
        clear hK K
        refine norm_ (a':=?_) ?_ ?_
        rotate_left
        ·show Act.put _ (some 25) _ = _
         simp only [Act.put,s1_,s2_,s3_,i64_w,i32_w]
         rfl
        refine pure_ (i:=9) (N:=some 26) (v:=?_) (a':=?_) #[true,true,true,true,true,true,true,true,true,true] rfl rfl (any_of HT_.out (by kernel_rfl)) (fun _ _ _ h=>h) (Or.inl ⟨by rfl,?_⟩) ?_ ?_
        rotate_left
        ·intro w'
         go_simp
         with_reducible rfl
        rotate_left
        ·simp only [Act.put,s1_,s2_,s3_,i64_w,i32_w]
         rfl
        refine done_ (done_of HT_.out (by kernel_rfl)) ?_
        try go_wp2
        go_roundg k1
        case measure=>have:=HK1.out;omega
        case rel=>exact ⟨(wrap64 (x5_1 + 1)),(by first | rfl | (simp;done) | (simp [*];done)),H',⟨by have:=HK1.out;omega⟩,⟨hb_⟩⟩
       ·replace c8:=Bool.eq_false_iff.mpr c8
        subst c8
        have H1 : (some false) = some r:=by rw [if_neg (show ¬ (false = true) by decide)] at H;exact H
        clear H
        have H:=H1
        clear H1
        obtain rfl:=Option.some.inj H
        try go_wp2
        have n0_:=a0_ (below_drew1 HB.out)
        clear HB
        have HB:=n0_
        clear n0_
        have p1 : 0 ≤ (x5_1 : Int):=of_decide_eq_true (by first | (with_reducible assumption) | assumption)
        have q1 : x5_1 < (l0.length : Int):=of_decide_eq_true (by first | (with_reducible assumption) | assumption)
        obtain ⟨ad1,e1,hx1_0,hx1_1,hx1_2,hx1_3,hx1_4⟩:=at_T79 HR0.out x5_1 p1 q1
        have hw1_4:=hx1_4
        have hw1_3:=hx1_3
        have hw1_2:=hx1_2
        have hw1_1:=hx1_1
        have hw1_0:=hx1_0
        cases e1
        replace hx1_0:=(HB.out.cell (World.block_lt_of_cell? w _ hx1_0)).trans hx1_0
        replace hx1_1:=(HB.out.cell (World.block_lt_of_cell? w _ hx1_1)).trans hx1_1
        replace hx1_2:=(HB.out.cell (World.block_lt_of_cell? w _ hx1_2)).trans hx1_2
        replace hx1_3:=(HB.out.cell (World.block_lt_of_cell? w _ hx1_3)).trans hx1_3
        replace hx1_4:=(HB.out.cell (World.block_lt_of_cell? w _ hx1_4)).trans hx1_4
        replace p1:=eq_true p1
        replace q1:=eq_true q1
        have p2 : 0 ≤ (x5_1 : Int):=of_decide_eq_true (by first | (with_reducible assumption) | assumption)
        have q2 : x5_1 < (l1.length : Int):=of_decide_eq_true (by first | (with_reducible assumption) | assumption)
        obtain ⟨ad2,e2,hx2_0,hx2_1,hx2_2,hx2_3,hx2_4⟩:=at_T79 HR1.out x5_1 p2 q2
        have hw2_4:=hx2_4
        have hw2_3:=hx2_3
        have hw2_2:=hx2_2
        have hw2_1:=hx2_1
        have hw2_0:=hx2_0
        cases e2
        replace hx2_0:=(HB.out.cell (World.block_lt_of_cell? w _ hx2_0)).trans hx2_0
        replace hx2_1:=(HB.out.cell (World.block_lt_of_cell? w _ hx2_1)).trans hx2_1
        replace hx2_2:=(HB.out.cell (World.block_lt_of_cell? w _ hx2_2)).trans hx2_2
        replace hx2_3:=(HB.out.cell (World.block_lt_of_cell? w _ hx2_3)).trans hx2_3
        replace hx2_4:=(HB.out.cell (World.block_lt_of_cell? w _ hx2_4)).trans hx2_4
        replace p2:=eq_true p2
        replace q2:=eq_true q2
        refine start_ (n:=10) (S:=fun w'=>w'.cell? (ad1.add ((x5_1).toNat * 5)) = some (.int .i64 ((rd_T79 l0 x5_1).f0)) ∧ w'.cell? ⟨(ad1.add ((x5_1).toNat * 5)).block,(ad1.add ((x5_1).toNat * 5)).off + 1,none⟩ = some (.int .i64 ((rd_T79 l0 x5_1).f1)) ∧ w'.cell? ⟨(ad1.add ((x5_1).toNat * 5)).block,(ad1.add ((x5_1).toNat * 5)).off + 2,none⟩ = some (.int .i64 ((rd_T79 l0 x5_1).f2)) ∧ w'.cell? ⟨(ad1.add ((x5_1).toNat * 5)).block,(ad1.add ((x5_1).toNat * 5)).off + 3,none⟩ = some (.int .i64 ((rd_T79 l0 x5_1).f3)) ∧ w'.cell? ⟨(ad1.add ((x5_1).toNat * 5)).block,(ad1.add ((x5_1).toNat * 5)).off + 4,none⟩ = some (.bool ((rd_T79 l0 x5_1).f4)) ∧ w'.cell? (ad2.add ((x5_1).toNat * 5)) = some (.int .i64 ((rd_T79 l1 x5_1).f0)) ∧ w'.cell? ⟨(ad2.add ((x5_1).toNat * 5)).block,(ad2.add ((x5_1).toNat * 5)).off + 1,none⟩ = some (.int .i64 ((rd_T79 l1 x5_1).f1)) ∧ w'.cell? ⟨(ad2.add ((x5_1).toNat * 5)).block,(ad2.add ((x5_1).toNat * 5)).off + 2,none⟩ = some (.int .i64 ((rd_T79 l1 x5_1).f2)) ∧ w'.cell? ⟨(ad2.add ((x5_1).toNat * 5)).block,(ad2.add ((x5_1).toNat * 5)).off + 3,none⟩ = some (.int .i64 ((rd_T79 l1 x5_1).f3)) ∧ w'.cell? ⟨(ad2.add ((x5_1).toNat * 5)).block,(ad2.add ((x5_1).toNat * 5)).off + 4,none⟩ = some (.bool ((rd_T79 l1 x5_1).f4))) (ds:=[]) #[false,false,false,false,false,false,false,false,false,false] (by kernel_rfl) rfl rfl ⟨((HB.out.cell (World.block_lt_of_cell? w _ hw1_0)).trans hw1_0),((HB.out.cell (World.block_lt_of_cell? w _ hw1_1)).trans hw1_1),((HB.out.cell (World.block_lt_of_cell? w _ hw1_2)).trans hw1_2),((HB.out.cell (World.block_lt_of_cell? w _ hw1_3)).trans hw1_3),((HB.out.cell (World.block_lt_of_cell? w _ hw1_4)).trans hw1_4),((HB.out.cell (World.block_lt_of_cell? w _ hw2_0)).trans hw2_0),((HB.out.cell (World.block_lt_of_cell? w _ hw2_1)).trans hw2_1),((HB.out.cell (World.block_lt_of_cell? w _ hw2_2)).trans hw2_2),((HB.out.cell (World.block_lt_of_cell? w _ hw2_3)).trans hw2_3),((HB.out.cell (World.block_lt_of_cell? w _ hw2_4)).trans hw2_4)⟩ (fun hHeld=>?_);refine with_tabW laws_eqFaultS.tab6 laws_eqFaultS.bits6 (fun HT_ HW_=>?_)
        generalize wr.drew = w11 at HB hx1_0 hx1_1 hx1_2 hx1_3 hx1_4 hx2_0 hx2_1 hx2_2 hx2_3 hx2_4 hHeld ⊢
        refine pure_ (i:=0) (N:=some 17) (v:=?_) (a':=?_) #[true,false,false,false,false,false,false,false,false,false] rfl rfl (any_of HT_.out (by kernel_rfl)) (fun _ _ _ h=>h) (Or.inl ⟨by rfl,?_⟩) ?_ ?_
        rotate_left
        ·intro w'
         go_simp
         with_reducible rfl
        rotate_left
        ·simp only [Act.put,s1_,s2_,s3_,i64_w,i32_w]
         rfl
        refine pure_ (i:=1) (N:=some 18) (v:=?_) (a':=?_) #[true,true,false,false,false,false,false,false,false,false] rfl rfl (any_of HT_.out (by kernel_rfl)) (fun _ _ _ h=>h) (Or.inl ⟨by rfl,?_⟩) ?_ ?_
        rotate_left
        ·intro w'
         go_simp
         with_reducible rfl
        rotate_left
        ·simp only [Act.put,s1_,s2_,s3_,i64_w,i32_w]
         rfl
        refine pure_ (i:=2) (N:=some 19) (v:=?_) (a':=?_) #[true,true,true,false,false,false,false,false,false,false] rfl rfl (any_of HT_.out (by kernel_rfl)) (fun _ _ _ h=>h) (Or.inl ⟨by rfl,?_⟩) ?_ ?_
        rotate_left
        ·intro w'
         go_simp
         with_reducible rfl
        rotate_left
        ·simp only [Act.put,s1_,s2_,s3_,i64_w,i32_w]
         rfl
        refine pure_ (i:=4) (N:=some 21) (v:=?_) (a':=?_) #[true,true,true,false,true,false,false,false,false,false] rfl rfl (any_of HT_.out (by kernel_rfl)) (fun _ _ _ h=>h) (Or.inl ⟨by rfl,?_⟩) ?_ ?_
        rotate_left
        ·intro w'
         go_simp
         with_reducible rfl
        rotate_left
        ·simp only [Act.put,s1_,s2_,s3_,i64_w,i32_w]
         rfl
        refine pure_ (i:=5) (N:=some 22) (v:=?_) (a':=?_) #[true,true,true,false,true,true,false,false,false,false] rfl rfl (any_of HT_.out (by kernel_rfl)) (fun _ _ _ h=>h) (Or.inl ⟨by rfl,?_⟩) ?_ ?_
        rotate_left
        ·intro w'
         go_simp
         with_reducible rfl
        rotate_left
        ·simp only [Act.put,s1_,s2_,s3_,i64_w,i32_w]
         rfl
        refine pure_ (i:=6) (N:=some 23) (v:=?_) (a':=?_) #[true,true,true,false,true,true,true,false,false,false] rfl rfl (any_of HT_.out (by kernel_rfl)) (fun _ _ _ h=>h) (Or.inl ⟨by rfl,?_⟩) ?_ ?_
        rotate_left
        ·intro w'
         go_simp
         with_reducible rfl
        rotate_left
        ·simp only [Act.put,s1_,s2_,s3_,i64_w,i32_w]
         rfl
        refine take_ (i:=3) (N:=some 20) (v:=?_) (a':=?_) #[true,true,true,true,true,true,true,false,false,false] rfl rfl (take_ofW HT_.out HW_.out (by kernel_rfl)) (fun _ _ _ h=>h) (Or.inl ⟨by rfl,?_⟩) hHeld ?_ ?_
        rotate_left
        ·rintro w' ⟨s0,s1,s2,s3,s4,s5,s6,s7,s8,s9⟩
         go_simp
         with_reducible rfl
        rotate_left
        ·simp only [Act.put,s1_,s2_,s3_,i64_w,i32_w]
         rfl
        refine take_ (i:=7) (N:=some 24) (v:=?_) (a':=?_) #[true,true,true,true,true,true,true,true,false,false] rfl rfl (take_ofW HT_.out HW_.out (by kernel_rfl)) (fun _ _ _ h=>h) (Or.inl ⟨by rfl,?_⟩) hHeld ?_ ?_
        rotate_left
        ·rintro w' ⟨s0,s1,s2,s3,s4,s5,s6,s7,s8,s9⟩
         go_simp
         with_reducible rfl
        rotate_left
        ·simp only [Act.put,s1_,s2_,s3_,i64_w,i32_w]
         rfl
        refine one_ (i:=8) (N:=some 25) #[true,true,true,true,true,true,true,true,true,false] rfl rfl (one_of HT_.out (by kernel_rfl)) (by decide) (fun K hK=>?_)
        refine goes_ Try.func98 (by kernel_rfl) rfl #[.agg #[.int .i64 ((rd_T79 l0 x5_1).f0),.int .i64 ((rd_T79 l0 x5_1).f1),.int .i64 ((rd_T79 l0 x5_1).f2),.int .i64 ((rd_T79 l0 x5_1).f3),.bool ((rd_T79 l0 x5_1).f4)],.agg #[.int .i64 ((rd_T79 l1 x5_1).f0),.int .i64 ((rd_T79 l1 x5_1).f1),.int .i64 ((rd_T79 l1 x5_1).f2),.int .i64 ((rd_T79 l1 x5_1).f3),.bool ((rd_T79 l1 x5_1).f4)]] (by rfl) rfl rfl lm_ ?_
        with_reducible refine (laws_eqFault.calls ((rd_T79 l0 x5_1).f0) ((rd_T79 l0 x5_1).f1) ((rd_T79 l0 x5_1).f2) ((rd_T79 l0 x5_1).f3) ((rd_T79 l0 x5_1).f4) ((rd_T79 l1 x5_1).f0) ((rd_T79 l1 x5_1).f1) ((rd_T79 l1 x5_1).f2) ((rd_T79 l1 x5_1).f3) ((rd_T79 l1 x5_1).f4) false _ A7.out).mono ?_
        rintro e w12 ⟨rfl,hb⟩
        refine ⟨_,rfl,?_⟩
        have n0_:=a0_ (below_step hb_ hb)
        clear HB
        have HB:=n0_
        clear n0_
        (try clear hb)
        (try clear hb2)
        (try clear hk)
        (try clear hi)
        refine hK.out _ _ ⟨((HB.out.cell (World.block_lt_of_cell? w _ hw1_0)).trans hw1_0),((HB.out.cell (World.block_lt_of_cell? w _ hw1_1)).trans hw1_1),((HB.out.cell (World.block_lt_of_cell? w _ hw1_2)).trans hw1_2),((HB.out.cell (World.block_lt_of_cell? w _ hw1_3)).trans hw1_3),((HB.out.cell (World.block_lt_of_cell? w _ hw1_4)).trans hw1_4),((HB.out.cell (World.block_lt_of_cell? w _ hw2_0)).trans hw2_0),((HB.out.cell (World.block_lt_of_cell? w _ hw2_1)).trans hw2_1),((HB.out.cell (World.block_lt_of_cell? w _ hw2_2)).trans hw2_2),((HB.out.cell (World.block_lt_of_cell? w _ hw2_3)).trans hw2_3),((HB.out.cell (World.block_lt_of_cell? w _ hw2_4)).trans hw2_4)⟩ (fun hHeld=>?_)
        clear hK K
        refine norm_ (a':=?_) ?_ ?_
        rotate_left
        ·show Act.put _ (some 25) _ = _
         simp only [Act.put,s1_,s2_,s3_,i64_w,i32_w]
         rfl
        refine pure_ (i:=9) (N:=some 26) (v:=?_) (a':=?_) #[true,true,true,true,true,true,true,true,true,true] rfl rfl (any_of HT_.out (by kernel_rfl)) (fun _ _ _ h=>h) (Or.inl ⟨by rfl,?_⟩) ?_ ?_
        rotate_left
        ·intro w'
         go_simp
         with_reducible rfl
        rotate_left
        ·simp only [Act.put,s1_,s2_,s3_,i64_w,i32_w]
         rfl
        refine done_ (done_of HT_.out (by kernel_rfl)) ?_
        try go_wp2
        go_ret
        exact ⟨by first | rfl | (simp [errW_none,errW_some] <;> rfl) | (simp [*,errW_none,errW_some] <;> rfl),hb_⟩
      ·rw [if_neg c6] at H
       exact absurd H (by simp)
     ·rw [if_neg c5] at H
      exact absurd H (by simp)
    ·rw [if_neg c4] at H
     have c4b0 : decide (x5_1 < (l0.length : Int)) = false:=decide_eq_false c4
     clear c4
     obtain rfl:=Option.some.inj H
     go_wp2
     go_ret
     exact ⟨by first | rfl | (simp [errW_none,errW_some] <;> rfl) | (simp [*,errW_none,errW_some] <;> rfl),hb_⟩
 ·rw [if_neg c3] at H
  have c3b0 : ((l0.length : Int) == (l1.length : Int)) = false:=beq_eq_false_iff_ne.mpr c3
  have c3b1 : ((l0.length : Int) != (l1.length : Int)) = true:=bne_iff_ne.mpr c3
  have c3b2 : (l0.length == l1.length) = false:=by first | simpa using c3 | (simp at c3 ⊢;omega)
  obtain rfl:=Option.some.inj H
  go_enter Try.func64,Try.ntmps64
  go_wp2
  go_ret
  exact ⟨by first | rfl | (simp [errW_none,errW_some] <;> rfl) | (simp [*,errW_none,errW_some] <;> rfl),hb_⟩
theorem laws_eqFaultS_ev (l : List S79) (hl : l.length ≤ 9223372036854775807) : Ev (fun k=>laws_eqFaultS.f k l l) true:=by
 have h:=st_loop (fun k (_ : Unit) i=>laws_eqFaultS.l0 k l l i) l.length (fun _=>()) true (by
  intro k i hi
  have he : ∀ x : S79,laws_eqFault.f x.f0 x.f1 x.f2 x.f3 x.f4 x.f0 x.f1 x.f2 x.f3 x.f4 = some true:=by
   intro x
   simp [laws_eqFault.f]
  simp only [laws_eqFaultS.l0,he,Option.bind_some]
  rw [if_pos (by omega),if_pos (by omega),if_pos (by omega),if_pos trivial,wrap_succ (i:=(i : Int)) (n:=l.length) (by omega) (by omega) (by omega)]
  rfl) (by
  intro k
  simp only [laws_eqFaultS.l0]
  rw [if_neg (by omega)])
 refine Ev.of_mono (laws_eqFaultS.mono l l) (K:=l.length + 1) ?_
 unfold laws_eqFaultS.f
 rw [if_pos rfl]
 exact h
end Go.Proofs.Ytfhcfhffmblacaa.P
namespace Go.Proofs.Ytfhcfhffmblacaa.P
open Go.RowKit Go.Proofs.YtfhcfhffmblacaaW.PrintWords Go.Proofs.YtfhcfhffmblacaaW.PrintLast Go.Proofs.YtfhcfhffmblacaaW.PrintMore
attribute [local go_sem] max2_int min2_int max_two min_two max_three min_three max_four min_four
set_option linter.unusedVariables false
set_option linter.unusedSimpArgs false
def laws_eqHeap.f (k : Nat) (l0_0 : List (S79)) (l1_0 : List (S79)) : Option (Bool):=(laws_eqFaultS.f k l0_0 l1_0).bind fun t3=>(if t3 = true then (some true) else (some false))
theorem laws_eqHeap.mono : ∀ a0 a1 k,LeO (laws_eqHeap.f k a0 a1) (laws_eqHeap.f (k + 1) a0 a1):=by
 intro a0 a1 k
 unfold laws_eqHeap.f
 repeat' first
   | (with_reducible exact laws_eqFaultS.mono _ _ _)
   | (with_reducible exact LeO.refl _)
   | (with_reducible exact LeO.none _)
   | (with_reducible refine LeO.ite ?_ ?_)
   | (with_reducible refine LeO.bind ?_ (fun _=>?_))
   | exact laws_eqFaultS.mono _ _ _
   | exact LeO.none _
   | refine LeO.ite ?_ ?_
   | refine LeO.bind ?_ (fun _=>?_)
set_option maxHeartbeats 8000000 in
set_option maxRecDepth 100000 in
theorem laws_eqHeap.calls (k : Nat) (A0_0 : Option Addr) (c0_0 : Nat) (l0_0 : List (S79)) (A1_0 : Option Addr) (c1_0 : Nat) (l1_0 : List (S79)) (r : Bool) (w : World) (hr0_0 : Kd.C k79 w A0_0 l0_0.length l0_0) (hc0_0 : l0_0.length ≤ c0_0) (hr1_0 : Kd.C k79 w A1_0 l1_0.length l1_0) (hc1_0 : l1_0.length ≤ c1_0) (h : laws_eqHeap.f k l0_0 l1_0 = some r) :
  Calls Try.prog 21 #[.agg #[.slice A0_0 l0_0.length c0_0],.agg #[.slice A1_0 l1_0.length c1_0]] w fun e w'=>e = .returned (.bool r) ∧ Below w.heap.size w w':=by
 have hu37:=Try.underlying37
 have HR0_0:=a0_ hr0_0
 have HC0_0:=a0_ hc0_0
 clear hr0_0 hc0_0
 have HR1_0:=a0_ hr1_0
 have HC1_0:=a0_ hc1_0
 clear hr1_0 hc1_0
 have HB:=a0_ (Below.refl w.heap.size w)
 have H : ((laws_eqFaultS.f k l0_0 l1_0).bind fun t3=>(if t3 = true then (some true) else (some false))) = some r:=h
 clear h
 replace H:=Option.bind_eq_some_iff.mp H
 obtain ⟨t3,A30,H⟩:=H
 replace H : (if t3 = true then (some true) else (some false)) = some r:=H
 have A3:=a0_ A30
 clear A30
 by_cases c4 : t3 = true
 ·subst c4
  have H1 : (some true) = some r:=by rw [if_pos rfl] at H;exact H
  clear H
  have H:=H1
  clear H1
  obtain rfl:=Option.some.inj H
  go_enter Try.func21,Try.ntmps21
  go_wp2_with (first | ((with_reducible refine gate_dst (N:=2) rfl ?_);refine box_event ?hg (N:=2) ?hd (cs:=#[.slice A0_0 l0_0.length c0_0]) (t:=37) ?hr ?_;(case hd=>rfl);(case hg=>rfl);(case hr=>first | (go_simp;done) | (go_simp;rfl));intro gb1 hg w5 hbox hb;have BK1:=a0_ (hbox);have GW1:=a0_ ((by rw [hg];exact (below_size hb_) : w.heap.size ≤ gb1));have GE1:=a0_ ((by rw [hg];exact (below_size hb_) : w.heap.size ≤ gb1));replace HB:=a0_ (below_step hb_ hb);clear hb hbox hg) | ((with_reducible refine gate_dst (N:=3) rfl ?_);refine box_event ?hg (N:=3) ?hd (cs:=#[.slice A1_0 l1_0.length c1_0]) (t:=37) ?hr ?_;(case hd=>rfl);(case hg=>rfl);(case hr=>first | (go_simp;done) | (go_simp;rfl));intro gb2 hg w6 hbox hb;have n0_:=kb_ BK1 hb;have n1_:=a0_ (below_step hb_ hb);have n2_:=a0_ (hbox);have n3_:=a0_ ((by rw [hg];exact (below_size hb_) : w.heap.size ≤ gb2));have n4_:=a0_ ((by rw [hg];exact (below_size hb_) : w.heap.size ≤ gb2));have n5_:=a0_ ((by rw [hg];exact Nat.ne_of_lt (blk_lt (bb_ BK1.out)) : gb1 ≠ gb2));have n6_:=a0_ ((by rw [hg];exact Nat.ne_of_gt (blk_lt (bb_ BK1.out)) : gb2 ≠ gb1));clear BK1 HB;have BK1:=n0_;have HB:=n1_;have BK2:=n2_;have GW2:=n3_;have GE2:=n4_;have NB1_2:=n5_;have NB2_1:=n6_;clear n0_ n1_ n2_ n3_ n4_ n5_ n6_;clear hb hbox hg;have hnb7:=NB1_2.out;have hnc7:=NB2_1.out;have hcz8_0 : w6.cell? ⟨gb1,0,none⟩ = some (.slice A0_0 l0_0.length c0_0):=(blk_cell BK1.out 0).trans rfl;have hfz8_0:=blk_frozen BK1.out 0;have hcz9_0 : w6.cell? ⟨gb2,0,none⟩ = some (.slice A1_0 l1_0.length c1_0):=(blk_cell BK2.out 0).trans rfl;have hfz9_0:=blk_frozen BK2.out 0) | ((with_reducible refine gate_callee (f:=64) rfl ?_);refine goesL_ (some 9) rfl rfl Try.func64 (by kernel_rfl) rfl #[.slice A0_0 l0_0.length c0_0,.slice A1_0 l1_0.length c1_0] rfl lm_ ?_;(with_reducible refine (laws_eqFaultS.calls k _ _ l0_0 _ _ l1_0 true _ ?side1 ?side2 ?side3 ?side4 A3.out).mono ?_);(case side1=>exact cc_ (Kd.C_below HR0_0.out HB.out));(case side2=>exact HC0_0.out);(case side3=>exact cc_ (Kd.C_below HR1_0.out HB.out));(case side4=>exact HC1_0.out);rintro e w10 ⟨rfl,hb⟩;refine ⟨_,rfl,?_⟩;replace BK1:=kb_ BK1 hb;replace BK2:=kb_ BK2 hb;replace HB:=a0_ (below_step hb_ hb);(try clear hb);(try clear hb2);(try clear hk);(try clear hi)))
  go_ret
  exact ⟨by first | rfl | (simp [errW_none,errW_some] <;> rfl) | (simp [*,errW_none,errW_some] <;> rfl),hb_⟩
 ·replace c4:=Bool.eq_false_iff.mpr c4
  subst c4
  have H1 : (some false) = some r:=by rw [if_neg (show ¬ (false = true) by decide)] at H;exact H
  clear H
  have H:=H1
  clear H1
  obtain rfl:=Option.some.inj H
  go_enter Try.func21,Try.ntmps21
  go_wp2_with (first | ((with_reducible refine gate_dst (N:=2) rfl ?_);refine box_event ?hg (N:=2) ?hd (cs:=#[.slice A0_0 l0_0.length c0_0]) (t:=37) ?hr ?_;(case hd=>rfl);(case hg=>rfl);(case hr=>first | (go_simp;done) | (go_simp;rfl));intro gb1 hg w11 hbox hb;have BK1:=a0_ (hbox);have GW1:=a0_ ((by rw [hg];exact (below_size hb_) : w.heap.size ≤ gb1));have GE1:=a0_ ((by rw [hg];exact (below_size hb_) : w.heap.size ≤ gb1));replace HB:=a0_ (below_step hb_ hb);clear hb hbox hg) | ((with_reducible refine gate_dst (N:=3) rfl ?_);refine box_event ?hg (N:=3) ?hd (cs:=#[.slice A1_0 l1_0.length c1_0]) (t:=37) ?hr ?_;(case hd=>rfl);(case hg=>rfl);(case hr=>first | (go_simp;done) | (go_simp;rfl));intro gb2 hg w12 hbox hb;have n0_:=kb_ BK1 hb;have n1_:=a0_ (below_step hb_ hb);have n2_:=a0_ (hbox);have n3_:=a0_ ((by rw [hg];exact (below_size hb_) : w.heap.size ≤ gb2));have n4_:=a0_ ((by rw [hg];exact (below_size hb_) : w.heap.size ≤ gb2));have n5_:=a0_ ((by rw [hg];exact Nat.ne_of_lt (blk_lt (bb_ BK1.out)) : gb1 ≠ gb2));have n6_:=a0_ ((by rw [hg];exact Nat.ne_of_gt (blk_lt (bb_ BK1.out)) : gb2 ≠ gb1));clear BK1 HB;have BK1:=n0_;have HB:=n1_;have BK2:=n2_;have GW2:=n3_;have GE2:=n4_;have NB1_2:=n5_;have NB2_1:=n6_;clear n0_ n1_ n2_ n3_ n4_ n5_ n6_;clear hb hbox hg;have hnb13:=NB1_2.out;have hnc13:=NB2_1.out;have hcz14_0 : w12.cell? ⟨gb1,0,none⟩ = some (.slice A0_0 l0_0.length c0_0):=(blk_cell BK1.out 0).trans rfl;have hfz14_0:=blk_frozen BK1.out 0;have hcz15_0 : w12.cell? ⟨gb2,0,none⟩ = some (.slice A1_0 l1_0.length c1_0):=(blk_cell BK2.out 0).trans rfl;have hfz15_0:=blk_frozen BK2.out 0) | ((with_reducible refine gate_callee (f:=64) rfl ?_);refine goesL_ (some 9) rfl rfl Try.func64 (by kernel_rfl) rfl #[.slice A0_0 l0_0.length c0_0,.slice A1_0 l1_0.length c1_0] rfl lm_ ?_;(with_reducible refine (laws_eqFaultS.calls k _ _ l0_0 _ _ l1_0 false _ ?side1 ?side2 ?side3 ?side4 A3.out).mono ?_);(case side1=>exact cc_ (Kd.C_below HR0_0.out HB.out));(case side2=>exact HC0_0.out);(case side3=>exact cc_ (Kd.C_below HR1_0.out HB.out));(case side4=>exact HC1_0.out);rintro e w16 ⟨rfl,hb⟩;refine ⟨_,rfl,?_⟩;replace BK1:=kb_ BK1 hb;replace BK2:=kb_ BK2 hb;replace HB:=a0_ (below_step hb_ hb);(try clear hb);(try clear hb2);(try clear hk);(try clear hi)))
  go_ret
  exact ⟨by first | rfl | (simp [errW_none,errW_some] <;> rfl) | (simp [*,errW_none,errW_some] <;> rfl),hb_⟩
theorem laws_eqHeap_ev (l : List S79) (hl : l.length ≤ 9223372036854775807) : Ev (fun k=>laws_eqHeap.f k l l) true :=
 Ev.bind (laws_eqFaultS_ev l hl) (Ev.pos rfl (Ev.const rfl))
end Go.Proofs.Ytfhcfhffmblacaa.P
namespace Go.Proofs.Ytfhcfhffmblacaa.P
open Go.RowKit Go.Proofs.YtfhcfhffmblacaaW.PrintWords Go.Proofs.YtfhcfhffmblacaaW.PrintLast Go.Proofs.YtfhcfhffmblacaaW.PrintMore
attribute [local go_sem] max2_int min2_int max_two min_two max_three min_three max_four min_four
set_option linter.unusedVariables false
set_option linter.unusedSimpArgs false
def laws_eqIntS.l0 : Nat → List Int → List Int → Int → Option (Bool)
 | 0,_,_,_=>none
 | k + 1,x0,x1,x5=>if x5 < (x0.length : Int) then (if 0 ≤ x5 then (if x5 < (x1.length : Int) then (if (rd x0 x5) = (rd x1 x5) then (laws_eqIntS.l0 k x0 x1 (wrap64 (x5 + 1))) else (some false)) else (none)) else (none)) else (some true)
def laws_eqIntS.f (k : Nat) (l0 : List Int) (l1 : List Int) : Option (Bool):=if (l0.length : Int) = (l1.length : Int) then (laws_eqIntS.l0 k l0 l1 0) else (some false)
theorem laws_eqIntS.mono_l : ∀ k,(∀ y0 y1 y2,LeO (laws_eqIntS.l0 k y0 y1 y2) (laws_eqIntS.l0 (k + 1) y0 y1 y2))
 | 0=>fun _ _ _ r h=>by simp [laws_eqIntS.l0] at h
 | k + 1=>by
  have ih0:=laws_eqIntS.mono_l k
  ·intro y0 y1 y2
   unfold laws_eqIntS.l0
   repeat' first
   | (with_reducible exact ih0 _ _ _)
   | (with_reducible exact LeO.refl _)
   | (with_reducible exact LeO.none _)
   | (with_reducible refine LeO.ite ?_ ?_)
   | (with_reducible refine LeO.bind ?_ (fun _=>?_))
   | exact ih0 _ _ _
   | exact LeO.none _
   | refine LeO.ite ?_ ?_
   | refine LeO.bind ?_ (fun _=>?_)
theorem laws_eqIntS.mono : ∀ a0 a1 k,LeO (laws_eqIntS.f k a0 a1) (laws_eqIntS.f (k + 1) a0 a1):=by
 intro a0 a1 k
 have ih0:=laws_eqIntS.mono_l k
 unfold laws_eqIntS.f
 repeat' first
   | (with_reducible exact ih0 _ _ _)
   | (with_reducible exact LeO.refl _)
   | (with_reducible exact LeO.none _)
   | (with_reducible refine LeO.ite ?_ ?_)
   | (with_reducible refine LeO.bind ?_ (fun _=>?_))
   | exact ih0 _ _ _
   | exact LeO.none _
   | refine LeO.ite ?_ ?_
   | refine LeO.bind ?_ (fun _=>?_)
set_option maxHeartbeats 8000000 in
set_option maxRecDepth 100000 in
theorem laws_eqIntS.calls (k : Nat) (A0 : Option Addr) (c0 : Nat) (l0 : List Int) (A1 : Option Addr) (c1 : Nat) (l1 : List Int) (r : Bool) (w : World) (hr0 : Kd.C (Kd.int .i64) w A0 l0.length l0) (hc0 : l0.length ≤ c0) (hr1 : Kd.C (Kd.int .i64) w A1 l1.length l1) (hc1 : l1.length ≤ c1) (h : laws_eqIntS.f k l0 l1 = some r) :
  Calls Try.prog 28 #[.slice A0 l0.length c0,.slice A1 l1.length c1] w fun e w'=>e = .returned (.bool r) ∧ Drawn0 w w':=by
 have HR0:=a0_ hr0
 have HC0:=a0_ hc0
 clear hr0 hc0
 have HR1:=a0_ hr1
 have HC1:=a0_ hc1
 clear hr1 hc1
 have H : (if (l0.length : Int) = (l1.length : Int) then (laws_eqIntS.l0 k l0 l1 0) else (some false)) = some r:=h
 clear h
 by_cases c3 : (l0.length : Int) = (l1.length : Int)
 ·rw [if_pos c3] at H
  have c3b0 : ((l0.length : Int) == (l1.length : Int)) = true:=beq_iff_eq.mpr c3
  have c3b1 : ((l0.length : Int) != (l1.length : Int)) = false:=bne_eq_false_iff_eq.mpr c3
  have c3b2 : (l0.length == l1.length) = true:=by first | simpa using c3 | (simp at c3 ⊢;omega)
  clear c3
  have H':=a0_ H
  clear H
  go_enter Try.func28,Try.ntmps28
  go_wp2
  repeat (go_quiet (fail);try go_wp2)
  go_loopg [5] k (fun kq v5 w'=>∃ (x5_1 : Int),v5 = .int .i64 x5_1 ∧ Aside0 (laws_eqIntS.l0 kq l0 l1 x5_1 = some r) ∧ Aside0 (kq ≤ k) ∧ Drawn0 w w')
  case atStart=>exact ⟨(0),(by first | rfl | (simp;done) | (simp [*];done)),H',⟨Nat.le_refl _⟩,by repeat (first | exact Drawn0.refl _ | apply Drawn0.step)⟩
  case round =>
   clear H'
   try clear c1
   try clear c2
   try clear p2
   try clear c3
   try clear c3b0
   try clear c3b1
   try clear c3b2
   obtain ⟨x5_1,rfl,HA,HK1,⟨m1,rfl⟩⟩:=hrel
   cases gk with
   | zero=>exact absurd HA.out (by simp [laws_eqIntS.l0])
   | succ k1 =>
    have H:=HA.out
    clear HA
    simp only [laws_eqIntS.l0] at H
    by_cases c4 : x5_1 < (l0.length : Int)
    ·rw [if_pos c4] at H
     have c4b0 : decide (x5_1 < (l0.length : Int)) = true:=decide_eq_true c4
     clear c4
     by_cases c5 : 0 ≤ x5_1
     ·rw [if_pos c5] at H
      have c5b0 : decide (0 ≤ x5_1) = true:=decide_eq_true c5
      clear c5
      by_cases c6 : x5_1 < (l1.length : Int)
      ·rw [if_pos c6] at H
       have c6b0 : decide (x5_1 < (l1.length : Int)) = true:=decide_eq_true c6
       clear c6
       by_cases c7 : (rd l0 x5_1) = (rd l1 x5_1)
       ·rw [if_pos c7] at H
        have c7b0 : ((rd l0 x5_1) == (rd l1 x5_1)) = true:=beq_iff_eq.mpr c7
        have c7b1 : ((rd l0 x5_1) != (rd l1 x5_1)) = false:=bne_eq_false_iff_eq.mpr c7
        clear c7
        have H':=a0_ H
        clear H
        have p1 : 0 ≤ (x5_1 : Int):=of_decide_eq_true (by first | (with_reducible assumption) | assumption)
        have q1 : x5_1 < (l0.length : Int):=of_decide_eq_true (by first | (with_reducible assumption) | assumption)
        obtain ⟨ad1,e1,hx1_0⟩:=Kd.at_int HR0.out x5_1 p1 q1
        cases e1
        replace p1:=eq_true p1
        replace q1:=eq_true q1
        have p2 : 0 ≤ (x5_1 : Int):=of_decide_eq_true (by first | (with_reducible assumption) | assumption)
        have q2 : x5_1 < (l1.length : Int):=of_decide_eq_true (by first | (with_reducible assumption) | assumption)
        obtain ⟨ad2,e2,hx2_0⟩:=Kd.at_int HR1.out x5_1 p2 q2
        cases e2
        replace p2:=eq_true p2
        replace q2:=eq_true q2
        go_wp2
        repeat (go_quiet (fail);try go_wp2)
        go_roundg k1
        case measure=>have:=HK1.out;omega
        case rel=>exact ⟨(wrap64 (x5_1 + 1)),(by first | rfl | (simp;done) | (simp [*];done)),H',⟨by have:=HK1.out;omega⟩,by repeat (first | exact Drawn0.refl _ | apply Drawn0.step)⟩
       ·rw [if_neg c7] at H
        have c7b0 : ((rd l0 x5_1) == (rd l1 x5_1)) = false:=beq_eq_false_iff_ne.mpr c7
        have c7b1 : ((rd l0 x5_1) != (rd l1 x5_1)) = true:=bne_iff_ne.mpr c7
        obtain rfl:=Option.some.inj H
        have p1 : 0 ≤ (x5_1 : Int):=of_decide_eq_true (by first | (with_reducible assumption) | assumption)
        have q1 : x5_1 < (l0.length : Int):=of_decide_eq_true (by first | (with_reducible assumption) | assumption)
        obtain ⟨ad1,e1,hx1_0⟩:=Kd.at_int HR0.out x5_1 p1 q1
        cases e1
        replace p1:=eq_true p1
        replace q1:=eq_true q1
        have p2 : 0 ≤ (x5_1 : Int):=of_decide_eq_true (by first | (with_reducible assumption) | assumption)
        have q2 : x5_1 < (l1.length : Int):=of_decide_eq_true (by first | (with_reducible assumption) | assumption)
        obtain ⟨ad2,e2,hx2_0⟩:=Kd.at_int HR1.out x5_1 p2 q2
        cases e2
        replace p2:=eq_true p2
        replace q2:=eq_true q2
        go_wp2
        repeat (go_quiet (fail);try go_wp2)
        go_ret
        exact ⟨by first | rfl | (simp;done) | (simp [*];done),by repeat (first | exact Drawn0.refl _ | apply Drawn0.step)⟩
      ·rw [if_neg c6] at H
       exact absurd H (by simp)
     ·rw [if_neg c5] at H
      exact absurd H (by simp)
    ·rw [if_neg c4] at H
     have c4b0 : decide (x5_1 < (l0.length : Int)) = false:=decide_eq_false c4
     clear c4
     obtain rfl:=Option.some.inj H
     go_wp2
     repeat (go_quiet (fail);try go_wp2)
     go_ret
     exact ⟨by first | rfl | (simp;done) | (simp [*];done),by repeat (first | exact Drawn0.refl _ | apply Drawn0.step)⟩
 ·rw [if_neg c3] at H
  have c3b0 : ((l0.length : Int) == (l1.length : Int)) = false:=beq_eq_false_iff_ne.mpr c3
  have c3b1 : ((l0.length : Int) != (l1.length : Int)) = true:=bne_iff_ne.mpr c3
  have c3b2 : (l0.length == l1.length) = false:=by first | simpa using c3 | (simp at c3 ⊢;omega)
  obtain rfl:=Option.some.inj H
  go_enter Try.func28,Try.ntmps28
  go_wp2
  repeat (go_quiet (fail);try go_wp2)
  go_ret
  exact ⟨by first | rfl | (simp;done) | (simp [*];done),by repeat (first | exact Drawn0.refl _ | apply Drawn0.step)⟩
theorem laws_eqIntS_ev (l : List Int) (hl : l.length ≤ 9223372036854775807) : Ev (fun k=>laws_eqIntS.f k l l) true:=by
 have h:=st_loop (fun k (_ : Unit) i=>laws_eqIntS.l0 k l l i) l.length (fun _=>()) true (by
  intro k i hi
  simp only [laws_eqIntS.l0]
  rw [if_pos (by omega),if_pos (by omega),if_pos (by omega),if_pos trivial,wrap_succ (i:=(i : Int)) (n:=l.length) (by omega) (by omega) (by omega)]
  rfl) (by
  intro k
  simp only [laws_eqIntS.l0]
  rw [if_neg (by omega)])
 refine Ev.of_mono (laws_eqIntS.mono l l) (K:=l.length + 1) ?_
 unfold laws_eqIntS.f
 rw [if_pos rfl]
 exact h
end Go.Proofs.Ytfhcfhffmblacaa.P
namespace Go.Proofs.Ytfhcfhffmblacaa.P
open Go.RowKit Go.Proofs.YtfhcfhffmblacaaW.PrintWords Go.Proofs.YtfhcfhffmblacaaW.PrintLast Go.Proofs.YtfhcfhffmblacaaW.PrintMore
attribute [local go_sem] max2_int min2_int max_two min_two max_three min_three max_four min_four
set_option linter.unusedVariables false
set_option linter.unusedSimpArgs false
def laws_eqResult.f (k : Nat) (l0_0 : List Int) (a0_1 : Int) (a0_2 : Int) (l0_3 : List (S79)) (l1_0 : List Int) (a1_1 : Int) (a1_2 : Int) (l1_3 : List (S79)) : Option (Bool):=(laws_eqIntS.f k l0_0 l1_0).bind fun t3=>(if t3 = true then (if a0_1 = a1_1 then (if a0_2 = a1_2 then ((laws_eqHeap.f k l0_3 l1_3).bind fun t4=>(if t4 = true then (some true) else (some false))) else (some false)) else (some false)) else (some false))
theorem laws_eqResult.mono : ∀ a0 a1 a2 a3 a4 a5 a6 a7 k,LeO (laws_eqResult.f k a0 a1 a2 a3 a4 a5 a6 a7) (laws_eqResult.f (k + 1) a0 a1 a2 a3 a4 a5 a6 a7):=by
 intro a0 a1 a2 a3 a4 a5 a6 a7 k
 unfold laws_eqResult.f
 repeat' first
   | (with_reducible exact laws_eqHeap.mono _ _ _)
   | (with_reducible exact laws_eqIntS.mono _ _ _)
   | (with_reducible exact LeO.refl _)
   | (with_reducible exact LeO.none _)
   | (with_reducible refine LeO.ite ?_ ?_)
   | (with_reducible refine LeO.bind ?_ (fun _=>?_))
   | exact laws_eqHeap.mono _ _ _
   | exact laws_eqIntS.mono _ _ _
   | exact LeO.none _
   | refine LeO.ite ?_ ?_
   | refine LeO.bind ?_ (fun _=>?_)
set_option maxHeartbeats 8000000 in
set_option maxRecDepth 100000 in
theorem laws_eqResult.calls (k : Nat) (A0_0 : Option Addr) (c0_0 : Nat) (l0_0 : List Int) (a0_1 : Int) (a0_2 : Int) (A0_3 : Option Addr) (c0_3 : Nat) (l0_3 : List (S79)) (A1_0 : Option Addr) (c1_0 : Nat) (l1_0 : List Int) (a1_1 : Int) (a1_2 : Int) (A1_3 : Option Addr) (c1_3 : Nat) (l1_3 : List (S79)) (r : Bool) (w : World) (hr0_0 : Kd.C (Kd.int .i64) w A0_0 l0_0.length l0_0) (hc0_0 : l0_0.length ≤ c0_0) (hr0_3 : Kd.C k79 w A0_3 l0_3.length l0_3) (hc0_3 : l0_3.length ≤ c0_3) (hr1_0 : Kd.C (Kd.int .i64) w A1_0 l1_0.length l1_0) (hc1_0 : l1_0.length ≤ c1_0) (hr1_3 : Kd.C k79 w A1_3 l1_3.length l1_3) (hc1_3 : l1_3.length ≤ c1_3) (h : laws_eqResult.f k l0_0 a0_1 a0_2 l0_3 l1_0 a1_1 a1_2 l1_3 = some r) :
  Calls Try.prog 51 #[.agg #[.slice A0_0 l0_0.length c0_0,.int .i64 a0_1,.int .i64 a0_2,.slice A0_3 l0_3.length c0_3],.agg #[.slice A1_0 l1_0.length c1_0,.int .i64 a1_1,.int .i64 a1_2,.slice A1_3 l1_3.length c1_3]] w fun e w'=>e = .returned (.bool r) ∧ Below w.heap.size w w':=by
 have hu67:=Try.underlying67
 have hu37:=Try.underlying37
 have HR0_0:=a0_ hr0_0
 have HC0_0:=a0_ hc0_0
 clear hr0_0 hc0_0
 have HR0_3:=a0_ hr0_3
 have HC0_3:=a0_ hc0_3
 clear hr0_3 hc0_3
 have HR1_0:=a0_ hr1_0
 have HC1_0:=a0_ hc1_0
 clear hr1_0 hc1_0
 have HR1_3:=a0_ hr1_3
 have HC1_3:=a0_ hc1_3
 clear hr1_3 hc1_3
 have HB:=a0_ (Below.refl w.heap.size w)
 have H : ((laws_eqIntS.f k l0_0 l1_0).bind fun t3=>(if t3 = true then (if a0_1 = a1_1 then (if a0_2 = a1_2 then ((laws_eqHeap.f k l0_3 l1_3).bind fun t4=>(if t4 = true then (some true) else (some false))) else (some false)) else (some false)) else (some false))) = some r:=h
 clear h
 replace H:=Option.bind_eq_some_iff.mp H
 obtain ⟨t3,A30,H⟩:=H
 replace H : (if t3 = true then (if a0_1 = a1_1 then (if a0_2 = a1_2 then ((laws_eqHeap.f k l0_3 l1_3).bind fun t4=>(if t4 = true then (some true) else (some false))) else (some false)) else (some false)) else (some false)) = some r:=H
 have A3:=a0_ A30
 clear A30
 by_cases c4 : t3 = true
 ·subst c4
  have H1 : (if a0_1 = a1_1 then (if a0_2 = a1_2 then ((laws_eqHeap.f k l0_3 l1_3).bind fun t4=>(if t4 = true then (some true) else (some false))) else (some false)) else (some false)) = some r:=by rw [if_pos rfl] at H;exact H
  clear H
  have H:=H1
  clear H1
  by_cases c5 : a0_1 = a1_1
  ·rw [if_pos c5] at H
   have c5b0 : (a0_1 == a1_1) = true:=beq_iff_eq.mpr c5
   have c5b1 : (a0_1 != a1_1) = false:=bne_eq_false_iff_eq.mpr c5
   clear c5
   by_cases c6 : a0_2 = a1_2
   ·rw [if_pos c6] at H
    have c6b0 : (a0_2 == a1_2) = true:=beq_iff_eq.mpr c6
    have c6b1 : (a0_2 != a1_2) = false:=bne_eq_false_iff_eq.mpr c6
    clear c6
    replace H:=Option.bind_eq_some_iff.mp H
    obtain ⟨t4,A70,H⟩:=H
    replace H : (if t4 = true then (some true) else (some false)) = some r:=H
    have A7:=a0_ A70
    clear A70
    by_cases c8 : t4 = true
    ·subst c8
     have H1 : (some true) = some r:=by rw [if_pos rfl] at H;exact H
     clear H
     have H:=H1
     clear H1
     obtain rfl:=Option.some.inj H
     go_enter Try.func51,Try.ntmps51
     go_wp2_with (first | ((with_reducible refine gate_dst (N:=2) rfl ?_);refine box_event ?hg (N:=2) ?hd (cs:=#[.slice A0_0 l0_0.length c0_0,.int .i64 a0_1,.int .i64 a0_2,.slice A0_3 l0_3.length c0_3]) (t:=67) ?hr ?_;(case hd=>rfl);(case hg=>rfl);(case hr=>first | (go_simp;done) | (go_simp;rfl));intro gb1 hg w9 hbox hb;have BK1:=a0_ (hbox);have GW1:=a0_ ((by rw [hg];exact (below_size hb_) : w.heap.size ≤ gb1));have GE1:=a0_ ((by rw [hg];exact (below_size hb_) : w.heap.size ≤ gb1));replace HB:=a0_ (below_step hb_ hb);clear hb hbox hg) | ((with_reducible refine gate_dst (N:=3) rfl ?_);refine box_event ?hg (N:=3) ?hd (cs:=#[.slice A1_0 l1_0.length c1_0,.int .i64 a1_1,.int .i64 a1_2,.slice A1_3 l1_3.length c1_3]) (t:=67) ?hr ?_;(case hd=>rfl);(case hg=>rfl);(case hr=>first | (go_simp;done) | (go_simp;rfl));intro gb2 hg w10 hbox hb;have n0_:=kb_ BK1 hb;have n1_:=a0_ (below_step hb_ hb);have n2_:=a0_ (hbox);have n3_:=a0_ ((by rw [hg];exact (below_size hb_) : w.heap.size ≤ gb2));have n4_:=a0_ ((by rw [hg];exact (below_size hb_) : w.heap.size ≤ gb2));have n5_:=a0_ ((by rw [hg];exact Nat.ne_of_lt (blk_lt (bb_ BK1.out)) : gb1 ≠ gb2));have n6_:=a0_ ((by rw [hg];exact Nat.ne_of_gt (blk_lt (bb_ BK1.out)) : gb2 ≠ gb1));clear BK1 HB;have BK1:=n0_;have HB:=n1_;have BK2:=n2_;have GW2:=n3_;have GE2:=n4_;have NB1_2:=n5_;have NB2_1:=n6_;clear n0_ n1_ n2_ n3_ n4_ n5_ n6_;clear hb hbox hg;have hnb11:=NB1_2.out;have hnc11:=NB2_1.out;have hcz12_0 : w10.cell? ⟨gb1,0,none⟩ = some (.slice A0_0 l0_0.length c0_0):=(blk_cell BK1.out 0).trans rfl;have hcz12_1 : w10.cell? ⟨gb1,1,none⟩ = some (.int .i64 a0_1):=(blk_cell BK1.out 1).trans rfl;have hcz12_2 : w10.cell? ⟨gb1,2,none⟩ = some (.int .i64 a0_2):=(blk_cell BK1.out 2).trans rfl;have hcz12_3 : w10.cell? ⟨gb1,3,none⟩ = some (.slice A0_3 l0_3.length c0_3):=(blk_cell BK1.out 3).trans rfl;have hfz12_0:=blk_frozen BK1.out 0;have hfz12_1:=blk_frozen BK1.out 1;have hfz12_2:=blk_frozen BK1.out 2;have hfz12_3:=blk_frozen BK1.out 3;have hcz13_0 : w10.cell? ⟨gb2,0,none⟩ = some (.slice A1_0 l1_0.length c1_0):=(blk_cell BK2.out 0).trans rfl;have hcz13_1 : w10.cell? ⟨gb2,1,none⟩ = some (.int .i64 a1_1):=(blk_cell BK2.out 1).trans rfl;have hcz13_2 : w10.cell? ⟨gb2,2,none⟩ = some (.int .i64 a1_2):=(blk_cell BK2.out 2).trans rfl;have hcz13_3 : w10.cell? ⟨gb2,3,none⟩ = some (.slice A1_3 l1_3.length c1_3):=(blk_cell BK2.out 3).trans rfl;have hfz13_0:=blk_frozen BK2.out 0;have hfz13_1:=blk_frozen BK2.out 1;have hfz13_2:=blk_frozen BK2.out 2;have hfz13_3:=blk_frozen BK2.out 3) | ((with_reducible refine gate_callee (f:=28) rfl ?_);refine goesL_ (some 9) rfl rfl Try.func28 (by kernel_rfl) rfl #[.slice A0_0 l0_0.length c0_0,.slice A1_0 l1_0.length c1_0] rfl lm_ ?_;(with_reducible refine (laws_eqIntS.calls k _ _ l0_0 _ _ l1_0 true _ ?side1 ?side2 ?side3 ?side4 A3.out).mono ?_);(case side1=>exact cc_ (Kd.C_below HR0_0.out HB.out));(case side2=>exact HC0_0.out);(case side3=>exact cc_ (Kd.C_below HR1_0.out HB.out));(case side4=>exact HC1_0.out);rintro e w' ⟨rfl,⟨nd,rfl⟩⟩;refine ⟨_,rfl,?_⟩) | ((with_reducible refine gate_callee (f:=21) rfl ?_);refine goesL_ (some 25) rfl rfl Try.func21 (by kernel_rfl) rfl #[.agg #[.slice A0_3 l0_3.length c0_3],.agg #[.slice A1_3 l1_3.length c1_3]] rfl lm_ ?_;(with_reducible refine (laws_eqHeap.calls k _ _ l0_3 _ _ l1_3 true _ ?side1 ?side2 ?side3 ?side4 A7.out).mono ?_);(case side1=>repeat (first | exact (Kd.C_below HR0_3.out hb_) | (with_reducible refine Kd.C_alloc ?_ _) | (with_reducible refine Kd.C_drewN ?_ _) | (with_reducible refine Kd.C_drew ?_)));(case side2=>exact HC0_3.out);(case side3=>repeat (first | exact (Kd.C_below HR1_3.out hb_) | (with_reducible refine Kd.C_alloc ?_ _) | (with_reducible refine Kd.C_drewN ?_ _) | (with_reducible refine Kd.C_drew ?_)));(case side4=>exact HC1_3.out);rintro e w14 ⟨rfl,hb⟩;refine ⟨_,rfl,?_⟩;replace BK1:=kb_ BK1 hb;replace BK2:=kb_ BK2 hb;replace HB:=a0_ (below_step hb_ hb);(try clear hb);(try clear hb2);(try clear hk);(try clear hi)))
     go_ret
     exact ⟨by first | rfl | (simp [errW_none,errW_some] <;> rfl) | (simp [*,errW_none,errW_some] <;> rfl),hb_⟩
    ·replace c8:=Bool.eq_false_iff.mpr c8
     subst c8
     have H1 : (some false) = some r:=by rw [if_neg (show ¬ (false = true) by decide)] at H;exact H
     clear H
     have H:=H1
     clear H1
     obtain rfl:=Option.some.inj H
     go_enter Try.func51,Try.ntmps51
     go_wp2_with (first | ((with_reducible refine gate_dst (N:=2) rfl ?_);refine box_event ?hg (N:=2) ?hd (cs:=#[.slice A0_0 l0_0.length c0_0,.int .i64 a0_1,.int .i64 a0_2,.slice A0_3 l0_3.length c0_3]) (t:=67) ?hr ?_;(case hd=>rfl);(case hg=>rfl);(case hr=>first | (go_simp;done) | (go_simp;rfl));intro gb1 hg w15 hbox hb;have BK1:=a0_ (hbox);have GW1:=a0_ ((by rw [hg];exact (below_size hb_) : w.heap.size ≤ gb1));have GE1:=a0_ ((by rw [hg];exact (below_size hb_) : w.heap.size ≤ gb1));replace HB:=a0_ (below_step hb_ hb);clear hb hbox hg) | ((with_reducible refine gate_dst (N:=3) rfl ?_);refine box_event ?hg (N:=3) ?hd (cs:=#[.slice A1_0 l1_0.length c1_0,.int .i64 a1_1,.int .i64 a1_2,.slice A1_3 l1_3.length c1_3]) (t:=67) ?hr ?_;(case hd=>rfl);(case hg=>rfl);(case hr=>first | (go_simp;done) | (go_simp;rfl));intro gb2 hg w16 hbox hb;have n0_:=kb_ BK1 hb;have n1_:=a0_ (below_step hb_ hb);have n2_:=a0_ (hbox);have n3_:=a0_ ((by rw [hg];exact (below_size hb_) : w.heap.size ≤ gb2));have n4_:=a0_ ((by rw [hg];exact (below_size hb_) : w.heap.size ≤ gb2));have n5_:=a0_ ((by rw [hg];exact Nat.ne_of_lt (blk_lt (bb_ BK1.out)) : gb1 ≠ gb2));have n6_:=a0_ ((by rw [hg];exact Nat.ne_of_gt (blk_lt (bb_ BK1.out)) : gb2 ≠ gb1));clear BK1 HB;have BK1:=n0_;have HB:=n1_;have BK2:=n2_;have GW2:=n3_;have GE2:=n4_;have NB1_2:=n5_;have NB2_1:=n6_;clear n0_ n1_ n2_ n3_ n4_ n5_ n6_;clear hb hbox hg;have hnb17:=NB1_2.out;have hnc17:=NB2_1.out;have hcz18_0 : w16.cell? ⟨gb1,0,none⟩ = some (.slice A0_0 l0_0.length c0_0):=(blk_cell BK1.out 0).trans rfl;have hcz18_1 : w16.cell? ⟨gb1,1,none⟩ = some (.int .i64 a0_1):=(blk_cell BK1.out 1).trans rfl;have hcz18_2 : w16.cell? ⟨gb1,2,none⟩ = some (.int .i64 a0_2):=(blk_cell BK1.out 2).trans rfl;have hcz18_3 : w16.cell? ⟨gb1,3,none⟩ = some (.slice A0_3 l0_3.length c0_3):=(blk_cell BK1.out 3).trans rfl;have hfz18_0:=blk_frozen BK1.out 0;have hfz18_1:=blk_frozen BK1.out 1;have hfz18_2:=blk_frozen BK1.out 2;have hfz18_3:=blk_frozen BK1.out 3;have hcz19_0 : w16.cell? ⟨gb2,0,none⟩ = some (.slice A1_0 l1_0.length c1_0):=(blk_cell BK2.out 0).trans rfl;have hcz19_1 : w16.cell? ⟨gb2,1,none⟩ = some (.int .i64 a1_1):=(blk_cell BK2.out 1).trans rfl;have hcz19_2 : w16.cell? ⟨gb2,2,none⟩ = some (.int .i64 a1_2):=(blk_cell BK2.out 2).trans rfl;have hcz19_3 : w16.cell? ⟨gb2,3,none⟩ = some (.slice A1_3 l1_3.length c1_3):=(blk_cell BK2.out 3).trans rfl;have hfz19_0:=blk_frozen BK2.out 0;have hfz19_1:=blk_frozen BK2.out 1;have hfz19_2:=blk_frozen BK2.out 2;have hfz19_3:=blk_frozen BK2.out 3) | ((with_reducible refine gate_callee (f:=28) rfl ?_);refine goesL_ (some 9) rfl rfl Try.func28 (by kernel_rfl) rfl #[.slice A0_0 l0_0.length c0_0,.slice A1_0 l1_0.length c1_0] rfl lm_ ?_;(with_reducible refine (laws_eqIntS.calls k _ _ l0_0 _ _ l1_0 true _ ?side1 ?side2 ?side3 ?side4 A3.out).mono ?_);(case side1=>exact cc_ (Kd.C_below HR0_0.out HB.out));(case side2=>exact HC0_0.out);(case side3=>exact cc_ (Kd.C_below HR1_0.out HB.out));(case side4=>exact HC1_0.out);rintro e w' ⟨rfl,⟨nd,rfl⟩⟩;refine ⟨_,rfl,?_⟩) | ((with_reducible refine gate_callee (f:=21) rfl ?_);refine goesL_ (some 25) rfl rfl Try.func21 (by kernel_rfl) rfl #[.agg #[.slice A0_3 l0_3.length c0_3],.agg #[.slice A1_3 l1_3.length c1_3]] rfl lm_ ?_;(with_reducible refine (laws_eqHeap.calls k _ _ l0_3 _ _ l1_3 false _ ?side1 ?side2 ?side3 ?side4 A7.out).mono ?_);(case side1=>repeat (first | exact (Kd.C_below HR0_3.out hb_) | (with_reducible refine Kd.C_alloc ?_ _) | (with_reducible refine Kd.C_drewN ?_ _) | (with_reducible refine Kd.C_drew ?_)));(case side2=>exact HC0_3.out);(case side3=>repeat (first | exact (Kd.C_below HR1_3.out hb_) | (with_reducible refine Kd.C_alloc ?_ _) | (with_reducible refine Kd.C_drewN ?_ _) | (with_reducible refine Kd.C_drew ?_)));(case side4=>exact HC1_3.out);rintro e w20 ⟨rfl,hb⟩;refine ⟨_,rfl,?_⟩;replace BK1:=kb_ BK1 hb;replace BK2:=kb_ BK2 hb;replace HB:=a0_ (below_step hb_ hb);(try clear hb);(try clear hb2);(try clear hk);(try clear hi)))
     go_ret
     exact ⟨by first | rfl | (simp [errW_none,errW_some] <;> rfl) | (simp [*,errW_none,errW_some] <;> rfl),hb_⟩
   ·rw [if_neg c6] at H
    have c6b0 : (a0_2 == a1_2) = false:=beq_eq_false_iff_ne.mpr c6
    have c6b1 : (a0_2 != a1_2) = true:=bne_iff_ne.mpr c6
    obtain rfl:=Option.some.inj H
    go_enter Try.func51,Try.ntmps51
    go_wp2_with (first | ((with_reducible refine gate_dst (N:=2) rfl ?_);refine box_event ?hg (N:=2) ?hd (cs:=#[.slice A0_0 l0_0.length c0_0,.int .i64 a0_1,.int .i64 a0_2,.slice A0_3 l0_3.length c0_3]) (t:=67) ?hr ?_;(case hd=>rfl);(case hg=>rfl);(case hr=>first | (go_simp;done) | (go_simp;rfl));intro gb1 hg w21 hbox hb;have BK1:=a0_ (hbox);have GW1:=a0_ ((by rw [hg];exact (below_size hb_) : w.heap.size ≤ gb1));have GE1:=a0_ ((by rw [hg];exact (below_size hb_) : w.heap.size ≤ gb1));replace HB:=a0_ (below_step hb_ hb);clear hb hbox hg) | ((with_reducible refine gate_dst (N:=3) rfl ?_);refine box_event ?hg (N:=3) ?hd (cs:=#[.slice A1_0 l1_0.length c1_0,.int .i64 a1_1,.int .i64 a1_2,.slice A1_3 l1_3.length c1_3]) (t:=67) ?hr ?_;(case hd=>rfl);(case hg=>rfl);(case hr=>first | (go_simp;done) | (go_simp;rfl));intro gb2 hg w22 hbox hb;have n0_:=kb_ BK1 hb;have n1_:=a0_ (below_step hb_ hb);have n2_:=a0_ (hbox);have n3_:=a0_ ((by rw [hg];exact (below_size hb_) : w.heap.size ≤ gb2));have n4_:=a0_ ((by rw [hg];exact (below_size hb_) : w.heap.size ≤ gb2));have n5_:=a0_ ((by rw [hg];exact Nat.ne_of_lt (blk_lt (bb_ BK1.out)) : gb1 ≠ gb2));have n6_:=a0_ ((by rw [hg];exact Nat.ne_of_gt (blk_lt (bb_ BK1.out)) : gb2 ≠ gb1));clear BK1 HB;have BK1:=n0_;have HB:=n1_;have BK2:=n2_;have GW2:=n3_;have GE2:=n4_;have NB1_2:=n5_;have NB2_1:=n6_;clear n0_ n1_ n2_ n3_ n4_ n5_ n6_;clear hb hbox hg;have hnb23:=NB1_2.out;have hnc23:=NB2_1.out;have hcz24_0 : w22.cell? ⟨gb1,0,none⟩ = some (.slice A0_0 l0_0.length c0_0):=(blk_cell BK1.out 0).trans rfl;have hcz24_1 : w22.cell? ⟨gb1,1,none⟩ = some (.int .i64 a0_1):=(blk_cell BK1.out 1).trans rfl;have hcz24_2 : w22.cell? ⟨gb1,2,none⟩ = some (.int .i64 a0_2):=(blk_cell BK1.out 2).trans rfl;have hcz24_3 : w22.cell? ⟨gb1,3,none⟩ = some (.slice A0_3 l0_3.length c0_3):=(blk_cell BK1.out 3).trans rfl;have hfz24_0:=blk_frozen BK1.out 0;have hfz24_1:=blk_frozen BK1.out 1;have hfz24_2:=blk_frozen BK1.out 2;have hfz24_3:=blk_frozen BK1.out 3;have hcz25_0 : w22.cell? ⟨gb2,0,none⟩ = some (.slice A1_0 l1_0.length c1_0):=(blk_cell BK2.out 0).trans rfl;have hcz25_1 : w22.cell? ⟨gb2,1,none⟩ = some (.int .i64 a1_1):=(blk_cell BK2.out 1).trans rfl;have hcz25_2 : w22.cell? ⟨gb2,2,none⟩ = some (.int .i64 a1_2):=(blk_cell BK2.out 2).trans rfl;have hcz25_3 : w22.cell? ⟨gb2,3,none⟩ = some (.slice A1_3 l1_3.length c1_3):=(blk_cell BK2.out 3).trans rfl;have hfz25_0:=blk_frozen BK2.out 0;have hfz25_1:=blk_frozen BK2.out 1;have hfz25_2:=blk_frozen BK2.out 2;have hfz25_3:=blk_frozen BK2.out 3) | ((with_reducible refine gate_callee (f:=28) rfl ?_);refine goesL_ (some 9) rfl rfl Try.func28 (by kernel_rfl) rfl #[.slice A0_0 l0_0.length c0_0,.slice A1_0 l1_0.length c1_0] rfl lm_ ?_;(with_reducible refine (laws_eqIntS.calls k _ _ l0_0 _ _ l1_0 true _ ?side1 ?side2 ?side3 ?side4 A3.out).mono ?_);(case side1=>exact cc_ (Kd.C_below HR0_0.out HB.out));(case side2=>exact HC0_0.out);(case side3=>exact cc_ (Kd.C_below HR1_0.out HB.out));(case side4=>exact HC1_0.out);rintro e w' ⟨rfl,⟨nd,rfl⟩⟩;refine ⟨_,rfl,?_⟩))
    go_ret
    exact ⟨by first | rfl | (simp [errW_none,errW_some] <;> rfl) | (simp [*,errW_none,errW_some] <;> rfl),hb_⟩
  ·rw [if_neg c5] at H
   have c5b0 : (a0_1 == a1_1) = false:=beq_eq_false_iff_ne.mpr c5
   have c5b1 : (a0_1 != a1_1) = true:=bne_iff_ne.mpr c5
   obtain rfl:=Option.some.inj H
   go_enter Try.func51,Try.ntmps51
   go_wp2_with (first | ((with_reducible refine gate_dst (N:=2) rfl ?_);refine box_event ?hg (N:=2) ?hd (cs:=#[.slice A0_0 l0_0.length c0_0,.int .i64 a0_1,.int .i64 a0_2,.slice A0_3 l0_3.length c0_3]) (t:=67) ?hr ?_;(case hd=>rfl);(case hg=>rfl);(case hr=>first | (go_simp;done) | (go_simp;rfl));intro gb1 hg w26 hbox hb;have BK1:=a0_ (hbox);have GW1:=a0_ ((by rw [hg];exact (below_size hb_) : w.heap.size ≤ gb1));have GE1:=a0_ ((by rw [hg];exact (below_size hb_) : w.heap.size ≤ gb1));replace HB:=a0_ (below_step hb_ hb);clear hb hbox hg) | ((with_reducible refine gate_dst (N:=3) rfl ?_);refine box_event ?hg (N:=3) ?hd (cs:=#[.slice A1_0 l1_0.length c1_0,.int .i64 a1_1,.int .i64 a1_2,.slice A1_3 l1_3.length c1_3]) (t:=67) ?hr ?_;(case hd=>rfl);(case hg=>rfl);(case hr=>first | (go_simp;done) | (go_simp;rfl));intro gb2 hg w27 hbox hb;have n0_:=kb_ BK1 hb;have n1_:=a0_ (below_step hb_ hb);have n2_:=a0_ (hbox);have n3_:=a0_ ((by rw [hg];exact (below_size hb_) : w.heap.size ≤ gb2));have n4_:=a0_ ((by rw [hg];exact (below_size hb_) : w.heap.size ≤ gb2));have n5_:=a0_ ((by rw [hg];exact Nat.ne_of_lt (blk_lt (bb_ BK1.out)) : gb1 ≠ gb2));have n6_:=a0_ ((by rw [hg];exact Nat.ne_of_gt (blk_lt (bb_ BK1.out)) : gb2 ≠ gb1));clear BK1 HB;have BK1:=n0_;have HB:=n1_;have BK2:=n2_;have GW2:=n3_;have GE2:=n4_;have NB1_2:=n5_;have NB2_1:=n6_;clear n0_ n1_ n2_ n3_ n4_ n5_ n6_;clear hb hbox hg;have hnb28:=NB1_2.out;have hnc28:=NB2_1.out;have hcz29_0 : w27.cell? ⟨gb1,0,none⟩ = some (.slice A0_0 l0_0.length c0_0):=(blk_cell BK1.out 0).trans rfl;have hcz29_1 : w27.cell? ⟨gb1,1,none⟩ = some (.int .i64 a0_1):=(blk_cell BK1.out 1).trans rfl;have hcz29_2 : w27.cell? ⟨gb1,2,none⟩ = some (.int .i64 a0_2):=(blk_cell BK1.out 2).trans rfl;have hcz29_3 : w27.cell? ⟨gb1,3,none⟩ = some (.slice A0_3 l0_3.length c0_3):=(blk_cell BK1.out 3).trans rfl;have hfz29_0:=blk_frozen BK1.out 0;have hfz29_1:=blk_frozen BK1.out 1;have hfz29_2:=blk_frozen BK1.out 2;have hfz29_3:=blk_frozen BK1.out 3;have hcz30_0 : w27.cell? ⟨gb2,0,none⟩ = some (.slice A1_0 l1_0.length c1_0):=(blk_cell BK2.out 0).trans rfl;have hcz30_1 : w27.cell? ⟨gb2,1,none⟩ = some (.int .i64 a1_1):=(blk_cell BK2.out 1).trans rfl;have hcz30_2 : w27.cell? ⟨gb2,2,none⟩ = some (.int .i64 a1_2):=(blk_cell BK2.out 2).trans rfl;have hcz30_3 : w27.cell? ⟨gb2,3,none⟩ = some (.slice A1_3 l1_3.length c1_3):=(blk_cell BK2.out 3).trans rfl;have hfz30_0:=blk_frozen BK2.out 0;have hfz30_1:=blk_frozen BK2.out 1;have hfz30_2:=blk_frozen BK2.out 2;have hfz30_3:=blk_frozen BK2.out 3) | ((with_reducible refine gate_callee (f:=28) rfl ?_);refine goesL_ (some 9) rfl rfl Try.func28 (by kernel_rfl) rfl #[.slice A0_0 l0_0.length c0_0,.slice A1_0 l1_0.length c1_0] rfl lm_ ?_;(with_reducible refine (laws_eqIntS.calls k _ _ l0_0 _ _ l1_0 true _ ?side1 ?side2 ?side3 ?side4 A3.out).mono ?_);(case side1=>exact cc_ (Kd.C_below HR0_0.out HB.out));(case side2=>exact HC0_0.out);(case side3=>exact cc_ (Kd.C_below HR1_0.out HB.out));(case side4=>exact HC1_0.out);rintro e w' ⟨rfl,⟨nd,rfl⟩⟩;refine ⟨_,rfl,?_⟩))
   go_ret
   exact ⟨by first | rfl | (simp [errW_none,errW_some] <;> rfl) | (simp [*,errW_none,errW_some] <;> rfl),hb_⟩
 ·replace c4:=Bool.eq_false_iff.mpr c4
  subst c4
  have H1 : (some false) = some r:=by rw [if_neg (show ¬ (false = true) by decide)] at H;exact H
  clear H
  have H:=H1
  clear H1
  obtain rfl:=Option.some.inj H
  go_enter Try.func51,Try.ntmps51
  go_wp2_with (first | ((with_reducible refine gate_dst (N:=2) rfl ?_);refine box_event ?hg (N:=2) ?hd (cs:=#[.slice A0_0 l0_0.length c0_0,.int .i64 a0_1,.int .i64 a0_2,.slice A0_3 l0_3.length c0_3]) (t:=67) ?hr ?_;(case hd=>rfl);(case hg=>rfl);(case hr=>first | (go_simp;done) | (go_simp;rfl));intro gb1 hg w31 hbox hb;have BK1:=a0_ (hbox);have GW1:=a0_ ((by rw [hg];exact (below_size hb_) : w.heap.size ≤ gb1));have GE1:=a0_ ((by rw [hg];exact (below_size hb_) : w.heap.size ≤ gb1));replace HB:=a0_ (below_step hb_ hb);clear hb hbox hg) | ((with_reducible refine gate_dst (N:=3) rfl ?_);refine box_event ?hg (N:=3) ?hd (cs:=#[.slice A1_0 l1_0.length c1_0,.int .i64 a1_1,.int .i64 a1_2,.slice A1_3 l1_3.length c1_3]) (t:=67) ?hr ?_;(case hd=>rfl);(case hg=>rfl);(case hr=>first | (go_simp;done) | (go_simp;rfl));intro gb2 hg w32 hbox hb;have n0_:=kb_ BK1 hb;have n1_:=a0_ (below_step hb_ hb);have n2_:=a0_ (hbox);have n3_:=a0_ ((by rw [hg];exact (below_size hb_) : w.heap.size ≤ gb2));have n4_:=a0_ ((by rw [hg];exact (below_size hb_) : w.heap.size ≤ gb2));have n5_:=a0_ ((by rw [hg];exact Nat.ne_of_lt (blk_lt (bb_ BK1.out)) : gb1 ≠ gb2));have n6_:=a0_ ((by rw [hg];exact Nat.ne_of_gt (blk_lt (bb_ BK1.out)) : gb2 ≠ gb1));clear BK1 HB;have BK1:=n0_;have HB:=n1_;have BK2:=n2_;have GW2:=n3_;have GE2:=n4_;have NB1_2:=n5_;have NB2_1:=n6_;clear n0_ n1_ n2_ n3_ n4_ n5_ n6_;clear hb hbox hg;have hnb33:=NB1_2.out;have hnc33:=NB2_1.out;have hcz34_0 : w32.cell? ⟨gb1,0,none⟩ = some (.slice A0_0 l0_0.length c0_0):=(blk_cell BK1.out 0).trans rfl;have hcz34_1 : w32.cell? ⟨gb1,1,none⟩ = some (.int .i64 a0_1):=(blk_cell BK1.out 1).trans rfl;have hcz34_2 : w32.cell? ⟨gb1,2,none⟩ = some (.int .i64 a0_2):=(blk_cell BK1.out 2).trans rfl;have hcz34_3 : w32.cell? ⟨gb1,3,none⟩ = some (.slice A0_3 l0_3.length c0_3):=(blk_cell BK1.out 3).trans rfl;have hfz34_0:=blk_frozen BK1.out 0;have hfz34_1:=blk_frozen BK1.out 1;have hfz34_2:=blk_frozen BK1.out 2;have hfz34_3:=blk_frozen BK1.out 3;have hcz35_0 : w32.cell? ⟨gb2,0,none⟩ = some (.slice A1_0 l1_0.length c1_0):=(blk_cell BK2.out 0).trans rfl;have hcz35_1 : w32.cell? ⟨gb2,1,none⟩ = some (.int .i64 a1_1):=(blk_cell BK2.out 1).trans rfl;have hcz35_2 : w32.cell? ⟨gb2,2,none⟩ = some (.int .i64 a1_2):=(blk_cell BK2.out 2).trans rfl;have hcz35_3 : w32.cell? ⟨gb2,3,none⟩ = some (.slice A1_3 l1_3.length c1_3):=(blk_cell BK2.out 3).trans rfl;have hfz35_0:=blk_frozen BK2.out 0;have hfz35_1:=blk_frozen BK2.out 1;have hfz35_2:=blk_frozen BK2.out 2;have hfz35_3:=blk_frozen BK2.out 3) | ((with_reducible refine gate_callee (f:=28) rfl ?_);refine goesL_ (some 9) rfl rfl Try.func28 (by kernel_rfl) rfl #[.slice A0_0 l0_0.length c0_0,.slice A1_0 l1_0.length c1_0] rfl lm_ ?_;(with_reducible refine (laws_eqIntS.calls k _ _ l0_0 _ _ l1_0 false _ ?side1 ?side2 ?side3 ?side4 A3.out).mono ?_);(case side1=>exact cc_ (Kd.C_below HR0_0.out HB.out));(case side2=>exact HC0_0.out);(case side3=>exact cc_ (Kd.C_below HR1_0.out HB.out));(case side4=>exact HC1_0.out);rintro e w' ⟨rfl,⟨nd,rfl⟩⟩;refine ⟨_,rfl,?_⟩))
  go_ret
  exact ⟨by first | rfl | (simp [errW_none,errW_some] <;> rfl) | (simp [*,errW_none,errW_some] <;> rfl),hb_⟩
theorem laws_eqResult_ev (l : List Int) (e v : Int) (h : List S79) (hl : l.length ≤ 9223372036854775807) (hh : h.length ≤ 9223372036854775807) : Ev (fun k=>laws_eqResult.f k l e v h l e v h) true :=
 Ev.bind (laws_eqIntS_ev l hl) (Ev.pos rfl (Ev.pos rfl (Ev.pos rfl (Ev.bind (laws_eqHeap_ev h hh) (Ev.pos rfl (Ev.const rfl))))))
end Go.Proofs.Ytfhcfhffmblacaa.P
