/- Texts under the proof of FnExactWrapGroup: helper words, the functions' contracts and the plain laws. No condition. -/
import Derived.Test.YtbglafibhopleaaQFnExactWrapGroupa
import Derived.Test.YtbglafibhopleaaQFnExactWrapGroupc
import Derived.Test.YtbglafibhopleaaQFnExactWrapGroupb
namespace Go.Proofs.Ytbglafibhopleaa.P
open Go.RowKit Go.Proofs.YtbglafibhopleaaW.PrintWords Go.Proofs.YtbglafibhopleaaW.PrintLast Go.Proofs.YtbglafibhopleaaW.PrintMore
attribute [local go_sem] max2_int min2_int max_two min_two max_three min_three max_four min_four
set_option linter.unusedVariables false
set_option linter.unusedSimpArgs false
def laws_heldPartSS.l0 : Nat → List (List (S55)) → Int → Int → Option (Int)
 | 0,_,_,_=>none
 | k + 1,x0,x1,x5=>if x5 < (x0.length : Int) then (if 0 ≤ x5 then ((laws_heldPartS.f k (rd_L9 x0 x5) x1).bind fun t2=>(if t2 < 0 then (some (-1)) else (laws_heldPartSS.l0 k x0 t2 (wrap64 (x5 + 1))))) else (none)) else (some x1)
def laws_heldPartSS.f (k : Nat) (l0 : List (List (S55))) (a1 : Int) : Option (Int):=laws_heldPartSS.l0 k l0 a1 0
theorem laws_heldPartSS.mono_l : ∀ k,(∀ y0 y1 y2,LeO (laws_heldPartSS.l0 k y0 y1 y2) (laws_heldPartSS.l0 (k + 1) y0 y1 y2))
 | 0=>fun _ _ _ r h=>by simp [laws_heldPartSS.l0] at h
 | k + 1=>by
  have ih0:=laws_heldPartSS.mono_l k
  ·intro y0 y1 y2
   unfold laws_heldPartSS.l0
   repeat' first
   | (with_reducible exact ih0 _ _ _)
   | (with_reducible exact laws_heldPartS.mono _ _ _)
   | (with_reducible exact LeO.refl _)
   | (with_reducible exact LeO.none _)
   | (with_reducible refine LeO.ite ?_ ?_)
   | (with_reducible refine LeO.bind ?_ (fun _=>?_))
   | exact ih0 _ _ _
   | exact laws_heldPartS.mono _ _ _
   | exact LeO.none _
   | refine LeO.ite ?_ ?_
   | refine LeO.bind ?_ (fun _=>?_)
theorem laws_heldPartSS.mono : ∀ a0 a1 k,LeO (laws_heldPartSS.f k a0 a1) (laws_heldPartSS.f (k + 1) a0 a1):=by
 intro a0 a1 k
 have ih0:=laws_heldPartSS.mono_l k
 unfold laws_heldPartSS.f
 repeat' first
   | (with_reducible exact ih0 _ _ _)
   | (with_reducible exact laws_heldPartS.mono _ _ _)
   | (with_reducible exact LeO.refl _)
   | (with_reducible exact LeO.none _)
   | (with_reducible refine LeO.ite ?_ ?_)
   | (with_reducible refine LeO.bind ?_ (fun _=>?_))
   | exact ih0 _ _ _
   | exact laws_heldPartS.mono _ _ _
   | exact LeO.none _
   | refine LeO.ite ?_ ?_
   | refine LeO.bind ?_ (fun _=>?_)
set_option maxHeartbeats 8000000 in
set_option maxRecDepth 100000 in
theorem laws_heldPartSS.calls (k : Nat) (A0 : Option Addr) (c0 : Nat) (l0 : List (List (S55))) (a1 : Int) (r : Int) (w : World) (hr0 : Kd.C (Kd.slice 55 k55) w A0 l0.length l0) (hc0 : l0.length ≤ c0) (h : laws_heldPartSS.f k l0 a1 = some r) :
  Calls Try.prog 25 #[.slice A0 l0.length c0,.int .i64 a1] w fun e w'=>e = .returned (.int .i64 r) ∧ Drawn0 w w':=by
 have HR0:=a0_ hr0
 have HC0:=a0_ hc0
 clear hr0 hc0
 have H : (laws_heldPartSS.l0 k l0 a1 0) = some r:=h
 clear h
 have H':=a0_ H
 clear H
 go_enter Try.func25,Try.ntmps25
 go_wp2
 go_loopg [1,5] k (fun kq v1 v5 w'=>∃ (x1_1 : Int) (x5_1 : Int),v1 = .int .i64 x1_1 ∧ v5 = .int .i64 x5_1 ∧ Aside0 (laws_heldPartSS.l0 kq l0 x1_1 x5_1 = some r) ∧ Aside0 (kq ≤ k) ∧ Drawn0 w w')
 case atStart=>exact ⟨(a1),(0),(by first | rfl | (simp;done) | (simp [*];done)),(by first | rfl | (simp;done) | (simp [*];done)),H',⟨Nat.le_refl _⟩,by repeat (first | exact Drawn0.refl _ | apply Drawn0.step)⟩
 case round =>
  clear H'
  try clear c2
  try clear p2
  obtain ⟨x1_1,x5_1,rfl,rfl,HA,HK1,⟨m1,rfl⟩⟩:=hrel
  cases gk with
  | zero=>exact absurd HA.out (by simp [laws_heldPartSS.l0])
  | succ k1 =>
   have H:=HA.out
   clear HA
   simp only [laws_heldPartSS.l0] at H
   by_cases c3 : x5_1 < (l0.length : Int)
   ·rw [if_pos c3] at H
    have c3b0 : decide (x5_1 < (l0.length : Int)) = true:=decide_eq_true c3
    clear c3
    by_cases c4 : 0 ≤ x5_1
    ·rw [if_pos c4] at H
     have c4b0 : decide (0 ≤ x5_1) = true:=decide_eq_true c4
     clear c4
     replace H:=Option.bind_eq_some_iff.mp H
     obtain ⟨t2,A50,H⟩:=H
     try dsimp only at H
     have A5:=a0_ A50
     clear A50
     by_cases c6 : t2 < 0
     ·rw [if_pos c6] at H
      have c6b0 : decide (t2 < 0) = true:=decide_eq_true c6
      clear c6
      obtain rfl:=Option.some.inj H
      have p1 : 0 ≤ (x5_1 : Int):=of_decide_eq_true (by first | (with_reducible assumption) | assumption)
      have q1 : x5_1 < (l0.length : Int):=of_decide_eq_true (by first | (with_reducible assumption) | assumption)
      obtain ⟨ad1,A1_0,c1_0,e1,hx1_0,hl1_0,hi1_0⟩:=at_L9 HR0.out x5_1 p1 q1
      cases e1
      have HR1_0:=a0_ hi1_0
      have HC1_0:=a0_ hl1_0
      clear hi1_0 hl1_0
      replace p1:=eq_true p1
      replace q1:=eq_true q1
      go_wp2_with (first | ((with_reducible refine gate_callee (f:=16) rfl ?_);refine goesL_ (some 17) rfl rfl Try.func16 (by kernel_rfl) rfl #[.slice A1_0 (rd_L9 l0 x5_1).length c1_0,.int .i64 x1_1] rfl lm_ ?_;(with_reducible refine (laws_heldPartS.calls k1 _ _ (rd_L9 l0 x5_1) x1_1 t2 _ ?side1 ?side2 A5.out).mono ?_);(case side1=>repeat (first | exact HR1_0.out | (with_reducible refine Kd.C_alloc ?_ _) | (with_reducible refine Kd.C_drewN ?_ _) | (with_reducible refine Kd.C_drew ?_)));(case side2=>exact HC1_0.out);rintro e w' ⟨rfl,⟨nd,rfl⟩⟩;refine ⟨_,rfl,?_⟩))
      go_ret
      exact ⟨by first | rfl | (simp;done) | (simp [*];done),by repeat (first | exact Drawn0.refl _ | apply Drawn0.step)⟩
     ·rw [if_neg c6] at H
      have c6b0 : decide (t2 < 0) = false:=decide_eq_false c6
      clear c6
      have H':=a0_ H
      clear H
      have p1 : 0 ≤ (x5_1 : Int):=of_decide_eq_true (by first | (with_reducible assumption) | assumption)
      have q1 : x5_1 < (l0.length : Int):=of_decide_eq_true (by first | (with_reducible assumption) | assumption)
      obtain ⟨ad1,A1_0,c1_0,e1,hx1_0,hl1_0,hi1_0⟩:=at_L9 HR0.out x5_1 p1 q1
      cases e1
      have HR1_0:=a0_ hi1_0
      have HC1_0:=a0_ hl1_0
      clear hi1_0 hl1_0
      replace p1:=eq_true p1
      replace q1:=eq_true q1
      go_wp2_with (first | ((with_reducible refine gate_callee (f:=16) rfl ?_);refine goesL_ (some 17) rfl rfl Try.func16 (by kernel_rfl) rfl #[.slice A1_0 (rd_L9 l0 x5_1).length c1_0,.int .i64 x1_1] rfl lm_ ?_;(with_reducible refine (laws_heldPartS.calls k1 _ _ (rd_L9 l0 x5_1) x1_1 t2 _ ?side1 ?side2 A5.out).mono ?_);(case side1=>repeat (first | exact HR1_0.out | (with_reducible refine Kd.C_alloc ?_ _) | (with_reducible refine Kd.C_drewN ?_ _) | (with_reducible refine Kd.C_drew ?_)));(case side2=>exact HC1_0.out);rintro e w' ⟨rfl,⟨nd,rfl⟩⟩;refine ⟨_,rfl,?_⟩))
      go_roundg k1
      case measure=>have:=HK1.out;omega
      case rel=>exact ⟨(t2),(wrap64 (x5_1 + 1)),(by first | rfl | (simp;done) | (simp [*];done)),(by first | rfl | (simp;done) | (simp [*];done)),H',⟨by have:=HK1.out;omega⟩,by repeat (first | exact Drawn0.refl _ | apply Drawn0.step)⟩
    ·rw [if_neg c4] at H
     exact absurd H (by simp)
   ·rw [if_neg c3] at H
    have c3b0 : decide (x5_1 < (l0.length : Int)) = false:=decide_eq_false c3
    clear c3
    obtain rfl:=Option.some.inj H
    go_wp2
    go_ret
    exact ⟨by first | rfl | (simp;done) | (simp [*];done),by repeat (first | exact Drawn0.refl _ | apply Drawn0.step)⟩
theorem laws_heldPartSS_l0 : ∀ (suf : List (List S55)) (pre : List (List S55)) (a : Int),0 ≤ a → a + 4 * (suf.flatten.length : Int) ≤ 4611686018427387904 → pre.length + suf.length ≤ 4611686018427387904 → Ev (fun k=>laws_heldPartSS.l0 k (pre ++ marksPS a suf) a (pre.length : Int)) (a + 4 * (suf.flatten.length : Int)):=by
 intro suf
 induction suf with
 | nil =>
  intro pre a h0 hl hn
  refine Ev.succ ?_
  simp only [laws_heldPartSS.l0]
  exact Ev.neg (by simp [marksPS]) (Ev.const (by simp))
 | cons x suf ih =>
  intro pre a h0 hl hn
  rw [List.flatten_cons,List.length_append] at hl ⊢
  rw [List.length_cons] at hn
  have hg : (pre ++ marksPS a (x :: suf)).getD ((pre.length : Int)).toNat [] = marksPart a x.length:=by
   rw [Int.toNat_natCast,List.getD_eq_getElem?_getD,List.getElem?_append_right (Nat.le_refl _),Nat.sub_self]
   rfl
  have hi:=ih (pre ++ [marksPart a x.length]) (a + 4 * (x.length : Int)) (by omega) (by omega) (by rw [List.length_append,List.length_singleton];omega)
  have hh:=laws_heldPartS_ev a x.length h0 (by omega)
  rw [← hg] at hh
  refine Ev.succ ?_
  simp only [laws_heldPartSS.l0]
  refine Ev.pos (by rw [List.length_append,marksPS_len,List.length_cons];omega) ?_
  refine Ev.pos (by omega) ?_
  refine Ev.bind hh ?_
  refine Ev.neg (by omega) ?_
  rw [wrap_in (by omega) (by omega)]
  rw [List.length_append,List.length_singleton,List.append_assoc] at hi
  rw [show a + 4 * ((x.length + suf.flatten.length : Nat) : Int) = a + 4 * (x.length : Int) + 4 * (suf.flatten.length : Int) by omega]
  exact hi
theorem laws_heldPartSS_ev (l : List (List S55)) (a : Int) (h0 : 0 ≤ a) (hl : a + 4 * (l.flatten.length : Int) ≤ 4611686018427387904) (hn : l.length ≤ 4611686018427387904) : Ev (fun k=>laws_heldPartSS.f k (marksPS a l) a) (a + 4 * (l.flatten.length : Int)):=by
 have:=laws_heldPartSS_l0 l [] a h0 hl (by simpa using hn)
 exact this
end Go.Proofs.Ytbglafibhopleaa.P
namespace Go.Proofs.Ytbglafibhopleaa.P
open Go.RowKit Go.Proofs.YtbglafibhopleaaW.PrintWords Go.Proofs.YtbglafibhopleaaW.PrintLast Go.Proofs.YtbglafibhopleaaW.PrintMore
attribute [local go_sem] max2_int min2_int max_two min_two max_three min_three max_four min_four
set_option linter.unusedVariables false
set_option linter.unusedSimpArgs false
theorem iv_R {α : Type} {d : Kd α} {e : Nat} {w W : World} {b : Nat} {v : Value} {xs : List α} {ok : Nat → Prop} (ho : d.R e W w.heap.size ok v xs) (hb : b ≤ w.heap.size) {lo hi : Nat} (hlo : lo = w.heap.size) (hhi : hi = W.heap.size) : d.R e W b (fun k=>lo ≤ k ∧ k < hi) v xs :=
 Kd.R_lower (Kd.R_mono (Kd.R_bound ho) (fun k hk=>⟨by rw [hlo];exact hk.2.1,by rw [hhi];exact hk.2.2.1⟩)) hb
theorem iv_S {α : Type} {d : Kd α} {e : Nat} {w W : World} {b : Nat} {v : Value} {xs : List α} {ok : Nat → Prop} (ho : Kd.S d e W w.heap.size ok v xs) (hb : b ≤ w.heap.size) {lo hi : Nat} (hlo : lo = w.heap.size) (hhi : hi = W.heap.size) : Kd.S d e W b (fun k=>lo ≤ k ∧ k < hi) v xs :=
 Kd.S_lower (Kd.S_mono (Kd.S_bound ho) (fun k hk=>⟨by rw [hlo];exact hk.2.1,by rw [hhi];exact hk.2.2.1⟩)) hb
def laws_FnExactKidsOf.f (k : Nat) (l0_0 : List (S67)) (l1 : List (S57)) : Option Bool:=if l0_0.all (fun x=>decide (x.f0.size ≤ 9223372036854775807)) = true then some true else none
set_option maxHeartbeats 8000000 in
set_option maxRecDepth 100000 in
theorem laws_FnExactKidsOf.calls (k : Nat) (A0_0 : Option Addr) (c0_0 : Nat) (l0_0 : List (S67)) (A1 : Option Addr) (c1 : Nat) (l1 : List (S57)) (r : Bool) (w : World) (hr0_0 : Kd.C k67 w A0_0 l0_0.length l0_0) (hc0_0 : l0_0.length ≤ c0_0) (hr1 : Kd.C k57 w A1 l1.length l1) (hc1 : l1.length ≤ c1) (h : laws_FnExactKidsOf.f k l0_0 l1 = some r) :
  Calls Try.prog 5 #[.agg #[.slice A0_0 l0_0.length c0_0],.slice A1 l1.length c1] w fun e w'=>e = .returned (.bool r) ∧ Below w.heap.size w w':=by
 have hgood : ∀ x ∈ l0_0,x.f0.size ≤ 9223372036854775807:=by
  apply Classical.byContradiction
  intro hn
  rw [laws_FnExactKidsOf.f,if_neg (fun h_=>hn (fun x hx=>of_decide_eq_true (List.all_eq_true.1 h_ x hx)))] at h
  cases h
 obtain rfl : r = true:=by
  rw [laws_FnExactKidsOf.f,if_pos (List.all_eq_true.2 (fun x hx=>decide_eq_true (hgood x hx)))] at h
  exact (Option.some.inj h).symm
 clear h
 obtain ⟨v0,hv0,hg0⟩:=laws_szTree_ev l0_0 1048576 (by omega) (by omega) hr0_0.2.1 hgood
 obtain ⟨q6,E6⟩:=Ev.out hv0
 replace E6:=a0_ E6
 have HR0:=a0_ hr0_0
 have HC0:=a0_ hc0_0
 have HR1:=a0_ hr1
 have HC1:=a0_ hc1
 have hl1m:=hr1.2.1
 clear hr0_0 hr1 hc0_0 hc1 hgood hv0
 have BT:=a0_ (heap_new1 w (.cells #[.slice A0_0 l0_0.length c0_0] 24))
 have HB:=a0_ (below1 w (.cells #[.slice A0_0 l0_0.length c0_0] 24))
 have HN:=a0_ (show w.heap.size + 1 ≤ (World.heap (World.alloc w (.cells #[.slice A0_0 l0_0.length c0_0] 24))).size by simp)
 have hcT : (World.alloc w (.cells #[.slice A0_0 l0_0.length c0_0] 24)).cell? ⟨w.heap.size,0,none⟩ = some (.slice A0_0 l0_0.length c0_0):=(blk_cell BT.out 0).trans rfl
 have hu1_:=Try.underlying24
 have hu2_:=Try.underlying32
 go_enter Try.func5,Try.ntmps5
 go_wp2_with (fail)
 clear hcT
 refine (laws_szTree.calls q6 A0_0 c0_0 l0_0 1048576 v0 _ (Kd.C_below HR0.out HB.out) HC0.out E6.out).mono ?_
 rintro e w1_ ⟨rfl,hb⟩
 replace BT:=a0_ (blk_keptB BT.out hb)
 replace HB:=a0_ (below_step HB.out hb)
 replace HN:=a0_ (Nat.le_trans HN.out hb.size)
 clear hb
 have hcT : w1_.cell? ⟨w.heap.size,0,none⟩ = some (.slice A0_0 l0_0.length c0_0):=(blk_cell BT.out 0).trans rfl
 by_cases hn0 : v0 < 0
 ·have hn0b:=eq_true hn0
  have hn0c : decide (v0 < 0) = true:=decide_eq_true hn0
  go_wp2
  go_ret
  exact ⟨rfl,HB.out⟩
 have hn0b:=eq_false hn0
 have hn0c : decide (v0 < 0) = false:=decide_eq_false hn0
 obtain ⟨hva0,hl0,hs⟩:=hg0 (by omega)
 obtain ⟨v1,hv1,hg1⟩:=laws_szPartS_ev l1 v0 (by omega) (by omega) hl1m
 obtain ⟨q7,E7⟩:=Ev.out hv1
 replace E7:=a0_ E7
 clear hv1
 go_wp2_with (fail)
 clear hcT
 refine (laws_szPartS.calls A1 c1 l1 v0 v1 _ (Kd.C_below HR1.out HB.out) HC1.out E7.out).mono ?_
 rintro e w2_ ⟨rfl,hd⟩
 have hb:=hd.below
 clear hd
 replace BT:=a0_ (blk_keptB BT.out hb)
 replace HB:=a0_ (below_step HB.out hb)
 replace HN:=a0_ (Nat.le_trans HN.out hb.size)
 clear hb
 have hcT : w2_.cell? ⟨w.heap.size,0,none⟩ = some (.slice A0_0 l0_0.length c0_0):=(blk_cell BT.out 0).trans rfl
 by_cases hn1 : v1 < 0
 ·have hn1b:=eq_true hn1
  have hn1c : decide (v1 < 0) = true:=decide_eq_true hn1
  go_wp2
  go_ret
  exact ⟨rfl,HB.out⟩
 have hn1b:=eq_false hn1
 have hn1c : decide (v1 < 0) = false:=decide_eq_false hn1
 obtain ⟨hva1,hl1⟩:=hg1 (by omega)
 have hT0:=laws_toTree_ev l0_0 (by omega)
 have hm0 : (l0_0.map toC).length ≤ 1048576:=by rw [List.length_map];omega
 have hsm:=smT_of hs
 have hT1:=laws_toPartS_ev l1 (by omega)
 have hm1 : (l1.map toPart).length ≤ 1048576:=by rw [List.length_map];omega
 have hS:=spec_KidsOf_ev (l0_0.map toC) (l1.map toPart) (by omega) hsm
 have hG:=impl_KidsOf_ev (l0_0.map toC) (l1.map toPart) (by omega) (by omega) hsm
 have hrl:=kidP_len (l0_0.map toC) (l1.map toPart)
 obtain ⟨rr,hrr⟩ : ∃ r_ : List (List Prt),r_ = kidP (l0_0.map toC) (l1.map toPart):=⟨_,rfl⟩
 rw [← hrr] at hS hG hrl
 clear hrr
 have hfl : rr.flatten.length ≤ 1048576 * 1048576:=by
  have h1_:=flat_le 1048576 rr (fun x hx=>Nat.le_trans (hrl.2 x hx) hm1)
  have h2_ : 1048576 * rr.length ≤ 1048576 * 1048576:=Nat.mul_le_mul_left _ (Nat.le_trans hrl.1 hm1)
  omega
 obtain ⟨tt,htt⟩ : ∃ t_ : List Cls,t_ = l0_0.map toC:=⟨_,rfl⟩
 obtain ⟨gg,hgg⟩ : ∃ t_ : List Prt,t_ = l1.map toPart:=⟨_,rfl⟩
 rw [← htt] at hT0 hm0 hsm hS hG
 rw [← hgg] at hT1 hm1 hS hG hrl
 clear htt hgg
 have hEa:=laws_eqPartS_ev gg (by omega)
 have hEr:=laws_eqPartSS_ev rr (by omega) (fun x hx=>by have:=mem_flat_le hx;omega)
 obtain ⟨tt2,hM0⟩:=laws_markTree_ev tt 1 (by omega) (by omega)
 have hM1:=laws_markPartS_ev gg (1 + 2 * tt.length) (by omega) (by omega)
 have hM9:=laws_markPartSS_ev rr 1 (by omega) (by omega) (by omega)
 have hH:=laws_heldPartSS_ev rr 1 (by omega) (by omega) (by omega)
 have hEt:=laws_eqTree_ev tt (by omega)
 obtain ⟨q9,E9⟩:=Ev.out hT0
 replace E9:=a0_ E9
 obtain ⟨q10,E10⟩:=Ev.out hT1
 replace E10:=a0_ E10
 obtain ⟨q23,E23⟩:=Ev.out hS
 replace E23:=a0_ E23
 obtain ⟨q12,E12⟩:=Ev.out hEa
 replace E12:=a0_ E12
 obtain ⟨q21,E21⟩:=Ev.out hEr
 replace E21:=a0_ E21
 obtain ⟨q13,E13⟩:=Ev.out hEt
 replace E13:=a0_ E13
 obtain ⟨q14,E14⟩:=Ev.out hM0
 replace E14:=a0_ E14
 obtain ⟨q15,E15⟩:=Ev.out hM1
 replace E15:=a0_ E15
 obtain ⟨q22,E22⟩:=Ev.out hM9
 replace E22:=a0_ E22
 obtain ⟨q25,E25⟩:=Ev.out hH
 replace E25:=a0_ E25
 obtain ⟨q24,E24⟩:=Ev.out hG
 replace E24:=a0_ E24
 obtain ⟨m1_,hm1_⟩ : ∃ m_ : Int,m_ = 1 + 2 * (tt.length : Int) + 4 * (gg.length : Int):=⟨_,rfl⟩
 obtain ⟨m9_,hm9_⟩ : ∃ m_ : Int,m_ = 1 + 4 * (rr.flatten.length : Int):=⟨_,rfl⟩
 obtain ⟨a1_,ha1_⟩ : ∃ m_ : Int,m_ = 1 + 2 * (tt.length : Int):=⟨_,rfl⟩
 obtain ⟨gg2,hgg2⟩ : ∃ m_,m_ = marksPart (1 + 2 * (tt.length : Int)) gg.length:=⟨_,rfl⟩
 obtain ⟨rr2,hrr2⟩ : ∃ m_,m_ = marksPS 1 rr:=⟨_,rfl⟩
 have p1_ : ¬ m1_ < 0:=by omega
 have p9_ : ¬ m9_ < 0:=by omega
 have p1b:=eq_false p1_
 have p9b:=eq_false p9_
 have p1c : decide (m1_ < 0) = false:=decide_eq_false p1_
 have p9c : decide (m9_ < 0) = false:=decide_eq_false p9_
 rw [← hm1_,← hgg2,← ha1_] at E15
 rw [← ha1_] at E14
 rw [← hm9_,← hrr2] at E22
 rw [← hm9_,← hrr2] at E25
 clear hT0 hT1 hS hG hEa hEr hEt hM0 hM1 hM9 hH hm1_ hm9_ ha1_ hgg2 hrr2 hm0 hm1 hsm hs hl0 hl1 hva0 hva1 hg0 hg1 hn0 hn1 p1_ p9_ hrl hfl hl1m
 go_wp2_with (fail)
 clear hcT
 refine (laws_toTree.calls q9 A0_0 c0_0 l0_0 tt _ (Kd.C_below HR0.out HB.out) HC0.out E9.out).mono ?_
 rintro e w3_ ⟨v_,rfl,ho,hb⟩
 obtain ⟨At1,ct1,e_⟩:=Kd.R_slice ho
 subst e_
 obtain ⟨lot1,hlo⟩ : ∃ n_,n_ = (World.heap w2_).size:=⟨_,rfl⟩
 obtain ⟨hit1,hhi⟩ : ∃ n_,n_ = (World.heap w3_).size:=⟨_,rfl⟩
 have Nt1:=a0_ (show w.heap.size + 1 ≤ lot1 ∧ lot1 ≤ hit1 by have h1_:=HN.out;have h2_:=hb.size;omega)
 have Ht1:=a0_ (iv_R ho (below_size HB.out) hlo hhi)
 replace BT:=a0_ (blk_keptB BT.out hb)
 replace HB:=a0_ (below_step HB.out hb)
 replace HN:=a0_ (Nat.le_of_eq hhi)
 clear ho hb hlo hhi
 have hcT : w3_.cell? ⟨w.heap.size,0,none⟩ = some (.slice A0_0 l0_0.length c0_0):=(blk_cell BT.out 0).trans rfl
 go_wp2_with (fail)
 clear hcT
 refine (laws_toPartS.calls q10 A1 c1 l1 gg _ (Kd.C_below HR1.out HB.out) HC1.out E10.out).mono ?_
 rintro e w4_ ⟨v_,rfl,ho,hb⟩
 obtain ⟨Ap1,cp1,e_⟩:=Kd.R_slice ho
 subst e_
 obtain ⟨lop1,hlo⟩ : ∃ n_,n_ = (World.heap w3_).size:=⟨_,rfl⟩
 obtain ⟨hip1,hhi⟩ : ∃ n_,n_ = (World.heap w4_).size:=⟨_,rfl⟩
 have Np1:=a0_ (show hit1 ≤ lop1 ∧ lop1 ≤ hip1 by have h1_:=HN.out;have h2_:=hb.size;omega)
 have Hp1:=a0_ (iv_R ho (below_size HB.out) hlo hhi)
 replace Ht1:=a0_ (Kd.R_below Ht1.out hb)
 replace BT:=a0_ (blk_keptB BT.out hb)
 replace HB:=a0_ (below_step HB.out hb)
 replace HN:=a0_ (Nat.le_of_eq hhi)
 clear ho hb hlo hhi
 have hcT : w4_.cell? ⟨w.heap.size,0,none⟩ = some (.slice A0_0 l0_0.length c0_0):=(blk_cell BT.out 0).trans rfl
 go_wp2_with (fail)
 clear hcT
 refine (spec_KidsOf.calls q23 At1 ct1 tt Ap1 cp1 gg rr _ (Kd.R_reads' Ht1.out).2.2 (Kd.R_reads' Ht1.out).2.1 (Kd.R_reads' Hp1.out).2.2 (Kd.R_reads' Hp1.out).2.1 E23.out).mono ?_
 rintro e w5_ ⟨v_,rfl,ho,hb⟩
 obtain ⟨Ar0,cr0,e_⟩:=Kd.S_slice ho
 subst e_
 obtain ⟨lor0,hlo⟩ : ∃ n_,n_ = (World.heap w4_).size:=⟨_,rfl⟩
 obtain ⟨hir0,hhi⟩ : ∃ n_,n_ = (World.heap w5_).size:=⟨_,rfl⟩
 have Nr0:=a0_ (show hip1 ≤ lor0 ∧ lor0 ≤ hir0 by have h1_:=HN.out;have h2_:=hb.size;omega)
 have Hr0:=a0_ (iv_S ho (below_size HB.out) hlo hhi)
 replace Ht1:=a0_ (Kd.R_below Ht1.out hb)
 replace Hp1:=a0_ (Kd.R_below Hp1.out hb)
 replace BT:=a0_ (blk_keptB BT.out hb)
 replace HB:=a0_ (below_step HB.out hb)
 replace HN:=a0_ (Nat.le_of_eq hhi)
 clear ho hb hlo hhi
 have hcT : w5_.cell? ⟨w.heap.size,0,none⟩ = some (.slice A0_0 l0_0.length c0_0):=(blk_cell BT.out 0).trans rfl
 clear Ht1 Hp1
 go_wp2_with (fail)
 clear hcT
 refine (laws_toTree.calls q9 A0_0 c0_0 l0_0 tt _ (Kd.C_below HR0.out HB.out) HC0.out E9.out).mono ?_
 rintro e w6_ ⟨v_,rfl,ho,hb⟩
 obtain ⟨Ax0,cx0,e_⟩:=Kd.R_slice ho
 subst e_
 obtain ⟨lox0,hlo⟩ : ∃ n_,n_ = (World.heap w5_).size:=⟨_,rfl⟩
 obtain ⟨hix0,hhi⟩ : ∃ n_,n_ = (World.heap w6_).size:=⟨_,rfl⟩
 have Nx0:=a0_ (show hir0 ≤ lox0 ∧ lox0 ≤ hix0 by have h1_:=HN.out;have h2_:=hb.size;omega)
 have Hx0:=a0_ (iv_R ho (below_size HB.out) hlo hhi)
 replace Hr0:=a0_ (Kd.S_below Hr0.out hb)
 replace BT:=a0_ (blk_keptB BT.out hb)
 replace HB:=a0_ (below_step HB.out hb)
 replace HN:=a0_ (Nat.le_of_eq hhi)
 clear ho hb hlo hhi
 have hcT : w6_.cell? ⟨w.heap.size,0,none⟩ = some (.slice A0_0 l0_0.length c0_0):=(blk_cell BT.out 0).trans rfl
 go_wp2_with (fail)
 clear hcT
 replace Hr0:=a0_ (Kd.S_alloc Hr0.out (.cells #[.slice Ax0 tt.length cx0] 32))
 replace Hx0:=a0_ (Kd.R_alloc Hx0.out (.cells #[.slice Ax0 tt.length cx0] 32))
 replace BT:=a0_ (blk_alloc BT.out (.cells #[.slice Ax0 tt.length cx0] 32))
 replace HB:=a0_ (below_alloc HB.out (.cells #[.slice Ax0 tt.length cx0] 32))
 have BX:=a0_ (heap_new1 w6_ (.cells #[.slice Ax0 tt.length cx0] 32))
 have NX:=a0_ (show hix0 ≤ (World.heap w6_).size from HN.out)
 replace HN:=a0_ (show (World.heap w6_).size + 1 ≤ (World.heap (World.alloc w6_ (.cells #[.slice Ax0 tt.length cx0] 32))).size by simp)
 generalize World.alloc w6_ (.cells #[.slice Ax0 tt.length cx0] 32) = w7_ at *
 generalize (World.heap w6_).size = gX at *
 have hcT : w7_.cell? ⟨w.heap.size,0,none⟩ = some (.slice A0_0 l0_0.length c0_0):=(blk_cell BT.out 0).trans rfl
 have hcX : w7_.cell? ⟨gX,0,none⟩ = some (.slice Ax0 tt.length cx0):=(blk_cell BX.out 0).trans rfl
 go_wp2_with (fail)
 clear hcT hcX
 refine (laws_toPartS.calls q10 A1 c1 l1 gg _ (Kd.C_below HR1.out HB.out) HC1.out E10.out).mono ?_
 rintro e w8_ ⟨v_,rfl,ho,hb⟩
 obtain ⟨Ax1,cx1,e_⟩:=Kd.R_slice ho
 subst e_
 obtain ⟨lox1,hlo⟩ : ∃ n_,n_ = (World.heap w7_).size:=⟨_,rfl⟩
 obtain ⟨hix1,hhi⟩ : ∃ n_,n_ = (World.heap w8_).size:=⟨_,rfl⟩
 have Nx1:=a0_ (show gX + 1 ≤ lox1 ∧ lox1 ≤ hix1 by have h1_:=HN.out;have h2_:=hb.size;omega)
 have Hx1:=a0_ (iv_R ho (below_size HB.out) hlo hhi)
 replace Hr0:=a0_ (Kd.S_below Hr0.out hb)
 replace Hx0:=a0_ (Kd.R_below Hx0.out hb)
 replace BT:=a0_ (blk_keptB BT.out hb)
 replace BX:=a0_ (blk_keptB BX.out hb)
 replace HB:=a0_ (below_step HB.out hb)
 replace HN:=a0_ (Nat.le_of_eq hhi)
 clear ho hb hlo hhi
 have hcT : w8_.cell? ⟨w.heap.size,0,none⟩ = some (.slice A0_0 l0_0.length c0_0):=(blk_cell BT.out 0).trans rfl
 have hcX : w8_.cell? ⟨gX,0,none⟩ = some (.slice Ax0 tt.length cx0):=(blk_cell BX.out 0).trans rfl
 go_wp2_with (fail)
 clear hcT hcX
 refine (impl_KidsOf.calls q24 Ax0 cx0 tt Ax1 cx1 gg rr _ (Kd.R_reads' Hx0.out).2.2 (Kd.R_reads' Hx0.out).2.1 (Kd.R_reads' Hx1.out).2.2 (Kd.R_reads' Hx1.out).2.1 E24.out).mono ?_
 rintro e w9_ ⟨v_,rfl,ho,hb⟩
 obtain ⟨Ag0,cg0,e_⟩:=Kd.S_slice ho
 subst e_
 obtain ⟨log0,hlo⟩ : ∃ n_,n_ = (World.heap w8_).size:=⟨_,rfl⟩
 obtain ⟨hig0,hhi⟩ : ∃ n_,n_ = (World.heap w9_).size:=⟨_,rfl⟩
 have Ng0:=a0_ (show hix1 ≤ log0 ∧ log0 ≤ hig0 by have h1_:=HN.out;have h2_:=hb.size;omega)
 have Hg0:=a0_ (iv_S ho (below_size HB.out) hlo hhi)
 replace Hr0:=a0_ (Kd.S_below Hr0.out hb)
 replace Hx0:=a0_ (Kd.R_below Hx0.out hb)
 replace Hx1:=a0_ (Kd.R_below Hx1.out hb)
 replace BT:=a0_ (blk_keptB BT.out hb)
 replace BX:=a0_ (blk_keptB BX.out hb)
 replace HB:=a0_ (below_step HB.out hb)
 replace HN:=a0_ (Nat.le_of_eq hhi)
 clear ho hb hlo hhi
 have hcT : w9_.cell? ⟨w.heap.size,0,none⟩ = some (.slice A0_0 l0_0.length c0_0):=(blk_cell BT.out 0).trans rfl
 have hcX : w9_.cell? ⟨gX,0,none⟩ = some (.slice Ax0 tt.length cx0):=(blk_cell BX.out 0).trans rfl
 go_wp2_with (fail)
 clear hcT hcX
 refine (laws_eqPartSS.calls q21 Ag0 cg0 rr Ar0 cr0 rr true _ (Kd.S_reads' Hg0.out).2.2 (Kd.S_reads' Hg0.out).2.1 (Kd.S_reads' Hr0.out).2.2 (Kd.S_reads' Hr0.out).2.1 E21.out).mono ?_
 rintro e w10_ ⟨rfl,hb⟩
 replace Hr0:=a0_ (Kd.S_below Hr0.out hb)
 replace Hx0:=a0_ (Kd.R_below Hx0.out hb)
 replace Hx1:=a0_ (Kd.R_below Hx1.out hb)
 replace Hg0:=a0_ (Kd.S_below Hg0.out hb)
 replace BT:=a0_ (blk_keptB BT.out hb)
 replace BX:=a0_ (blk_keptB BX.out hb)
 replace HB:=a0_ (below_step HB.out hb)
 replace HN:=a0_ (Nat.le_trans HN.out hb.size)
 clear hb
 have hcT : w10_.cell? ⟨w.heap.size,0,none⟩ = some (.slice A0_0 l0_0.length c0_0):=(blk_cell BT.out 0).trans rfl
 have hcX : w10_.cell? ⟨gX,0,none⟩ = some (.slice Ax0 tt.length cx0):=(blk_cell BX.out 0).trans rfl
 go_wp2_with (fail)
 clear hcT hcX
 replace Hr0:=a0_ (Kd.S_drew Hr0.out)
 replace Hx0:=a0_ (Kd.R_drew Hx0.out)
 replace Hx1:=a0_ (Kd.R_drew Hx1.out)
 replace Hg0:=a0_ (Kd.S_drew Hg0.out)
 replace BT:=a0_ (blk_drew BT.out)
 replace BX:=a0_ (blk_drew BX.out)
 replace HB:=a0_ (below_drew1 HB.out)
 refine start_ (n:=5) (S:=fun w'=>w'.cell? ⟨gX,0,none⟩ = some (.slice Ax0 tt.length cx0) ∧ w'.cell? ⟨w.heap.size,0,none⟩ = some (.slice A0_0 l0_0.length c0_0)) (ds:=[]) #[false,false,false,false,false] (by kernel_rfl) rfl rfl ⟨(blk_cell BX.out 0).trans rfl,(blk_cell BT.out 0).trans rfl⟩ (fun hHeld=>?_)
 replace HN:=a0_ (show hig0 ≤ (World.heap (World.drew w10_)).size from HN.out)
 generalize World.drew w10_ = w11_ at *
 refine take_ (i:=0) (N:=some 40) (v:=?_) (a':=?_) #[true,false,false,false,false] rfl rfl (by kernel_rfl) (fun _ _ _ h=>h) (Or.inl ⟨by rfl,?_⟩) hHeld ?_ ?_
 rotate_left
 ·rintro w' ⟨s0,s1⟩
  go_simp
  with_reducible rfl
 rotate_left
 ·simp only [Act.put,s1_,s2_,s3_,i64_w,i32_w]
  rfl
 refine take_ (i:=1) (N:=some 41) (v:=?_) (a':=?_) #[true,true,false,false,false] rfl rfl (by kernel_rfl) (fun _ _ _ h=>h) (Or.inl ⟨by rfl,?_⟩) hHeld ?_ ?_
 rotate_left
 ·rintro w' ⟨s0,s1⟩
  go_simp
  with_reducible rfl
 rotate_left
 ·simp only [Act.put,s1_,s2_,s3_,i64_w,i32_w]
  rfl
 refine one_ (i:=2) (N:=some 42) #[true,true,true,false,false] rfl rfl (by kernel_rfl) (by decide) (fun K hK=>?_)
 refine goes_ Try.func9 (by kernel_rfl) rfl #[.agg #[.slice A0_0 l0_0.length c0_0]] (by rfl) rfl rfl (by (try simp only [List.map_toArray,List.map_cons,List.map_nil]);(first | done | rfl)) ?_
 refine (laws_toTree.calls q9 A0_0 c0_0 l0_0 tt _ (Kd.C_below HR0.out HB.out) HC0.out E9.out).mono ?_
 rintro e w12_ ⟨v_,rfl,ho,hb⟩
 refine ⟨_,rfl,?_⟩
 obtain ⟨At2,ct2,e_⟩:=Kd.R_slice ho
 subst e_
 obtain ⟨lot2,hlo⟩ : ∃ n_,n_ = (World.heap w11_).size:=⟨_,rfl⟩
 obtain ⟨hit2,hhi⟩ : ∃ n_,n_ = (World.heap w12_).size:=⟨_,rfl⟩
 have Nt2:=a0_ (show hig0 ≤ lot2 ∧ lot2 ≤ hit2 by have h1_:=HN.out;have h2_:=hb.size;omega)
 have Ht2:=a0_ (iv_R ho (below_size HB.out) hlo hhi)
 replace Hr0:=a0_ (Kd.S_below Hr0.out hb)
 replace Hx0:=a0_ (Kd.R_below Hx0.out hb)
 replace Hx1:=a0_ (Kd.R_below Hx1.out hb)
 replace Hg0:=a0_ (Kd.S_below Hg0.out hb)
 replace BT:=a0_ (blk_keptB BT.out hb)
 replace BX:=a0_ (blk_keptB BX.out hb)
 replace HB:=a0_ (below_step HB.out hb)
 replace HN:=a0_ (Nat.le_of_eq hhi)
 clear ho hb hlo hhi
 refine hK.out _ _ ⟨(blk_cell BX.out 0).trans rfl,(blk_cell BT.out 0).trans rfl⟩ (fun hHeld=>?_)
 clear hK K
 refine norm_ (a':=?_) ?_ ?_
 rotate_left
 ·show Act.put _ (some 42) _ = _
  simp only [Act.put,s1_,s2_,s3_,i64_w,i32_w]
  rfl
 refine one_ (i:=3) (N:=some 43) #[true,true,true,true,false] rfl rfl (by kernel_rfl) (by decide) (fun K hK=>?_)
 refine goes_ Try.func13 (by kernel_rfl) rfl #[.agg #[.slice Ax0 tt.length cx0],.agg #[.slice At2 tt.length ct2]] (by rfl) rfl rfl (by (try simp only [List.map_toArray,List.map_cons,List.map_nil]);(first | done | rfl)) ?_
 refine (laws_eqTree.calls q13 Ax0 cx0 tt At2 ct2 tt true _ (Kd.R_reads' Hx0.out).2.2 (Kd.R_reads' Hx0.out).2.1 (Kd.R_reads' Ht2.out).2.2 (Kd.R_reads' Ht2.out).2.1 E13.out).mono ?_
 rintro e w13_ ⟨rfl,hb⟩
 refine ⟨_,rfl,?_⟩
 replace Hr0:=a0_ (Kd.S_below Hr0.out hb)
 replace Hx0:=a0_ (Kd.R_below Hx0.out hb)
 replace Hx1:=a0_ (Kd.R_below Hx1.out hb)
 replace Hg0:=a0_ (Kd.S_below Hg0.out hb)
 replace Ht2:=a0_ (Kd.R_below Ht2.out hb)
 replace BT:=a0_ (blk_keptB BT.out hb)
 replace BX:=a0_ (blk_keptB BX.out hb)
 replace HB:=a0_ (below_step HB.out hb)
 replace HN:=a0_ (Nat.le_trans HN.out hb.size)
 clear hb
 refine hK.out _ _ ⟨(blk_cell BX.out 0).trans rfl,(blk_cell BT.out 0).trans rfl⟩ (fun hHeld=>?_)
 clear hK K
 refine norm_ (a':=?_) ?_ ?_
 rotate_left
 ·show Act.put _ (some 43) _ = _
  simp only [Act.put,s1_,s2_,s3_,i64_w,i32_w]
  rfl
 refine pure_ (i:=4) (N:=some 44) (v:=?_) (a':=?_) #[true,true,true,true,true] rfl rfl (by kernel_rfl) (fun _ _ _ h=>h) (Or.inl ⟨by rfl,?_⟩) ?_ ?_
 rotate_left
 ·intro w'
  go_simp
  with_reducible rfl
 rotate_left
 ·simp only [Act.put,s1_,s2_,s3_,i64_w,i32_w]
  rfl
 refine done_ (by kernel_rfl) ?_
 have hcT : w13_.cell? ⟨w.heap.size,0,none⟩ = some (.slice A0_0 l0_0.length c0_0):=(blk_cell BT.out 0).trans rfl
 have hcX : w13_.cell? ⟨gX,0,none⟩ = some (.slice Ax0 tt.length cx0):=(blk_cell BX.out 0).trans rfl
 clear Ht2
 go_wp2_with (fail)
 clear hcT hcX
 refine (laws_toPartS.calls q10 A1 c1 l1 gg _ (Kd.C_below HR1.out HB.out) HC1.out E10.out).mono ?_
 rintro e w14_ ⟨v_,rfl,ho,hb⟩
 obtain ⟨Ap2,cp2,e_⟩:=Kd.R_slice ho
 subst e_
 obtain ⟨lop2,hlo⟩ : ∃ n_,n_ = (World.heap w13_).size:=⟨_,rfl⟩
 obtain ⟨hip2,hhi⟩ : ∃ n_,n_ = (World.heap w14_).size:=⟨_,rfl⟩
 have Np2:=a0_ (show hit2 ≤ lop2 ∧ lop2 ≤ hip2 by have h1_:=HN.out;have h2_:=hb.size;omega)
 have Hp2:=a0_ (iv_R ho (below_size HB.out) hlo hhi)
 replace Hr0:=a0_ (Kd.S_below Hr0.out hb)
 replace Hx0:=a0_ (Kd.R_below Hx0.out hb)
 replace Hx1:=a0_ (Kd.R_below Hx1.out hb)
 replace Hg0:=a0_ (Kd.S_below Hg0.out hb)
 replace BT:=a0_ (blk_keptB BT.out hb)
 replace BX:=a0_ (blk_keptB BX.out hb)
 replace HB:=a0_ (below_step HB.out hb)
 replace HN:=a0_ (Nat.le_of_eq hhi)
 clear ho hb hlo hhi
 have hcT : w14_.cell? ⟨w.heap.size,0,none⟩ = some (.slice A0_0 l0_0.length c0_0):=(blk_cell BT.out 0).trans rfl
 have hcX : w14_.cell? ⟨gX,0,none⟩ = some (.slice Ax0 tt.length cx0):=(blk_cell BX.out 0).trans rfl
 go_wp2_with (fail)
 clear hcT hcX
 refine (laws_eqPartS.calls q12 Ax1 cx1 gg Ap2 cp2 gg true _ (Kd.R_reads' Hx1.out).2.2 (Kd.R_reads' Hx1.out).2.1 (Kd.R_reads' Hp2.out).2.2 (Kd.R_reads' Hp2.out).2.1 E12.out).mono ?_
 rintro e w15_ ⟨rfl,hb⟩
 replace Hr0:=a0_ (Kd.S_below Hr0.out hb)
 replace Hx0:=a0_ (Kd.R_below Hx0.out hb)
 replace Hx1:=a0_ (Kd.R_below Hx1.out hb)
 replace Hg0:=a0_ (Kd.S_below Hg0.out hb)
 replace Hp2:=a0_ (Kd.R_below Hp2.out hb)
 replace BT:=a0_ (blk_keptB BT.out hb)
 replace BX:=a0_ (blk_keptB BX.out hb)
 replace HB:=a0_ (below_step HB.out hb)
 replace HN:=a0_ (Nat.le_trans HN.out hb.size)
 clear hb
 have hcT : w15_.cell? ⟨w.heap.size,0,none⟩ = some (.slice A0_0 l0_0.length c0_0):=(blk_cell BT.out 0).trans rfl
 have hcX : w15_.cell? ⟨gX,0,none⟩ = some (.slice Ax0 tt.length cx0):=(blk_cell BX.out 0).trans rfl
 clear Hp2
 go_wp2_with (fail)
 clear hcT hcX
 refine (laws_markTree.calls q14 (fun k_=>lox0 ≤ k_ ∧ k_ < hix0) (.slice Ax0 tt.length cx0) tt 1 a1_ tt2 w _ HB.out Hx0.out E14.out).mono ?_
 rintro e w16_ ⟨rfl,ho,hb,hk⟩
 replace Hr0:=a0_ (Kd.S_kept Hr0.out hk (fun k_ (h1_ : lor0 ≤ k_ ∧ k_ < hir0) (h2_ : lox0 ≤ k_ ∧ k_ < hix0)=>by have:=Nt1.out;have:=Np1.out;have:=Nr0.out;have:=Nx0.out;have:=NX.out;have:=Nx1.out;have:=Ng0.out;have:=Nt2.out;have:=Np2.out;omega))
 replace Hx1:=a0_ (Kd.R_kept Hx1.out hk (fun k_ (h1_ : lox1 ≤ k_ ∧ k_ < hix1) (h2_ : lox0 ≤ k_ ∧ k_ < hix0)=>by have:=Nt1.out;have:=Np1.out;have:=Nr0.out;have:=Nx0.out;have:=NX.out;have:=Nx1.out;have:=Ng0.out;have:=Nt2.out;have:=Np2.out;omega))
 replace Hg0:=a0_ (Kd.S_kept Hg0.out hk (fun k_ (h1_ : log0 ≤ k_ ∧ k_ < hig0) (h2_ : lox0 ≤ k_ ∧ k_ < hix0)=>by have:=Nt1.out;have:=Np1.out;have:=Nr0.out;have:=Nx0.out;have:=NX.out;have:=Nx1.out;have:=Ng0.out;have:=Nt2.out;have:=Np2.out;omega))
 replace BT:=a0_ (blk_kept BT.out hk (fun (h2_ : lox0 ≤ w.heap.size ∧ w.heap.size < hix0)=>by have:=Nt1.out;have:=Np1.out;have:=Nr0.out;have:=Nx0.out;have:=NX.out;have:=Nx1.out;have:=Ng0.out;have:=Nt2.out;have:=Np2.out;omega))
 replace BX:=a0_ (blk_kept BX.out hk (fun (h2_ : lox0 ≤ gX ∧ gX < hix0)=>by have:=Nt1.out;have:=Np1.out;have:=Nr0.out;have:=Nx0.out;have:=NX.out;have:=Nx1.out;have:=Ng0.out;have:=Nt2.out;have:=Np2.out;omega))
 replace HB:=a0_ hb
 replace HN:=a0_ (Nat.le_trans HN.out hk.1)
 clear Hx0
 clear ho hb hk
 have hcT : w16_.cell? ⟨w.heap.size,0,none⟩ = some (.slice A0_0 l0_0.length c0_0):=(blk_cell BT.out 0).trans rfl
 have hcX : w16_.cell? ⟨gX,0,none⟩ = some (.slice Ax0 tt.length cx0):=(blk_cell BX.out 0).trans rfl
 clear hcX BX
 go_wp2_with (fail)
 clear hcT
 refine (laws_markPartS.calls q15 (fun k_=>lox1 ≤ k_ ∧ k_ < hix1) (.slice Ax1 gg.length cx1) gg a1_ m1_ gg2 w _ HB.out Hx1.out E15.out).mono ?_
 rintro e w17_ ⟨rfl,ho,hb,hk⟩
 replace Hr0:=a0_ (Kd.S_kept Hr0.out hk (fun k_ (h1_ : lor0 ≤ k_ ∧ k_ < hir0) (h2_ : lox1 ≤ k_ ∧ k_ < hix1)=>by have:=Nt1.out;have:=Np1.out;have:=Nr0.out;have:=Nx0.out;have:=NX.out;have:=Nx1.out;have:=Ng0.out;have:=Nt2.out;have:=Np2.out;omega))
 replace Hg0:=a0_ (Kd.S_kept Hg0.out hk (fun k_ (h1_ : log0 ≤ k_ ∧ k_ < hig0) (h2_ : lox1 ≤ k_ ∧ k_ < hix1)=>by have:=Nt1.out;have:=Np1.out;have:=Nr0.out;have:=Nx0.out;have:=NX.out;have:=Nx1.out;have:=Ng0.out;have:=Nt2.out;have:=Np2.out;omega))
 replace BT:=a0_ (blk_kept BT.out hk (fun (h2_ : lox1 ≤ w.heap.size ∧ w.heap.size < hix1)=>by have:=Nt1.out;have:=Np1.out;have:=Nr0.out;have:=Nx0.out;have:=NX.out;have:=Nx1.out;have:=Ng0.out;have:=Nt2.out;have:=Np2.out;omega))
 replace HB:=a0_ hb
 replace HN:=a0_ (Nat.le_trans HN.out hk.1)
 clear Hx1
 clear ho hb hk
 have hcT : w17_.cell? ⟨w.heap.size,0,none⟩ = some (.slice A0_0 l0_0.length c0_0):=(blk_cell BT.out 0).trans rfl
 go_wp2_with (fail)
 clear hcT
 refine (laws_eqPartSS.calls q21 Ag0 cg0 rr Ar0 cr0 rr true _ (Kd.S_reads' Hg0.out).2.2 (Kd.S_reads' Hg0.out).2.1 (Kd.S_reads' Hr0.out).2.2 (Kd.S_reads' Hr0.out).2.1 E21.out).mono ?_
 rintro e w18_ ⟨rfl,hb⟩
 replace Hr0:=a0_ (Kd.S_below Hr0.out hb)
 replace Hg0:=a0_ (Kd.S_below Hg0.out hb)
 replace BT:=a0_ (blk_keptB BT.out hb)
 replace HB:=a0_ (below_step HB.out hb)
 replace HN:=a0_ (Nat.le_trans HN.out hb.size)
 clear hb
 have hcT : w18_.cell? ⟨w.heap.size,0,none⟩ = some (.slice A0_0 l0_0.length c0_0):=(blk_cell BT.out 0).trans rfl
 go_wp2_with (fail)
 clear hcT
 refine (laws_markPartSS.calls q22 (fun k_=>log0 ≤ k_ ∧ k_ < hig0) (.slice Ag0 rr.length cg0) rr 1 m9_ rr2 w _ HB.out Hg0.out E22.out).mono ?_
 rintro e w19_ ⟨rfl,ho,hb,hk⟩
 replace Hr0:=a0_ (Kd.S_kept Hr0.out hk (fun k_ (h1_ : lor0 ≤ k_ ∧ k_ < hir0) (h2_ : log0 ≤ k_ ∧ k_ < hig0)=>by have:=Nt1.out;have:=Np1.out;have:=Nr0.out;have:=Nx0.out;have:=NX.out;have:=Nx1.out;have:=Ng0.out;have:=Nt2.out;have:=Np2.out;omega))
 replace BT:=a0_ (blk_kept BT.out hk (fun (h2_ : log0 ≤ w.heap.size ∧ w.heap.size < hig0)=>by have:=Nt1.out;have:=Np1.out;have:=Nr0.out;have:=Nx0.out;have:=NX.out;have:=Nx1.out;have:=Ng0.out;have:=Nt2.out;have:=Np2.out;omega))
 replace HB:=a0_ hb
 replace HN:=a0_ (Nat.le_trans HN.out hk.1)
 replace Hg0:=a0_ (Kd.S_mono ho (fun _ _=>trivial) : Kd.S (Kd.slice 55 k55) 28 w19_ w.heap.size (fun _=>True) _ rr2)
 clear ho hb hk
 have hcT : w19_.cell? ⟨w.heap.size,0,none⟩ = some (.slice A0_0 l0_0.length c0_0):=(blk_cell BT.out 0).trans rfl
 have hl2_:=(Kd.S_reads' Hg0.out).1
 have hcg2_:=(Kd.S_reads' Hg0.out).2.1
 have HL2:=a0_ hl2_
 clear hl2_ hcg2_
 have hcall_ : Calls Try.prog 25 #[.slice Ag0 rr.length cg0,.int .i64 1] w19_ fun e w'=>e = .returned (.int .i64 m9_) ∧ Drawn0 w19_ w':=by rw [HL2.out];exact laws_heldPartSS.calls q25 Ag0 cg0 rr2 1 m9_ _ (Kd.S_reads' Hg0.out).2.2 (by rw [← HL2.out];exact (Kd.S_reads' Hg0.out).2.1) E25.out
 go_wp2_with (fail)
 clear hcT
 refine (hcall_).mono ?_
 rintro e w20_ ⟨rfl,hd⟩
 have hb:=hd.below
 clear hd
 replace Hr0:=a0_ (Kd.S_below Hr0.out hb)
 replace Hg0:=a0_ (Kd.S_below Hg0.out hb)
 replace BT:=a0_ (blk_keptB BT.out hb)
 replace HB:=a0_ (below_step HB.out hb)
 replace HN:=a0_ (Nat.le_trans HN.out hb.size)
 clear hb
 have hcT : w20_.cell? ⟨w.heap.size,0,none⟩ = some (.slice A0_0 l0_0.length c0_0):=(blk_cell BT.out 0).trans rfl
 clear hcall_
 go_wp2_with (fail)
 clear hcT
 refine (laws_toTree.calls q9 A0_0 c0_0 l0_0 tt _ (Kd.C_below HR0.out HB.out) HC0.out E9.out).mono ?_
 rintro e w21_ ⟨v_,rfl,ho,hb⟩
 obtain ⟨At3,ct3,e_⟩:=Kd.R_slice ho
 subst e_
 obtain ⟨lot3,hlo⟩ : ∃ n_,n_ = (World.heap w20_).size:=⟨_,rfl⟩
 obtain ⟨hit3,hhi⟩ : ∃ n_,n_ = (World.heap w21_).size:=⟨_,rfl⟩
 have Nt3:=a0_ (show hip2 ≤ lot3 ∧ lot3 ≤ hit3 by have h1_:=HN.out;have h2_:=hb.size;omega)
 have Ht3:=a0_ (iv_R ho (below_size HB.out) hlo hhi)
 replace Hr0:=a0_ (Kd.S_below Hr0.out hb)
 replace Hg0:=a0_ (Kd.S_below Hg0.out hb)
 replace BT:=a0_ (blk_keptB BT.out hb)
 replace HB:=a0_ (below_step HB.out hb)
 replace HN:=a0_ (Nat.le_of_eq hhi)
 clear ho hb hlo hhi
 have hcT : w21_.cell? ⟨w.heap.size,0,none⟩ = some (.slice A0_0 l0_0.length c0_0):=(blk_cell BT.out 0).trans rfl
 go_wp2_with (fail)
 clear hcT
 refine (laws_toPartS.calls q10 A1 c1 l1 gg _ (Kd.C_below HR1.out HB.out) HC1.out E10.out).mono ?_
 rintro e w22_ ⟨v_,rfl,ho,hb⟩
 obtain ⟨Ap3,cp3,e_⟩:=Kd.R_slice ho
 subst e_
 obtain ⟨lop3,hlo⟩ : ∃ n_,n_ = (World.heap w21_).size:=⟨_,rfl⟩
 obtain ⟨hip3,hhi⟩ : ∃ n_,n_ = (World.heap w22_).size:=⟨_,rfl⟩
 have Np3:=a0_ (show hit3 ≤ lop3 ∧ lop3 ≤ hip3 by have h1_:=HN.out;have h2_:=hb.size;omega)
 have Hp3:=a0_ (iv_R ho (below_size HB.out) hlo hhi)
 replace Hr0:=a0_ (Kd.S_below Hr0.out hb)
 replace Hg0:=a0_ (Kd.S_below Hg0.out hb)
 replace Ht3:=a0_ (Kd.R_below Ht3.out hb)
 replace BT:=a0_ (blk_keptB BT.out hb)
 replace HB:=a0_ (below_step HB.out hb)
 replace HN:=a0_ (Nat.le_of_eq hhi)
 clear ho hb hlo hhi
 have hcT : w22_.cell? ⟨w.heap.size,0,none⟩ = some (.slice A0_0 l0_0.length c0_0):=(blk_cell BT.out 0).trans rfl
 go_wp2_with (fail)
 clear hcT
 refine (impl_KidsOf.calls q24 At3 ct3 tt Ap3 cp3 gg rr _ (Kd.R_reads' Ht3.out).2.2 (Kd.R_reads' Ht3.out).2.1 (Kd.R_reads' Hp3.out).2.2 (Kd.R_reads' Hp3.out).2.1 E24.out).mono ?_
 rintro e w23_ ⟨v_,rfl,ho,hb⟩
 obtain ⟨Ah0,ch0,e_⟩:=Kd.S_slice ho
 subst e_
 obtain ⟨loh0,hlo⟩ : ∃ n_,n_ = (World.heap w22_).size:=⟨_,rfl⟩
 obtain ⟨hih0,hhi⟩ : ∃ n_,n_ = (World.heap w23_).size:=⟨_,rfl⟩
 have Nh0:=a0_ (show hip3 ≤ loh0 ∧ loh0 ≤ hih0 by have h1_:=HN.out;have h2_:=hb.size;omega)
 have Hh0:=a0_ (iv_S ho (below_size HB.out) hlo hhi)
 replace Hr0:=a0_ (Kd.S_below Hr0.out hb)
 replace Hg0:=a0_ (Kd.S_below Hg0.out hb)
 replace Ht3:=a0_ (Kd.R_below Ht3.out hb)
 replace Hp3:=a0_ (Kd.R_below Hp3.out hb)
 replace BT:=a0_ (blk_keptB BT.out hb)
 replace HB:=a0_ (below_step HB.out hb)
 replace HN:=a0_ (Nat.le_of_eq hhi)
 clear ho hb hlo hhi
 have hcT : w23_.cell? ⟨w.heap.size,0,none⟩ = some (.slice A0_0 l0_0.length c0_0):=(blk_cell BT.out 0).trans rfl
 clear Ht3 Hp3
 go_wp2_with (fail)
 clear hcT
 refine (laws_eqPartSS.calls q21 Ah0 ch0 rr Ar0 cr0 rr true _ (Kd.S_reads' Hh0.out).2.2 (Kd.S_reads' Hh0.out).2.1 (Kd.S_reads' Hr0.out).2.2 (Kd.S_reads' Hr0.out).2.1 E21.out).mono ?_
 rintro e w24_ ⟨rfl,hb⟩
 replace Hr0:=a0_ (Kd.S_below Hr0.out hb)
 replace Hg0:=a0_ (Kd.S_below Hg0.out hb)
 replace Hh0:=a0_ (Kd.S_below Hh0.out hb)
 replace BT:=a0_ (blk_keptB BT.out hb)
 replace HB:=a0_ (below_step HB.out hb)
 replace HN:=a0_ (Nat.le_trans HN.out hb.size)
 clear hb
 have hcT : w24_.cell? ⟨w.heap.size,0,none⟩ = some (.slice A0_0 l0_0.length c0_0):=(blk_cell BT.out 0).trans rfl
 have hcall_ : Calls Try.prog 25 #[.slice Ag0 rr.length cg0,.int .i64 1] w24_ fun e w'=>e = .returned (.int .i64 m9_) ∧ Drawn0 w24_ w':=by rw [HL2.out];exact laws_heldPartSS.calls q25 Ag0 cg0 rr2 1 m9_ _ (Kd.S_reads' Hg0.out).2.2 (by rw [← HL2.out];exact (Kd.S_reads' Hg0.out).2.1) E25.out
 go_wp2_with (fail)
 clear hcT
 refine (hcall_).mono ?_
 rintro e w25_ ⟨rfl,hd⟩
 have hb:=hd.below
 clear hd
 replace Hr0:=a0_ (Kd.S_below Hr0.out hb)
 replace Hg0:=a0_ (Kd.S_below Hg0.out hb)
 replace Hh0:=a0_ (Kd.S_below Hh0.out hb)
 replace BT:=a0_ (blk_keptB BT.out hb)
 replace HB:=a0_ (below_step HB.out hb)
 replace HN:=a0_ (Nat.le_trans HN.out hb.size)
 clear hb
 have hcT : w25_.cell? ⟨w.heap.size,0,none⟩ = some (.slice A0_0 l0_0.length c0_0):=(blk_cell BT.out 0).trans rfl
 clear hcall_
 go_wp2
 go_ret
 exact ⟨rfl,HB.out⟩
end Go.Proofs.Ytbglafibhopleaa.P
namespace Go.Proofs.Ytbglafibhopleaa.P
open Go.RowKit Go.Proofs.YtbglafibhopleaaW.PrintWords Go.Proofs.YtbglafibhopleaaW.PrintLast Go.Proofs.YtbglafibhopleaaW.PrintMore
attribute [local go_sem] max2_int min2_int max_two min_two max_three min_three max_four min_four
set_option linter.unusedVariables false
set_option linter.unusedSimpArgs false
def laws_FnExactWrapGroup.f (k : Nat) (l0_0 : List (S67)) (l1 : List (List (S57))) (a2 : Int) : Option Bool:=if l0_0.all (fun x=>decide (x.f0.size ≤ 9223372036854775807)) = true then some true else none
set_option maxHeartbeats 8000000 in
set_option maxRecDepth 100000 in
theorem laws_FnExactWrapGroup.calls (k : Nat) (A0_0 : Option Addr) (c0_0 : Nat) (l0_0 : List (S67)) (A1 : Option Addr) (c1 : Nat) (l1 : List (List (S57))) (a2 : Int) (r : Bool) (w : World) (hr0_0 : Kd.C k67 w A0_0 l0_0.length l0_0) (hc0_0 : l0_0.length ≤ c0_0) (hr1 : Kd.C (Kd.slice 57 k57) w A1 l1.length l1) (hc1 : l1.length ≤ c1) (h : laws_FnExactWrapGroup.f k l0_0 l1 a2 = some r) :
  Calls Try.prog 4 #[.agg #[.slice A0_0 l0_0.length c0_0],.slice A1 l1.length c1,.int .i64 a2] w fun e w'=>e = .returned (.bool r) ∧ Below w.heap.size w w':=by
 have hgood : ∀ x ∈ l0_0,x.f0.size ≤ 9223372036854775807:=by
  apply Classical.byContradiction
  intro hn
  rw [laws_FnExactWrapGroup.f,if_neg (fun h_=>hn (fun x hx=>of_decide_eq_true (List.all_eq_true.1 h_ x hx)))] at h
  cases h
 obtain rfl : r = true:=by
  rw [laws_FnExactWrapGroup.f,if_pos (List.all_eq_true.2 (fun x hx=>decide_eq_true (hgood x hx)))] at h
  exact (Option.some.inj h).symm
 clear h
 obtain ⟨v0,hv0,hg0⟩:=laws_szTree_ev l0_0 1048576 (by omega) (by omega) hr0_0.2.1 hgood
 obtain ⟨q6,E6⟩:=Ev.out hv0
 replace E6:=a0_ E6
 have HR0:=a0_ hr0_0
 have HC0:=a0_ hc0_0
 have HR1:=a0_ hr1
 have HC1:=a0_ hc1
 have hl1m:=hr1.2.1
 clear hr0_0 hr1 hc0_0 hc1 hgood hv0
 have BT:=a0_ (heap_new1 w (.cells #[.slice A0_0 l0_0.length c0_0] 24))
 have HB:=a0_ (below1 w (.cells #[.slice A0_0 l0_0.length c0_0] 24))
 have HN:=a0_ (show w.heap.size + 1 ≤ (World.heap (World.alloc w (.cells #[.slice A0_0 l0_0.length c0_0] 24))).size by simp)
 have hcT : (World.alloc w (.cells #[.slice A0_0 l0_0.length c0_0] 24)).cell? ⟨w.heap.size,0,none⟩ = some (.slice A0_0 l0_0.length c0_0):=(blk_cell BT.out 0).trans rfl
 have hu1_:=Try.underlying24
 have hu2_:=Try.underlying32
 go_enter Try.func4,Try.ntmps4
 go_wp2_with (fail)
 clear hcT
 refine (laws_szTree.calls q6 A0_0 c0_0 l0_0 1048576 v0 _ (Kd.C_below HR0.out HB.out) HC0.out E6.out).mono ?_
 rintro e w1_ ⟨rfl,hb⟩
 replace BT:=a0_ (blk_keptB BT.out hb)
 replace HB:=a0_ (below_step HB.out hb)
 replace HN:=a0_ (Nat.le_trans HN.out hb.size)
 clear hb
 have hcT : w1_.cell? ⟨w.heap.size,0,none⟩ = some (.slice A0_0 l0_0.length c0_0):=(blk_cell BT.out 0).trans rfl
 by_cases hn0 : v0 < 0
 ·have hn0b:=eq_true hn0
  have hn0c : decide (v0 < 0) = true:=decide_eq_true hn0
  go_wp2
  go_ret
  exact ⟨rfl,HB.out⟩
 have hn0b:=eq_false hn0
 have hn0c : decide (v0 < 0) = false:=decide_eq_false hn0
 obtain ⟨hva0,hl0,hs⟩:=hg0 (by omega)
 have hl1x : ∀ x ∈ l1,x.length ≤ 9223372036854775807:=by
  intro x hx
  obtain ⟨i,hi,rfl⟩:=List.getElem_of_mem hx
  obtain ⟨_,_,_,_,hK,_⟩:=Kd.C_get HR1.out ([] : List (S57)) (i : Int) (by omega) (by omega)
  obtain ⟨_,_,_,_,h⟩:=hK
  have:=h.2.1
  simpa [List.getD,hi] using this
 obtain ⟨v1,hv1,hg1⟩:=laws_szPartSS_ev l1 v0 (by omega) (by omega) hl1m hl1x
 obtain ⟨q7,E7⟩:=Ev.out hv1
 replace E7:=a0_ E7
 clear hv1 hl1x
 go_wp2_with (fail)
 clear hcT
 refine (laws_szPartSS.calls q7 A1 c1 l1 v0 v1 _ (Kd.C_below HR1.out HB.out) HC1.out E7.out).mono ?_
 rintro e w2_ ⟨rfl,hd⟩
 have hb:=hd.below
 clear hd
 replace BT:=a0_ (blk_keptB BT.out hb)
 replace HB:=a0_ (below_step HB.out hb)
 replace HN:=a0_ (Nat.le_trans HN.out hb.size)
 clear hb
 have hcT : w2_.cell? ⟨w.heap.size,0,none⟩ = some (.slice A0_0 l0_0.length c0_0):=(blk_cell BT.out 0).trans rfl
 by_cases hn1 : v1 < 0
 ·have hn1b:=eq_true hn1
  have hn1c : decide (v1 < 0) = true:=decide_eq_true hn1
  go_wp2
  go_ret
  exact ⟨rfl,HB.out⟩
 have hn1b:=eq_false hn1
 have hn1c : decide (v1 < 0) = false:=decide_eq_false hn1
 obtain ⟨hva1,hl1,hl2⟩:=hg1 (by omega)
 have hT0:=laws_toTree_ev l0_0 (by omega)
 have hm0 : (l0_0.map toC).length ≤ 1048576:=by rw [List.length_map];omega
 have hsm:=smT_of hs
 have hT1:=laws_toPartSS_ev l1 (by omega) (fun x hx=>by have:=mem_flat_le hx;omega)
 have hm1 : (l1.map (fun x=>x.map toPart)).length ≤ 1048576:=by rw [List.length_map];omega
 have hm2 : ((l1.map (fun x=>x.map toPart)).flatten).length ≤ 1048576:=by rw [flat_map_len];omega
 have hS:=spec_WrapGroup_ev (l0_0.map toC) (l1.map (fun x=>x.map toPart)) a2 (by omega) hsm
 have hG:=impl_WrapGroup_ev (l0_0.map toC) (l1.map (fun x=>x.map toPart)) a2 hsm
 have hrl:=wraP_len (l0_0.map toC) (l1.map (fun x=>x.map toPart)) a2
 obtain ⟨⟨rr,ok⟩,hrr⟩ : ∃ r_ : List Prt × Bool,r_ = wraP (l0_0.map toC) (l1.map (fun x=>x.map toPart)) a2:=⟨_,rfl⟩
 rw [← hrr] at hS hG hrl
 replace hrl : rr.length ≤ _:=hrl
 clear hrr
 obtain ⟨tt,htt⟩ : ∃ t_ : List Cls,t_ = l0_0.map toC:=⟨_,rfl⟩
 obtain ⟨gg,hgg⟩ : ∃ t_ : List (List Prt),t_ = l1.map (fun x=>x.map toPart):=⟨_,rfl⟩
 rw [← htt] at hT0 hm0 hsm hS hG
 rw [← hgg] at hT1 hm1 hS hG hm2 hrl
 clear htt hgg
 have hEa:=laws_eqPartSS_ev gg (by omega) (fun x hx=>by have:=mem_flat_le hx;omega)
 have hEr:=laws_eqPartS_ev rr (by omega)
 obtain ⟨tt2,hM0⟩:=laws_markTree_ev tt 1 (by omega) (by omega)
 have hM1:=laws_markPartSS_ev gg (1 + 2 * tt.length) (by omega) (by omega) (by omega)
 have hM9:=laws_markPartS_ev rr 1 (by omega) (by omega)
 have hH:=laws_heldPartS_ev 1 rr.length (by omega) (by omega)
 have hEt:=laws_eqTree_ev tt (by omega)
 obtain ⟨q9,E9⟩:=Ev.out hT0
 replace E9:=a0_ E9
 obtain ⟨q10,E10⟩:=Ev.out hT1
 replace E10:=a0_ E10
 obtain ⟨q23,E23⟩:=Ev.out hS
 replace E23:=a0_ E23
 obtain ⟨q12,E12⟩:=Ev.out hEa
 replace E12:=a0_ E12
 obtain ⟨q21,E21⟩:=Ev.out hEr
 replace E21:=a0_ E21
 obtain ⟨q13,E13⟩:=Ev.out hEt
 replace E13:=a0_ E13
 obtain ⟨q14,E14⟩:=Ev.out hM0
 replace E14:=a0_ E14
 obtain ⟨q15,E15⟩:=Ev.out hM1
 replace E15:=a0_ E15
 obtain ⟨q22,E22⟩:=Ev.out hM9
 replace E22:=a0_ E22
 obtain ⟨q25,E25⟩:=Ev.out hH
 replace E25:=a0_ E25
 have E24:=a0_ hG
 obtain ⟨m1_,hm1_⟩ : ∃ m_ : Int,m_ = 1 + 2 * (tt.length : Int) + 4 * (gg.flatten.length : Int):=⟨_,rfl⟩
 obtain ⟨m9_,hm9_⟩ : ∃ m_ : Int,m_ = 1 + 4 * (rr.length : Int):=⟨_,rfl⟩
 obtain ⟨a1_,ha1_⟩ : ∃ m_ : Int,m_ = 1 + 2 * (tt.length : Int):=⟨_,rfl⟩
 obtain ⟨gg2,hgg2⟩ : ∃ m_,m_ = marksPS (1 + 2 * (tt.length : Int)) gg:=⟨_,rfl⟩
 obtain ⟨rr2,hrr2⟩ : ∃ m_,m_ = marksPart 1 rr.length:=⟨_,rfl⟩
 have p1_ : ¬ m1_ < 0:=by omega
 have p9_ : ¬ m9_ < 0:=by omega
 have p1b:=eq_false p1_
 have p9b:=eq_false p9_
 have p1c : decide (m1_ < 0) = false:=decide_eq_false p1_
 have p9c : decide (m9_ < 0) = false:=decide_eq_false p9_
 rw [← hm1_,← hgg2,← ha1_] at E15
 rw [← ha1_] at E14
 rw [← hm9_,← hrr2] at E22
 rw [← hm9_,← hrr2] at E25
 clear hT0 hT1 hS hG hEa hEr hEt hM0 hM1 hM9 hH hm1_ hm9_ ha1_ hgg2 hrr2 hm0 hm1 hsm hs hl0 hl1 hva0 hva1 hg0 hg1 hn0 hn1 p1_ p9_ hrl hm2 hl2 hl1m
 go_wp2_with (fail)
 clear hcT
 refine (laws_toTree.calls q9 A0_0 c0_0 l0_0 tt _ (Kd.C_below HR0.out HB.out) HC0.out E9.out).mono ?_
 rintro e w3_ ⟨v_,rfl,ho,hb⟩
 obtain ⟨At1,ct1,e_⟩:=Kd.R_slice ho
 subst e_
 obtain ⟨lot1,hlo⟩ : ∃ n_,n_ = (World.heap w2_).size:=⟨_,rfl⟩
 obtain ⟨hit1,hhi⟩ : ∃ n_,n_ = (World.heap w3_).size:=⟨_,rfl⟩
 have Nt1:=a0_ (show w.heap.size + 1 ≤ lot1 ∧ lot1 ≤ hit1 by have h1_:=HN.out;have h2_:=hb.size;omega)
 have Ht1:=a0_ (iv_R ho (below_size HB.out) hlo hhi)
 replace BT:=a0_ (blk_keptB BT.out hb)
 replace HB:=a0_ (below_step HB.out hb)
 replace HN:=a0_ (Nat.le_of_eq hhi)
 clear ho hb hlo hhi
 have hcT : w3_.cell? ⟨w.heap.size,0,none⟩ = some (.slice A0_0 l0_0.length c0_0):=(blk_cell BT.out 0).trans rfl
 go_wp2_with (fail)
 clear hcT
 refine (laws_toPartSS.calls q10 A1 c1 l1 gg _ (Kd.C_below HR1.out HB.out) HC1.out E10.out).mono ?_
 rintro e w4_ ⟨v_,rfl,ho,hb⟩
 obtain ⟨Ap1,cp1,e_⟩:=Kd.S_slice ho
 subst e_
 obtain ⟨lop1,hlo⟩ : ∃ n_,n_ = (World.heap w3_).size:=⟨_,rfl⟩
 obtain ⟨hip1,hhi⟩ : ∃ n_,n_ = (World.heap w4_).size:=⟨_,rfl⟩
 have Np1:=a0_ (show hit1 ≤ lop1 ∧ lop1 ≤ hip1 by have h1_:=HN.out;have h2_:=hb.size;omega)
 have Hp1:=a0_ (iv_S ho (below_size HB.out) hlo hhi)
 replace Ht1:=a0_ (Kd.R_below Ht1.out hb)
 replace BT:=a0_ (blk_keptB BT.out hb)
 replace HB:=a0_ (below_step HB.out hb)
 replace HN:=a0_ (Nat.le_of_eq hhi)
 clear ho hb hlo hhi
 have hcT : w4_.cell? ⟨w.heap.size,0,none⟩ = some (.slice A0_0 l0_0.length c0_0):=(blk_cell BT.out 0).trans rfl
 go_wp2_with (fail)
 clear hcT
 refine (spec_WrapGroup.calls q23 At1 ct1 tt Ap1 cp1 gg a2 rr ok _ (Kd.R_reads' Ht1.out).2.2 (Kd.R_reads' Ht1.out).2.1 (Kd.S_reads' Hp1.out).2.2 (Kd.S_reads' Hp1.out).2.1 E23.out).mono ?_
 rintro e w5_ ⟨v_,rfl,ho,hb⟩
 obtain ⟨Ar0,cr0,e_⟩:=Kd.R_slice ho
 subst e_
 obtain ⟨lor0,hlo⟩ : ∃ n_,n_ = (World.heap w4_).size:=⟨_,rfl⟩
 obtain ⟨hir0,hhi⟩ : ∃ n_,n_ = (World.heap w5_).size:=⟨_,rfl⟩
 have Nr0:=a0_ (show hip1 ≤ lor0 ∧ lor0 ≤ hir0 by have h1_:=HN.out;have h2_:=hb.size;omega)
 have Hr0:=a0_ (iv_R ho (below_size HB.out) hlo hhi)
 replace Ht1:=a0_ (Kd.R_below Ht1.out hb)
 replace Hp1:=a0_ (Kd.S_below Hp1.out hb)
 replace BT:=a0_ (blk_keptB BT.out hb)
 replace HB:=a0_ (below_step HB.out hb)
 replace HN:=a0_ (Nat.le_of_eq hhi)
 clear ho hb hlo hhi
 have hcT : w5_.cell? ⟨w.heap.size,0,none⟩ = some (.slice A0_0 l0_0.length c0_0):=(blk_cell BT.out 0).trans rfl
 clear Ht1 Hp1
 go_wp2_with (fail)
 clear hcT
 refine (laws_toTree.calls q9 A0_0 c0_0 l0_0 tt _ (Kd.C_below HR0.out HB.out) HC0.out E9.out).mono ?_
 rintro e w6_ ⟨v_,rfl,ho,hb⟩
 obtain ⟨Ax0,cx0,e_⟩:=Kd.R_slice ho
 subst e_
 obtain ⟨lox0,hlo⟩ : ∃ n_,n_ = (World.heap w5_).size:=⟨_,rfl⟩
 obtain ⟨hix0,hhi⟩ : ∃ n_,n_ = (World.heap w6_).size:=⟨_,rfl⟩
 have Nx0:=a0_ (show hir0 ≤ lox0 ∧ lox0 ≤ hix0 by have h1_:=HN.out;have h2_:=hb.size;omega)
 have Hx0:=a0_ (iv_R ho (below_size HB.out) hlo hhi)
 replace Hr0:=a0_ (Kd.R_below Hr0.out hb)
 replace BT:=a0_ (blk_keptB BT.out hb)
 replace HB:=a0_ (below_step HB.out hb)
 replace HN:=a0_ (Nat.le_of_eq hhi)
 clear ho hb hlo hhi
 have hcT : w6_.cell? ⟨w.heap.size,0,none⟩ = some (.slice A0_0 l0_0.length c0_0):=(blk_cell BT.out 0).trans rfl
 go_wp2_with (fail)
 clear hcT
 replace Hr0:=a0_ (Kd.R_alloc Hr0.out (.cells #[.slice Ax0 tt.length cx0] 32))
 replace Hx0:=a0_ (Kd.R_alloc Hx0.out (.cells #[.slice Ax0 tt.length cx0] 32))
 replace BT:=a0_ (blk_alloc BT.out (.cells #[.slice Ax0 tt.length cx0] 32))
 replace HB:=a0_ (below_alloc HB.out (.cells #[.slice Ax0 tt.length cx0] 32))
 have BX:=a0_ (heap_new1 w6_ (.cells #[.slice Ax0 tt.length cx0] 32))
 have NX:=a0_ (show hix0 ≤ (World.heap w6_).size from HN.out)
 replace HN:=a0_ (show (World.heap w6_).size + 1 ≤ (World.heap (World.alloc w6_ (.cells #[.slice Ax0 tt.length cx0] 32))).size by simp)
 generalize World.alloc w6_ (.cells #[.slice Ax0 tt.length cx0] 32) = w7_ at *
 generalize (World.heap w6_).size = gX at *
 have hcT : w7_.cell? ⟨w.heap.size,0,none⟩ = some (.slice A0_0 l0_0.length c0_0):=(blk_cell BT.out 0).trans rfl
 have hcX : w7_.cell? ⟨gX,0,none⟩ = some (.slice Ax0 tt.length cx0):=(blk_cell BX.out 0).trans rfl
 go_wp2_with (fail)
 clear hcT hcX
 refine (laws_toPartSS.calls q10 A1 c1 l1 gg _ (Kd.C_below HR1.out HB.out) HC1.out E10.out).mono ?_
 rintro e w8_ ⟨v_,rfl,ho,hb⟩
 obtain ⟨Ax1,cx1,e_⟩:=Kd.S_slice ho
 subst e_
 obtain ⟨lox1,hlo⟩ : ∃ n_,n_ = (World.heap w7_).size:=⟨_,rfl⟩
 obtain ⟨hix1,hhi⟩ : ∃ n_,n_ = (World.heap w8_).size:=⟨_,rfl⟩
 have Nx1:=a0_ (show gX + 1 ≤ lox1 ∧ lox1 ≤ hix1 by have h1_:=HN.out;have h2_:=hb.size;omega)
 have Hx1:=a0_ (iv_S ho (below_size HB.out) hlo hhi)
 replace Hr0:=a0_ (Kd.R_below Hr0.out hb)
 replace Hx0:=a0_ (Kd.R_below Hx0.out hb)
 replace BT:=a0_ (blk_keptB BT.out hb)
 replace BX:=a0_ (blk_keptB BX.out hb)
 replace HB:=a0_ (below_step HB.out hb)
 replace HN:=a0_ (Nat.le_of_eq hhi)
 clear ho hb hlo hhi
 have hcT : w8_.cell? ⟨w.heap.size,0,none⟩ = some (.slice A0_0 l0_0.length c0_0):=(blk_cell BT.out 0).trans rfl
 have hcX : w8_.cell? ⟨gX,0,none⟩ = some (.slice Ax0 tt.length cx0):=(blk_cell BX.out 0).trans rfl
 go_wp2_with (fail)
 clear hcT hcX
 refine (impl_WrapGroup.calls Ax0 cx0 tt Ax1 cx1 gg a2 rr ok _ (Kd.R_reads' Hx0.out).2.2 (Kd.R_reads' Hx0.out).2.1 (Kd.S_reads' Hx1.out).2.2 (Kd.S_reads' Hx1.out).2.1 E24.out).mono ?_
 rintro e w9_ ⟨v_,rfl,ho,hb⟩
 obtain ⟨Ag0,cg0,e_⟩:=Kd.R_slice ho
 subst e_
 obtain ⟨log0,hlo⟩ : ∃ n_,n_ = (World.heap w8_).size:=⟨_,rfl⟩
 obtain ⟨hig0,hhi⟩ : ∃ n_,n_ = (World.heap w9_).size:=⟨_,rfl⟩
 have Ng0:=a0_ (show hix1 ≤ log0 ∧ log0 ≤ hig0 by have h1_:=HN.out;have h2_:=hb.size;omega)
 have Hg0:=a0_ (iv_R ho (below_size HB.out) hlo hhi)
 replace Hr0:=a0_ (Kd.R_below Hr0.out hb)
 replace Hx0:=a0_ (Kd.R_below Hx0.out hb)
 replace Hx1:=a0_ (Kd.S_below Hx1.out hb)
 replace BT:=a0_ (blk_keptB BT.out hb)
 replace BX:=a0_ (blk_keptB BX.out hb)
 replace HB:=a0_ (below_step HB.out hb)
 replace HN:=a0_ (Nat.le_of_eq hhi)
 clear ho hb hlo hhi
 have hcT : w9_.cell? ⟨w.heap.size,0,none⟩ = some (.slice A0_0 l0_0.length c0_0):=(blk_cell BT.out 0).trans rfl
 have hcX : w9_.cell? ⟨gX,0,none⟩ = some (.slice Ax0 tt.length cx0):=(blk_cell BX.out 0).trans rfl
 go_wp2_with (fail)
 clear hcT hcX
 refine (laws_eqPartS.calls q21 Ag0 cg0 rr Ar0 cr0 rr true _ (Kd.R_reads' Hg0.out).2.2 (Kd.R_reads' Hg0.out).2.1 (Kd.R_reads' Hr0.out).2.2 (Kd.R_reads' Hr0.out).2.1 E21.out).mono ?_
 rintro e w10_ ⟨rfl,hb⟩
 replace Hr0:=a0_ (Kd.R_below Hr0.out hb)
 replace Hx0:=a0_ (Kd.R_below Hx0.out hb)
 replace Hx1:=a0_ (Kd.S_below Hx1.out hb)
 replace Hg0:=a0_ (Kd.R_below Hg0.out hb)
 replace BT:=a0_ (blk_keptB BT.out hb)
 replace BX:=a0_ (blk_keptB BX.out hb)
 replace HB:=a0_ (below_step HB.out hb)
 replace HN:=a0_ (Nat.le_trans HN.out hb.size)
 clear hb
 have hcT : w10_.cell? ⟨w.heap.size,0,none⟩ = some (.slice A0_0 l0_0.length c0_0):=(blk_cell BT.out 0).trans rfl
 have hcX : w10_.cell? ⟨gX,0,none⟩ = some (.slice Ax0 tt.length cx0):=(blk_cell BX.out 0).trans rfl
 go_wp2_with (fail)
 clear hcT hcX
 replace Hr0:=a0_ (Kd.R_drew Hr0.out)
 replace Hx0:=a0_ (Kd.R_drew Hx0.out)
 replace Hx1:=a0_ (Kd.S_drew Hx1.out)
 replace Hg0:=a0_ (Kd.R_drew Hg0.out)
 replace BT:=a0_ (blk_drew BT.out)
 replace BX:=a0_ (blk_drew BX.out)
 replace HB:=a0_ (below_drew1 HB.out)
 refine start_ (n:=5) (S:=fun w'=>w'.cell? ⟨gX,0,none⟩ = some (.slice Ax0 tt.length cx0) ∧ w'.cell? ⟨w.heap.size,0,none⟩ = some (.slice A0_0 l0_0.length c0_0)) (ds:=[]) #[false,false,false,false,false] (by kernel_rfl) rfl rfl ⟨(blk_cell BX.out 0).trans rfl,(blk_cell BT.out 0).trans rfl⟩ (fun hHeld=>?_)
 replace HN:=a0_ (show hig0 ≤ (World.heap (World.drew w10_)).size from HN.out)
 generalize World.drew w10_ = w11_ at *
 refine take_ (i:=0) (N:=some 58) (v:=?_) (a':=?_) #[true,false,false,false,false] rfl rfl (by kernel_rfl) (fun _ _ _ h=>h) (Or.inl ⟨by rfl,?_⟩) hHeld ?_ ?_
 rotate_left
 ·rintro w' ⟨s0,s1⟩
  go_simp
  with_reducible rfl
 rotate_left
 ·simp only [Act.put,s1_,s2_,s3_,i64_w,i32_w]
  rfl
 refine take_ (i:=1) (N:=some 59) (v:=?_) (a':=?_) #[true,true,false,false,false] rfl rfl (by kernel_rfl) (fun _ _ _ h=>h) (Or.inl ⟨by rfl,?_⟩) hHeld ?_ ?_
 rotate_left
 ·rintro w' ⟨s0,s1⟩
  go_simp
  with_reducible rfl
 rotate_left
 ·simp only [Act.put,s1_,s2_,s3_,i64_w,i32_w]
  rfl
 refine one_ (i:=2) (N:=some 60) #[true,true,true,false,false] rfl rfl (by kernel_rfl) (by decide) (fun K hK=>?_)
 refine goes_ Try.func9 (by kernel_rfl) rfl #[.agg #[.slice A0_0 l0_0.length c0_0]] (by rfl) rfl rfl (by (try simp only [List.map_toArray,List.map_cons,List.map_nil]);(first | done | rfl)) ?_
 refine (laws_toTree.calls q9 A0_0 c0_0 l0_0 tt _ (Kd.C_below HR0.out HB.out) HC0.out E9.out).mono ?_
 rintro e w12_ ⟨v_,rfl,ho,hb⟩
 refine ⟨_,rfl,?_⟩
 obtain ⟨At2,ct2,e_⟩:=Kd.R_slice ho
 subst e_
 obtain ⟨lot2,hlo⟩ : ∃ n_,n_ = (World.heap w11_).size:=⟨_,rfl⟩
 obtain ⟨hit2,hhi⟩ : ∃ n_,n_ = (World.heap w12_).size:=⟨_,rfl⟩
 have Nt2:=a0_ (show hig0 ≤ lot2 ∧ lot2 ≤ hit2 by have h1_:=HN.out;have h2_:=hb.size;omega)
 have Ht2:=a0_ (iv_R ho (below_size HB.out) hlo hhi)
 replace Hr0:=a0_ (Kd.R_below Hr0.out hb)
 replace Hx0:=a0_ (Kd.R_below Hx0.out hb)
 replace Hx1:=a0_ (Kd.S_below Hx1.out hb)
 replace Hg0:=a0_ (Kd.R_below Hg0.out hb)
 replace BT:=a0_ (blk_keptB BT.out hb)
 replace BX:=a0_ (blk_keptB BX.out hb)
 replace HB:=a0_ (below_step HB.out hb)
 replace HN:=a0_ (Nat.le_of_eq hhi)
 clear ho hb hlo hhi
 refine hK.out _ _ ⟨(blk_cell BX.out 0).trans rfl,(blk_cell BT.out 0).trans rfl⟩ (fun hHeld=>?_)
 clear hK K
 refine norm_ (a':=?_) ?_ ?_
 rotate_left
 ·show Act.put _ (some 60) _ = _
  simp only [Act.put,s1_,s2_,s3_,i64_w,i32_w]
  rfl
 refine one_ (i:=3) (N:=some 61) #[true,true,true,true,false] rfl rfl (by kernel_rfl) (by decide) (fun K hK=>?_)
 refine goes_ Try.func13 (by kernel_rfl) rfl #[.agg #[.slice Ax0 tt.length cx0],.agg #[.slice At2 tt.length ct2]] (by rfl) rfl rfl (by (try simp only [List.map_toArray,List.map_cons,List.map_nil]);(first | done | rfl)) ?_
 refine (laws_eqTree.calls q13 Ax0 cx0 tt At2 ct2 tt true _ (Kd.R_reads' Hx0.out).2.2 (Kd.R_reads' Hx0.out).2.1 (Kd.R_reads' Ht2.out).2.2 (Kd.R_reads' Ht2.out).2.1 E13.out).mono ?_
 rintro e w13_ ⟨rfl,hb⟩
 refine ⟨_,rfl,?_⟩
 replace Hr0:=a0_ (Kd.R_below Hr0.out hb)
 replace Hx0:=a0_ (Kd.R_below Hx0.out hb)
 replace Hx1:=a0_ (Kd.S_below Hx1.out hb)
 replace Hg0:=a0_ (Kd.R_below Hg0.out hb)
 replace Ht2:=a0_ (Kd.R_below Ht2.out hb)
 replace BT:=a0_ (blk_keptB BT.out hb)
 replace BX:=a0_ (blk_keptB BX.out hb)
 replace HB:=a0_ (below_step HB.out hb)
 replace HN:=a0_ (Nat.le_trans HN.out hb.size)
 clear hb
 refine hK.out _ _ ⟨(blk_cell BX.out 0).trans rfl,(blk_cell BT.out 0).trans rfl⟩ (fun hHeld=>?_)
 clear hK K
 refine norm_ (a':=?_) ?_ ?_
 rotate_left
 ·show Act.put _ (some 61) _ = _
  simp only [Act.put,s1_,s2_,s3_,i64_w,i32_w]
  rfl
 refine pure_ (i:=4) (N:=some 62) (v:=?_) (a':=?_) #[true,true,true,true,true] rfl rfl (by kernel_rfl) (fun _ _ _ h=>h) (Or.inl ⟨by rfl,?_⟩) ?_ ?_
 rotate_left
 ·intro w'
  go_simp
  with_reducible rfl
 rotate_left
 ·simp only [Act.put,s1_,s2_,s3_,i64_w,i32_w]
  rfl
 refine done_ (by kernel_rfl) ?_
 have hcT : w13_.cell? ⟨w.heap.size,0,none⟩ = some (.slice A0_0 l0_0.length c0_0):=(blk_cell BT.out 0).trans rfl
 have hcX : w13_.cell? ⟨gX,0,none⟩ = some (.slice Ax0 tt.length cx0):=(blk_cell BX.out 0).trans rfl
 clear Ht2
 go_wp2_with (fail)
 clear hcT hcX
 refine (laws_toPartSS.calls q10 A1 c1 l1 gg _ (Kd.C_below HR1.out HB.out) HC1.out E10.out).mono ?_
 rintro e w14_ ⟨v_,rfl,ho,hb⟩
 obtain ⟨Ap2,cp2,e_⟩:=Kd.S_slice ho
 subst e_
 obtain ⟨lop2,hlo⟩ : ∃ n_,n_ = (World.heap w13_).size:=⟨_,rfl⟩
 obtain ⟨hip2,hhi⟩ : ∃ n_,n_ = (World.heap w14_).size:=⟨_,rfl⟩
 have Np2:=a0_ (show hit2 ≤ lop2 ∧ lop2 ≤ hip2 by have h1_:=HN.out;have h2_:=hb.size;omega)
 have Hp2:=a0_ (iv_S ho (below_size HB.out) hlo hhi)
 replace Hr0:=a0_ (Kd.R_below Hr0.out hb)
 replace Hx0:=a0_ (Kd.R_below Hx0.out hb)
 replace Hx1:=a0_ (Kd.S_below Hx1.out hb)
 replace Hg0:=a0_ (Kd.R_below Hg0.out hb)
 replace BT:=a0_ (blk_keptB BT.out hb)
 replace BX:=a0_ (blk_keptB BX.out hb)
 replace HB:=a0_ (below_step HB.out hb)
 replace HN:=a0_ (Nat.le_of_eq hhi)
 clear ho hb hlo hhi
 have hcT : w14_.cell? ⟨w.heap.size,0,none⟩ = some (.slice A0_0 l0_0.length c0_0):=(blk_cell BT.out 0).trans rfl
 have hcX : w14_.cell? ⟨gX,0,none⟩ = some (.slice Ax0 tt.length cx0):=(blk_cell BX.out 0).trans rfl
 go_wp2_with (fail)
 clear hcT hcX
 refine (laws_eqPartSS.calls q12 Ax1 cx1 gg Ap2 cp2 gg true _ (Kd.S_reads' Hx1.out).2.2 (Kd.S_reads' Hx1.out).2.1 (Kd.S_reads' Hp2.out).2.2 (Kd.S_reads' Hp2.out).2.1 E12.out).mono ?_
 rintro e w15_ ⟨rfl,hb⟩
 replace Hr0:=a0_ (Kd.R_below Hr0.out hb)
 replace Hx0:=a0_ (Kd.R_below Hx0.out hb)
 replace Hx1:=a0_ (Kd.S_below Hx1.out hb)
 replace Hg0:=a0_ (Kd.R_below Hg0.out hb)
 replace Hp2:=a0_ (Kd.S_below Hp2.out hb)
 replace BT:=a0_ (blk_keptB BT.out hb)
 replace BX:=a0_ (blk_keptB BX.out hb)
 replace HB:=a0_ (below_step HB.out hb)
 replace HN:=a0_ (Nat.le_trans HN.out hb.size)
 clear hb
 have hcT : w15_.cell? ⟨w.heap.size,0,none⟩ = some (.slice A0_0 l0_0.length c0_0):=(blk_cell BT.out 0).trans rfl
 have hcX : w15_.cell? ⟨gX,0,none⟩ = some (.slice Ax0 tt.length cx0):=(blk_cell BX.out 0).trans rfl
 clear Hp2
 go_wp2_with (fail)
 clear hcT hcX
 refine (laws_markTree.calls q14 (fun k_=>lox0 ≤ k_ ∧ k_ < hix0) (.slice Ax0 tt.length cx0) tt 1 a1_ tt2 w _ HB.out Hx0.out E14.out).mono ?_
 rintro e w16_ ⟨rfl,ho,hb,hk⟩
 replace Hr0:=a0_ (Kd.R_kept Hr0.out hk (fun k_ (h1_ : lor0 ≤ k_ ∧ k_ < hir0) (h2_ : lox0 ≤ k_ ∧ k_ < hix0)=>by have:=Nt1.out;have:=Np1.out;have:=Nr0.out;have:=Nx0.out;have:=NX.out;have:=Nx1.out;have:=Ng0.out;have:=Nt2.out;have:=Np2.out;omega))
 replace Hx1:=a0_ (Kd.S_kept Hx1.out hk (fun k_ (h1_ : lox1 ≤ k_ ∧ k_ < hix1) (h2_ : lox0 ≤ k_ ∧ k_ < hix0)=>by have:=Nt1.out;have:=Np1.out;have:=Nr0.out;have:=Nx0.out;have:=NX.out;have:=Nx1.out;have:=Ng0.out;have:=Nt2.out;have:=Np2.out;omega))
 replace Hg0:=a0_ (Kd.R_kept Hg0.out hk (fun k_ (h1_ : log0 ≤ k_ ∧ k_ < hig0) (h2_ : lox0 ≤ k_ ∧ k_ < hix0)=>by have:=Nt1.out;have:=Np1.out;have:=Nr0.out;have:=Nx0.out;have:=NX.out;have:=Nx1.out;have:=Ng0.out;have:=Nt2.out;have:=Np2.out;omega))
 replace BT:=a0_ (blk_kept BT.out hk (fun (h2_ : lox0 ≤ w.heap.size ∧ w.heap.size < hix0)=>by have:=Nt1.out;have:=Np1.out;have:=Nr0.out;have:=Nx0.out;have:=NX.out;have:=Nx1.out;have:=Ng0.out;have:=Nt2.out;have:=Np2.out;omega))
 replace BX:=a0_ (blk_kept BX.out hk (fun (h2_ : lox0 ≤ gX ∧ gX < hix0)=>by have:=Nt1.out;have:=Np1.out;have:=Nr0.out;have:=Nx0.out;have:=NX.out;have:=Nx1.out;have:=Ng0.out;have:=Nt2.out;have:=Np2.out;omega))
 replace HB:=a0_ hb
 replace HN:=a0_ (Nat.le_trans HN.out hk.1)
 clear Hx0
 clear ho hb hk
 have hcT : w16_.cell? ⟨w.heap.size,0,none⟩ = some (.slice A0_0 l0_0.length c0_0):=(blk_cell BT.out 0).trans rfl
 have hcX : w16_.cell? ⟨gX,0,none⟩ = some (.slice Ax0 tt.length cx0):=(blk_cell BX.out 0).trans rfl
 clear hcX BX
 go_wp2_with (fail)
 clear hcT
 refine (laws_markPartSS.calls q15 (fun k_=>lox1 ≤ k_ ∧ k_ < hix1) (.slice Ax1 gg.length cx1) gg a1_ m1_ gg2 w _ HB.out Hx1.out E15.out).mono ?_
 rintro e w17_ ⟨rfl,ho,hb,hk⟩
 replace Hr0:=a0_ (Kd.R_kept Hr0.out hk (fun k_ (h1_ : lor0 ≤ k_ ∧ k_ < hir0) (h2_ : lox1 ≤ k_ ∧ k_ < hix1)=>by have:=Nt1.out;have:=Np1.out;have:=Nr0.out;have:=Nx0.out;have:=NX.out;have:=Nx1.out;have:=Ng0.out;have:=Nt2.out;have:=Np2.out;omega))
 replace Hg0:=a0_ (Kd.R_kept Hg0.out hk (fun k_ (h1_ : log0 ≤ k_ ∧ k_ < hig0) (h2_ : lox1 ≤ k_ ∧ k_ < hix1)=>by have:=Nt1.out;have:=Np1.out;have:=Nr0.out;have:=Nx0.out;have:=NX.out;have:=Nx1.out;have:=Ng0.out;have:=Nt2.out;have:=Np2.out;omega))
 replace BT:=a0_ (blk_kept BT.out hk (fun (h2_ : lox1 ≤ w.heap.size ∧ w.heap.size < hix1)=>by have:=Nt1.out;have:=Np1.out;have:=Nr0.out;have:=Nx0.out;have:=NX.out;have:=Nx1.out;have:=Ng0.out;have:=Nt2.out;have:=Np2.out;omega))
 replace HB:=a0_ hb
 replace HN:=a0_ (Nat.le_trans HN.out hk.1)
 clear Hx1
 clear ho hb hk
 have hcT : w17_.cell? ⟨w.heap.size,0,none⟩ = some (.slice A0_0 l0_0.length c0_0):=(blk_cell BT.out 0).trans rfl
 go_wp2_with (fail)
 clear hcT
 refine (laws_eqPartS.calls q21 Ag0 cg0 rr Ar0 cr0 rr true _ (Kd.R_reads' Hg0.out).2.2 (Kd.R_reads' Hg0.out).2.1 (Kd.R_reads' Hr0.out).2.2 (Kd.R_reads' Hr0.out).2.1 E21.out).mono ?_
 rintro e w18_ ⟨rfl,hb⟩
 replace Hr0:=a0_ (Kd.R_below Hr0.out hb)
 replace Hg0:=a0_ (Kd.R_below Hg0.out hb)
 replace BT:=a0_ (blk_keptB BT.out hb)
 replace HB:=a0_ (below_step HB.out hb)
 replace HN:=a0_ (Nat.le_trans HN.out hb.size)
 clear hb
 have hcT : w18_.cell? ⟨w.heap.size,0,none⟩ = some (.slice A0_0 l0_0.length c0_0):=(blk_cell BT.out 0).trans rfl
 go_wp2_with (fail)
 clear hcT
 refine (laws_markPartS.calls q22 (fun k_=>log0 ≤ k_ ∧ k_ < hig0) (.slice Ag0 rr.length cg0) rr 1 m9_ rr2 w _ HB.out Hg0.out E22.out).mono ?_
 rintro e w19_ ⟨rfl,ho,hb,hk⟩
 replace Hr0:=a0_ (Kd.R_kept Hr0.out hk (fun k_ (h1_ : lor0 ≤ k_ ∧ k_ < hir0) (h2_ : log0 ≤ k_ ∧ k_ < hig0)=>by have:=Nt1.out;have:=Np1.out;have:=Nr0.out;have:=Nx0.out;have:=NX.out;have:=Nx1.out;have:=Ng0.out;have:=Nt2.out;have:=Np2.out;omega))
 replace BT:=a0_ (blk_kept BT.out hk (fun (h2_ : log0 ≤ w.heap.size ∧ w.heap.size < hig0)=>by have:=Nt1.out;have:=Np1.out;have:=Nr0.out;have:=Nx0.out;have:=NX.out;have:=Nx1.out;have:=Ng0.out;have:=Nt2.out;have:=Np2.out;omega))
 replace HB:=a0_ hb
 replace HN:=a0_ (Nat.le_trans HN.out hk.1)
 replace Hg0:=a0_ (Kd.R_mono ho (fun _ _=>trivial) : Kd.R k55 55 w19_ w.heap.size (fun _=>True) _ rr2)
 clear ho hb hk
 have hcT : w19_.cell? ⟨w.heap.size,0,none⟩ = some (.slice A0_0 l0_0.length c0_0):=(blk_cell BT.out 0).trans rfl
 have hl2_:=(Kd.R_reads' Hg0.out).1
 have hcg2_:=(Kd.R_reads' Hg0.out).2.1
 have HL2:=a0_ hl2_
 clear hl2_ hcg2_
 have hcall_ : Calls Try.prog 16 #[.slice Ag0 rr.length cg0,.int .i64 1] w19_ fun e w'=>e = .returned (.int .i64 m9_) ∧ Drawn0 w19_ w':=by rw [HL2.out];exact laws_heldPartS.calls q25 Ag0 cg0 rr2 1 m9_ _ (Kd.R_reads' Hg0.out).2.2 (by rw [← HL2.out];exact (Kd.R_reads' Hg0.out).2.1) E25.out
 go_wp2_with (fail)
 clear hcT
 refine (hcall_).mono ?_
 rintro e w20_ ⟨rfl,hd⟩
 have hb:=hd.below
 clear hd
 replace Hr0:=a0_ (Kd.R_below Hr0.out hb)
 replace Hg0:=a0_ (Kd.R_below Hg0.out hb)
 replace BT:=a0_ (blk_keptB BT.out hb)
 replace HB:=a0_ (below_step HB.out hb)
 replace HN:=a0_ (Nat.le_trans HN.out hb.size)
 clear hb
 have hcT : w20_.cell? ⟨w.heap.size,0,none⟩ = some (.slice A0_0 l0_0.length c0_0):=(blk_cell BT.out 0).trans rfl
 clear hcall_
 go_wp2_with (fail)
 clear hcT
 refine (laws_toTree.calls q9 A0_0 c0_0 l0_0 tt _ (Kd.C_below HR0.out HB.out) HC0.out E9.out).mono ?_
 rintro e w21_ ⟨v_,rfl,ho,hb⟩
 obtain ⟨At3,ct3,e_⟩:=Kd.R_slice ho
 subst e_
 obtain ⟨lot3,hlo⟩ : ∃ n_,n_ = (World.heap w20_).size:=⟨_,rfl⟩
 obtain ⟨hit3,hhi⟩ : ∃ n_,n_ = (World.heap w21_).size:=⟨_,rfl⟩
 have Nt3:=a0_ (show hip2 ≤ lot3 ∧ lot3 ≤ hit3 by have h1_:=HN.out;have h2_:=hb.size;omega)
 have Ht3:=a0_ (iv_R ho (below_size HB.out) hlo hhi)
 replace Hr0:=a0_ (Kd.R_below Hr0.out hb)
 replace Hg0:=a0_ (Kd.R_below Hg0.out hb)
 replace BT:=a0_ (blk_keptB BT.out hb)
 replace HB:=a0_ (below_step HB.out hb)
 replace HN:=a0_ (Nat.le_of_eq hhi)
 clear ho hb hlo hhi
 have hcT : w21_.cell? ⟨w.heap.size,0,none⟩ = some (.slice A0_0 l0_0.length c0_0):=(blk_cell BT.out 0).trans rfl
 go_wp2_with (fail)
 clear hcT
 refine (laws_toPartSS.calls q10 A1 c1 l1 gg _ (Kd.C_below HR1.out HB.out) HC1.out E10.out).mono ?_
 rintro e w22_ ⟨v_,rfl,ho,hb⟩
 obtain ⟨Ap3,cp3,e_⟩:=Kd.S_slice ho
 subst e_
 obtain ⟨lop3,hlo⟩ : ∃ n_,n_ = (World.heap w21_).size:=⟨_,rfl⟩
 obtain ⟨hip3,hhi⟩ : ∃ n_,n_ = (World.heap w22_).size:=⟨_,rfl⟩
 have Np3:=a0_ (show hit3 ≤ lop3 ∧ lop3 ≤ hip3 by have h1_:=HN.out;have h2_:=hb.size;omega)
 have Hp3:=a0_ (iv_S ho (below_size HB.out) hlo hhi)
 replace Hr0:=a0_ (Kd.R_below Hr0.out hb)
 replace Hg0:=a0_ (Kd.R_below Hg0.out hb)
 replace Ht3:=a0_ (Kd.R_below Ht3.out hb)
 replace BT:=a0_ (blk_keptB BT.out hb)
 replace HB:=a0_ (below_step HB.out hb)
 replace HN:=a0_ (Nat.le_of_eq hhi)
 clear ho hb hlo hhi
 have hcT : w22_.cell? ⟨w.heap.size,0,none⟩ = some (.slice A0_0 l0_0.length c0_0):=(blk_cell BT.out 0).trans rfl
 go_wp2_with (fail)
 clear hcT
 refine (impl_WrapGroup.calls At3 ct3 tt Ap3 cp3 gg a2 rr ok _ (Kd.R_reads' Ht3.out).2.2 (Kd.R_reads' Ht3.out).2.1 (Kd.S_reads' Hp3.out).2.2 (Kd.S_reads' Hp3.out).2.1 E24.out).mono ?_
 rintro e w23_ ⟨v_,rfl,ho,hb⟩
 obtain ⟨Ah0,ch0,e_⟩:=Kd.R_slice ho
 subst e_
 obtain ⟨loh0,hlo⟩ : ∃ n_,n_ = (World.heap w22_).size:=⟨_,rfl⟩
 obtain ⟨hih0,hhi⟩ : ∃ n_,n_ = (World.heap w23_).size:=⟨_,rfl⟩
 have Nh0:=a0_ (show hip3 ≤ loh0 ∧ loh0 ≤ hih0 by have h1_:=HN.out;have h2_:=hb.size;omega)
 have Hh0:=a0_ (iv_R ho (below_size HB.out) hlo hhi)
 replace Hr0:=a0_ (Kd.R_below Hr0.out hb)
 replace Hg0:=a0_ (Kd.R_below Hg0.out hb)
 replace Ht3:=a0_ (Kd.R_below Ht3.out hb)
 replace Hp3:=a0_ (Kd.S_below Hp3.out hb)
 replace BT:=a0_ (blk_keptB BT.out hb)
 replace HB:=a0_ (below_step HB.out hb)
 replace HN:=a0_ (Nat.le_of_eq hhi)
 clear ho hb hlo hhi
 have hcT : w23_.cell? ⟨w.heap.size,0,none⟩ = some (.slice A0_0 l0_0.length c0_0):=(blk_cell BT.out 0).trans rfl
 clear Ht3 Hp3
 go_wp2_with (fail)
 clear hcT
 refine (laws_eqPartS.calls q21 Ah0 ch0 rr Ar0 cr0 rr true _ (Kd.R_reads' Hh0.out).2.2 (Kd.R_reads' Hh0.out).2.1 (Kd.R_reads' Hr0.out).2.2 (Kd.R_reads' Hr0.out).2.1 E21.out).mono ?_
 rintro e w24_ ⟨rfl,hb⟩
 replace Hr0:=a0_ (Kd.R_below Hr0.out hb)
 replace Hg0:=a0_ (Kd.R_below Hg0.out hb)
 replace Hh0:=a0_ (Kd.R_below Hh0.out hb)
 replace BT:=a0_ (blk_keptB BT.out hb)
 replace HB:=a0_ (below_step HB.out hb)
 replace HN:=a0_ (Nat.le_trans HN.out hb.size)
 clear hb
 have hcT : w24_.cell? ⟨w.heap.size,0,none⟩ = some (.slice A0_0 l0_0.length c0_0):=(blk_cell BT.out 0).trans rfl
 have hcall_ : Calls Try.prog 16 #[.slice Ag0 rr.length cg0,.int .i64 1] w24_ fun e w'=>e = .returned (.int .i64 m9_) ∧ Drawn0 w24_ w':=by rw [HL2.out];exact laws_heldPartS.calls q25 Ag0 cg0 rr2 1 m9_ _ (Kd.R_reads' Hg0.out).2.2 (by rw [← HL2.out];exact (Kd.R_reads' Hg0.out).2.1) E25.out
 go_wp2_with (fail)
 clear hcT
 refine (hcall_).mono ?_
 rintro e w25_ ⟨rfl,hd⟩
 have hb:=hd.below
 clear hd
 replace Hr0:=a0_ (Kd.R_below Hr0.out hb)
 replace Hg0:=a0_ (Kd.R_below Hg0.out hb)
 replace Hh0:=a0_ (Kd.R_below Hh0.out hb)
 replace BT:=a0_ (blk_keptB BT.out hb)
 replace HB:=a0_ (below_step HB.out hb)
 replace HN:=a0_ (Nat.le_trans HN.out hb.size)
 clear hb
 have hcT : w25_.cell? ⟨w.heap.size,0,none⟩ = some (.slice A0_0 l0_0.length c0_0):=(blk_cell BT.out 0).trans rfl
 clear hcall_
 go_wp2
 go_ret
 exact ⟨rfl,HB.out⟩
end Go.Proofs.Ytbglafibhopleaa.P
namespace Go.Proofs.Ytbglafibhopleaa.Pure
open Go.RowKit Go.Proofs.Ytbglafibhopleaa.P
open Go.Proofs.YtbglafibhopleaaW.PrintWords (rd rdOf wrap_succ wrap_pred wrap_in toL_beq idxP)
set_option linter.unusedVariables false
theorem FnExactWrapGroup (l0_0 : List S67) (l1 : List (List (S57))) (a2 : Int) (G0_0 : (l0_0.length ≤ maxLen ∧ ∀ x ∈ l0_0,(x.f0.size ≤ maxLen ∧ (Lit.int .i64 x.f1).wf = true))) (g1 : (l1.length ≤ maxLen ∧ ∀ x ∈ l1,(x.length ≤ maxLen ∧ ∀ y ∈ x,((Lit.int .i64 y.f0).wf = true ∧ True ∧ (Lit.int .i64 y.f2).wf = true ∧ (Lit.int .i64 y.f3).wf = true)))) (w2 : (Lit.int .i64 a2).wf = true) : ∃ k,laws_FnExactWrapGroup.f k l0_0 l1 a2 = some true:=by
 have hmax : maxLen = 9223372036854775807:=by decide
 rw [hmax] at G0_0
 refine ⟨0,?_⟩
 rw [laws_FnExactWrapGroup.f,if_pos (List.all_eq_true.2 (fun x hx=>decide_eq_true (G0_0.2 x hx).1))]
end Go.Proofs.Ytbglafibhopleaa.Pure
