/- Texts under the proof of FnShownChain: helper words, the functions' contracts and the plain laws. No condition. -/
import Derived.Test.YtmiholmfbjalfaaQFnShownChaina
import Derived.Test.YtmiholmfbjalfaaQFnShownChainc
namespace Go.Proofs.Ytmiholmfbjalfaa.P
open Go.RowKit Go.Proofs.YtmiholmfbjalfaaW.PrintWords Go.Proofs.YtmiholmfbjalfaaW.PrintLast Go.Proofs.YtmiholmfbjalfaaW.PrintMore
attribute [local go_sem] max2_int min2_int max_two min_two max_three min_three max_four min_four
set_option linter.unusedVariables false
set_option linter.unusedSimpArgs false
theorem impl_ValidHeap_1.callsF (B : Nat) (A : Option Addr) (c : Nat) (h : List Fau) (f u : Int) (w : World) (hc : h.length ≤ c) (hB : w.heap[B]? = some (.cells #[.slice A h.length c] 28 (0,0))) (hr : Kd.C k43 w A h.length h) :
  Calls Try.prog 56 #[.int .i64 f,.int .i64 u,.pointer (some ⟨B,0,none⟩)] w fun e w'=>e = .returned (.bool (lnkB h f u)) ∧ Below w.heap.size w w':=by
 have hu37:=Try.underlying28
 have hcell : w.cell? ⟨B,0,none⟩ = some (.slice A h.length c):=(blk_cell hB 0).trans rfl
 have hcon:=impl_Heap_has.calls A c h u (hasF h u) w hr hc (impl_Heap_has_ev h u hr.2.1)
 unfold lnkB
 clear hB hr
 generalize hasF h u = q at hcon ⊢
 by_cases h1 : u = -1
 ·have hd1 : (u == -1) = true:=beq_iff_eq.2 h1
  clear h1
  rw [hd1,Bool.true_or]
  go_enter Try.func56,Try.ntmps56
  go_wp2
  go_ret
  exact ⟨rfl,Below.refl _ w⟩
 ·have hd1 : (u == -1) = false:=beq_eq_false_iff_ne.2 h1
  clear h1
  rw [hd1,Bool.false_or]
  cases q with
  | false =>
   go_enter Try.func56,Try.ntmps56
   go_wp2_with (go_at_call 51;refine hcon.mono ?_;rintro e w' ⟨rfl,hb'⟩)
   go_ret
   exact ⟨rfl,hb'⟩
  | true =>
   rw [Bool.true_and]
   cases h2 : (u != f) <;>
   ·go_enter Try.func56,Try.ntmps56
    go_wp2_with (go_at_call 51;refine hcon.mono ?_;rintro e w' ⟨rfl,hb'⟩)
    go_ret
    exact ⟨rfl,hb'⟩
end Go.Proofs.Ytmiholmfbjalfaa.P
namespace Go.Proofs.Ytmiholmfbjalfaa.P
open Go.RowKit Go.Proofs.YtmiholmfbjalfaaW.PrintWords Go.Proofs.YtmiholmfbjalfaaW.PrintLast Go.Proofs.YtmiholmfbjalfaaW.PrintMore
attribute [local go_sem] max2_int min2_int max_two min_two max_three min_three max_four min_four
set_option linter.unusedVariables false
set_option linter.unusedSimpArgs false
def impl_Tree_has.f (l0_0 : List (S87)) (a1 : Int) : Option (Bool):=(impl_within.f a1 0 (wrap64 ((l0_0.length : Int) - 1))).bind fun t2=>(some t2)
set_option maxHeartbeats 8000000 in
set_option maxRecDepth 100000 in
theorem impl_Tree_has.calls (A0_0 : Option Addr) (c0_0 : Nat) (l0_0 : List (S87)) (a1 : Int) (r : Bool) (w : World) (hr0_0 : Kd.C k87 w A0_0 l0_0.length l0_0) (hc0_0 : l0_0.length ≤ c0_0) (h : impl_Tree_has.f l0_0 a1 = some r) :
  Calls Try.prog 57 #[.agg #[.slice A0_0 l0_0.length c0_0],.int .i64 a1] w fun e w'=>e = .returned (.bool r) ∧ Below w.heap.size w w':=by
 have hu25:=Try.underlying25
 have HR0_0:=a0_ hr0_0
 have HC0_0:=a0_ hc0_0
 clear hr0_0 hc0_0
 have HB:=a0_ (Below.refl w.heap.size w)
 have H : ((impl_within.f a1 0 (wrap64 ((l0_0.length : Int) - 1))).bind fun t2=>(some t2)) = some r:=h
 clear h
 replace H:=Option.bind_eq_some_iff.mp H
 obtain ⟨t2,A30,H⟩:=H
 replace H : (some t2) = some r:=H
 have A3:=a0_ A30
 clear A30
 obtain rfl:=Option.some.inj H
 go_enter Try.func57,Try.ntmps57
 go_wp2_with (first | ((with_reducible refine gate_dst (N:=2) rfl ?_);refine box_event ?hg (N:=2) ?hd (cs:=#[.slice A0_0 l0_0.length c0_0]) (t:=25) ?hr ?_;(case hd=>rfl);(case hg=>rfl);(case hr=>first | (go_simp;done) | (go_simp;rfl));intro gb1 hg w4 hbox hb;have BK1:=a0_ (hbox);have GW1:=a0_ ((by rw [hg];exact (below_size hb_) : w.heap.size ≤ gb1));have GE1:=a0_ ((by rw [hg];exact (below_size hb_) : w.heap.size ≤ gb1));replace HB:=a0_ (below_step hb_ hb);clear hb hbox hg;have hcz5_0 : w4.cell? ⟨gb1,0,none⟩ = some (.slice A0_0 l0_0.length c0_0):=(blk_cell BK1.out 0).trans rfl;have hfz5_0:=blk_frozen BK1.out 0) | ((with_reducible refine gate_callee (f:=75) rfl ?_);refine goesL_ (some 10) rfl rfl Try.func75 (by kernel_rfl) rfl #[.int .i64 a1,.int .i64 0,.int .i64 (wrap64 ((l0_0.length : Int) - 1))] rfl lm_ ?_;(with_reducible refine (impl_within.calls a1 0 (wrap64 ((l0_0.length : Int) - 1)) t2 _ A3.out).mono ?_);rintro e w' ⟨rfl,⟨nd,rfl⟩⟩;refine ⟨_,rfl,?_⟩))
 go_ret
 exact ⟨by first | rfl | (simp [errW_none,errW_some] <;> rfl) | (simp [*,errW_none,errW_some] <;> rfl),hb_⟩
theorem impl_Tree_has_ev (t : List Cls) (a : Int) (hl : t.length ≤ 9223372036854775807) : impl_Tree_has.f t a = some (hasC t a):=by
 unfold impl_Tree_has.f impl_within.f hasC
 rw [wrap_pred (by omega) (by omega)]
 by_cases h0 : a ≥ 0
 ·rw [if_pos h0]
  have h0' : 0 ≤ a:=h0
  simp only [Option.bind_some,Option.some.injEq,decide_eq_true h0',Bool.true_and]
  by_cases h1 : a < (t.length : Int)
  ·rw [decide_eq_true h1,decide_eq_true (by omega)]
  ·rw [decide_eq_false h1,decide_eq_false (by omega)]
 ·rw [if_neg h0]
  have h0' : ¬ 0 ≤ a:=h0
  simp [decide_eq_false h0']
end Go.Proofs.Ytmiholmfbjalfaa.P
namespace Go.Proofs.Ytmiholmfbjalfaa.P
open Go.RowKit Go.Proofs.YtmiholmfbjalfaaW.PrintWords Go.Proofs.YtmiholmfbjalfaaW.PrintLast Go.Proofs.YtmiholmfbjalfaaW.PrintMore
attribute [local go_sem] max2_int min2_int max_two min_two max_three min_three max_four min_four
set_option linter.unusedVariables false
set_option linter.unusedSimpArgs false
def impl_codeOk.f (a0 : Int) : Option (Bool):=(impl_within.f a0 0 99).bind fun t1=>(some t1)
set_option maxHeartbeats 8000000 in
set_option maxRecDepth 100000 in
theorem impl_codeOk.calls (a0 : Int) (r : Bool) (w : World) (h : impl_codeOk.f a0 = some r) :
  Calls Try.prog 58 #[.int .i64 a0] w fun e w'=>e = .returned (.bool r) ∧ Drawn0 w w':=by
 have H : ((impl_within.f a0 0 99).bind fun t1=>(some t1)) = some r:=h
 clear h
 replace H:=Option.bind_eq_some_iff.mp H
 obtain ⟨t1,A20,H⟩:=H
 replace H : (some t1) = some r:=H
 have A2:=a0_ A20
 clear A20
 obtain rfl:=Option.some.inj H
 go_enter Try.func58,Try.ntmps58
 go_wp2_with (first | ((with_reducible refine gate_callee (f:=75) rfl ?_);refine goesL_ (some 4) rfl rfl Try.func75 (by kernel_rfl) rfl #[.int .i64 a0,.int .i64 0,.int .i64 99] rfl lm_ ?_;(with_reducible refine (impl_within.calls a0 0 99 t1 _ A2.out).mono ?_);rintro e w' ⟨rfl,⟨nd,rfl⟩⟩;refine ⟨_,rfl,?_⟩))
 go_ret
 exact ⟨by first | rfl | (simp;done) | (simp [*];done),by repeat (first | exact Drawn0.refl _ | apply Drawn0.step)⟩
theorem impl_codeOk_ev (a : Int) : impl_codeOk.f a = some (decide (0 ≤ a) && decide (a ≤ 99)):=by
 unfold impl_codeOk.f
 rw [impl_within_ev]
 rfl
end Go.Proofs.Ytmiholmfbjalfaa.P
namespace Go.Proofs.Ytmiholmfbjalfaa.P
open Go.RowKit Go.Proofs.YtmiholmfbjalfaaW.PrintWords Go.Proofs.YtmiholmfbjalfaaW.PrintLast Go.Proofs.YtmiholmfbjalfaaW.PrintMore
attribute [local go_sem] max2_int min2_int max_two min_two max_three min_three max_four min_four
set_option linter.unusedVariables false
set_option linter.unusedSimpArgs false
def impl_nameOk.l0 : Nat → ByteArray → Int → Int → Option (Bool)
 | 0,_,_,_=>none
 | k + 1,x0,x5,x6=>if x6 < x5 then (if 0 ≤ x6 then (if x6 < (x0.size : Int) then (if (bt x0 x6) < 97 then (some false) else (if (bt x0 x6) > 122 then (some false) else (impl_nameOk.l0 k x0 x5 (wrap64 (x6 + 1))))) else (none)) else (none)) else ((impl_within.f (x0.size : Int) 1 6).bind fun t1=>(some t1))
def impl_nameOk.f (k : Nat) (a0 : ByteArray) : Option (Bool):=impl_nameOk.l0 k a0 (a0.size : Int) 0
theorem impl_nameOk.mono_l : ∀ k,(∀ y0 y1 y2,LeO (impl_nameOk.l0 k y0 y1 y2) (impl_nameOk.l0 (k + 1) y0 y1 y2))
 | 0=>fun _ _ _ r h=>by simp [impl_nameOk.l0] at h
 | k + 1=>by
  have ih0:=impl_nameOk.mono_l k
  ·intro y0 y1 y2
   unfold impl_nameOk.l0
   repeat' first
   | (with_reducible exact ih0 _ _ _)
   | (with_reducible exact LeO.refl _)
   | (with_reducible exact LeO.none _)
   | (with_reducible refine LeO.ite ?_ ?_)
   | (with_reducible refine LeO.bind ?_ (fun _=>?_))
   | exact ih0 _ _ _
   | exact LeO.none _
   | refine LeO.ite ?_ ?_
   | refine LeO.bind ?_ (fun _=>?_)
theorem impl_nameOk.mono : ∀ a0 k,LeO (impl_nameOk.f k a0) (impl_nameOk.f (k + 1) a0):=by
 intro a0 k
 have ih0:=impl_nameOk.mono_l k
 unfold impl_nameOk.f
 repeat' first
   | (with_reducible exact ih0 _ _ _)
   | (with_reducible exact LeO.refl _)
   | (with_reducible exact LeO.none _)
   | (with_reducible refine LeO.ite ?_ ?_)
   | (with_reducible refine LeO.bind ?_ (fun _=>?_))
   | exact ih0 _ _ _
   | exact LeO.none _
   | refine LeO.ite ?_ ?_
   | refine LeO.bind ?_ (fun _=>?_)
set_option maxHeartbeats 8000000 in
set_option maxRecDepth 100000 in
theorem impl_nameOk.calls (k : Nat) (a0 : ByteArray) (r : Bool) (w : World) (h : impl_nameOk.f k a0 = some r) :
  Calls Try.prog 77 #[.string a0] w fun e w'=>e = .returned (.bool r) ∧ Drawn0 w w':=by
 have H : (impl_nameOk.l0 k a0 (a0.size : Int) 0) = some r:=h
 clear h
 have H':=a0_ H
 clear H
 go_enter Try.func77,Try.ntmps77
 go_wp2
 go_loopg [6] k (fun kq v6 w'=>∃ (x6_1 : Int),v6 = .int .i64 x6_1 ∧ Aside0 (impl_nameOk.l0 kq a0 (a0.size : Int) x6_1 = some r) ∧ Aside0 (kq ≤ k) ∧ Drawn0 w w')
 case atStart=>exact ⟨(0),(by first | rfl | (simp;done) | (simp [*];done)),H',⟨Nat.le_refl _⟩,by repeat (first | exact Drawn0.refl _ | apply Drawn0.step)⟩
 case round =>
  clear H'
  obtain ⟨x6_1,rfl,HA,HK1,⟨m1,rfl⟩⟩:=hrel
  cases gk with
  | zero=>exact absurd HA.out (by simp [impl_nameOk.l0])
  | succ k1 =>
   have H:=HA.out
   clear HA
   simp only [impl_nameOk.l0] at H
   by_cases c2 : x6_1 < (a0.size : Int)
   ·rw [if_pos c2] at H
    have c2b0 : decide (x6_1 < (a0.size : Int)) = true:=decide_eq_true c2
    clear c2
    by_cases c3 : 0 ≤ x6_1
    ·rw [if_pos c3] at H
     have c3b0 : decide (0 ≤ x6_1) = true:=decide_eq_true c3
     clear c3
     by_cases c4 : x6_1 < (a0.size : Int)
     ·rw [if_pos c4] at H
      have c4b0 : decide (x6_1 < (a0.size : Int)) = true:=decide_eq_true c4
      clear c4
      by_cases c6 : (bt a0 x6_1) < 97
      ·rw [if_pos c6] at H
       have c6b0 : decide ((bt a0 x6_1) < 97) = true:=decide_eq_true c6
       clear c6
       obtain rfl:=Option.some.inj H
       have p5 : 0 ≤ (x6_1 : Int):=of_decide_eq_true (by first | (with_reducible assumption) | assumption)
       have q5 : x6_1 < (a0.size : Int):=of_decide_eq_true (by first | (with_reducible assumption) | assumption)
       have hx5:=bt_at a0 x6_1
       replace p5:=eq_true p5
       replace q5:=eq_true q5
       go_wp2
       go_ret
       exact ⟨by first | rfl | (simp;done) | (simp [*];done),by repeat (first | exact Drawn0.refl _ | apply Drawn0.step)⟩
      ·rw [if_neg c6] at H
       have c6b0 : decide ((bt a0 x6_1) < 97) = false:=decide_eq_false c6
       clear c6
       by_cases c8 : (bt a0 x6_1) > 122
       ·rw [if_pos c8] at H
        have c8b0 : decide (122 < (bt a0 x6_1)) = true:=decide_eq_true c8
        clear c8
        obtain rfl:=Option.some.inj H
        have p5 : 0 ≤ (x6_1 : Int):=of_decide_eq_true (by first | (with_reducible assumption) | assumption)
        have q5 : x6_1 < (a0.size : Int):=of_decide_eq_true (by first | (with_reducible assumption) | assumption)
        have hx5:=bt_at a0 x6_1
        replace p5:=eq_true p5
        replace q5:=eq_true q5
        have p7 : 0 ≤ (x6_1 : Int):=of_decide_eq_true (by first | (with_reducible assumption) | assumption)
        have q7 : x6_1 < (a0.size : Int):=of_decide_eq_true (by first | (with_reducible assumption) | assumption)
        have hx7:=bt_at a0 x6_1
        replace p7:=eq_true p7
        replace q7:=eq_true q7
        go_wp2
        go_ret
        exact ⟨by first | rfl | (simp;done) | (simp [*];done),by repeat (first | exact Drawn0.refl _ | apply Drawn0.step)⟩
       ·rw [if_neg c8] at H
        have c8b0 : decide (122 < (bt a0 x6_1)) = false:=decide_eq_false c8
        clear c8
        have H':=a0_ H
        clear H
        have p5 : 0 ≤ (x6_1 : Int):=of_decide_eq_true (by first | (with_reducible assumption) | assumption)
        have q5 : x6_1 < (a0.size : Int):=of_decide_eq_true (by first | (with_reducible assumption) | assumption)
        have hx5:=bt_at a0 x6_1
        replace p5:=eq_true p5
        replace q5:=eq_true q5
        have p7 : 0 ≤ (x6_1 : Int):=of_decide_eq_true (by first | (with_reducible assumption) | assumption)
        have q7 : x6_1 < (a0.size : Int):=of_decide_eq_true (by first | (with_reducible assumption) | assumption)
        have hx7:=bt_at a0 x6_1
        replace p7:=eq_true p7
        replace q7:=eq_true q7
        go_wp2
        go_roundg k1
        case measure=>have:=HK1.out;omega
        case rel=>exact ⟨(wrap64 (x6_1 + 1)),(by first | rfl | (simp;done) | (simp [*];done)),H',⟨by have:=HK1.out;omega⟩,by repeat (first | exact Drawn0.refl _ | apply Drawn0.step)⟩
     ·rw [if_neg c4] at H
      exact absurd H (by simp)
    ·rw [if_neg c3] at H
     exact absurd H (by simp)
   ·rw [if_neg c2] at H
    have c2b0 : decide (x6_1 < (a0.size : Int)) = false:=decide_eq_false c2
    clear c2
    replace H:=Option.bind_eq_some_iff.mp H
    obtain ⟨t1,A90,H⟩:=H
    replace H : (some t1) = some r:=H
    have A9:=a0_ A90
    clear A90
    obtain rfl:=Option.some.inj H
    go_wp2_with (first | ((with_reducible refine gate_callee (f:=75) rfl ?_);refine goesL_ (some 22) rfl rfl Try.func75 (by kernel_rfl) rfl #[.int .i64 (a0.size : Int),.int .i64 1,.int .i64 6] rfl lm_ ?_;(with_reducible refine (impl_within.calls (a0.size : Int) 1 6 t1 _ A9.out).mono ?_);rintro e w' ⟨rfl,⟨nd,rfl⟩⟩;refine ⟨_,rfl,?_⟩))
    go_ret
    exact ⟨by first | rfl | (simp;done) | (simp [*];done),by repeat (first | exact Drawn0.refl _ | apply Drawn0.step)⟩
theorem impl_nameOk_l0 (s : ByteArray) (hs : s.size ≤ 9223372036854775807) (d : Nat) : ∀ (k : Nat) (i : Nat),i ≤ s.size → s.size - i = d → d < k → impl_nameOk.l0 k s (s.size : Int) (i : Int) = some ((s.data.toList.drop i).all (fun c=>decide (97 ≤ c.toNat) && decide (c.toNat ≤ 122)) && (decide (1 ≤ s.size) && decide (s.size ≤ 6))):=by
 induction d with
 | zero =>
  intro k i hi hd hk
  obtain ⟨k,rfl⟩ : ∃ m,k = m + 1:=⟨k - 1,by omega⟩
  simp only [impl_nameOk.l0]
  rw [if_neg (by omega)]
  have : s.data.toList.drop i = []:=by
   apply List.drop_eq_nil_of_le
   have : s.data.toList.length = s.size:=toL_len s
   omega
  rw [this]
  simp only [impl_within.f,List.all_nil,Bool.true_and]
  by_cases h1 : 1 ≤ s.size
  ·rw [if_pos (show (s.size : Int) ≥ 1 by omega)]
   by_cases h2 : s.size ≤ 6
   ·simp [h1,h2];omega
   ·simp [h2];omega
  ·rw [if_neg (show ¬ (s.size : Int) ≥ 1 by omega)];simp [h1]
 | succ d ih =>
  intro k i hi hd hk
  obtain ⟨k,rfl⟩ : ∃ m,k = m + 1:=⟨k - 1,by omega⟩
  have hlt : i < s.size:=by omega
  have hl : s.data.toList.length = s.size:=toL_len s
  simp only [impl_nameOk.l0]
  rw [if_pos (show (i : Int) < (s.size : Int) by omega),if_pos (show (0 : Int) ≤ (i : Int) by omega),if_pos (show (i : Int) < (s.size : Int) by omega),bt_getElem s i hlt]
  have hd2 : s.data.toList.drop i = s[i] :: s.data.toList.drop (i + 1):=by
   rw [List.drop_eq_getElem_cons (by omega)]
   congr 1
  rw [hd2,List.all_cons]
  by_cases h1 : (s[i].toNat : Int) < 97
  ·rw [if_pos h1];have : ¬ 97 ≤ s[i].toNat:=by omega
   simp [this]
  ·rw [if_neg h1]
   by_cases h2 : (s[i].toNat : Int) > 122
   ·rw [if_pos h2];have : ¬ s[i].toNat ≤ 122:=by omega
    simp [this]
   ·rw [if_neg h2,wrap_succ (n:=s.size) (by omega) (by omega) (by omega)]
    have:=ih k (i + 1) (by omega) (by omega) (by omega)
    rw [show ((i : Int) + 1) = ((i + 1 : Nat) : Int) by omega,this]
    have a : 97 ≤ s[i].toNat:=by omega
    have b : s[i].toNat ≤ 122:=by omega
    simp [a,b]
theorem impl_nameOk_ev (s : ByteArray) (hs : s.size ≤ 9223372036854775807) : impl_nameOk.f (s.size + 1) s = some (okName s):=by
 unfold impl_nameOk.f okName
 have:=impl_nameOk_l0 s hs s.size (s.size + 1) 0 (by omega) (by omega) (by omega)
 simpa using this
end Go.Proofs.Ytmiholmfbjalfaa.P
namespace Go.Proofs.Ytmiholmfbjalfaa.P
open Go.RowKit Go.Proofs.YtmiholmfbjalfaaW.PrintWords Go.Proofs.YtmiholmfbjalfaaW.PrintLast Go.Proofs.YtmiholmfbjalfaaW.PrintMore
attribute [local go_sem] max2_int min2_int max_two min_two max_three min_three max_four min_four
set_option linter.unusedVariables false
set_option linter.unusedSimpArgs false
set_option maxHeartbeats 2000000 in
theorem slices_IndexFunc_Class.callsF (A : Option Addr) (c : Nat) (l : List S87) (g : Nat) (lb : Array Value) (p : S87 → Bool) (w : World) (eg : ∀ args w,(callFunc g args).run Try.prog w = .ok (.enter g args) w)
  (hr : Kd.C k87 w A l.length l) (hc : l.length ≤ c) (hp : ∀ x,x ∈ l → ∀ W,Below w.heap.size w W → Calls Try.prog g (#[.agg #[.string x.f0,.int .i64 x.f1]] ++ lb) W fun e w'=>e = .returned (.bool (p x)) ∧ Below W.heap.size W w') :
  Calls Try.prog 85 #[.slice A l.length c,.func (.func g) #[] lb] w fun e w'=>e = .returned (.int .i64 (idxP p l)) ∧ Below w.heap.size w w':=by
 have HR:=a0_ hr
 have HP:=a0_ hp
 have hmax : l.length ≤ 9223372036854775807:=hr.2.1
 clear hr hp hc
 go_enter Try.func85,Try.ntmps85
 go_wp2
 go_loopg [5,8] l.length (fun gg _ s8 wr=>∃ kk : Nat,kk ≤ l.length ∧ l.length - kk ≤ gg ∧ s8 = .int .i64 kk ∧ Aside0 (Below w.heap.size w wr) ∧ Aside0 (∀ j (hj : j < l.length),j < kk → p l[j] = false))
 case atStart=>exact ⟨0,Nat.zero_le _,by omega,rfl,⟨Below.refl _ w⟩,⟨fun j _ hj=>absurd hj (Nat.not_lt_zero _)⟩⟩
 case round =>
  obtain ⟨kk,hkk,hg,rfl,BW,HA⟩:=hrel
  by_cases hlt : kk < l.length
  ·have hltz : (kk : Int) < (l.length : Int):=by omega
   obtain ⟨ad,ea,hx0,hx1⟩:=at_T87 HR.out (kk : Int) (by omega) (by omega)
   cases ea
   have hrd : rd_T87 l (kk : Int) = l[kk]:=by simp [rd_T87,hlt]
   rw [hrd] at hx0 hx1
   rw [Int.toNat_natCast] at hx0 hx1
   replace hx0:=(BW.out.cell (World.block_lt_of_cell? w _ hx0)).trans hx0
   replace hx1:=(BW.out.cell (World.block_lt_of_cell? w _ hx1)).trans hx1
   have hcall:=HP.out l[kk] (List.getElem_mem hlt) wr BW.out
   clear hrd
   generalize hy : l[kk] = y at hx0 hx1 hcall
   have B:=a0_ hy
   clear hy
   cases hq : p y with
   | true =>
    rw [hq] at hcall
    go_wp2_with (go_at_fn g;refine hcall.mono ?_;rintro e w' ⟨rfl,hb'⟩)
    go_ret
    refine ⟨?_,below_step BW.out hb'⟩
    rw [idxP_hit p l kk hlt (by rw [B.out];exact hq) HA.out];rfl
   | false =>
    rw [hq] at hcall
    go_wp2_with (go_at_fn g;refine hcall.mono ?_;rintro e w' ⟨rfl,hb'⟩)
    go_roundg (l.length - (kk + 1))
    case measure=>omega
    case rel =>
     refine ⟨kk + 1,by omega,by omega,by go_num,⟨below_step BW.out hb'⟩,⟨fun j hj hjk=>?_⟩⟩
     by_cases e : j = kk
     ·subst e
      rw [B.out];exact hq
     ·exact HA.out j hj (by omega)
  ·have hltz : ¬ (kk : Int) < (l.length : Int):=by omega
   have : kk = l.length:=by omega
   subst this
   go_wp2
   go_ret
   refine ⟨?_,BW.out⟩
   rw [idxP_miss p l (fun j hj=>HA.out j hj hj)];rfl
end Go.Proofs.Ytmiholmfbjalfaa.P
namespace Go.Proofs.Ytmiholmfbjalfaa.P
open Go.RowKit Go.Proofs.YtmiholmfbjalfaaW.PrintWords Go.Proofs.YtmiholmfbjalfaaW.PrintLast Go.Proofs.YtmiholmfbjalfaaW.PrintMore
attribute [local go_sem] max2_int min2_int max_two min_two max_three min_three max_four min_four
set_option linter.unusedVariables false
set_option linter.unusedSimpArgs false
theorem impl_Tree_named_1.callsF (B : Nat) (nm : ByteArray) (x : S87) (w : World) (hB : w.heap[B]? = some (.cells #[.string nm] 9 (0,0))) :
  Calls Try.prog 86 #[.agg #[.string x.f0,.int .i64 x.f1],.pointer (some ⟨B,0,none⟩)] w fun e w'=>e = .returned (.bool (x.f0.toList == nm.toList)) ∧ Below w.heap.size w w':=by
 have hc : w.cell? ⟨B,0,none⟩ = some (.string nm):=(blk_cell hB 0).trans rfl
 have hlt : B < w.heap.size:=(Array.getElem?_eq_some_iff.1 hB).1
 have hne : B ≠ w.heap.size:=by omega
 clear hB
 go_enter Try.func86,Try.ntmps86
 go_wp2
 all_goals (go_ret;exact ⟨by simp_all,(Below.refl _ w).alloc (Nat.le_refl _) _⟩)
end Go.Proofs.Ytmiholmfbjalfaa.P
namespace Go.Proofs.Ytmiholmfbjalfaa.P
open Go.RowKit Go.Proofs.YtmiholmfbjalfaaW.PrintWords Go.Proofs.YtmiholmfbjalfaaW.PrintLast Go.Proofs.YtmiholmfbjalfaaW.PrintMore
attribute [local go_sem] max2_int min2_int max_two min_two max_three min_three max_four min_four
set_option linter.unusedVariables false
set_option linter.unusedSimpArgs false
def impl_Tree_named.f (l0_0 : List (S87)) (a1 : ByteArray) : Option Int:=some (idxP (fun x : S87=>x.f0.toList == a1.toList) l0_0)
set_option maxHeartbeats 2000000 in
theorem impl_Tree_named.calls (A0_0 : Option Addr) (c0_0 : Nat) (l0_0 : List (S87)) (a1 : ByteArray) (r : Int) (w : World) (hr0_0 : Kd.C k87 w A0_0 l0_0.length l0_0) (hc0_0 : l0_0.length ≤ c0_0) (h : impl_Tree_named.f l0_0 a1 = some r) :
  Calls Try.prog 78 #[.agg #[.slice A0_0 l0_0.length c0_0],.string a1] w fun e w'=>e = .returned (.int .i64 r) ∧ Below w.heap.size w w':=by
 obtain rfl:=Option.some.inj h
 clear h
 have hu31:=Try.underlying25
 have eg : ∀ args w,(callFunc 86 args).run Try.prog w = .ok (.enter 86 args) w:=enters_of Try.func86 (by kernel_rfl) rfl
 have hcon:=fun (W : World) (hb : Below w.heap.size w W) (hB : W.heap[w.heap.size + 1]? = some (.cells #[.string a1] 9 (0,0)))=>slices_IndexFunc_Class.callsF A0_0 c0_0 l0_0 86 #[.pointer (some ⟨w.heap.size + 1,0,none⟩)] (fun x=>x.f0.toList == a1.toList) W eg (Kd.C_below hr0_0 hb) hc0_0 (fun x _ W' hW=>by
  have:=impl_Tree_named_1.callsF (w.heap.size + 1) a1 x W' (blk_keptB hB hW)
  simpa using this)
 clear hr0_0 hc0_0
 generalize idxP (fun x : S87=>x.f0.toList == a1.toList) l0_0 = r at hcon ⊢
 have HC:=a0_ hcon
 clear hcon
 go_enter Try.func78,Try.ntmps78
 go_wp2_with (go_at_call 85;refine (HC.out _ ?hb ?hB).mono ?_;(case hb=>exact below2 w _ _);(case hB=>exact heap_new2 w _ _);rintro e w' ⟨rfl,hb'⟩)
 go_ret
 exact ⟨rfl,(below2 w _ _).trans (hb'.mono (by simp;omega))⟩
end Go.Proofs.Ytmiholmfbjalfaa.P
namespace Go.Proofs.Ytmiholmfbjalfaa.P
open Go.RowKit Go.Proofs.YtmiholmfbjalfaaW.PrintWords Go.Proofs.YtmiholmfbjalfaaW.PrintLast Go.Proofs.YtmiholmfbjalfaaW.PrintMore
attribute [local go_sem] max2_int min2_int max_two min_two max_three min_three max_four min_four
set_option linter.unusedVariables false
set_option linter.unusedSimpArgs false
def impl_ValidTree.f (l0_0 : List (S87)) : Option Bool:=if smT l0_0 = true then some (vT l0_0) else none
set_option maxHeartbeats 4000000 in
set_option maxRecDepth 100000 in
theorem impl_ValidTree.calls (A0_0 : Option Addr) (c0_0 : Nat) (l0_0 : List (S87)) (r : Bool) (w : World) (hr0_0 : Kd.C k87 w A0_0 l0_0.length l0_0) (hc0_0 : l0_0.length ≤ c0_0) (h : impl_ValidTree.f l0_0 = some r) :
  Calls Try.prog 59 #[.agg #[.slice A0_0 l0_0.length c0_0]] w fun e w'=>e = .returned (.bool r) ∧ Below w.heap.size w w':=by
 have hu31:=Try.underlying25
 have hsm : smT l0_0 = true:=by
  apply Classical.byContradiction
  intro hn
  rw [impl_ValidTree.f,if_neg hn] at h
  cases h
 rw [impl_ValidTree.f,if_pos hsm] at h
 have HRr:=a0_ (Option.some.inj h)
 have HSM:=a0_ hsm
 have HR:=a0_ hr0_0
 have hmax : l0_0.length ≤ 9223372036854775807:=hr0_0.2.1
 clear h hsm hr0_0
 go_enter Try.func59,Try.ntmps59
 go_wp2
 go_loopg [8] l0_0.length (fun gg s8 wr=>∃ kk : Nat,kk ≤ l0_0.length ∧ l0_0.length - kk ≤ gg ∧ s8 = .int .i64 kk ∧ Aside0 (Below w.heap.size w wr) ∧ Aside0 (wr.heap[w.heap.size]? = some (.cells #[.slice A0_0 l0_0.length c0_0] 25 (0,0))) ∧ Aside0 (∀ j,j < kk → okCls l0_0 j (l0_0.getD j z87) = true))
 case atStart=>exact ⟨0,Nat.zero_le _,by omega,rfl,⟨below1 w _⟩,⟨heap_new1 w _⟩,⟨fun j hj=>absurd hj (Nat.not_lt_zero _)⟩⟩
 case round =>
  obtain ⟨kk,hkk,hg,rfl,BW,BK,HA⟩:=hrel
  have hcz : wr.cell? ⟨w.heap.size,0,none⟩ = some (.slice A0_0 l0_0.length c0_0):=(blk_cell BK.out 0).trans rfl
  by_cases hlt : kk < l0_0.length
  ·have hltz : (kk : Int) < (l0_0.length : Int):=by omega
   obtain ⟨ad,ea,hx0,hx1⟩:=at_T87 HR.out (kk : Int) (by omega) (by omega)
   cases ea
   have hrd : rd_T87 l0_0 (kk : Int) = l0_0[kk]:=by simp [rd_T87,hlt]
   rw [hrd] at hx0 hx1
   rw [Int.toNat_natCast] at hx0 hx1
   replace hx0:=(BW.out.cell (World.block_lt_of_cell? w _ hx0)).trans hx0
   replace hx1:=(BW.out.cell (World.block_lt_of_cell? w _ hx1)).trans hx1
   clear hrd
   generalize hy : l0_0[kk] = y at hx0 hx1
   have B:=a0_ hy
   clear hy
   go_upto_region 4 with (fail)
   have hW1:=a0_ (below_alloc BW.out (.cells #[.string y.f0,.int .i64 y.f1] 87))
   have hW2:=a0_ (blk_alloc BK.out (.cells #[.string y.f0,.int .i64 y.f1] 87))
   have hW3:=(blk_cell hW2.out 0).trans rfl
   have hW4:=(blk_cell (heap_new1 wr (.cells #[.string y.f0,.int .i64 y.f1] 87)) 0).trans rfl
   have hW5:=(blk_cell (heap_new1 wr (.cells #[.string y.f0,.int .i64 y.f1] 87)) 1).trans rfl
   clear hcz hx0 hx1 BW BK
   generalize wr.alloc (.cells #[.string y.f0,.int .i64 y.f1] 87) = W1 at hW1 hW2 hW3 hW4 hW5 ⊢
   generalize wr.heap.size = gb at hW4 hW5 ⊢
   have hy1 : y.f0.size ≤ 9223372036854775806:=by rw [← B.out];exact smT_at HSM.out kk hlt
   have A1:=a0_ (impl_nameOk_ev y.f0 (by omega))
   have hcn0:=fun (W : World) (hW : Below w.heap.size w W)=>impl_Tree_named.calls (some ad) c0_0 l0_0 y.f0 (named l0_0 y.f0) W (Kd.C_below HR.out hW) hc0_0 rfl
   have hok : okCls l0_0 kk (l0_0.getD kk z87) = okCls l0_0 kk y:=by
    rw [← B.out];simp [List.getD,hlt]
   have hdef : okCls l0_0 kk y = (okName y.f0 && (decide (named l0_0 y.f0 = (kk : Int)) && (if kk = 0 then decide (y.f1 = -1) else decide (0 ≤ y.f1) && decide (y.f1 ≤ (kk : Int) - 1)))):=rfl
   generalize named l0_0 y.f0 = nn at hcn0 hdef
   have HCN:=a0_ hcn0
   have HOK:=a0_ hok
   have HDF:=a0_ hdef
   clear hcn0 hok hdef hy1
   go_cut [45] (fun v45 wc=>v45 = .bool (!okCls l0_0 kk y) ∧ Aside0 (Below w.heap.size w wc) ∧ Aside0 (wc.heap[w.heap.size]? = some (.cells #[.slice (some ad) l0_0.length c0_0] 25 (0,0))))
   case first =>
    have hw1 : IntKind.i64.wrap ((kk : Int) - 1) = (kk : Int) - 1:=by rw [IntKind.wrap_i64];omega
    have A2:=a0_ (show impl_within.f y.f1 0 ((kk : Int) - 1) = some (decide (0 ≤ y.f1) && decide (y.f1 ≤ (kk : Int) - 1)) by
     unfold impl_within.f
     by_cases h0 : 0 ≤ y.f1
     ·rw [if_pos h0];simp [h0]
     ·rw [if_neg h0];simp [h0])
    cases hb1 : okName y.f0 with
    | false =>
     rw [hb1] at A1
     have BV : okCls l0_0 kk y = false:=by rw [HDF.out,hb1];rfl
     clear HDF HOK
     go_wp2_with (first
     | (go_at_call 77;(with_reducible refine (impl_nameOk.calls _ y.f0 _ _ A1.out).mono ?_);rintro e w' ⟨rfl,hd⟩;have hb:=drawn_below hd;replace hW3:=pw_cell_below hb hW3;replace hW4:=pw_cell_below hb hW4;replace hW5:=pw_cell_below hb hW5;replace hW1:=a0_ (below_step hW1.out hb);replace hW2:=a0_ (blk_keptB hW2.out hb);clear hb hd)
     | (go_at_call 78;(with_reducible refine (HCN.out _ hW1.out).mono ?_);rintro e w' ⟨rfl,hb⟩;replace hW3:=pw_cell_below hb hW3;replace hW4:=pw_cell_below hb hW4;replace hW5:=pw_cell_below hb hW5;replace hW1:=a0_ (below_step hW1.out hb);replace hW2:=a0_ (blk_keptB hW2.out hb);clear hb)
     | (go_at_call 75;(with_reducible refine (impl_within.calls y.f1 0 ((kk : Int) - 1) _ _ A2.out).mono ?_);rintro e w' ⟨rfl,hd⟩;have hb:=drawn_below hd;replace hW3:=pw_cell_below hb hW3;replace hW4:=pw_cell_below hb hW4;replace hW5:=pw_cell_below hb hW5;replace hW1:=a0_ (below_step hW1.out hb);replace hW2:=a0_ (blk_keptB hW2.out hb);clear hb hd))
     go_meet
     case rel=>exact ⟨by (rw [BV]);first | rfl | (simp [*];done),⟨hW1.out⟩,⟨hW2.out⟩⟩
    | true =>
     rw [hb1] at A1
     by_cases hb2 : nn ≠ (kk : Int)
     ·have BV : okCls l0_0 kk y = false:=by rw [HDF.out,hb1,decide_eq_false hb2];rfl
      have d2 : (nn != (kk : Int)) = true:=bne_iff_ne.2 hb2
      have d2' : (nn == (kk : Int)) = false:=beq_eq_false_iff_ne.2 hb2
      clear HDF HOK hb2
      go_wp2_with (first
     | (go_at_call 77;(with_reducible refine (impl_nameOk.calls _ y.f0 _ _ A1.out).mono ?_);rintro e w' ⟨rfl,hd⟩;have hb:=drawn_below hd;replace hW3:=pw_cell_below hb hW3;replace hW4:=pw_cell_below hb hW4;replace hW5:=pw_cell_below hb hW5;replace hW1:=a0_ (below_step hW1.out hb);replace hW2:=a0_ (blk_keptB hW2.out hb);clear hb hd)
     | (go_at_call 78;(with_reducible refine (HCN.out _ hW1.out).mono ?_);rintro e w' ⟨rfl,hb⟩;replace hW3:=pw_cell_below hb hW3;replace hW4:=pw_cell_below hb hW4;replace hW5:=pw_cell_below hb hW5;replace hW1:=a0_ (below_step hW1.out hb);replace hW2:=a0_ (blk_keptB hW2.out hb);clear hb)
     | (go_at_call 75;(with_reducible refine (impl_within.calls y.f1 0 ((kk : Int) - 1) _ _ A2.out).mono ?_);rintro e w' ⟨rfl,hd⟩;have hb:=drawn_below hd;replace hW3:=pw_cell_below hb hW3;replace hW4:=pw_cell_below hb hW4;replace hW5:=pw_cell_below hb hW5;replace hW1:=a0_ (below_step hW1.out hb);replace hW2:=a0_ (blk_keptB hW2.out hb);clear hb hd))
      go_meet
      case rel=>exact ⟨by (rw [BV]);first | rfl | (simp [*];done),⟨hW1.out⟩,⟨hW2.out⟩⟩
     ·have hnm : nn = (kk : Int):=Classical.byContradiction fun hn=>hb2 hn
      have d2 : (nn != (kk : Int)) = false:=bne_eq_false_iff_eq.2 hnm
      have d2' : (nn == (kk : Int)) = true:=beq_iff_eq.2 hnm
      have BV0 : okCls l0_0 kk y = (if kk = 0 then decide (y.f1 = -1) else decide (0 ≤ y.f1) && decide (y.f1 ≤ (kk : Int) - 1)):=by rw [HDF.out,hb1,decide_eq_true hnm];rfl
      clear HDF HOK hb2 hnm
      by_cases hk0 : kk = 0
      ·have BV : okCls l0_0 kk y = decide (y.f1 = -1):=by rw [BV0,if_pos hk0]
       have e0 : ((kk : Int) == 0) = true:=beq_iff_eq.2 (by omega)
       have e1 : decide (0 < (kk : Int)) = false:=decide_eq_false (by omega)
       have e1n : decide (0 < kk) = false:=decide_eq_false (by omega)
       clear BV0
       by_cases hp : y.f1 = -1
       ·have e2 : (y.f1 != -1) = false:=by rw [hp];rfl
        have e3 : (y.f1 == -1) = true:=by rw [hp];rfl
        rw [decide_eq_true hp] at BV
        clear hp hk0
        go_wp2_with (first
     | (go_at_call 77;(with_reducible refine (impl_nameOk.calls _ y.f0 _ _ A1.out).mono ?_);rintro e w' ⟨rfl,hd⟩;have hb:=drawn_below hd;replace hW3:=pw_cell_below hb hW3;replace hW4:=pw_cell_below hb hW4;replace hW5:=pw_cell_below hb hW5;replace hW1:=a0_ (below_step hW1.out hb);replace hW2:=a0_ (blk_keptB hW2.out hb);clear hb hd)
     | (go_at_call 78;(with_reducible refine (HCN.out _ hW1.out).mono ?_);rintro e w' ⟨rfl,hb⟩;replace hW3:=pw_cell_below hb hW3;replace hW4:=pw_cell_below hb hW4;replace hW5:=pw_cell_below hb hW5;replace hW1:=a0_ (below_step hW1.out hb);replace hW2:=a0_ (blk_keptB hW2.out hb);clear hb)
     | (go_at_call 75;(with_reducible refine (impl_within.calls y.f1 0 ((kk : Int) - 1) _ _ A2.out).mono ?_);rintro e w' ⟨rfl,hd⟩;have hb:=drawn_below hd;replace hW3:=pw_cell_below hb hW3;replace hW4:=pw_cell_below hb hW4;replace hW5:=pw_cell_below hb hW5;replace hW1:=a0_ (below_step hW1.out hb);replace hW2:=a0_ (blk_keptB hW2.out hb);clear hb hd))
        go_meet
        case rel=>exact ⟨by (rw [BV]);first | rfl | (simp [*];done),⟨hW1.out⟩,⟨hW2.out⟩⟩
       ·have e2 : (y.f1 != -1) = true:=bne_iff_ne.2 hp
        have e3 : (y.f1 == -1) = false:=beq_eq_false_iff_ne.2 hp
        rw [decide_eq_false hp] at BV
        clear hp hk0
        go_wp2_with (first
     | (go_at_call 77;(with_reducible refine (impl_nameOk.calls _ y.f0 _ _ A1.out).mono ?_);rintro e w' ⟨rfl,hd⟩;have hb:=drawn_below hd;replace hW3:=pw_cell_below hb hW3;replace hW4:=pw_cell_below hb hW4;replace hW5:=pw_cell_below hb hW5;replace hW1:=a0_ (below_step hW1.out hb);replace hW2:=a0_ (blk_keptB hW2.out hb);clear hb hd)
     | (go_at_call 78;(with_reducible refine (HCN.out _ hW1.out).mono ?_);rintro e w' ⟨rfl,hb⟩;replace hW3:=pw_cell_below hb hW3;replace hW4:=pw_cell_below hb hW4;replace hW5:=pw_cell_below hb hW5;replace hW1:=a0_ (below_step hW1.out hb);replace hW2:=a0_ (blk_keptB hW2.out hb);clear hb)
     | (go_at_call 75;(with_reducible refine (impl_within.calls y.f1 0 ((kk : Int) - 1) _ _ A2.out).mono ?_);rintro e w' ⟨rfl,hd⟩;have hb:=drawn_below hd;replace hW3:=pw_cell_below hb hW3;replace hW4:=pw_cell_below hb hW4;replace hW5:=pw_cell_below hb hW5;replace hW1:=a0_ (below_step hW1.out hb);replace hW2:=a0_ (blk_keptB hW2.out hb);clear hb hd))
        go_meet
        case rel=>exact ⟨by (rw [BV]);first | rfl | (simp [*];done),⟨hW1.out⟩,⟨hW2.out⟩⟩
      ·have BV : okCls l0_0 kk y = (decide (0 ≤ y.f1) && decide (y.f1 ≤ (kk : Int) - 1)):=by rw [BV0,if_neg hk0]
       have e0 : ((kk : Int) == 0) = false:=beq_eq_false_iff_ne.2 (by omega)
       have e1 : decide (0 < (kk : Int)) = true:=decide_eq_true (by omega)
       have e1n : decide (0 < kk) = true:=decide_eq_true (by omega)
       rw [← BV] at A2
       clear BV BV0 hk0
       cases BV : okCls l0_0 kk y with
       | false =>
        rw [BV] at A2
        go_wp2_with (first
     | (go_at_call 77;(with_reducible refine (impl_nameOk.calls _ y.f0 _ _ A1.out).mono ?_);rintro e w' ⟨rfl,hd⟩;have hb:=drawn_below hd;replace hW3:=pw_cell_below hb hW3;replace hW4:=pw_cell_below hb hW4;replace hW5:=pw_cell_below hb hW5;replace hW1:=a0_ (below_step hW1.out hb);replace hW2:=a0_ (blk_keptB hW2.out hb);clear hb hd)
     | (go_at_call 78;(with_reducible refine (HCN.out _ hW1.out).mono ?_);rintro e w' ⟨rfl,hb⟩;replace hW3:=pw_cell_below hb hW3;replace hW4:=pw_cell_below hb hW4;replace hW5:=pw_cell_below hb hW5;replace hW1:=a0_ (below_step hW1.out hb);replace hW2:=a0_ (blk_keptB hW2.out hb);clear hb)
     | (go_at_call 75;(with_reducible refine (impl_within.calls y.f1 0 ((kk : Int) - 1) _ _ A2.out).mono ?_);rintro e w' ⟨rfl,hd⟩;have hb:=drawn_below hd;replace hW3:=pw_cell_below hb hW3;replace hW4:=pw_cell_below hb hW4;replace hW5:=pw_cell_below hb hW5;replace hW1:=a0_ (below_step hW1.out hb);replace hW2:=a0_ (blk_keptB hW2.out hb);clear hb hd))
        go_meet
        case rel=>exact ⟨by (rw [BV]);first | rfl | (simp [*];done),⟨hW1.out⟩,⟨hW2.out⟩⟩
       | true =>
        rw [BV] at A2
        go_wp2_with (first
     | (go_at_call 77;(with_reducible refine (impl_nameOk.calls _ y.f0 _ _ A1.out).mono ?_);rintro e w' ⟨rfl,hd⟩;have hb:=drawn_below hd;replace hW3:=pw_cell_below hb hW3;replace hW4:=pw_cell_below hb hW4;replace hW5:=pw_cell_below hb hW5;replace hW1:=a0_ (below_step hW1.out hb);replace hW2:=a0_ (blk_keptB hW2.out hb);clear hb hd)
     | (go_at_call 78;(with_reducible refine (HCN.out _ hW1.out).mono ?_);rintro e w' ⟨rfl,hb⟩;replace hW3:=pw_cell_below hb hW3;replace hW4:=pw_cell_below hb hW4;replace hW5:=pw_cell_below hb hW5;replace hW1:=a0_ (below_step hW1.out hb);replace hW2:=a0_ (blk_keptB hW2.out hb);clear hb)
     | (go_at_call 75;(with_reducible refine (impl_within.calls y.f1 0 ((kk : Int) - 1) _ _ A2.out).mono ?_);rintro e w' ⟨rfl,hd⟩;have hb:=drawn_below hd;replace hW3:=pw_cell_below hb hW3;replace hW4:=pw_cell_below hb hW4;replace hW5:=pw_cell_below hb hW5;replace hW1:=a0_ (below_step hW1.out hb);replace hW2:=a0_ (blk_keptB hW2.out hb);clear hb hd))
        go_meet
        case rel=>exact ⟨by (rw [BV]);first | rfl | (simp [*];done),⟨hW1.out⟩,⟨hW2.out⟩⟩
   case rest =>
    obtain ⟨rfl,hW,hK⟩:=hcut
    have hb:=HOK.out
    cases BV : okCls l0_0 kk y with
    | false =>
     go_wp2
     go_ret
     refine ⟨?_,hW.out⟩
     rw [← HRr.out]
     have : vT l0_0 = false:=by
      cases hv : vT l0_0 with
      | false=>rfl
      | true=>have:=vT_at hv kk hlt;rw [HOK.out,BV] at this;cases this
     rw [this];rfl
    | true =>
     go_wp2
     go_roundg (l0_0.length - (kk + 1))
     case measure=>omega
     case rel =>
      refine ⟨kk + 1,by omega,by omega,by go_num,⟨hW.out⟩,⟨hK.out⟩,⟨fun j hj=>?_⟩⟩
      by_cases e : j = kk
      ·subst e;rw [HOK.out,BV]
      ·exact HA.out j (by omega)
  ·have hltz : ¬ (kk : Int) < (l0_0.length : Int):=by omega
   have : kk = l0_0.length:=by omega
   subst this
   have A3:=a0_ (show impl_within.f (l0_0.length : Int) 1 8 = some (vT l0_0) by
    have hall : (List.range l0_0.length).all (fun i=>okCls l0_0 i (l0_0.getD i z87)) = true:=by
     rw [List.all_eq_true];intro i hi;exact HA.out i (by simpa using hi)
    unfold impl_within.f vT
    rw [hall]
    by_cases h1 : (1 : Int) ≤ l0_0.length
    ·rw [if_pos h1]
     have h1' : 1 ≤ l0_0.length:=by omega
     by_cases h8 : l0_0.length ≤ 8
     ·simp [h1',h8];omega
     ·simp [h8];omega
    ·rw [if_neg h1]
     have h1' : ¬ 1 ≤ l0_0.length:=by omega
     simp [h1'])
   rw [HRr.out] at A3
   go_wp2_with (go_at_call 75;(with_reducible refine (impl_within.calls (l0_0.length : Int) 1 8 _ _ A3.out).mono ?_);rintro e w' ⟨rfl,⟨nd,rfl⟩⟩)
   go_ret
   exact ⟨rfl,pw_below_drewN BW.out _⟩
end Go.Proofs.Ytmiholmfbjalfaa.P
namespace Go.Proofs.Ytmiholmfbjalfaa.P
open Go.RowKit Go.Proofs.YtmiholmfbjalfaaW.PrintWords Go.Proofs.YtmiholmfbjalfaaW.PrintLast Go.Proofs.YtmiholmfbjalfaaW.PrintMore
attribute [local go_sem] max2_int min2_int max_two min_two max_three min_three max_four min_four
set_option linter.unusedVariables false
set_option linter.unusedSimpArgs false
def impl_ValidHeap.f (l0_0 : List Cls) (l1_0 : List Fau) : Option Bool:=if smT l0_0 = true ∧ l1_0.length ≤ 2097152 then some (vH l0_0 l1_0) else none
set_option maxHeartbeats 4000000 in
set_option maxRecDepth 100000 in
theorem impl_ValidHeap.calls (A0_0 : Option Addr) (c0_0 : Nat) (l0_0 : List (S87)) (A1_0 : Option Addr) (c1_0 : Nat) (l1_0 : List (S43)) (r : Bool) (w : World) (hr0_0 : Kd.C k87 w A0_0 l0_0.length l0_0) (hc0_0 : l0_0.length ≤ c0_0) (hr1_0 : Kd.C k43 w A1_0 l1_0.length l1_0) (hc1_0 : l1_0.length ≤ c1_0) (h : impl_ValidHeap.f l0_0 l1_0 = some r) :
  Calls Try.prog 30 #[.agg #[.slice A0_0 l0_0.length c0_0],.agg #[.slice A1_0 l1_0.length c1_0]] w fun e w'=>e = .returned (.bool r) ∧ Below w.heap.size w w':=by
 have hu31:=Try.underlying25
 have hu37:=Try.underlying28
 have hu79:=Try.underlying43
 have hsm : smT l0_0 = true ∧ l1_0.length ≤ 2097152:=by
  apply Classical.byContradiction
  intro hn
  rw [impl_ValidHeap.f,if_neg hn] at h
  cases h
 rw [impl_ValidHeap.f,if_pos hsm] at h
 have HR:=a0_ (Option.some.inj h)
 have hlm:=hsm.2
 have HV:=a0_ (fun (W : World) (hb : Below w.heap.size w W)=>impl_ValidTree.calls A0_0 c0_0 l0_0 (vT l0_0) W (Kd.C_below hr0_0 hb) hc0_0 (by rw [impl_ValidTree.f,if_pos hsm.1]))
 have HH:=a0_ (fun (a : Int) (W : World) (hb : Below w.heap.size w W)=>impl_Tree_has.calls A0_0 c0_0 l0_0 a (hasC l0_0 a) W (Kd.C_below hr0_0 hb) hc0_0 (impl_Tree_has_ev l0_0 a hr0_0.2.1))
 have HL:=a0_ (fun (f u : Int) (W : World) (hb : Below w.heap.size w W) (hB : W.heap[w.heap.size + 1]? = some (.cells #[.slice A1_0 l1_0.length c1_0] 28 (0,0)))=>impl_ValidHeap_1.callsF (w.heap.size + 1) A1_0 c1_0 l1_0 f u W hc1_0 hB (Kd.C_below hr1_0 hb))
 have HX:=a0_ (fun (hf : fsH l0_0 l1_0 = true) (f : Int) (h1 : f < (l1_0.length : Int)) (W : World) (hb : Below w.heap.size w W)=>impl_Heap_contexts.callsF A1_0 c1_0 l1_0 f W h1 hsm.2 (fun x h0 h1=>(fsH_ctx hf x h0 h1).2) (Kd.C_below hr1_0 hb))
 have eg : ∀ args w,(callFunc 56 args).run Try.prog w = .ok (.enter 56 args) w:=enters_of Try.func56 (by kernel_rfl) rfl
 have HRD:=a0_ hr1_0
 have HC1:=a0_ hc1_0
 clear h hsm hr0_0 hr1_0
 have BK1:=a0_ (heap_old2 w (.cells #[.slice A0_0 l0_0.length c0_0] 25) (.cells #[.slice A1_0 l1_0.length c1_0] 28))
 have BK2:=a0_ (heap_new2 w (.cells #[.slice A0_0 l0_0.length c0_0] 25) (.cells #[.slice A1_0 l1_0.length c1_0] 28))
 have HB:=a0_ (below2 w (.cells #[.slice A0_0 l0_0.length c0_0] 25) (.cells #[.slice A1_0 l1_0.length c1_0] 28))
 have hcell:=(blk_cell BK1.out 0).trans rfl
 have hcell2:=(blk_cell BK2.out 0).trans rfl
 go_enter Try.func30,Try.ntmps30
 go_wp2
 clear hcell hcell2
 go_loopg [14] l1_0.length (fun gg s14 wr=>∃ kk : Nat,kk ≤ l1_0.length ∧ l1_0.length - kk ≤ gg ∧ s14 = .int .i64 kk ∧ Aside0 (Below w.heap.size w wr) ∧ Aside0 (wr.heap[w.heap.size]? = some (.cells #[.slice A0_0 l0_0.length c0_0] 25 (0,0))) ∧ Aside0 (wr.heap[w.heap.size + 1]? = some (.cells #[.slice A1_0 l1_0.length c1_0] 28 (0,0))) ∧ Aside0 (∀ j,j < kk → okF l0_0 l1_0 j (l1_0.getD j z43) = true))
 case atStart=>exact ⟨0,Nat.zero_le _,by omega,rfl,HB,BK1,BK2,⟨fun j hj=>absurd hj (Nat.not_lt_zero _)⟩⟩
 case round =>
  clear HB BK1 BK2
  obtain ⟨kk,hkk,hg,rfl,HB,BK1,BK2,HA⟩:=hrel
  by_cases hlt : kk < l1_0.length
  ·have hltz : (kk : Int) < (l1_0.length : Int):=by omega
   obtain ⟨ad,ea,hx0,hx1,hx2,hx3,hx4⟩:=at_T43 HRD.out (kk : Int) (by omega) (by omega)
   cases ea
   have hrd : rd_T43 l1_0 (kk : Int) = l1_0.getD kk z43:=by simp [rd_T43]
   rw [hrd] at hx0 hx1 hx2 hx3 hx4
   rw [Int.toNat_natCast] at hx0 hx1 hx2 hx3 hx4
   replace hx0:=(HB.out.cell (World.block_lt_of_cell? w _ hx0)).trans hx0
   replace hx1:=(HB.out.cell (World.block_lt_of_cell? w _ hx1)).trans hx1
   replace hx2:=(HB.out.cell (World.block_lt_of_cell? w _ hx2)).trans hx2
   replace hx3:=(HB.out.cell (World.block_lt_of_cell? w _ hx3)).trans hx3
   replace hx4:=(HB.out.cell (World.block_lt_of_cell? w _ hx4)).trans hx4
   clear hrd
   have hdf : okF l0_0 l1_0 kk (l1_0.getD kk z43) = (hasC l0_0 (l1_0.getD kk z43).f0 && ((decide (0 ≤ (l1_0.getD kk z43).f1) && decide ((l1_0.getD kk z43).f1 ≤ 99)) && (lnkB l1_0 (kk : Int) (l1_0.getD kk z43).f2 && lnkB l1_0 (kk : Int) (l1_0.getD kk z43).f3))):=rfl
   have hrf : ∀ b,okF l0_0 l1_0 kk (l1_0.getD kk z43) = b → b = false → vH l0_0 l1_0 = false:=fun b e1 e2=>by unfold vH fsH;rw [all_false hlt (e1.trans e2)];rfl
   generalize hy : l1_0.getD kk z43 = y at hx0 hx1 hx2 hx3 hx4 hdf hrf
   have NB:=a0_ hy
   clear hy
   obtain ⟨y0,y1,y2,y3,y4⟩:=y
   go_upto_region 5 with (fail)
   have HB1:=a0_ (below_alloc HB.out (.cells #[.int .i64 y0,.int .i64 y1,.int .i64 y2,.int .i64 y3,.bool y4] 43))
   have BKA:=a0_ (blk_alloc BK1.out (.cells #[.int .i64 y0,.int .i64 y1,.int .i64 y2,.int .i64 y3,.bool y4] 43))
   have BKB:=a0_ (blk_alloc BK2.out (.cells #[.int .i64 y0,.int .i64 y1,.int .i64 y2,.int .i64 y3,.bool y4] 43))
   have BY:=a0_ (heap_new1 wr (.cells #[.int .i64 y0,.int .i64 y1,.int .i64 y2,.int .i64 y3,.bool y4] 43))
   clear HB BK1 BK2 hx0 hx1 hx2 hx3 hx4
   generalize wr.alloc (.cells #[.int .i64 y0,.int .i64 y1,.int .i64 y2,.int .i64 y3,.bool y4] 43) = W1 at HB1 BKA BKB BY ⊢
   generalize wr.heap.size = gb at BY ⊢
   have HB:=HB1
   have BK1:=BKA
   have BK2:=BKB
   clear HB1 BKA BKB
   have hcell:=(blk_cell BK1.out 0).trans rfl
   have hx0:=(blk_cell BY.out 0).trans rfl
   have hx1:=(blk_cell BY.out 1).trans rfl
   have hx2:=(blk_cell BY.out 2).trans rfl
   have hx3:=(blk_cell BY.out 3).trans rfl
   replace HH:=a0_ (fun (_ : Unit)=>HH.out y0)
   have HC:=a0_ (impl_codeOk_ev y1)
   have HL2:=a0_ (HL.out (kk : Int) y2)
   have HL3:=a0_ (HL.out (kk : Int) y3)
   simp only at hdf
   generalize hasC l0_0 y0 = q1 at HH hdf
   generalize (decide (0 ≤ y1) && decide (y1 ≤ 99)) = q2 at HC hdf
   generalize lnkB l1_0 (kk : Int) y2 = q3 at HL2 hdf
   generalize lnkB l1_0 (kk : Int) y3 = q4 at HL3 hdf
   cases q1 with
   | false =>
    have HRF:=a0_ (hrf _ hdf rfl)
    clear hdf hrf HV HX
    go_wp2_with (first | (go_at_call 57;(with_reducible refine (HH.out () _ HB.out).mono ?_);rintro e w' ⟨rfl,hb'⟩;replace BK1:=a0_ (blk_keptB BK1.out hb');replace BK2:=a0_ (blk_keptB BK2.out hb');replace BY:=a0_ (blk_keptB BY.out hb');replace HB:=a0_ (below_step HB.out hb');clear hb';have hx0:=(blk_cell BY.out 0).trans rfl;have hx1:=(blk_cell BY.out 1).trans rfl;have hx2:=(blk_cell BY.out 2).trans rfl;have hx3:=(blk_cell BY.out 3).trans rfl) | (go_at_call 58;(with_reducible refine (impl_codeOk.calls _ _ _ HC.out).mono ?_);rintro e w' ⟨rfl,hd'⟩;have hb':=hd'.below;replace BK1:=a0_ (blk_keptB BK1.out hb');replace BK2:=a0_ (blk_keptB BK2.out hb');replace BY:=a0_ (blk_keptB BY.out hb');replace HB:=a0_ (below_step HB.out hb');clear hb' hd';have hx0:=(blk_cell BY.out 0).trans rfl;have hx1:=(blk_cell BY.out 1).trans rfl;have hx2:=(blk_cell BY.out 2).trans rfl;have hx3:=(blk_cell BY.out 3).trans rfl) | (go_at_fn 56;(with_reducible refine (HL2.out _ HB.out BK2.out).mono ?_);rintro e w' ⟨rfl,hb'⟩;replace BK1:=a0_ (blk_keptB BK1.out hb');replace BK2:=a0_ (blk_keptB BK2.out hb');replace BY:=a0_ (blk_keptB BY.out hb');replace HB:=a0_ (below_step HB.out hb');clear hb';have hx0:=(blk_cell BY.out 0).trans rfl;have hx1:=(blk_cell BY.out 1).trans rfl;have hx2:=(blk_cell BY.out 2).trans rfl;have hx3:=(blk_cell BY.out 3).trans rfl) | (go_at_fn 56;(with_reducible refine (HL3.out _ HB.out BK2.out).mono ?_);rintro e w' ⟨rfl,hb'⟩;replace BK1:=a0_ (blk_keptB BK1.out hb');replace BK2:=a0_ (blk_keptB BK2.out hb');replace BY:=a0_ (blk_keptB BY.out hb');replace HB:=a0_ (below_step HB.out hb');clear hb';have hx0:=(blk_cell BY.out 0).trans rfl;have hx1:=(blk_cell BY.out 1).trans rfl;have hx2:=(blk_cell BY.out 2).trans rfl;have hx3:=(blk_cell BY.out 3).trans rfl))
    go_ret
    exact ⟨by rw [← HR.out,HRF.out];rfl,HB.out⟩
   | true =>
    cases q2 with
    | false =>
     have HRF:=a0_ (hrf _ hdf rfl)
     clear hdf hrf HV HX
     go_wp2_with (first | (go_at_call 57;(with_reducible refine (HH.out () _ HB.out).mono ?_);rintro e w' ⟨rfl,hb'⟩;replace BK1:=a0_ (blk_keptB BK1.out hb');replace BK2:=a0_ (blk_keptB BK2.out hb');replace BY:=a0_ (blk_keptB BY.out hb');replace HB:=a0_ (below_step HB.out hb');clear hb';have hx0:=(blk_cell BY.out 0).trans rfl;have hx1:=(blk_cell BY.out 1).trans rfl;have hx2:=(blk_cell BY.out 2).trans rfl;have hx3:=(blk_cell BY.out 3).trans rfl) | (go_at_call 58;(with_reducible refine (impl_codeOk.calls _ _ _ HC.out).mono ?_);rintro e w' ⟨rfl,hd'⟩;have hb':=hd'.below;replace BK1:=a0_ (blk_keptB BK1.out hb');replace BK2:=a0_ (blk_keptB BK2.out hb');replace BY:=a0_ (blk_keptB BY.out hb');replace HB:=a0_ (below_step HB.out hb');clear hb' hd';have hx0:=(blk_cell BY.out 0).trans rfl;have hx1:=(blk_cell BY.out 1).trans rfl;have hx2:=(blk_cell BY.out 2).trans rfl;have hx3:=(blk_cell BY.out 3).trans rfl) | (go_at_fn 56;(with_reducible refine (HL2.out _ HB.out BK2.out).mono ?_);rintro e w' ⟨rfl,hb'⟩;replace BK1:=a0_ (blk_keptB BK1.out hb');replace BK2:=a0_ (blk_keptB BK2.out hb');replace BY:=a0_ (blk_keptB BY.out hb');replace HB:=a0_ (below_step HB.out hb');clear hb';have hx0:=(blk_cell BY.out 0).trans rfl;have hx1:=(blk_cell BY.out 1).trans rfl;have hx2:=(blk_cell BY.out 2).trans rfl;have hx3:=(blk_cell BY.out 3).trans rfl) | (go_at_fn 56;(with_reducible refine (HL3.out _ HB.out BK2.out).mono ?_);rintro e w' ⟨rfl,hb'⟩;replace BK1:=a0_ (blk_keptB BK1.out hb');replace BK2:=a0_ (blk_keptB BK2.out hb');replace BY:=a0_ (blk_keptB BY.out hb');replace HB:=a0_ (below_step HB.out hb');clear hb';have hx0:=(blk_cell BY.out 0).trans rfl;have hx1:=(blk_cell BY.out 1).trans rfl;have hx2:=(blk_cell BY.out 2).trans rfl;have hx3:=(blk_cell BY.out 3).trans rfl))
     go_ret
     exact ⟨by rw [← HR.out,HRF.out];rfl,HB.out⟩
    | true =>
     cases q3 with
     | false =>
      have HRF:=a0_ (hrf _ hdf rfl)
      clear hdf hrf HV HX
      go_wp2_with (first | (go_at_call 57;(with_reducible refine (HH.out () _ HB.out).mono ?_);rintro e w' ⟨rfl,hb'⟩;replace BK1:=a0_ (blk_keptB BK1.out hb');replace BK2:=a0_ (blk_keptB BK2.out hb');replace BY:=a0_ (blk_keptB BY.out hb');replace HB:=a0_ (below_step HB.out hb');clear hb';have hx0:=(blk_cell BY.out 0).trans rfl;have hx1:=(blk_cell BY.out 1).trans rfl;have hx2:=(blk_cell BY.out 2).trans rfl;have hx3:=(blk_cell BY.out 3).trans rfl) | (go_at_call 58;(with_reducible refine (impl_codeOk.calls _ _ _ HC.out).mono ?_);rintro e w' ⟨rfl,hd'⟩;have hb':=hd'.below;replace BK1:=a0_ (blk_keptB BK1.out hb');replace BK2:=a0_ (blk_keptB BK2.out hb');replace BY:=a0_ (blk_keptB BY.out hb');replace HB:=a0_ (below_step HB.out hb');clear hb' hd';have hx0:=(blk_cell BY.out 0).trans rfl;have hx1:=(blk_cell BY.out 1).trans rfl;have hx2:=(blk_cell BY.out 2).trans rfl;have hx3:=(blk_cell BY.out 3).trans rfl) | (go_at_fn 56;(with_reducible refine (HL2.out _ HB.out BK2.out).mono ?_);rintro e w' ⟨rfl,hb'⟩;replace BK1:=a0_ (blk_keptB BK1.out hb');replace BK2:=a0_ (blk_keptB BK2.out hb');replace BY:=a0_ (blk_keptB BY.out hb');replace HB:=a0_ (below_step HB.out hb');clear hb';have hx0:=(blk_cell BY.out 0).trans rfl;have hx1:=(blk_cell BY.out 1).trans rfl;have hx2:=(blk_cell BY.out 2).trans rfl;have hx3:=(blk_cell BY.out 3).trans rfl) | (go_at_fn 56;(with_reducible refine (HL3.out _ HB.out BK2.out).mono ?_);rintro e w' ⟨rfl,hb'⟩;replace BK1:=a0_ (blk_keptB BK1.out hb');replace BK2:=a0_ (blk_keptB BK2.out hb');replace BY:=a0_ (blk_keptB BY.out hb');replace HB:=a0_ (below_step HB.out hb');clear hb';have hx0:=(blk_cell BY.out 0).trans rfl;have hx1:=(blk_cell BY.out 1).trans rfl;have hx2:=(blk_cell BY.out 2).trans rfl;have hx3:=(blk_cell BY.out 3).trans rfl))
      go_ret
      exact ⟨by rw [← HR.out,HRF.out];rfl,HB.out⟩
     | true =>
      cases q4 with
      | false =>
       have HRF:=a0_ (hrf _ hdf rfl)
       clear hdf hrf HV HX
       go_wp2_with (first | (go_at_call 57;(with_reducible refine (HH.out () _ HB.out).mono ?_);rintro e w' ⟨rfl,hb'⟩;replace BK1:=a0_ (blk_keptB BK1.out hb');replace BK2:=a0_ (blk_keptB BK2.out hb');replace BY:=a0_ (blk_keptB BY.out hb');replace HB:=a0_ (below_step HB.out hb');clear hb';have hx0:=(blk_cell BY.out 0).trans rfl;have hx1:=(blk_cell BY.out 1).trans rfl;have hx2:=(blk_cell BY.out 2).trans rfl;have hx3:=(blk_cell BY.out 3).trans rfl) | (go_at_call 58;(with_reducible refine (impl_codeOk.calls _ _ _ HC.out).mono ?_);rintro e w' ⟨rfl,hd'⟩;have hb':=hd'.below;replace BK1:=a0_ (blk_keptB BK1.out hb');replace BK2:=a0_ (blk_keptB BK2.out hb');replace BY:=a0_ (blk_keptB BY.out hb');replace HB:=a0_ (below_step HB.out hb');clear hb' hd';have hx0:=(blk_cell BY.out 0).trans rfl;have hx1:=(blk_cell BY.out 1).trans rfl;have hx2:=(blk_cell BY.out 2).trans rfl;have hx3:=(blk_cell BY.out 3).trans rfl) | (go_at_fn 56;(with_reducible refine (HL2.out _ HB.out BK2.out).mono ?_);rintro e w' ⟨rfl,hb'⟩;replace BK1:=a0_ (blk_keptB BK1.out hb');replace BK2:=a0_ (blk_keptB BK2.out hb');replace BY:=a0_ (blk_keptB BY.out hb');replace HB:=a0_ (below_step HB.out hb');clear hb';have hx0:=(blk_cell BY.out 0).trans rfl;have hx1:=(blk_cell BY.out 1).trans rfl;have hx2:=(blk_cell BY.out 2).trans rfl;have hx3:=(blk_cell BY.out 3).trans rfl) | (go_at_fn 56;(with_reducible refine (HL3.out _ HB.out BK2.out).mono ?_);rintro e w' ⟨rfl,hb'⟩;replace BK1:=a0_ (blk_keptB BK1.out hb');replace BK2:=a0_ (blk_keptB BK2.out hb');replace BY:=a0_ (blk_keptB BY.out hb');replace HB:=a0_ (below_step HB.out hb');clear hb';have hx0:=(blk_cell BY.out 0).trans rfl;have hx1:=(blk_cell BY.out 1).trans rfl;have hx2:=(blk_cell BY.out 2).trans rfl;have hx3:=(blk_cell BY.out 3).trans rfl))
       go_ret
       exact ⟨by rw [← HR.out,HRF.out];rfl,HB.out⟩
      | true =>
       have HDF:=a0_ hdf
       clear hdf hrf HV HX
       go_wp2_with (first | (go_at_call 57;(with_reducible refine (HH.out () _ HB.out).mono ?_);rintro e w' ⟨rfl,hb'⟩;replace BK1:=a0_ (blk_keptB BK1.out hb');replace BK2:=a0_ (blk_keptB BK2.out hb');replace BY:=a0_ (blk_keptB BY.out hb');replace HB:=a0_ (below_step HB.out hb');clear hb';have hx0:=(blk_cell BY.out 0).trans rfl;have hx1:=(blk_cell BY.out 1).trans rfl;have hx2:=(blk_cell BY.out 2).trans rfl;have hx3:=(blk_cell BY.out 3).trans rfl) | (go_at_call 58;(with_reducible refine (impl_codeOk.calls _ _ _ HC.out).mono ?_);rintro e w' ⟨rfl,hd'⟩;have hb':=hd'.below;replace BK1:=a0_ (blk_keptB BK1.out hb');replace BK2:=a0_ (blk_keptB BK2.out hb');replace BY:=a0_ (blk_keptB BY.out hb');replace HB:=a0_ (below_step HB.out hb');clear hb' hd';have hx0:=(blk_cell BY.out 0).trans rfl;have hx1:=(blk_cell BY.out 1).trans rfl;have hx2:=(blk_cell BY.out 2).trans rfl;have hx3:=(blk_cell BY.out 3).trans rfl) | (go_at_fn 56;(with_reducible refine (HL2.out _ HB.out BK2.out).mono ?_);rintro e w' ⟨rfl,hb'⟩;replace BK1:=a0_ (blk_keptB BK1.out hb');replace BK2:=a0_ (blk_keptB BK2.out hb');replace BY:=a0_ (blk_keptB BY.out hb');replace HB:=a0_ (below_step HB.out hb');clear hb';have hx0:=(blk_cell BY.out 0).trans rfl;have hx1:=(blk_cell BY.out 1).trans rfl;have hx2:=(blk_cell BY.out 2).trans rfl;have hx3:=(blk_cell BY.out 3).trans rfl) | (go_at_fn 56;(with_reducible refine (HL3.out _ HB.out BK2.out).mono ?_);rintro e w' ⟨rfl,hb'⟩;replace BK1:=a0_ (blk_keptB BK1.out hb');replace BK2:=a0_ (blk_keptB BK2.out hb');replace BY:=a0_ (blk_keptB BY.out hb');replace HB:=a0_ (below_step HB.out hb');clear hb';have hx0:=(blk_cell BY.out 0).trans rfl;have hx1:=(blk_cell BY.out 1).trans rfl;have hx2:=(blk_cell BY.out 2).trans rfl;have hx3:=(blk_cell BY.out 3).trans rfl))
       go_roundg (l1_0.length - (kk + 1))
       case measure=>omega
       case rel =>
        refine ⟨kk + 1,by omega,by omega,by go_num,HB,BK1,BK2,⟨fun j hj=>?_⟩⟩
        by_cases e : j = kk
        ·subst e;rw [NB.out];exact HDF.out
        ·exact HA.out j (by omega)
  ·have hltz : ¬ (kk : Int) < (l1_0.length : Int):=by omega
   have : kk = l1_0.length:=by omega
   subst this
   have hfs : fsH l0_0 l1_0 = true:=all_of HA.out
   replace HX:=a0_ (HX.out hfs)
   have HCT:=a0_ (fsH_ctx hfs)
   have hrr : r = (esH l1_0 && (vT l0_0 && decide (l1_0.length ≤ 24))):=by rw [← HR.out];unfold vH;rw [hfs,Bool.true_and]
   have HRR:=a0_ hrr
   have hcell:=(blk_cell BK1.out 0).trans rfl
   have hcell2:=(blk_cell BK2.out 0).trans rfl
   clear HA HR hfs hrr HH HL
   go_wp2
   clear hcell hcell2
   go_loopg [50] l1_0.length (fun gg s50 wr=>∃ kk : Nat,kk ≤ l1_0.length ∧ l1_0.length - kk ≤ gg ∧ s50 = .int .i64 kk ∧ Aside0 (Below w.heap.size w wr) ∧ Aside0 (wr.heap[w.heap.size]? = some (.cells #[.slice A0_0 l0_0.length c0_0] 25 (0,0))) ∧ Aside0 (wr.heap[w.heap.size + 1]? = some (.cells #[.slice A1_0 l1_0.length c1_0] 28 (0,0))) ∧ Aside0 (∀ j,j < kk → endB l1_0 j = true))
   case atStart=>exact ⟨0,Nat.zero_le _,by omega,rfl,HB,BK1,BK2,⟨fun j hj=>absurd hj (Nat.not_lt_zero _)⟩⟩
   case round =>
    clear HB BK1 BK2 hltz
    obtain ⟨kk,hkk,hg,rfl,HB,BK1,BK2,HA⟩:=hrel
    have hcell:=(blk_cell BK1.out 0).trans rfl
    have hcell2:=(blk_cell BK2.out 0).trans rfl
    by_cases hlt : kk < l1_0.length
    ·have hltz : (kk : Int) < (l1_0.length : Int):=by omega
     have hX:=HX.out (kk : Int) hltz
     have hpos:=ctxL_pos l1_0 (kk : Int) (by omega) hltz
     have hlen:=ctxL_len l1_0 (kk : Int)
     have hmem:=ctxL_mem (fun x h0 h1=>(HCT.out x h0 h1).2) (kk : Int) hltz
     have hlast:=hmem _ (lastI_mem hpos)
     have hdf : endB l1_0 kk = decide (ctxN l1_0 (lastI (ctxL l1_0 (kk : Int))) < 0):=rfl
     have hlo:=HCT.out _ hlast.1 hlast.2
     have hrdl : rd (ctxL l1_0 (kk : Int)) (((ctxL l1_0 (kk : Int)).length : Int) - 1) = lastI (ctxL l1_0 (kk : Int)):=by
      unfold lastI
      rw [show (((ctxL l1_0 (kk : Int)).length : Int) - 1) = (((ctxL l1_0 (kk : Int)).length - 1 : Nat) : Int) by omega]
      exact rd_nat _ _ (by omega)
     generalize hL : ctxL l1_0 (kk : Int) = L at hX hpos hlen hlast hdf hlo hrdl
     generalize hz : lastI L = la at hlast hdf hlo hrdl
     obtain ⟨ad,ea,hx0,hx1,hx2,hx3,hx4⟩:=at_T43 HRD.out la hlast.1 hlast.2
     cases ea
     have hrd : (rd_T43 l1_0 la).f3 = ctxN l1_0 la:=by simp [rd_T43,ctxN]
     rw [hrd] at hx3
     have HX3:=a0_ hx3
     have HXX:=a0_ hX
     generalize ctxN l1_0 la = cx at HX3 hdf hlo
     clear hx0 hx1 hx2 hx3 hx4 hrd hmem hL hz hX
     obtain ⟨ix,hix⟩ : ∃ ix,ix = (L.length : Int) - 1:=⟨_,rfl⟩
     have hw1 : wrap64 ((L.length : Int) - 1) = ix:=(wrap_in (by omega) (by omega)).trans hix.symm
     have hw2 : IntKind.i64.wrap ((L.length : Int) - 1) = ix:=(i64_w _).trans hw1
     rw [← hix] at hrdl
     have HRL:=a0_ hrdl
     have hl0:=eq_true hlast.1
     have hl1:=eq_true hlast.2
     have hl2 : 0 ≤ ix:=by omega
     have hl3 : ix < (L.length : Int):=by omega
     clear hix
     have HLO:=a0_ hlo
     have HDF:=a0_ hdf
     clear hrdl hlast hlo hdf
     go_upto_region 12 with (go_at_call 53;refine (HXX.out _ HB.out).mono ?_;rintro e w2 ⟨v9,rfl,ho9,hb9⟩;replace BK1:=a0_ (blk_keptB BK1.out hb9);replace BK2:=a0_ (blk_keptB BK2.out hb9);replace HB:=a0_ (below_step HB.out hb9);obtain ⟨Ao,co,eo⟩:=Kd.R_slice ho9;subst eo;have HO9:=a0_ ho9;clear ho9 hb9)
     obtain ⟨ae,eae,hy0⟩:=Kd.at_int (Kd.R_reads' HO9.out).2.2 ix hl2 hl3
     cases eae
     rw [HRL.out] at hy0
     have hx3:=(HB.out.cell (World.block_lt_of_cell? w _ HX3.out)).trans HX3.out
     have hcell2:=(blk_cell BK2.out 0).trans rfl
     cases hq : (cx != -1) with
     | true =>
      have HRF:=a0_ (show r = false by
       have hc : cx ≠ -1:=bne_iff_ne.1 hq
       have hd:=HDF.out
       rw [decide_eq_false (show ¬ cx < 0 by have:=HLO.out;omega)] at hd
       rw [HRR.out];unfold esH;rw [all_false hlt hd];rfl)
      clear hlt
      go_quiet (fail)
      go_wp2
      go_ret
      exact ⟨by rw [HRF.out];rfl,pw_below_drewN HB.out _⟩
     | false =>
      have HDT:=a0_ (show endB l1_0 kk = true by
       have hc : cx = -1:=bne_eq_false_iff_eq.1 hq
       rw [HDF.out]
       exact decide_eq_true (by omega))
      go_quiet (fail)
      go_wp2
      go_roundg (l1_0.length - (kk + 1))
      case measure=>omega
      case rel =>
       refine ⟨kk + 1,by omega,by omega,by go_num,⟨pw_below_drewN HB.out _⟩,⟨blk_drewN BK1.out _⟩,⟨blk_drewN BK2.out _⟩,⟨fun j hj=>?_⟩⟩
       by_cases e : j = kk
       ·subst e;exact HDT.out
       ·exact HA.out j (by omega)
    ·have hltz : ¬ (kk : Int) < (l1_0.length : Int):=by omega
     have : kk = l1_0.length:=by omega
     subst this
     have hes : esH l1_0 = true:=all_of HA.out
     have hrr:=HRR.out
     rw [hes,Bool.true_and] at hrr
     have hd24 : decide (l1_0.length ≤ 24) = decide ((l1_0.length : Int) ≤ 24):=decide_eq_decide.2 (by omega)
     rw [hd24] at hrr
     clear HA hes HX HCT HRR hd24
     cases hv : vT l0_0 with
     | false =>
      rw [hv] at HV hrr
      clear hv
      go_wp2_with (go_at_call 59;refine (HV.out _ HB.out).mono ?_;rintro e w1 ⟨rfl,hb1⟩;replace HB:=a0_ (below_step HB.out hb1);replace BK2:=a0_ (blk_keptB BK2.out hb1);clear hb1;have hcell2:=(blk_cell BK2.out 0).trans rfl)
      go_ret
      exact ⟨by rw [hrr];rfl,HB.out⟩
     | true =>
      rw [hv,Bool.true_and] at hrr
      rw [hv] at HV
      have HRR:=a0_ hrr
      clear hv hrr
      go_wp2_with (go_at_call 59;refine (HV.out _ HB.out).mono ?_;rintro e w1 ⟨rfl,hb1⟩;replace HB:=a0_ (below_step HB.out hb1);replace BK2:=a0_ (blk_keptB BK2.out hb1);clear hb1;have hcell2:=(blk_cell BK2.out 0).trans rfl)
      go_ret
      exact ⟨by rw [HRR.out];rfl,HB.out⟩
theorem impl_ValidHeap_ev (t : List Cls) (h : List Fau) (hs : smT t = true) (hl : h.length ≤ 2097152) : impl_ValidHeap.f t h = some (vH t h):=by rw [impl_ValidHeap.f,if_pos ⟨hs,hl⟩]
end Go.Proofs.Ytmiholmfbjalfaa.P
namespace Go.Proofs.Ytmiholmfbjalfaa.P
open Go.RowKit Go.Proofs.YtmiholmfbjalfaaW.PrintWords Go.Proofs.YtmiholmfbjalfaaW.PrintLast Go.Proofs.YtmiholmfbjalfaaW.PrintMore
attribute [local go_sem] max2_int min2_int max_two min_two max_three min_three max_four min_four
set_option linter.unusedVariables false
set_option linter.unusedSimpArgs false
set_option maxHeartbeats 2000000 in
theorem slices_IndexFunc_int.callsF (A : Option Addr) (c : Nat) (l : List Int) (g : Nat) (lb : Array Value) (p : Int → Bool) (w : World) (eg : ∀ args w,(callFunc g args).run Try.prog w = .ok (.enter g args) w)
  (hr : Kd.C (Kd.int .i64) w A l.length l) (hc : l.length ≤ c) (hp : ∀ x,x ∈ l → ∀ W,Below w.heap.size w W → Calls Try.prog g (#[.int .i64 x] ++ lb) W fun e w'=>e = .returned (.bool (p x)) ∧ Below W.heap.size W w') :
  Calls Try.prog 79 #[.slice A l.length c,.func (.func g) #[] lb] w fun e w'=>e = .returned (.int .i64 (idxP p l)) ∧ Below w.heap.size w w':=by
 have HR:=a0_ hr
 have HP:=a0_ hp
 have hmax : l.length ≤ 9223372036854775807:=hr.2.1
 clear hr hp hc
 go_enter Try.func79,Try.ntmps79
 go_wp2
 go_loopg [5,8] l.length (fun gg _ s8 wr=>∃ kk : Nat,kk ≤ l.length ∧ l.length - kk ≤ gg ∧ s8 = .int .i64 kk ∧ Aside0 (Below w.heap.size w wr) ∧ Aside0 (∀ j (hj : j < l.length),j < kk → p l[j] = false))
 case atStart=>exact ⟨0,Nat.zero_le _,by omega,rfl,⟨Below.refl _ w⟩,⟨fun j _ hj=>absurd hj (Nat.not_lt_zero _)⟩⟩
 case round =>
  obtain ⟨kk,hkk,hg,rfl,BW,HA⟩:=hrel
  by_cases hlt : kk < l.length
  ·have hltz : (kk : Int) < (l.length : Int):=by omega
   obtain ⟨ad,ea,hx0⟩:=Kd.at_int HR.out (kk : Int) (by omega) (by omega)
   cases ea
   have hrd : rd l (kk : Int) = l[kk]:=by simp [rd,hlt]
   rw [hrd] at hx0
   rw [Int.toNat_natCast] at hx0
   replace hx0:=(BW.out.cell (World.block_lt_of_cell? w _ hx0)).trans hx0
   have hcall:=HP.out l[kk] (List.getElem_mem hlt) wr BW.out
   clear hrd
   generalize hy : l[kk] = y at hx0 hcall
   have B:=a0_ hy
   clear hy
   cases hq : p y with
   | true =>
    rw [hq] at hcall
    go_wp2_with (go_at_fn g;refine hcall.mono ?_;rintro e w' ⟨rfl,hb'⟩)
    go_ret
    refine ⟨?_,below_step BW.out hb'⟩
    rw [idxP_hit p l kk hlt (by rw [B.out];exact hq) HA.out];rfl
   | false =>
    rw [hq] at hcall
    go_wp2_with (go_at_fn g;refine hcall.mono ?_;rintro e w' ⟨rfl,hb'⟩)
    go_roundg (l.length - (kk + 1))
    case measure=>omega
    case rel =>
     refine ⟨kk + 1,by omega,by omega,by go_num,⟨below_step BW.out hb'⟩,⟨fun j hj hjk=>?_⟩⟩
     by_cases e : j = kk
     ·subst e
      rw [B.out];exact hq
     ·exact HA.out j hj (by omega)
  ·have hltz : ¬ (kk : Int) < (l.length : Int):=by omega
   have : kk = l.length:=by omega
   subst this
   go_wp2
   go_ret
   refine ⟨?_,BW.out⟩
   rw [idxP_miss p l (fun j hj=>HA.out j hj hj)];rfl
end Go.Proofs.Ytmiholmfbjalfaa.P
namespace Go.Proofs.Ytmiholmfbjalfaa.P
open Go.RowKit Go.Proofs.YtmiholmfbjalfaaW.PrintWords Go.Proofs.YtmiholmfbjalfaaW.PrintLast Go.Proofs.YtmiholmfbjalfaaW.PrintMore
attribute [local go_sem] max2_int min2_int max_two min_two max_three min_three max_four min_four
set_option linter.unusedVariables false
set_option linter.unusedSimpArgs false
set_option maxHeartbeats 2000000 in
theorem slices_ContainsFunc_int.callsF (A : Option Addr) (c : Nat) (l : List Int) (g : Nat) (lb : Array Value) (p : Int → Bool) (w : World) (eg : ∀ args w,(callFunc g args).run Try.prog w = .ok (.enter g args) w)
  (hr : Kd.C (Kd.int .i64) w A l.length l) (hc : l.length ≤ c) (hp : ∀ x,x ∈ l → ∀ W,Below w.heap.size w W → Calls Try.prog g (#[.int .i64 x] ++ lb) W fun e w'=>e = .returned (.bool (p x)) ∧ Below W.heap.size W w') :
  Calls Try.prog 60 #[.slice A l.length c,.func (.func g) #[] lb] w fun e w'=>e = .returned (.bool (l.any p)) ∧ Below w.heap.size w w':=by
 have hcon:=slices_IndexFunc_int.callsF A c l g lb p w eg hr hc hp
 rw [← idxP_nonneg]
 clear eg hr hc hp
 generalize idxP p l = r at hcon ⊢
 go_enter Try.func60,Try.ntmps60
 go_wp2_with (go_at_call 79;refine hcon.mono ?_;rintro e w' ⟨rfl,hb'⟩)
 go_ret
 exact ⟨rfl,hb'⟩
end Go.Proofs.Ytmiholmfbjalfaa.P
namespace Go.Proofs.Ytmiholmfbjalfaa.P
open Go.RowKit Go.Proofs.YtmiholmfbjalfaaW.PrintWords Go.Proofs.YtmiholmfbjalfaaW.PrintLast Go.Proofs.YtmiholmfbjalfaaW.PrintMore
attribute [local go_sem] max2_int min2_int max_two min_two max_three min_three max_four min_four
set_option linter.unusedVariables false
set_option linter.unusedSimpArgs false
theorem impl_faultsIn_1.callsF (B : Nat) (A : Option Addr) (c : Nat) (h : List Fau) (f : Int) (w : World) (hc : h.length ≤ c) (hB : w.heap[B]? = some (.cells #[.slice A h.length c] 28 (0,0))) (hr : Kd.C k43 w A h.length h) :
  Calls Try.prog 61 #[.int .i64 f,.pointer (some ⟨B,0,none⟩)] w fun e w'=>e = .returned (.bool (!hasF h f)) ∧ Below w.heap.size w w':=by
 have hu37:=Try.underlying28
 have hcell : w.cell? ⟨B,0,none⟩ = some (.slice A h.length c):=(blk_cell hB 0).trans rfl
 have hcon:=impl_Heap_has.calls A c h f (hasF h f) w hr hc (impl_Heap_has_ev h f hr.2.1)
 clear hB hr
 generalize hasF h f = q at hcon ⊢
 go_enter Try.func61,Try.ntmps61
 go_wp2_with (go_at_call 51;refine hcon.mono ?_;rintro e w' ⟨rfl,hb'⟩)
 go_ret
 exact ⟨rfl,hb'⟩
end Go.Proofs.Ytmiholmfbjalfaa.P
namespace Go.Proofs.Ytmiholmfbjalfaa.P
open Go.RowKit Go.Proofs.YtmiholmfbjalfaaW.PrintWords Go.Proofs.YtmiholmfbjalfaaW.PrintLast Go.Proofs.YtmiholmfbjalfaaW.PrintMore
attribute [local go_sem] max2_int min2_int max_two min_two max_three min_three max_four min_four
set_option linter.unusedVariables false
set_option linter.unusedSimpArgs false
def impl_faultsIn.f (l0_0 : List Cls) (l1_0 : List Fau) (l2 : List Int) : Option Bool:=if smT l0_0 = true ∧ l1_0.length ≤ 2097152 then some (vH l0_0 l1_0 && !(l2.any (fun f=>!hasF l1_0 f))) else none
set_option maxHeartbeats 2000000 in
set_option maxRecDepth 100000 in
theorem impl_faultsIn.calls (A0_0 : Option Addr) (c0_0 : Nat) (l0_0 : List (S87)) (A1_0 : Option Addr) (c1_0 : Nat) (l1_0 : List (S43)) (A2 : Option Addr) (c2 : Nat) (l2 : List Int) (r : Bool) (w : World) (hr0_0 : Kd.C k87 w A0_0 l0_0.length l0_0) (hc0_0 : l0_0.length ≤ c0_0) (hr1_0 : Kd.C k43 w A1_0 l1_0.length l1_0) (hc1_0 : l1_0.length ≤ c1_0) (hr2 : Kd.C (Kd.int .i64) w A2 l2.length l2) (hc2 : l2.length ≤ c2) (h : impl_faultsIn.f l0_0 l1_0 l2 = some r) :
  Calls Try.prog 35 #[.agg #[.slice A0_0 l0_0.length c0_0],.agg #[.slice A1_0 l1_0.length c1_0],.slice A2 l2.length c2] w fun e w'=>e = .returned (.bool r) ∧ Below w.heap.size w w':=by
 have hu33:=Try.underlying25
 have hu37:=Try.underlying28
 have hsm : smT l0_0 = true ∧ l1_0.length ≤ 2097152:=by
  apply Classical.byContradiction
  intro hn
  rw [impl_faultsIn.f,if_neg hn] at h
  cases h
 rw [impl_faultsIn.f,if_pos hsm] at h
 obtain rfl:=Option.some.inj h
 clear h
 have HV:=a0_ (fun (W : World) (hb : Below w.heap.size w W)=>impl_ValidHeap.calls A0_0 c0_0 l0_0 A1_0 c1_0 l1_0 (vH l0_0 l1_0) W (Kd.C_below hr0_0 hb) hc0_0 (Kd.C_below hr1_0 hb) hc1_0 (by rw [impl_ValidHeap.f,if_pos hsm]))
 have eg : ∀ args w,(callFunc 61 args).run Try.prog w = .ok (.enter 61 args) w:=enters_of Try.func61 (by kernel_rfl) rfl
 have HC:=a0_ (fun (W : World) (hb : Below w.heap.size w W) (hB : W.heap[w.heap.size + 1]? = some (.cells #[.slice A1_0 l1_0.length c1_0] 28 (0,0)))=>slices_ContainsFunc_int.callsF A2 c2 l2 61 #[.pointer (some ⟨w.heap.size + 1,0,none⟩)] (fun f=>!hasF l1_0 f) W eg (Kd.C_below hr2 hb) hc2 (fun x _ W' hW=>impl_faultsIn_1.callsF (w.heap.size + 1) A1_0 c1_0 l1_0 x W' hc1_0 (blk_keptB hB hW) (Kd.C_below (Kd.C_below hr1_0 hb) hW)))
 have BK1:=a0_ (heap_old2 w (.cells #[.slice A0_0 l0_0.length c0_0] 25) (.cells #[.slice A1_0 l1_0.length c1_0] 28))
 have BK2:=a0_ (heap_new2 w (.cells #[.slice A0_0 l0_0.length c0_0] 25) (.cells #[.slice A1_0 l1_0.length c1_0] 28))
 have HB:=a0_ (below2 w (.cells #[.slice A0_0 l0_0.length c0_0] 25) (.cells #[.slice A1_0 l1_0.length c1_0] 28))
 have hcell:=(blk_cell BK1.out 0).trans rfl
 have hcell2:=(blk_cell BK2.out 0).trans rfl
 clear hr0_0 hr1_0 hr2 hsm eg
 generalize (l2.any fun f=>!hasF l1_0 f) = q at HC ⊢
 cases hv : vH l0_0 l1_0 with
 | false =>
  rw [hv] at HV
  clear HC hv
  go_enter Try.func35,Try.ntmps35
  go_wp2_with (go_at_call 30;refine (HV.out _ HB.out).mono ?_;rintro e w' ⟨rfl,hb'⟩)
  go_ret
  exact ⟨rfl,below_step HB.out hb'⟩
 | true =>
  rw [hv] at HV
  clear hv
  go_enter Try.func35,Try.ntmps35
  go_wp2_with (first
   | (go_at_call 30;refine (HV.out _ HB.out).mono ?_;rintro e w' ⟨rfl,hb'⟩;replace HB:=a0_ (below_step HB.out hb');replace BK2:=a0_ (blk_keptB BK2.out hb');clear hb')
   | (go_at_call 60;refine (HC.out _ HB.out BK2.out).mono ?_;rintro e w2 ⟨rfl,hb2⟩))
  go_ret
  exact ⟨by simp,below_step HB.out hb2⟩
theorem impl_faultsIn_ev (t : List Cls) (h : List Fau) (f : Int) (hs : smT t = true) (hl : h.length ≤ 2097152) : impl_faultsIn.f t h [f] = some (vH t h && hasF h f):=by
 rw [impl_faultsIn.f,if_pos ⟨hs,hl⟩]
 simp
theorem hasF_in {h : List Fau} {f : Int} (hb : hasF h f = true) : 0 ≤ f ∧ f < (h.length : Int):=by
 unfold hasF at hb
 simp only [Bool.and_eq_true,decide_eq_true_eq] at hb
 omega
end Go.Proofs.Ytmiholmfbjalfaa.P
namespace Go.Proofs.Ytmiholmfbjalfaa.P
open Go.RowKit Go.Proofs.YtmiholmfbjalfaaW.PrintWords Go.Proofs.YtmiholmfbjalfaaW.PrintLast Go.Proofs.YtmiholmfbjalfaaW.PrintMore
attribute [local go_sem] max2_int min2_int max_two min_two max_three min_three max_four min_four
set_option linter.unusedVariables false
set_option linter.unusedSimpArgs false
def impl_Heap_shown.f (l0_0 : List (S43)) (a1 : Int) : Option (Int):=if 0 ≤ a1 then (if a1 < (l0_0.length : Int) then (if ((rd_T43 l0_0 a1).f2) ≥ 0 then (some ((rd_T43 l0_0 a1).f2)) else (if (rd_T43 l0_0 a1).f4 = true then (some (-1)) else (some ((rd_T43 l0_0 a1).f3)))) else (none)) else (none)
set_option maxHeartbeats 8000000 in
set_option maxRecDepth 100000 in
theorem impl_Heap_shown.calls (A0_0 : Option Addr) (c0_0 : Nat) (l0_0 : List (S43)) (a1 : Int) (r : Int) (w : World) (hr0_0 : Kd.C k43 w A0_0 l0_0.length l0_0) (hc0_0 : l0_0.length ≤ c0_0) (h : impl_Heap_shown.f l0_0 a1 = some r) :
  Calls Try.prog 37 #[.agg #[.slice A0_0 l0_0.length c0_0],.int .i64 a1] w fun e w'=>e = .returned (.int .i64 r) ∧ Below w.heap.size w w':=by
 have hu28:=Try.underlying28
 have hu43:=Try.underlying43
 have HR0_0:=a0_ hr0_0
 have HC0_0:=a0_ hc0_0
 clear hr0_0 hc0_0
 have HB:=a0_ (Below.refl w.heap.size w)
 have H : (if 0 ≤ a1 then (if a1 < (l0_0.length : Int) then (if ((rd_T43 l0_0 a1).f2) ≥ 0 then (some ((rd_T43 l0_0 a1).f2)) else (if (rd_T43 l0_0 a1).f4 = true then (some (-1)) else (some ((rd_T43 l0_0 a1).f3)))) else (none)) else (none)) = some r:=h
 clear h
 by_cases c3 : 0 ≤ a1
 ·rw [if_pos c3] at H
  have c3b0 : decide (0 ≤ a1) = true:=decide_eq_true c3
  clear c3
  by_cases c4 : a1 < (l0_0.length : Int)
  ·rw [if_pos c4] at H
   have c4b0 : decide (a1 < (l0_0.length : Int)) = true:=decide_eq_true c4
   clear c4
   by_cases c5 : ((rd_T43 l0_0 a1).f2) ≥ 0
   ·rw [if_pos c5] at H
    have c5b0 : decide (0 ≤ ((rd_T43 l0_0 a1).f2)) = true:=decide_eq_true c5
    clear c5
    obtain rfl:=Option.some.inj H
    go_enter Try.func37,Try.ntmps37
    go_wp2_with (first | ((with_reducible refine gate_dst (N:=2) rfl ?_);refine box_event ?hg (N:=2) ?hd (cs:=#[.slice A0_0 l0_0.length c0_0]) (t:=28) ?hr ?_;(case hd=>rfl);(case hg=>rfl);(case hr=>first | (go_simp;done) | (go_simp;rfl));intro gb1 hg w6 hbox hb;have BK1:=a0_ (hbox);have GW1:=a0_ ((by rw [hg];exact (below_size hb_) : w.heap.size ≤ gb1));have GE1:=a0_ ((by rw [hg];exact (below_size hb_) : w.heap.size ≤ gb1));replace HB:=a0_ (below_step hb_ hb);clear hb hbox hg;have hcz7_0 : w6.cell? ⟨gb1,0,none⟩ = some (.slice A0_0 l0_0.length c0_0):=(blk_cell BK1.out 0).trans rfl;have hfz7_0:=blk_frozen BK1.out 0;have p2 : 0 ≤ (a1 : Int):=of_decide_eq_true (by first | (with_reducible assumption) | assumption);have q2 : a1 < (l0_0.length : Int):=of_decide_eq_true (by first | (with_reducible assumption) | assumption);obtain ⟨ad2,e2,hx2_0,hx2_1,hx2_2,hx2_3,hx2_4⟩:=at_T43 HR0_0.out a1 p2 q2;cases e2;replace hx2_0:=(HB.out.cell (World.block_lt_of_cell? w _ hx2_0)).trans hx2_0;replace hx2_1:=(HB.out.cell (World.block_lt_of_cell? w _ hx2_1)).trans hx2_1;replace hx2_2:=(HB.out.cell (World.block_lt_of_cell? w _ hx2_2)).trans hx2_2;replace hx2_3:=(HB.out.cell (World.block_lt_of_cell? w _ hx2_3)).trans hx2_3;replace hx2_4:=(HB.out.cell (World.block_lt_of_cell? w _ hx2_4)).trans hx2_4;replace p2:=eq_true p2;replace q2:=eq_true q2) | ((with_reducible refine gate_dst (N:=5) rfl ?_);refine box_event ?hg (N:=5) ?hd (cs:=#[.int .i64 0,.int .i64 0,.int .i64 0,.int .i64 0,.bool false]) (t:=43) ?hr ?_;(case hd=>rfl);(case hg=>rfl);(case hr=>first | (go_simp;done) | (go_simp;rfl));intro gb3 hg w8 hbox hb;have n0_:=kb_ BK1 hb;have n1_:=a0_ (below_step hb_ hb);have n2_:=a0_ (hbox);have n3_:=a0_ ((by rw [hg];exact (below_size hb_) : w.heap.size ≤ gb3));have n4_:=a0_ ((by rw [hg];exact (below_size hb_) : w.heap.size ≤ gb3));have n5_:=a0_ ((by rw [hg];exact Nat.ne_of_lt (blk_lt (bb_ BK1.out)) : gb1 ≠ gb3));have n6_:=a0_ ((by rw [hg];exact Nat.ne_of_gt (blk_lt (bb_ BK1.out)) : gb3 ≠ gb1));clear BK1 HB;have BK1:=n0_;have HB:=n1_;have BK3:=n2_;have GW3:=n3_;have GE3:=n4_;have NB1_3:=n5_;have NB3_1:=n6_;clear n0_ n1_ n2_ n3_ n4_ n5_ n6_;clear hb hbox hg;have hnb9:=NB3_1.out;have hnc9:=NB1_3.out;have hcz10_0 : w8.cell? ⟨gb3,0,none⟩ = some (.int .i64 0):=(blk_cell BK3.out 0).trans rfl;have hcz10_1 : w8.cell? ⟨gb3,1,none⟩ = some (.int .i64 0):=(blk_cell BK3.out 1).trans rfl;have hcz10_2 : w8.cell? ⟨gb3,2,none⟩ = some (.int .i64 0):=(blk_cell BK3.out 2).trans rfl;have hcz10_3 : w8.cell? ⟨gb3,3,none⟩ = some (.int .i64 0):=(blk_cell BK3.out 3).trans rfl;have hcz10_4 : w8.cell? ⟨gb3,4,none⟩ = some (.bool false):=(blk_cell BK3.out 4).trans rfl;have hfz10_0:=blk_frozen BK3.out 0;have hfz10_1:=blk_frozen BK3.out 1;have hfz10_2:=blk_frozen BK3.out 2;have hfz10_3:=blk_frozen BK3.out 3;have hfz10_4:=blk_frozen BK3.out 4))
    go_ret
    exact ⟨by first | rfl | (simp [errW_none,errW_some] <;> rfl) | (simp [*,errW_none,errW_some] <;> rfl),hb_⟩
   ·rw [if_neg c5] at H
    have c5b0 : decide (0 ≤ ((rd_T43 l0_0 a1).f2)) = false:=decide_eq_false c5
    clear c5
    obtain ⟨bq11,hbq11⟩ : ∃ b_ : Bool,b_ = ((rd_T43 l0_0 a1).f4):=⟨_,rfl⟩
    replace H : (if bq11 = true then (some (-1)) else (some ((rd_T43 l0_0 a1).f3))) = some r:=by rw [← hbq11] at H;exact H
    have Nbq11:=a0_ hbq11
    clear hbq11
    by_cases c12 : bq11 = true
    ·subst c12
     have H1 : (some (-1)) = some r:=by rw [if_pos rfl] at H;exact H
     clear H
     have H:=H1
     clear H1
     obtain rfl:=Option.some.inj H
     go_enter Try.func37,Try.ntmps37
     go_wp2_with (first | ((with_reducible refine gate_dst (N:=2) rfl ?_);refine box_event ?hg (N:=2) ?hd (cs:=#[.slice A0_0 l0_0.length c0_0]) (t:=28) ?hr ?_;(case hd=>rfl);(case hg=>rfl);(case hr=>first | (go_simp;done) | (go_simp;rfl));intro gb1 hg w13 hbox hb;have BK1:=a0_ (hbox);have GW1:=a0_ ((by rw [hg];exact (below_size hb_) : w.heap.size ≤ gb1));have GE1:=a0_ ((by rw [hg];exact (below_size hb_) : w.heap.size ≤ gb1));replace HB:=a0_ (below_step hb_ hb);clear hb hbox hg;have hcz14_0 : w13.cell? ⟨gb1,0,none⟩ = some (.slice A0_0 l0_0.length c0_0):=(blk_cell BK1.out 0).trans rfl;have hfz14_0:=blk_frozen BK1.out 0;have p2 : 0 ≤ (a1 : Int):=of_decide_eq_true (by first | (with_reducible assumption) | assumption);have q2 : a1 < (l0_0.length : Int):=of_decide_eq_true (by first | (with_reducible assumption) | assumption);obtain ⟨ad2,e2,hx2_0,hx2_1,hx2_2,hx2_3,hx2_4⟩:=at_T43 HR0_0.out a1 p2 q2;(try rw [← Nbq11.out] at hx2_4);cases e2;replace hx2_0:=(HB.out.cell (World.block_lt_of_cell? w _ hx2_0)).trans hx2_0;replace hx2_1:=(HB.out.cell (World.block_lt_of_cell? w _ hx2_1)).trans hx2_1;replace hx2_2:=(HB.out.cell (World.block_lt_of_cell? w _ hx2_2)).trans hx2_2;replace hx2_3:=(HB.out.cell (World.block_lt_of_cell? w _ hx2_3)).trans hx2_3;replace hx2_4:=(HB.out.cell (World.block_lt_of_cell? w _ hx2_4)).trans hx2_4;replace p2:=eq_true p2;replace q2:=eq_true q2) | ((with_reducible refine gate_dst (N:=5) rfl ?_);refine box_event ?hg (N:=5) ?hd (cs:=#[.int .i64 0,.int .i64 0,.int .i64 0,.int .i64 0,.bool false]) (t:=43) ?hr ?_;(case hd=>rfl);(case hg=>rfl);(case hr=>first | (go_simp;done) | (go_simp;rfl));intro gb3 hg w15 hbox hb;have n0_:=kb_ BK1 hb;have n1_:=a0_ (below_step hb_ hb);have n2_:=a0_ (hbox);have n3_:=a0_ ((by rw [hg];exact (below_size hb_) : w.heap.size ≤ gb3));have n4_:=a0_ ((by rw [hg];exact (below_size hb_) : w.heap.size ≤ gb3));have n5_:=a0_ ((by rw [hg];exact Nat.ne_of_lt (blk_lt (bb_ BK1.out)) : gb1 ≠ gb3));have n6_:=a0_ ((by rw [hg];exact Nat.ne_of_gt (blk_lt (bb_ BK1.out)) : gb3 ≠ gb1));clear BK1 HB;have BK1:=n0_;have HB:=n1_;have BK3:=n2_;have GW3:=n3_;have GE3:=n4_;have NB1_3:=n5_;have NB3_1:=n6_;clear n0_ n1_ n2_ n3_ n4_ n5_ n6_;clear hb hbox hg;have hnb16:=NB3_1.out;have hnc16:=NB1_3.out;have hcz17_0 : w15.cell? ⟨gb3,0,none⟩ = some (.int .i64 0):=(blk_cell BK3.out 0).trans rfl;have hcz17_1 : w15.cell? ⟨gb3,1,none⟩ = some (.int .i64 0):=(blk_cell BK3.out 1).trans rfl;have hcz17_2 : w15.cell? ⟨gb3,2,none⟩ = some (.int .i64 0):=(blk_cell BK3.out 2).trans rfl;have hcz17_3 : w15.cell? ⟨gb3,3,none⟩ = some (.int .i64 0):=(blk_cell BK3.out 3).trans rfl;have hcz17_4 : w15.cell? ⟨gb3,4,none⟩ = some (.bool false):=(blk_cell BK3.out 4).trans rfl;have hfz17_0:=blk_frozen BK3.out 0;have hfz17_1:=blk_frozen BK3.out 1;have hfz17_2:=blk_frozen BK3.out 2;have hfz17_3:=blk_frozen BK3.out 3;have hfz17_4:=blk_frozen BK3.out 4))
     go_ret
     exact ⟨by first | rfl | (simp [errW_none,errW_some] <;> rfl) | (simp [*,errW_none,errW_some] <;> rfl),hb_⟩
    ·replace c12:=Bool.eq_false_iff.mpr c12
     subst c12
     have H1 : (some ((rd_T43 l0_0 a1).f3)) = some r:=by rw [if_neg (show ¬ (false = true) by decide)] at H;exact H
     clear H
     have H:=H1
     clear H1
     obtain rfl:=Option.some.inj H
     go_enter Try.func37,Try.ntmps37
     go_wp2_with (first | ((with_reducible refine gate_dst (N:=2) rfl ?_);refine box_event ?hg (N:=2) ?hd (cs:=#[.slice A0_0 l0_0.length c0_0]) (t:=28) ?hr ?_;(case hd=>rfl);(case hg=>rfl);(case hr=>first | (go_simp;done) | (go_simp;rfl));intro gb1 hg w18 hbox hb;have BK1:=a0_ (hbox);have GW1:=a0_ ((by rw [hg];exact (below_size hb_) : w.heap.size ≤ gb1));have GE1:=a0_ ((by rw [hg];exact (below_size hb_) : w.heap.size ≤ gb1));replace HB:=a0_ (below_step hb_ hb);clear hb hbox hg;have hcz19_0 : w18.cell? ⟨gb1,0,none⟩ = some (.slice A0_0 l0_0.length c0_0):=(blk_cell BK1.out 0).trans rfl;have hfz19_0:=blk_frozen BK1.out 0;have p2 : 0 ≤ (a1 : Int):=of_decide_eq_true (by first | (with_reducible assumption) | assumption);have q2 : a1 < (l0_0.length : Int):=of_decide_eq_true (by first | (with_reducible assumption) | assumption);obtain ⟨ad2,e2,hx2_0,hx2_1,hx2_2,hx2_3,hx2_4⟩:=at_T43 HR0_0.out a1 p2 q2;(try rw [← Nbq11.out] at hx2_4);cases e2;replace hx2_0:=(HB.out.cell (World.block_lt_of_cell? w _ hx2_0)).trans hx2_0;replace hx2_1:=(HB.out.cell (World.block_lt_of_cell? w _ hx2_1)).trans hx2_1;replace hx2_2:=(HB.out.cell (World.block_lt_of_cell? w _ hx2_2)).trans hx2_2;replace hx2_3:=(HB.out.cell (World.block_lt_of_cell? w _ hx2_3)).trans hx2_3;replace hx2_4:=(HB.out.cell (World.block_lt_of_cell? w _ hx2_4)).trans hx2_4;replace p2:=eq_true p2;replace q2:=eq_true q2) | ((with_reducible refine gate_dst (N:=5) rfl ?_);refine box_event ?hg (N:=5) ?hd (cs:=#[.int .i64 0,.int .i64 0,.int .i64 0,.int .i64 0,.bool false]) (t:=43) ?hr ?_;(case hd=>rfl);(case hg=>rfl);(case hr=>first | (go_simp;done) | (go_simp;rfl));intro gb3 hg w20 hbox hb;have n0_:=kb_ BK1 hb;have n1_:=a0_ (below_step hb_ hb);have n2_:=a0_ (hbox);have n3_:=a0_ ((by rw [hg];exact (below_size hb_) : w.heap.size ≤ gb3));have n4_:=a0_ ((by rw [hg];exact (below_size hb_) : w.heap.size ≤ gb3));have n5_:=a0_ ((by rw [hg];exact Nat.ne_of_lt (blk_lt (bb_ BK1.out)) : gb1 ≠ gb3));have n6_:=a0_ ((by rw [hg];exact Nat.ne_of_gt (blk_lt (bb_ BK1.out)) : gb3 ≠ gb1));clear BK1 HB;have BK1:=n0_;have HB:=n1_;have BK3:=n2_;have GW3:=n3_;have GE3:=n4_;have NB1_3:=n5_;have NB3_1:=n6_;clear n0_ n1_ n2_ n3_ n4_ n5_ n6_;clear hb hbox hg;have hnb21:=NB3_1.out;have hnc21:=NB1_3.out;have hcz22_0 : w20.cell? ⟨gb3,0,none⟩ = some (.int .i64 0):=(blk_cell BK3.out 0).trans rfl;have hcz22_1 : w20.cell? ⟨gb3,1,none⟩ = some (.int .i64 0):=(blk_cell BK3.out 1).trans rfl;have hcz22_2 : w20.cell? ⟨gb3,2,none⟩ = some (.int .i64 0):=(blk_cell BK3.out 2).trans rfl;have hcz22_3 : w20.cell? ⟨gb3,3,none⟩ = some (.int .i64 0):=(blk_cell BK3.out 3).trans rfl;have hcz22_4 : w20.cell? ⟨gb3,4,none⟩ = some (.bool false):=(blk_cell BK3.out 4).trans rfl;have hfz22_0:=blk_frozen BK3.out 0;have hfz22_1:=blk_frozen BK3.out 1;have hfz22_2:=blk_frozen BK3.out 2;have hfz22_3:=blk_frozen BK3.out 3;have hfz22_4:=blk_frozen BK3.out 4))
     go_ret
     exact ⟨by first | rfl | (simp [errW_none,errW_some] <;> rfl) | (simp [*,errW_none,errW_some] <;> rfl),hb_⟩
  ·rw [if_neg c4] at H
   exact absurd H (by simp)
 ·rw [if_neg c3] at H
  exact absurd H (by simp)
theorem impl_Heap_shown_ev (h : List Fau) (f : Int) (h0 : 0 ≤ f) (hf : f < (h.length : Int)) : impl_Heap_shown.f h f = some (shwN h f):=by
 unfold impl_Heap_shown.f shwN
 have hrd : rd_T43 h f = h.getD f.toNat z43:=by simp [rd_T43]
 rw [if_pos h0,if_pos hf,hrd]
 generalize h.getD f.toNat z43 = x
 by_cases h1 : x.f2 ≥ 0
 ·rw [if_pos h1,if_pos h1]
 ·rw [if_neg h1,if_neg h1]
  cases x.f4 <;> rfl
end Go.Proofs.Ytmiholmfbjalfaa.P
namespace Go.Proofs.Ytmiholmfbjalfaa.P
open Go.RowKit Go.Proofs.YtmiholmfbjalfaaW.PrintWords Go.Proofs.YtmiholmfbjalfaaW.PrintLast Go.Proofs.YtmiholmfbjalfaaW.PrintMore
attribute [local go_sem] max2_int min2_int max_two min_two max_three min_three max_four min_four
set_option linter.unusedVariables false
set_option linter.unusedSimpArgs false
def impl_ShownChain.f (l0_0 : List Cls) (l1_0 : List Fau) (a2 : Int) : Option (List Int):=if smT l0_0 = true ∧ l1_0.length ≤ 2097152 then some (shcP l0_0 l1_0 a2) else none
set_option maxHeartbeats 2000000 in
set_option maxRecDepth 100000 in
theorem impl_ShownChain.calls (A0_0 : Option Addr) (c0_0 : Nat) (l0_0 : List (S87)) (A1_0 : Option Addr) (c1_0 : Nat) (l1_0 : List (S43)) (a2 : Int) (r : List Int) (w : World) (hr0_0 : Kd.C k87 w A0_0 l0_0.length l0_0) (hc0_0 : l0_0.length ≤ c0_0) (hr1_0 : Kd.C k43 w A1_0 l1_0.length l1_0) (hc1_0 : l1_0.length ≤ c1_0) (h : impl_ShownChain.f l0_0 l1_0 a2 = some r) :
  Calls Try.prog 11 #[.agg #[.slice A0_0 l0_0.length c0_0],.agg #[.slice A1_0 l1_0.length c1_0],.int .i64 a2] w fun e w'=>∃ v0_ : Value,e = .returned (v0_) ∧ Kd.R (Kd.int .i64) 3 w' w.heap.size (fun _=>True) v0_ r ∧ Below w.heap.size w w':=by
 have hu33:=Try.underlying25
 have hu37:=Try.underlying28
 have hsm : smT l0_0 = true ∧ l1_0.length ≤ 2097152:=by
  apply Classical.byContradiction
  intro hn
  rw [impl_ShownChain.f,if_neg hn] at h
  cases h
 rw [impl_ShownChain.f,if_pos hsm] at h
 obtain rfl:=Option.some.inj h
 clear h
 obtain ⟨y3,hy3⟩ : ∃ y_ : List Int,y_ = [a2]:=⟨_,rfl⟩
 have Ny3:=a0_ hy3
 have HF:=a0_ (fun (A : Option Addr) (c : Nat) (W : World) (hb : Below w.heap.size w W) (hr : Kd.C (Kd.int .i64) W A y3.length y3) (hc : y3.length ≤ c)=>impl_faultsIn.calls A0_0 c0_0 l0_0 A1_0 c1_0 l1_0 A c y3 (vH l0_0 l1_0 && hasF l1_0 a2) W (Kd.C_below hr0_0 hb) hc0_0 (Kd.C_below hr1_0 hb) hc1_0 hr hc (by rw [hy3];exact impl_faultsIn_ev l0_0 l1_0 a2 hsm.1 hsm.2))
 have eg : ∀ args w,(callFunc 37 args).run Try.prog w = .ok (.enter 37 args) w:=enters_of Try.func37 (by kernel_rfl) rfl
 have HW:=a0_ (fun (hf : fsH l0_0 l1_0 = true) (h1 : a2 < (l1_0.length : Int)) (W : World) (hb : Below w.heap.size w W)=>impl_walk.callsF l1_0.length (shwN l1_0) 37 #[.agg #[.slice A1_0 l1_0.length c1_0]] #[] a2 W eg h1 hsm.2 (fun x h0 h1=>(fsH_shw hf x h0 h1).2) (fun x h0 h1 W' hW=>by
  have:=impl_Heap_shown.calls A1_0 c1_0 l1_0 x (shwN l1_0 x) W' (Kd.C_below (Kd.C_below hr1_0 hb) hW) hc1_0 (impl_Heap_shown_ev l1_0 x h0 h1)
  simpa using this))
 have BK1:=a0_ (heap_old2 w (.cells #[.slice A0_0 l0_0.length c0_0] 25) (.cells #[.slice A1_0 l1_0.length c1_0] 28))
 have BK2:=a0_ (heap_new2 w (.cells #[.slice A0_0 l0_0.length c0_0] 25) (.cells #[.slice A1_0 l1_0.length c1_0] 28))
 have HB:=a0_ (below2 w (.cells #[.slice A0_0 l0_0.length c0_0] 25) (.cells #[.slice A1_0 l1_0.length c1_0] 28))
 have hcell:=(blk_cell BK1.out 0).trans rfl
 have hcell2:=(blk_cell BK2.out 0).trans rfl
 have hlm:=hsm.2
 clear hr0_0 hr1_0 hsm eg hy3
 unfold shcP
 cases hq : (vH l0_0 l1_0 && hasF l1_0 a2) with
 | false =>
  rw [hq] at HF
  clear HW hq
  go_enter Try.func11,Try.ntmps11
  go_wp2_with (first | ((with_reducible refine gate_dst (N:=10) rfl ?_);refine Kd.R_lit (Kd.int .i64) _ 3 ?hg (N:=10) ?hd (xs:=([a2] : List Int)) (inner:=[.int .i64 a2]) (ok:=fun _=>True) (okp:=fun _=>True) ?hr ?hp (fun _ hk=>hk) trivial (Below.refl _ _) (Nat.le_refl _) (by simp) ?_;(case hd=>rfl);(case hg=>rfl);(case hr=>first | (go_simp;done) | (go_simp;rfl));(case hp=>exact (Reps.one (show Kd.M (Kd.int .i64) _ _ _ a2 [.int .i64 a2] from rfl) (Reps.none _ _)));intro v4 w12 ho13 hb hg_ hnew_;clear hg_ hnew_;rw [← Ny3.out] at ho13;have HO5:=a0_ ho13;replace BK2:=a0_ (blk_keptB BK2.out hb);replace HB:=a0_ (below_step HB.out hb);clear hb ho13;obtain ⟨Ao14,co14,eo14⟩:=Kd.R_slice HO5.out;subst eo14) | (go_at_call 35;refine (HF.out _ _ _ HB.out (Kd.R_reads' HO5.out).2.2 (Kd.R_reads' HO5.out).2.1).mono ?_;rintro e w' ⟨rfl,hb'⟩;replace BK2:=a0_ (blk_keptB BK2.out hb');replace HB:=a0_ (below_step HB.out hb');clear hb';have hcell2:=(blk_cell BK2.out 0).trans rfl))
  go_ret
  exact ⟨_,rfl,Kd.R_nil _ _ _ _ _,HB.out⟩
 | true =>
  obtain ⟨hfs,h0,h1⟩:=good_parts hq
  rw [hq] at HF
  replace HW:=a0_ (HW.out hfs h1)
  change Aside0 (∀ (W : World) (hb : Below w.heap.size w W),Calls _ _ _ W fun e w'=>∃ v : Value,e = .returned v ∧ Kd.R (Kd.int .i64) 3 w' W.heap.size (fun _=>True) v (shwL l1_0 a2) ∧ Below W.heap.size W w') at HW
  rw [if_pos rfl]
  clear hq hfs h0 h1
  go_enter Try.func11,Try.ntmps11
  go_wp2_with (first | ((with_reducible refine gate_dst (N:=10) rfl ?_);refine Kd.R_lit (Kd.int .i64) _ 3 ?hg (N:=10) ?hd (xs:=([a2] : List Int)) (inner:=[.int .i64 a2]) (ok:=fun _=>True) (okp:=fun _=>True) ?hr ?hp (fun _ hk=>hk) trivial (Below.refl _ _) (Nat.le_refl _) (by simp) ?_;(case hd=>rfl);(case hg=>rfl);(case hr=>first | (go_simp;done) | (go_simp;rfl));(case hp=>exact (Reps.one (show Kd.M (Kd.int .i64) _ _ _ a2 [.int .i64 a2] from rfl) (Reps.none _ _)));intro v4 w12 ho13 hb hg_ hnew_;clear hg_ hnew_;rw [← Ny3.out] at ho13;have HO5:=a0_ ho13;replace BK2:=a0_ (blk_keptB BK2.out hb);replace HB:=a0_ (below_step HB.out hb);clear hb ho13;obtain ⟨Ao14,co14,eo14⟩:=Kd.R_slice HO5.out;subst eo14) | (go_at_call 35;refine (HF.out _ _ _ HB.out (Kd.R_reads' HO5.out).2.2 (Kd.R_reads' HO5.out).2.1).mono ?_;rintro e w' ⟨rfl,hb'⟩;replace BK2:=a0_ (blk_keptB BK2.out hb');replace HB:=a0_ (below_step HB.out hb');clear hb';have hcell2:=(blk_cell BK2.out 0).trans rfl) | (go_at_call 36;refine (HW.out _ HB.out).mono ?_;rintro e w2 ⟨v2,rfl,ho2,hb2⟩;have HO2:=a0_ (Kd.R_lower ho2 (below_size HB.out));replace HB:=a0_ (below_step HB.out hb2);clear ho2 hb2))
  go_ret
  exact ⟨_,rfl,HO2.out,HB.out⟩
theorem impl_ShownChain_ev (t : List Cls) (h : List Fau) (f : Int) (hs : smT t = true) (hl : h.length ≤ 2097152) : impl_ShownChain.f t h f = some (shcP t h f):=by rw [impl_ShownChain.f,if_pos ⟨hs,hl⟩]
end Go.Proofs.Ytmiholmfbjalfaa.P
namespace Go.Proofs.Ytmiholmfbjalfaa.P
open Go.RowKit Go.Proofs.YtmiholmfbjalfaaW.PrintWords Go.Proofs.YtmiholmfbjalfaaW.PrintLast Go.Proofs.YtmiholmfbjalfaaW.PrintMore
attribute [local go_sem] max2_int min2_int max_two min_two max_three min_three max_four min_four
set_option linter.unusedVariables false
set_option linter.unusedSimpArgs false
def laws_equalInts.l0 : Nat → List Int → List Int → Int → Option (Bool)
 | 0,_,_,_=>none
 | k + 1,x0,x1,x5=>if x5 < (x0.length : Int) then (if 0 ≤ x5 then (if x5 < (x1.length : Int) then (if (rd x0 x5) = (rd x1 x5) then (laws_equalInts.l0 k x0 x1 (wrap64 (x5 + 1))) else (some false)) else (none)) else (none)) else (some true)
def laws_equalInts.f (k : Nat) (l0 : List Int) (l1 : List Int) : Option (Bool):=if (l0.length : Int) = (l1.length : Int) then (laws_equalInts.l0 k l0 l1 0) else (some false)
theorem laws_equalInts.mono_l : ∀ k,(∀ y0 y1 y2,LeO (laws_equalInts.l0 k y0 y1 y2) (laws_equalInts.l0 (k + 1) y0 y1 y2))
 | 0=>fun _ _ _ r h=>by simp [laws_equalInts.l0] at h
 | k + 1=>by
  have ih0:=laws_equalInts.mono_l k
  ·intro y0 y1 y2
   unfold laws_equalInts.l0
   repeat' first
   | (with_reducible exact ih0 _ _ _)
   | (with_reducible exact LeO.refl _)
   | (with_reducible exact LeO.none _)
   | (with_reducible refine LeO.ite ?_ ?_)
   | (with_reducible refine LeO.bind ?_ (fun _=>?_))
   | exact ih0 _ _ _
   | exact LeO.none _
   | refine LeO.ite ?_ ?_
   | refine LeO.bind ?_ (fun _=>?_)
theorem laws_equalInts.mono : ∀ a0 a1 k,LeO (laws_equalInts.f k a0 a1) (laws_equalInts.f (k + 1) a0 a1):=by
 intro a0 a1 k
 have ih0:=laws_equalInts.mono_l k
 unfold laws_equalInts.f
 repeat' first
   | (with_reducible exact ih0 _ _ _)
   | (with_reducible exact LeO.refl _)
   | (with_reducible exact LeO.none _)
   | (with_reducible refine LeO.ite ?_ ?_)
   | (with_reducible refine LeO.bind ?_ (fun _=>?_))
   | exact ih0 _ _ _
   | exact LeO.none _
   | refine LeO.ite ?_ ?_
   | refine LeO.bind ?_ (fun _=>?_)
set_option maxHeartbeats 8000000 in
set_option maxRecDepth 100000 in
theorem laws_equalInts.calls (k : Nat) (A0 : Option Addr) (c0 : Nat) (l0 : List Int) (A1 : Option Addr) (c1 : Nat) (l1 : List Int) (r : Bool) (w : World) (hr0 : Kd.C (Kd.int .i64) w A0 l0.length l0) (hc0 : l0.length ≤ c0) (hr1 : Kd.C (Kd.int .i64) w A1 l1.length l1) (hc1 : l1.length ≤ c1) (h : laws_equalInts.f k l0 l1 = some r) :
  Calls Try.prog 12 #[.slice A0 l0.length c0,.slice A1 l1.length c1] w fun e w'=>e = .returned (.bool r) ∧ Drawn0 w w':=by
 have HR0:=a0_ hr0
 have HC0:=a0_ hc0
 clear hr0 hc0
 have HR1:=a0_ hr1
 have HC1:=a0_ hc1
 clear hr1 hc1
 have H : (if (l0.length : Int) = (l1.length : Int) then (laws_equalInts.l0 k l0 l1 0) else (some false)) = some r:=h
 clear h
 by_cases c3 : (l0.length : Int) = (l1.length : Int)
 ·rw [if_pos c3] at H
  have c3b0 : ((l0.length : Int) == (l1.length : Int)) = true:=beq_iff_eq.mpr c3
  have c3b1 : ((l0.length : Int) != (l1.length : Int)) = false:=bne_eq_false_iff_eq.mpr c3
  have c3b2 : (l0.length == l1.length) = true:=by first | simpa using c3 | (simp at c3 ⊢;omega)
  clear c3
  have H':=a0_ H
  clear H
  go_enter Try.func12,Try.ntmps12
  go_wp2
  repeat (go_quiet (fail);try go_wp2)
  go_loopg [5] k (fun kq v5 w'=>∃ (x5_1 : Int),v5 = .int .i64 x5_1 ∧ Aside0 (laws_equalInts.l0 kq l0 l1 x5_1 = some r) ∧ Aside0 (kq ≤ k) ∧ Drawn0 w w')
  case atStart=>exact ⟨(0),(by first | rfl | (simp;done) | (simp [*];done)),H',⟨Nat.le_refl _⟩,by repeat (first | exact Drawn0.refl _ | apply Drawn0.step)⟩
  case round =>
   clear H'
   try clear c1
   try clear p2
   try clear c3
   try clear c3b0
   try clear c3b1
   try clear c3b2
   obtain ⟨x5_1,rfl,HA,HK1,⟨m1,rfl⟩⟩:=hrel
   cases gk with
   | zero=>exact absurd HA.out (by simp [laws_equalInts.l0])
   | succ k1 =>
    have H:=HA.out
    clear HA
    simp only [laws_equalInts.l0] at H
    by_cases c4 : x5_1 < (l0.length : Int)
    ·rw [if_pos c4] at H
     have c4b0 : decide (x5_1 < (l0.length : Int)) = true:=decide_eq_true c4
     clear c4
     by_cases c5 : 0 ≤ x5_1
     ·rw [if_pos c5] at H
      have c5b0 : decide (0 ≤ x5_1) = true:=decide_eq_true c5
      clear c5
      by_cases c6 : x5_1 < (l1.length : Int)
      ·rw [if_pos c6] at H
       have c6b0 : decide (x5_1 < (l1.length : Int)) = true:=decide_eq_true c6
       clear c6
       by_cases c7 : (rd l0 x5_1) = (rd l1 x5_1)
       ·rw [if_pos c7] at H
        have c7b0 : ((rd l0 x5_1) == (rd l1 x5_1)) = true:=beq_iff_eq.mpr c7
        have c7b1 : ((rd l0 x5_1) != (rd l1 x5_1)) = false:=bne_eq_false_iff_eq.mpr c7
        clear c7
        have H':=a0_ H
        clear H
        have p1 : 0 ≤ (x5_1 : Int):=of_decide_eq_true (by first | (with_reducible assumption) | assumption)
        have q1 : x5_1 < (l0.length : Int):=of_decide_eq_true (by first | (with_reducible assumption) | assumption)
        obtain ⟨ad1,e1,hx1_0⟩:=Kd.at_int HR0.out x5_1 p1 q1
        cases e1
        replace p1:=eq_true p1
        replace q1:=eq_true q1
        have p2 : 0 ≤ (x5_1 : Int):=of_decide_eq_true (by first | (with_reducible assumption) | assumption)
        have q2 : x5_1 < (l1.length : Int):=of_decide_eq_true (by first | (with_reducible assumption) | assumption)
        obtain ⟨ad2,e2,hx2_0⟩:=Kd.at_int HR1.out x5_1 p2 q2
        cases e2
        replace p2:=eq_true p2
        replace q2:=eq_true q2
        go_wp2
        repeat (go_quiet (fail);try go_wp2)
        go_roundg k1
        case measure=>have:=HK1.out;omega
        case rel=>exact ⟨(wrap64 (x5_1 + 1)),(by first | rfl | (simp;done) | (simp [*];done)),H',⟨by have:=HK1.out;omega⟩,by repeat (first | exact Drawn0.refl _ | apply Drawn0.step)⟩
       ·rw [if_neg c7] at H
        have c7b0 : ((rd l0 x5_1) == (rd l1 x5_1)) = false:=beq_eq_false_iff_ne.mpr c7
        have c7b1 : ((rd l0 x5_1) != (rd l1 x5_1)) = true:=bne_iff_ne.mpr c7
        obtain rfl:=Option.some.inj H
        have p1 : 0 ≤ (x5_1 : Int):=of_decide_eq_true (by first | (with_reducible assumption) | assumption)
        have q1 : x5_1 < (l0.length : Int):=of_decide_eq_true (by first | (with_reducible assumption) | assumption)
        obtain ⟨ad1,e1,hx1_0⟩:=Kd.at_int HR0.out x5_1 p1 q1
        cases e1
        replace p1:=eq_true p1
        replace q1:=eq_true q1
        have p2 : 0 ≤ (x5_1 : Int):=of_decide_eq_true (by first | (with_reducible assumption) | assumption)
        have q2 : x5_1 < (l1.length : Int):=of_decide_eq_true (by first | (with_reducible assumption) | assumption)
        obtain ⟨ad2,e2,hx2_0⟩:=Kd.at_int HR1.out x5_1 p2 q2
        cases e2
        replace p2:=eq_true p2
        replace q2:=eq_true q2
        go_wp2
        repeat (go_quiet (fail);try go_wp2)
        go_ret
        exact ⟨by first | rfl | (simp;done) | (simp [*];done),by repeat (first | exact Drawn0.refl _ | apply Drawn0.step)⟩
      ·rw [if_neg c6] at H
       exact absurd H (by simp)
     ·rw [if_neg c5] at H
      exact absurd H (by simp)
    ·rw [if_neg c4] at H
     have c4b0 : decide (x5_1 < (l0.length : Int)) = false:=decide_eq_false c4
     clear c4
     obtain rfl:=Option.some.inj H
     go_wp2
     repeat (go_quiet (fail);try go_wp2)
     go_ret
     exact ⟨by first | rfl | (simp;done) | (simp [*];done),by repeat (first | exact Drawn0.refl _ | apply Drawn0.step)⟩
 ·rw [if_neg c3] at H
  have c3b0 : ((l0.length : Int) == (l1.length : Int)) = false:=beq_eq_false_iff_ne.mpr c3
  have c3b1 : ((l0.length : Int) != (l1.length : Int)) = true:=bne_iff_ne.mpr c3
  have c3b2 : (l0.length == l1.length) = false:=by first | simpa using c3 | (simp at c3 ⊢;omega)
  obtain rfl:=Option.some.inj H
  go_enter Try.func12,Try.ntmps12
  go_wp2
  repeat (go_quiet (fail);try go_wp2)
  go_ret
  exact ⟨by first | rfl | (simp;done) | (simp [*];done),by repeat (first | exact Drawn0.refl _ | apply Drawn0.step)⟩
theorem laws_equalInts_ev (l : List Int) (hl : l.length ≤ 9223372036854775806) : Ev (fun k=>laws_equalInts.f k l l) true:=by
 have key : ∀ d j,j + d = l.length → Ev (fun k=>laws_equalInts.l0 k l l (j : Int)) true:=by
  intro d
  induction d with
  | zero =>
   intro j hj
   refine Ev.succ ?_
   simp only [laws_equalInts.l0]
   exact Ev.neg (by omega) (Ev.const rfl)
  | succ d ih =>
   intro j hj
   refine Ev.succ ?_
   simp only [laws_equalInts.l0]
   refine Ev.pos (by omega) (Ev.pos (by omega) (Ev.pos (by omega) (Ev.pos trivial ?_)))
   rw [wrap_succ (i:=(j : Int)) (n:=l.length) (by omega) (by omega) (by omega)]
   exact ih (j + 1) (by omega)
 exact Ev.pos rfl (key l.length 0 (by omega))
end Go.Proofs.Ytmiholmfbjalfaa.P
namespace Go.Proofs.Ytmiholmfbjalfaa.P
open Go.RowKit Go.Proofs.YtmiholmfbjalfaaW.PrintWords Go.Proofs.YtmiholmfbjalfaaW.PrintLast Go.Proofs.YtmiholmfbjalfaaW.PrintMore
attribute [local go_sem] max2_int min2_int max_two min_two max_three min_three max_four min_four
set_option linter.unusedVariables false
set_option linter.unusedSimpArgs false
def spec_inRange.f (a0 : Int) (a1 : Int) (a2 : Int) : Option (Bool):=if a1 ≤ a0 then (some (decide (a0 ≤ a2))) else (some false)
set_option maxHeartbeats 8000000 in
set_option maxRecDepth 100000 in
theorem spec_inRange.calls (a0 : Int) (a1 : Int) (a2 : Int) (r : Bool) (w : World) (h : spec_inRange.f a0 a1 a2 = some r) :
  Calls Try.prog 71 #[.int .i64 a0,.int .i64 a1,.int .i64 a2] w fun e w'=>e = .returned (.bool r) ∧ Drawn0 w w':=by
 have H : (if a1 ≤ a0 then (some (decide (a0 ≤ a2))) else (some false)) = some r:=h
 clear h
 by_cases c4 : a1 ≤ a0
 ·rw [if_pos c4] at H
  have c4b0 : decide (a1 ≤ a0) = true:=decide_eq_true c4
  clear c4
  obtain rfl:=Option.some.inj H
  go_enter Try.func71,Try.ntmps71
  go_wp2
  go_ret
  exact ⟨by first | rfl | (simp;done) | (simp [*];done),by repeat (first | exact Drawn0.refl _ | apply Drawn0.step)⟩
 ·rw [if_neg c4] at H
  have c4b0 : decide (a1 ≤ a0) = false:=decide_eq_false c4
  clear c4
  obtain rfl:=Option.some.inj H
  go_enter Try.func71,Try.ntmps71
  go_wp2
  go_ret
  exact ⟨by first | rfl | (simp;done) | (simp [*];done),by repeat (first | exact Drawn0.refl _ | apply Drawn0.step)⟩
theorem spec_inRange_ev (a b c : Int) : spec_inRange.f a b c = some (decide (b ≤ a) && decide (a ≤ c)):=by
 unfold spec_inRange.f
 by_cases h : b ≤ a
 ·rw [if_pos h];simp [h]
 ·rw [if_neg h];simp [h]
end Go.Proofs.Ytmiholmfbjalfaa.P
namespace Go.Proofs.Ytmiholmfbjalfaa.P
open Go.RowKit Go.Proofs.YtmiholmfbjalfaaW.PrintWords Go.Proofs.YtmiholmfbjalfaaW.PrintLast Go.Proofs.YtmiholmfbjalfaaW.PrintMore
attribute [local go_sem] max2_int min2_int max_two min_two max_three min_three max_four min_four
set_option linter.unusedVariables false
set_option linter.unusedSimpArgs false
def spec_hasClass.f (l0_0 : List (S87)) (a1 : Int) : Option (Bool):=(spec_inRange.f a1 0 (wrap64 ((l0_0.length : Int) - 1))).bind fun t2=>(some t2)
set_option maxHeartbeats 8000000 in
set_option maxRecDepth 100000 in
theorem spec_hasClass.calls (A0_0 : Option Addr) (c0_0 : Nat) (l0_0 : List (S87)) (a1 : Int) (r : Bool) (w : World) (hr0_0 : Kd.C k87 w A0_0 l0_0.length l0_0) (hc0_0 : l0_0.length ≤ c0_0) (h : spec_hasClass.f l0_0 a1 = some r) :
  Calls Try.prog 70 #[.agg #[.slice A0_0 l0_0.length c0_0],.int .i64 a1] w fun e w'=>e = .returned (.bool r) ∧ Below w.heap.size w w':=by
 have hu25:=Try.underlying25
 have HR0_0:=a0_ hr0_0
 have HC0_0:=a0_ hc0_0
 clear hr0_0 hc0_0
 have HB:=a0_ (Below.refl w.heap.size w)
 have H : ((spec_inRange.f a1 0 (wrap64 ((l0_0.length : Int) - 1))).bind fun t2=>(some t2)) = some r:=h
 clear h
 replace H:=Option.bind_eq_some_iff.mp H
 obtain ⟨t2,A30,H⟩:=H
 replace H : (some t2) = some r:=H
 have A3:=a0_ A30
 clear A30
 obtain rfl:=Option.some.inj H
 go_enter Try.func70,Try.ntmps70
 go_wp2_with (first | ((with_reducible refine gate_dst (N:=2) rfl ?_);refine box_event ?hg (N:=2) ?hd (cs:=#[.slice A0_0 l0_0.length c0_0]) (t:=25) ?hr ?_;(case hd=>rfl);(case hg=>rfl);(case hr=>first | (go_simp;done) | (go_simp;rfl));intro gb1 hg w4 hbox hb;have BK1:=a0_ (hbox);have GW1:=a0_ ((by rw [hg];exact (below_size hb_) : w.heap.size ≤ gb1));have GE1:=a0_ ((by rw [hg];exact (below_size hb_) : w.heap.size ≤ gb1));replace HB:=a0_ (below_step hb_ hb);clear hb hbox hg;have hcz5_0 : w4.cell? ⟨gb1,0,none⟩ = some (.slice A0_0 l0_0.length c0_0):=(blk_cell BK1.out 0).trans rfl;have hfz5_0:=blk_frozen BK1.out 0) | ((with_reducible refine gate_callee (f:=71) rfl ?_);refine goesL_ (some 10) rfl rfl Try.func71 (by kernel_rfl) rfl #[.int .i64 a1,.int .i64 0,.int .i64 (wrap64 ((l0_0.length : Int) - 1))] rfl lm_ ?_;(with_reducible refine (spec_inRange.calls a1 0 (wrap64 ((l0_0.length : Int) - 1)) t2 _ A3.out).mono ?_);rintro e w' ⟨rfl,⟨nd,rfl⟩⟩;refine ⟨_,rfl,?_⟩))
 go_ret
 exact ⟨by first | rfl | (simp [errW_none,errW_some] <;> rfl) | (simp [*,errW_none,errW_some] <;> rfl),hb_⟩
theorem spec_hasClass_ev (t : List Cls) (a : Int) (hl : t.length ≤ 9223372036854775807) : spec_hasClass.f t a = some (hasC t a):=by
 unfold spec_hasClass.f spec_inRange.f hasC
 rw [wrap_pred (by omega) (by omega)]
 by_cases h0 : 0 ≤ a
 ·rw [if_pos h0]
  simp only [Option.bind_some,Option.some.injEq,decide_eq_true h0,Bool.true_and]
  by_cases h1 : a < (t.length : Int)
  ·rw [decide_eq_true h1,decide_eq_true (by omega)]
  ·rw [decide_eq_false h1,decide_eq_false (by omega)]
 ·rw [if_neg h0]
  simp [decide_eq_false h0]
end Go.Proofs.Ytmiholmfbjalfaa.P
namespace Go.Proofs.Ytmiholmfbjalfaa.P
open Go.RowKit Go.Proofs.YtmiholmfbjalfaaW.PrintWords Go.Proofs.YtmiholmfbjalfaaW.PrintLast Go.Proofs.YtmiholmfbjalfaaW.PrintMore
attribute [local go_sem] max2_int min2_int max_two min_two max_three min_three max_four min_four
set_option linter.unusedVariables false
set_option linter.unusedSimpArgs false
def spec_validLinks.f (l0_0 : List (S43)) (a1 : Int) : Option (Bool):=if 0 ≤ a1 then (if a1 < (l0_0.length : Int) then ((spec_inRange.f ((rd_T43 l0_0 a1).f2) (-1) (wrap64 ((l0_0.length : Int) - 1))).bind fun t4=>(if t4 = true then ((spec_inRange.f ((rd_T43 l0_0 a1).f3) (-1) (wrap64 ((l0_0.length : Int) - 1))).bind fun t5=>(if t5 = true then (if ((rd_T43 l0_0 a1).f2) = a1 then (some false) else (some (((rd_T43 l0_0 a1).f3) != a1))) else (some false))) else (some false))) else (none)) else (none)
set_option maxHeartbeats 8000000 in
set_option maxRecDepth 100000 in
theorem spec_validLinks.calls (A0_0 : Option Addr) (c0_0 : Nat) (l0_0 : List (S43)) (a1 : Int) (r : Bool) (w : World) (hr0_0 : Kd.C k43 w A0_0 l0_0.length l0_0) (hc0_0 : l0_0.length ≤ c0_0) (h : spec_validLinks.f l0_0 a1 = some r) :
  Calls Try.prog 72 #[.agg #[.slice A0_0 l0_0.length c0_0],.int .i64 a1] w fun e w'=>e = .returned (.bool r) ∧ Below w.heap.size w w':=by
 have hu28:=Try.underlying28
 have hu43:=Try.underlying43
 have HR0_0:=a0_ hr0_0
 have HC0_0:=a0_ hc0_0
 clear hr0_0 hc0_0
 have HB:=a0_ (Below.refl w.heap.size w)
 have H : (if 0 ≤ a1 then (if a1 < (l0_0.length : Int) then ((spec_inRange.f ((rd_T43 l0_0 a1).f2) (-1) (wrap64 ((l0_0.length : Int) - 1))).bind fun t4=>(if t4 = true then ((spec_inRange.f ((rd_T43 l0_0 a1).f3) (-1) (wrap64 ((l0_0.length : Int) - 1))).bind fun t5=>(if t5 = true then (if ((rd_T43 l0_0 a1).f2) = a1 then (some false) else (some (((rd_T43 l0_0 a1).f3) != a1))) else (some false))) else (some false))) else (none)) else (none)) = some r:=h
 clear h
 by_cases c3 : 0 ≤ a1
 ·rw [if_pos c3] at H
  have c3b0 : decide (0 ≤ a1) = true:=decide_eq_true c3
  clear c3
  by_cases c4 : a1 < (l0_0.length : Int)
  ·rw [if_pos c4] at H
   have c4b0 : decide (a1 < (l0_0.length : Int)) = true:=decide_eq_true c4
   clear c4
   replace H:=Option.bind_eq_some_iff.mp H
   obtain ⟨t4,A50,H⟩:=H
   try dsimp only at H
   have A5:=a0_ A50
   clear A50
   by_cases c6 : t4 = true
   ·subst c6
    have H1 : ((spec_inRange.f ((rd_T43 l0_0 a1).f3) (-1) (wrap64 ((l0_0.length : Int) - 1))).bind fun t5=>(if t5 = true then (if ((rd_T43 l0_0 a1).f2) = a1 then (some false) else (some (((rd_T43 l0_0 a1).f3) != a1))) else (some false))) = some r:=by rw [if_pos rfl] at H;exact H
    clear H
    have H:=H1
    clear H1
    replace H:=Option.bind_eq_some_iff.mp H
    obtain ⟨t5,A70,H⟩:=H
    try dsimp only at H
    have A7:=a0_ A70
    clear A70
    by_cases c8 : t5 = true
    ·subst c8
     have H1 : (if ((rd_T43 l0_0 a1).f2) = a1 then (some false) else (some (((rd_T43 l0_0 a1).f3) != a1))) = some r:=by rw [if_pos rfl] at H;exact H
     clear H
     have H:=H1
     clear H1
     by_cases c9 : ((rd_T43 l0_0 a1).f2) = a1
     ·rw [if_pos c9] at H
      have c9b0 : (((rd_T43 l0_0 a1).f2) == a1) = true:=beq_iff_eq.mpr c9
      have c9b1 : (((rd_T43 l0_0 a1).f2) != a1) = false:=bne_eq_false_iff_eq.mpr c9
      clear c9
      obtain rfl:=Option.some.inj H
      go_enter Try.func72,Try.ntmps72
      go_wp2_with (first | ((with_reducible refine gate_dst (N:=2) rfl ?_);refine box_event ?hg (N:=2) ?hd (cs:=#[.slice A0_0 l0_0.length c0_0]) (t:=28) ?hr ?_;(case hd=>rfl);(case hg=>rfl);(case hr=>first | (go_simp;done) | (go_simp;rfl));intro gb1 hg w10 hbox hb;have BK1:=a0_ (hbox);have GW1:=a0_ ((by rw [hg];exact (below_size hb_) : w.heap.size ≤ gb1));have GE1:=a0_ ((by rw [hg];exact (below_size hb_) : w.heap.size ≤ gb1));replace HB:=a0_ (below_step hb_ hb);clear hb hbox hg;have hcz11_0 : w10.cell? ⟨gb1,0,none⟩ = some (.slice A0_0 l0_0.length c0_0):=(blk_cell BK1.out 0).trans rfl;have hfz11_0:=blk_frozen BK1.out 0;have p2 : 0 ≤ (a1 : Int):=of_decide_eq_true (by first | (with_reducible assumption) | assumption);have q2 : a1 < (l0_0.length : Int):=of_decide_eq_true (by first | (with_reducible assumption) | assumption);obtain ⟨ad2,e2,hx2_0,hx2_1,hx2_2,hx2_3,hx2_4⟩:=at_T43 HR0_0.out a1 p2 q2;cases e2;replace hx2_0:=(HB.out.cell (World.block_lt_of_cell? w _ hx2_0)).trans hx2_0;replace hx2_1:=(HB.out.cell (World.block_lt_of_cell? w _ hx2_1)).trans hx2_1;replace hx2_2:=(HB.out.cell (World.block_lt_of_cell? w _ hx2_2)).trans hx2_2;replace hx2_3:=(HB.out.cell (World.block_lt_of_cell? w _ hx2_3)).trans hx2_3;replace hx2_4:=(HB.out.cell (World.block_lt_of_cell? w _ hx2_4)).trans hx2_4;replace p2:=eq_true p2;replace q2:=eq_true q2) | ((with_reducible refine gate_dst (N:=6) rfl ?_);refine box_event ?hg (N:=6) ?hd (cs:=#[.int .i64 0,.int .i64 0,.int .i64 0,.int .i64 0,.bool false]) (t:=43) ?hr ?_;(case hd=>rfl);(case hg=>rfl);(case hr=>first | (go_simp;done) | (go_simp;rfl));intro gb3 hg w12 hbox hb;have n0_:=kb_ BK1 hb;have n1_:=a0_ (below_step hb_ hb);have n2_:=a0_ (hbox);have n3_:=a0_ ((by rw [hg];exact (below_size hb_) : w.heap.size ≤ gb3));have n4_:=a0_ ((by rw [hg];exact (below_size hb_) : w.heap.size ≤ gb3));have n5_:=a0_ ((by rw [hg];exact Nat.ne_of_lt (blk_lt (bb_ BK1.out)) : gb1 ≠ gb3));have n6_:=a0_ ((by rw [hg];exact Nat.ne_of_gt (blk_lt (bb_ BK1.out)) : gb3 ≠ gb1));clear BK1 HB;have BK1:=n0_;have HB:=n1_;have BK3:=n2_;have GW3:=n3_;have GE3:=n4_;have NB1_3:=n5_;have NB3_1:=n6_;clear n0_ n1_ n2_ n3_ n4_ n5_ n6_;clear hb hbox hg;have hnb13:=NB3_1.out;have hnc13:=NB1_3.out;have hcz14_0 : w12.cell? ⟨gb3,0,none⟩ = some (.int .i64 0):=(blk_cell BK3.out 0).trans rfl;have hcz14_1 : w12.cell? ⟨gb3,1,none⟩ = some (.int .i64 0):=(blk_cell BK3.out 1).trans rfl;have hcz14_2 : w12.cell? ⟨gb3,2,none⟩ = some (.int .i64 0):=(blk_cell BK3.out 2).trans rfl;have hcz14_3 : w12.cell? ⟨gb3,3,none⟩ = some (.int .i64 0):=(blk_cell BK3.out 3).trans rfl;have hcz14_4 : w12.cell? ⟨gb3,4,none⟩ = some (.bool false):=(blk_cell BK3.out 4).trans rfl;have hfz14_0:=blk_frozen BK3.out 0;have hfz14_1:=blk_frozen BK3.out 1;have hfz14_2:=blk_frozen BK3.out 2;have hfz14_3:=blk_frozen BK3.out 3;have hfz14_4:=blk_frozen BK3.out 4) | ((with_reducible refine gate_callee (f:=71) rfl ?_);refine goesL_ (some 19) rfl rfl Try.func71 (by kernel_rfl) rfl #[.int .i64 ((rd_T43 l0_0 a1).f2),.int .i64 (-1),.int .i64 (wrap64 ((l0_0.length : Int) - 1))] rfl lm_ ?_;(with_reducible refine (spec_inRange.calls ((rd_T43 l0_0 a1).f2) (-1) (wrap64 ((l0_0.length : Int) - 1)) true _ A5.out).mono ?_);rintro e w' ⟨rfl,⟨nd,rfl⟩⟩;refine ⟨_,rfl,?_⟩) | (go_at_call 71;(with_reducible refine (spec_inRange.calls ((rd_T43 l0_0 a1).f3) (-1) (wrap64 ((l0_0.length : Int) - 1)) true _ A7.out).mono ?_);rintro e w' ⟨rfl,⟨nd,rfl⟩⟩))
      go_ret
      exact ⟨by first | rfl | (simp [errW_none,errW_some] <;> rfl) | (simp [*,errW_none,errW_some] <;> rfl),hb_⟩
     ·rw [if_neg c9] at H
      have c9b0 : (((rd_T43 l0_0 a1).f2) == a1) = false:=beq_eq_false_iff_ne.mpr c9
      have c9b1 : (((rd_T43 l0_0 a1).f2) != a1) = true:=bne_iff_ne.mpr c9
      obtain rfl:=Option.some.inj H
      go_enter Try.func72,Try.ntmps72
      go_wp2_with (first | ((with_reducible refine gate_dst (N:=2) rfl ?_);refine box_event ?hg (N:=2) ?hd (cs:=#[.slice A0_0 l0_0.length c0_0]) (t:=28) ?hr ?_;(case hd=>rfl);(case hg=>rfl);(case hr=>first | (go_simp;done) | (go_simp;rfl));intro gb1 hg w15 hbox hb;have BK1:=a0_ (hbox);have GW1:=a0_ ((by rw [hg];exact (below_size hb_) : w.heap.size ≤ gb1));have GE1:=a0_ ((by rw [hg];exact (below_size hb_) : w.heap.size ≤ gb1));replace HB:=a0_ (below_step hb_ hb);clear hb hbox hg;have hcz16_0 : w15.cell? ⟨gb1,0,none⟩ = some (.slice A0_0 l0_0.length c0_0):=(blk_cell BK1.out 0).trans rfl;have hfz16_0:=blk_frozen BK1.out 0;have p2 : 0 ≤ (a1 : Int):=of_decide_eq_true (by first | (with_reducible assumption) | assumption);have q2 : a1 < (l0_0.length : Int):=of_decide_eq_true (by first | (with_reducible assumption) | assumption);obtain ⟨ad2,e2,hx2_0,hx2_1,hx2_2,hx2_3,hx2_4⟩:=at_T43 HR0_0.out a1 p2 q2;cases e2;replace hx2_0:=(HB.out.cell (World.block_lt_of_cell? w _ hx2_0)).trans hx2_0;replace hx2_1:=(HB.out.cell (World.block_lt_of_cell? w _ hx2_1)).trans hx2_1;replace hx2_2:=(HB.out.cell (World.block_lt_of_cell? w _ hx2_2)).trans hx2_2;replace hx2_3:=(HB.out.cell (World.block_lt_of_cell? w _ hx2_3)).trans hx2_3;replace hx2_4:=(HB.out.cell (World.block_lt_of_cell? w _ hx2_4)).trans hx2_4;replace p2:=eq_true p2;replace q2:=eq_true q2) | ((with_reducible refine gate_dst (N:=6) rfl ?_);refine box_event ?hg (N:=6) ?hd (cs:=#[.int .i64 0,.int .i64 0,.int .i64 0,.int .i64 0,.bool false]) (t:=43) ?hr ?_;(case hd=>rfl);(case hg=>rfl);(case hr=>first | (go_simp;done) | (go_simp;rfl));intro gb3 hg w17 hbox hb;have n0_:=kb_ BK1 hb;have n1_:=a0_ (below_step hb_ hb);have n2_:=a0_ (hbox);have n3_:=a0_ ((by rw [hg];exact (below_size hb_) : w.heap.size ≤ gb3));have n4_:=a0_ ((by rw [hg];exact (below_size hb_) : w.heap.size ≤ gb3));have n5_:=a0_ ((by rw [hg];exact Nat.ne_of_lt (blk_lt (bb_ BK1.out)) : gb1 ≠ gb3));have n6_:=a0_ ((by rw [hg];exact Nat.ne_of_gt (blk_lt (bb_ BK1.out)) : gb3 ≠ gb1));clear BK1 HB;have BK1:=n0_;have HB:=n1_;have BK3:=n2_;have GW3:=n3_;have GE3:=n4_;have NB1_3:=n5_;have NB3_1:=n6_;clear n0_ n1_ n2_ n3_ n4_ n5_ n6_;clear hb hbox hg;have hnb18:=NB3_1.out;have hnc18:=NB1_3.out;have hcz19_0 : w17.cell? ⟨gb3,0,none⟩ = some (.int .i64 0):=(blk_cell BK3.out 0).trans rfl;have hcz19_1 : w17.cell? ⟨gb3,1,none⟩ = some (.int .i64 0):=(blk_cell BK3.out 1).trans rfl;have hcz19_2 : w17.cell? ⟨gb3,2,none⟩ = some (.int .i64 0):=(blk_cell BK3.out 2).trans rfl;have hcz19_3 : w17.cell? ⟨gb3,3,none⟩ = some (.int .i64 0):=(blk_cell BK3.out 3).trans rfl;have hcz19_4 : w17.cell? ⟨gb3,4,none⟩ = some (.bool false):=(blk_cell BK3.out 4).trans rfl;have hfz19_0:=blk_frozen BK3.out 0;have hfz19_1:=blk_frozen BK3.out 1;have hfz19_2:=blk_frozen BK3.out 2;have hfz19_3:=blk_frozen BK3.out 3;have hfz19_4:=blk_frozen BK3.out 4) | ((with_reducible refine gate_callee (f:=71) rfl ?_);refine goesL_ (some 19) rfl rfl Try.func71 (by kernel_rfl) rfl #[.int .i64 ((rd_T43 l0_0 a1).f2),.int .i64 (-1),.int .i64 (wrap64 ((l0_0.length : Int) - 1))] rfl lm_ ?_;(with_reducible refine (spec_inRange.calls ((rd_T43 l0_0 a1).f2) (-1) (wrap64 ((l0_0.length : Int) - 1)) true _ A5.out).mono ?_);rintro e w' ⟨rfl,⟨nd,rfl⟩⟩;refine ⟨_,rfl,?_⟩) | (go_at_call 71;(with_reducible refine (spec_inRange.calls ((rd_T43 l0_0 a1).f3) (-1) (wrap64 ((l0_0.length : Int) - 1)) true _ A7.out).mono ?_);rintro e w' ⟨rfl,⟨nd,rfl⟩⟩))
      go_ret
      exact ⟨by first | rfl | (simp [errW_none,errW_some] <;> rfl) | (simp [*,errW_none,errW_some] <;> rfl),hb_⟩
    ·replace c8:=Bool.eq_false_iff.mpr c8
     subst c8
     have H1 : (some false) = some r:=by rw [if_neg (show ¬ (false = true) by decide)] at H;exact H
     clear H
     have H:=H1
     clear H1
     obtain rfl:=Option.some.inj H
     go_enter Try.func72,Try.ntmps72
     go_wp2_with (first | ((with_reducible refine gate_dst (N:=2) rfl ?_);refine box_event ?hg (N:=2) ?hd (cs:=#[.slice A0_0 l0_0.length c0_0]) (t:=28) ?hr ?_;(case hd=>rfl);(case hg=>rfl);(case hr=>first | (go_simp;done) | (go_simp;rfl));intro gb1 hg w20 hbox hb;have BK1:=a0_ (hbox);have GW1:=a0_ ((by rw [hg];exact (below_size hb_) : w.heap.size ≤ gb1));have GE1:=a0_ ((by rw [hg];exact (below_size hb_) : w.heap.size ≤ gb1));replace HB:=a0_ (below_step hb_ hb);clear hb hbox hg;have hcz21_0 : w20.cell? ⟨gb1,0,none⟩ = some (.slice A0_0 l0_0.length c0_0):=(blk_cell BK1.out 0).trans rfl;have hfz21_0:=blk_frozen BK1.out 0;have p2 : 0 ≤ (a1 : Int):=of_decide_eq_true (by first | (with_reducible assumption) | assumption);have q2 : a1 < (l0_0.length : Int):=of_decide_eq_true (by first | (with_reducible assumption) | assumption);obtain ⟨ad2,e2,hx2_0,hx2_1,hx2_2,hx2_3,hx2_4⟩:=at_T43 HR0_0.out a1 p2 q2;cases e2;replace hx2_0:=(HB.out.cell (World.block_lt_of_cell? w _ hx2_0)).trans hx2_0;replace hx2_1:=(HB.out.cell (World.block_lt_of_cell? w _ hx2_1)).trans hx2_1;replace hx2_2:=(HB.out.cell (World.block_lt_of_cell? w _ hx2_2)).trans hx2_2;replace hx2_3:=(HB.out.cell (World.block_lt_of_cell? w _ hx2_3)).trans hx2_3;replace hx2_4:=(HB.out.cell (World.block_lt_of_cell? w _ hx2_4)).trans hx2_4;replace p2:=eq_true p2;replace q2:=eq_true q2) | ((with_reducible refine gate_dst (N:=6) rfl ?_);refine box_event ?hg (N:=6) ?hd (cs:=#[.int .i64 0,.int .i64 0,.int .i64 0,.int .i64 0,.bool false]) (t:=43) ?hr ?_;(case hd=>rfl);(case hg=>rfl);(case hr=>first | (go_simp;done) | (go_simp;rfl));intro gb3 hg w22 hbox hb;have n0_:=kb_ BK1 hb;have n1_:=a0_ (below_step hb_ hb);have n2_:=a0_ (hbox);have n3_:=a0_ ((by rw [hg];exact (below_size hb_) : w.heap.size ≤ gb3));have n4_:=a0_ ((by rw [hg];exact (below_size hb_) : w.heap.size ≤ gb3));have n5_:=a0_ ((by rw [hg];exact Nat.ne_of_lt (blk_lt (bb_ BK1.out)) : gb1 ≠ gb3));have n6_:=a0_ ((by rw [hg];exact Nat.ne_of_gt (blk_lt (bb_ BK1.out)) : gb3 ≠ gb1));clear BK1 HB;have BK1:=n0_;have HB:=n1_;have BK3:=n2_;have GW3:=n3_;have GE3:=n4_;have NB1_3:=n5_;have NB3_1:=n6_;clear n0_ n1_ n2_ n3_ n4_ n5_ n6_;clear hb hbox hg;have hnb23:=NB3_1.out;have hnc23:=NB1_3.out;have hcz24_0 : w22.cell? ⟨gb3,0,none⟩ = some (.int .i64 0):=(blk_cell BK3.out 0).trans rfl;have hcz24_1 : w22.cell? ⟨gb3,1,none⟩ = some (.int .i64 0):=(blk_cell BK3.out 1).trans rfl;have hcz24_2 : w22.cell? ⟨gb3,2,none⟩ = some (.int .i64 0):=(blk_cell BK3.out 2).trans rfl;have hcz24_3 : w22.cell? ⟨gb3,3,none⟩ = some (.int .i64 0):=(blk_cell BK3.out 3).trans rfl;have hcz24_4 : w22.cell? ⟨gb3,4,none⟩ = some (.bool false):=(blk_cell BK3.out 4).trans rfl;have hfz24_0:=blk_frozen BK3.out 0;have hfz24_1:=blk_frozen BK3.out 1;have hfz24_2:=blk_frozen BK3.out 2;have hfz24_3:=blk_frozen BK3.out 3;have hfz24_4:=blk_frozen BK3.out 4) | ((with_reducible refine gate_callee (f:=71) rfl ?_);refine goesL_ (some 19) rfl rfl Try.func71 (by kernel_rfl) rfl #[.int .i64 ((rd_T43 l0_0 a1).f2),.int .i64 (-1),.int .i64 (wrap64 ((l0_0.length : Int) - 1))] rfl lm_ ?_;(with_reducible refine (spec_inRange.calls ((rd_T43 l0_0 a1).f2) (-1) (wrap64 ((l0_0.length : Int) - 1)) true _ A5.out).mono ?_);rintro e w' ⟨rfl,⟨nd,rfl⟩⟩;refine ⟨_,rfl,?_⟩) | (go_at_call 71;(with_reducible refine (spec_inRange.calls ((rd_T43 l0_0 a1).f3) (-1) (wrap64 ((l0_0.length : Int) - 1)) false _ A7.out).mono ?_);rintro e w' ⟨rfl,⟨nd,rfl⟩⟩))
     go_ret
     exact ⟨by first | rfl | (simp [errW_none,errW_some] <;> rfl) | (simp [*,errW_none,errW_some] <;> rfl),hb_⟩
   ·replace c6:=Bool.eq_false_iff.mpr c6
    subst c6
    have H1 : (some false) = some r:=by rw [if_neg (show ¬ (false = true) by decide)] at H;exact H
    clear H
    have H:=H1
    clear H1
    obtain rfl:=Option.some.inj H
    go_enter Try.func72,Try.ntmps72
    go_wp2_with (first | ((with_reducible refine gate_dst (N:=2) rfl ?_);refine box_event ?hg (N:=2) ?hd (cs:=#[.slice A0_0 l0_0.length c0_0]) (t:=28) ?hr ?_;(case hd=>rfl);(case hg=>rfl);(case hr=>first | (go_simp;done) | (go_simp;rfl));intro gb1 hg w25 hbox hb;have BK1:=a0_ (hbox);have GW1:=a0_ ((by rw [hg];exact (below_size hb_) : w.heap.size ≤ gb1));have GE1:=a0_ ((by rw [hg];exact (below_size hb_) : w.heap.size ≤ gb1));replace HB:=a0_ (below_step hb_ hb);clear hb hbox hg;have hcz26_0 : w25.cell? ⟨gb1,0,none⟩ = some (.slice A0_0 l0_0.length c0_0):=(blk_cell BK1.out 0).trans rfl;have hfz26_0:=blk_frozen BK1.out 0;have p2 : 0 ≤ (a1 : Int):=of_decide_eq_true (by first | (with_reducible assumption) | assumption);have q2 : a1 < (l0_0.length : Int):=of_decide_eq_true (by first | (with_reducible assumption) | assumption);obtain ⟨ad2,e2,hx2_0,hx2_1,hx2_2,hx2_3,hx2_4⟩:=at_T43 HR0_0.out a1 p2 q2;cases e2;replace hx2_0:=(HB.out.cell (World.block_lt_of_cell? w _ hx2_0)).trans hx2_0;replace hx2_1:=(HB.out.cell (World.block_lt_of_cell? w _ hx2_1)).trans hx2_1;replace hx2_2:=(HB.out.cell (World.block_lt_of_cell? w _ hx2_2)).trans hx2_2;replace hx2_3:=(HB.out.cell (World.block_lt_of_cell? w _ hx2_3)).trans hx2_3;replace hx2_4:=(HB.out.cell (World.block_lt_of_cell? w _ hx2_4)).trans hx2_4;replace p2:=eq_true p2;replace q2:=eq_true q2) | ((with_reducible refine gate_dst (N:=6) rfl ?_);refine box_event ?hg (N:=6) ?hd (cs:=#[.int .i64 0,.int .i64 0,.int .i64 0,.int .i64 0,.bool false]) (t:=43) ?hr ?_;(case hd=>rfl);(case hg=>rfl);(case hr=>first | (go_simp;done) | (go_simp;rfl));intro gb3 hg w27 hbox hb;have n0_:=kb_ BK1 hb;have n1_:=a0_ (below_step hb_ hb);have n2_:=a0_ (hbox);have n3_:=a0_ ((by rw [hg];exact (below_size hb_) : w.heap.size ≤ gb3));have n4_:=a0_ ((by rw [hg];exact (below_size hb_) : w.heap.size ≤ gb3));have n5_:=a0_ ((by rw [hg];exact Nat.ne_of_lt (blk_lt (bb_ BK1.out)) : gb1 ≠ gb3));have n6_:=a0_ ((by rw [hg];exact Nat.ne_of_gt (blk_lt (bb_ BK1.out)) : gb3 ≠ gb1));clear BK1 HB;have BK1:=n0_;have HB:=n1_;have BK3:=n2_;have GW3:=n3_;have GE3:=n4_;have NB1_3:=n5_;have NB3_1:=n6_;clear n0_ n1_ n2_ n3_ n4_ n5_ n6_;clear hb hbox hg;have hnb28:=NB3_1.out;have hnc28:=NB1_3.out;have hcz29_0 : w27.cell? ⟨gb3,0,none⟩ = some (.int .i64 0):=(blk_cell BK3.out 0).trans rfl;have hcz29_1 : w27.cell? ⟨gb3,1,none⟩ = some (.int .i64 0):=(blk_cell BK3.out 1).trans rfl;have hcz29_2 : w27.cell? ⟨gb3,2,none⟩ = some (.int .i64 0):=(blk_cell BK3.out 2).trans rfl;have hcz29_3 : w27.cell? ⟨gb3,3,none⟩ = some (.int .i64 0):=(blk_cell BK3.out 3).trans rfl;have hcz29_4 : w27.cell? ⟨gb3,4,none⟩ = some (.bool false):=(blk_cell BK3.out 4).trans rfl;have hfz29_0:=blk_frozen BK3.out 0;have hfz29_1:=blk_frozen BK3.out 1;have hfz29_2:=blk_frozen BK3.out 2;have hfz29_3:=blk_frozen BK3.out 3;have hfz29_4:=blk_frozen BK3.out 4) | ((with_reducible refine gate_callee (f:=71) rfl ?_);refine goesL_ (some 19) rfl rfl Try.func71 (by kernel_rfl) rfl #[.int .i64 ((rd_T43 l0_0 a1).f2),.int .i64 (-1),.int .i64 (wrap64 ((l0_0.length : Int) - 1))] rfl lm_ ?_;(with_reducible refine (spec_inRange.calls ((rd_T43 l0_0 a1).f2) (-1) (wrap64 ((l0_0.length : Int) - 1)) false _ A5.out).mono ?_);rintro e w' ⟨rfl,⟨nd,rfl⟩⟩;refine ⟨_,rfl,?_⟩))
    go_ret
    exact ⟨by first | rfl | (simp [errW_none,errW_some] <;> rfl) | (simp [*,errW_none,errW_some] <;> rfl),hb_⟩
  ·rw [if_neg c4] at H
   exact absurd H (by simp)
 ·rw [if_neg c3] at H
  exact absurd H (by simp)
theorem spec_validLinks_ev (h : List Fau) (i : Nat) (hi : i < h.length) (hl : h.length ≤ 9223372036854775807) : spec_validLinks.f h (i : Int) = some (lnkB h (i : Int) (h.getD i z43).f2 && lnkB h (i : Int) (h.getD i z43).f3):=by
 unfold spec_validLinks.f
 have hrd : rd_T43 h (i : Int) = h.getD i z43:=by simp [rd_T43]
 rw [if_pos (by omega),if_pos (by omega),hrd,wrap_in (by omega) (by omega),spec_inRange_ev,spec_inRange_ev]
 generalize (h.getD i z43).f2 = a
 generalize (h.getD i z43).f3 = b
 have key : ∀ u : Int,lnkB h (i : Int) u = ((decide (-1 ≤ u) && decide (u ≤ (h.length : Int) - 1)) && (u != (i : Int))):=by
  intro u
  unfold lnkB hasF
  rw [Bool.eq_iff_iff]
  simp only [Bool.or_eq_true,Bool.and_eq_true,beq_iff_eq,decide_eq_true_eq,bne_iff_ne]
  omega
 rw [key a,key b]
 generalize (decide (-1 ≤ a) && decide (a ≤ (h.length : Int) - 1)) = p
 generalize (decide (-1 ≤ b) && decide (b ≤ (h.length : Int) - 1)) = q
 simp only [Option.bind_some]
 by_cases ha : a = (i : Int)
 ·rw [if_pos ha,show (a != (i : Int)) = false from bne_eq_false_iff_eq.2 ha]
  cases p <;> cases q <;> rfl
 ·rw [if_neg ha,show (a != (i : Int)) = true from bne_iff_ne.2 ha]
  cases p <;> cases q <;> simp
end Go.Proofs.Ytmiholmfbjalfaa.P
namespace Go.Proofs.Ytmiholmfbjalfaa.P
open Go.RowKit Go.Proofs.YtmiholmfbjalfaaW.PrintWords Go.Proofs.YtmiholmfbjalfaaW.PrintLast Go.Proofs.YtmiholmfbjalfaaW.PrintMore
attribute [local go_sem] max2_int min2_int max_two min_two max_three min_three max_four min_four
set_option linter.unusedVariables false
set_option linter.unusedSimpArgs false
def spec_hasInt.l0 : Nat → List Int → Int → Int → Option (Bool)
 | 0,_,_,_=>none
 | k + 1,x0,x1,x5=>if x5 < (x0.length : Int) then (if 0 ≤ x5 then (if (rd x0 x5) = x1 then (some true) else (spec_hasInt.l0 k x0 x1 (wrap64 (x5 + 1)))) else (none)) else (some false)
def spec_hasInt.f (k : Nat) (l0 : List Int) (a1 : Int) : Option (Bool):=spec_hasInt.l0 k l0 a1 0
theorem spec_hasInt.mono_l : ∀ k,(∀ y0 y1 y2,LeO (spec_hasInt.l0 k y0 y1 y2) (spec_hasInt.l0 (k + 1) y0 y1 y2))
 | 0=>fun _ _ _ r h=>by simp [spec_hasInt.l0] at h
 | k + 1=>by
  have ih0:=spec_hasInt.mono_l k
  ·intro y0 y1 y2
   unfold spec_hasInt.l0
   repeat' first
   | (with_reducible exact ih0 _ _ _)
   | (with_reducible exact LeO.refl _)
   | (with_reducible exact LeO.none _)
   | (with_reducible refine LeO.ite ?_ ?_)
   | (with_reducible refine LeO.bind ?_ (fun _=>?_))
   | exact ih0 _ _ _
   | exact LeO.none _
   | refine LeO.ite ?_ ?_
   | refine LeO.bind ?_ (fun _=>?_)
theorem spec_hasInt.mono : ∀ a0 a1 k,LeO (spec_hasInt.f k a0 a1) (spec_hasInt.f (k + 1) a0 a1):=by
 intro a0 a1 k
 have ih0:=spec_hasInt.mono_l k
 unfold spec_hasInt.f
 repeat' first
   | (with_reducible exact ih0 _ _ _)
   | (with_reducible exact LeO.refl _)
   | (with_reducible exact LeO.none _)
   | (with_reducible refine LeO.ite ?_ ?_)
   | (with_reducible refine LeO.bind ?_ (fun _=>?_))
   | exact ih0 _ _ _
   | exact LeO.none _
   | refine LeO.ite ?_ ?_
   | refine LeO.bind ?_ (fun _=>?_)
set_option maxHeartbeats 8000000 in
set_option maxRecDepth 100000 in
theorem spec_hasInt.calls (k : Nat) (A0 : Option Addr) (c0 : Nat) (l0 : List Int) (a1 : Int) (r : Bool) (w : World) (hr0 : Kd.C (Kd.int .i64) w A0 l0.length l0) (hc0 : l0.length ≤ c0) (h : spec_hasInt.f k l0 a1 = some r) :
  Calls Try.prog 64 #[.slice A0 l0.length c0,.int .i64 a1] w fun e w'=>e = .returned (.bool r) ∧ Drawn0 w w':=by
 have HR0:=a0_ hr0
 have HC0:=a0_ hc0
 clear hr0 hc0
 have H : (spec_hasInt.l0 k l0 a1 0) = some r:=h
 clear h
 have H':=a0_ H
 clear H
 go_enter Try.func64,Try.ntmps64
 go_wp2
 go_loopg [5] k (fun kq v5 w'=>∃ (x5_1 : Int),v5 = .int .i64 x5_1 ∧ Aside0 (spec_hasInt.l0 kq l0 a1 x5_1 = some r) ∧ Aside0 (kq ≤ k) ∧ Drawn0 w w')
 case atStart=>exact ⟨(0),(by first | rfl | (simp;done) | (simp [*];done)),H',⟨Nat.le_refl _⟩,by repeat (first | exact Drawn0.refl _ | apply Drawn0.step)⟩
 case round =>
  clear H'
  try clear p2
  obtain ⟨x5_1,rfl,HA,HK1,⟨m1,rfl⟩⟩:=hrel
  cases gk with
  | zero=>exact absurd HA.out (by simp [spec_hasInt.l0])
  | succ k1 =>
   have H:=HA.out
   clear HA
   simp only [spec_hasInt.l0] at H
   by_cases c3 : x5_1 < (l0.length : Int)
   ·rw [if_pos c3] at H
    have c3b0 : decide (x5_1 < (l0.length : Int)) = true:=decide_eq_true c3
    clear c3
    by_cases c4 : 0 ≤ x5_1
    ·rw [if_pos c4] at H
     have c4b0 : decide (0 ≤ x5_1) = true:=decide_eq_true c4
     clear c4
     by_cases c5 : (rd l0 x5_1) = a1
     ·rw [if_pos c5] at H
      have c5b0 : ((rd l0 x5_1) == a1) = true:=beq_iff_eq.mpr c5
      have c5b1 : ((rd l0 x5_1) != a1) = false:=bne_eq_false_iff_eq.mpr c5
      clear c5
      obtain rfl:=Option.some.inj H
      have p1 : 0 ≤ (x5_1 : Int):=of_decide_eq_true (by first | (with_reducible assumption) | assumption)
      have q1 : x5_1 < (l0.length : Int):=of_decide_eq_true (by first | (with_reducible assumption) | assumption)
      obtain ⟨ad1,e1,hx1_0⟩:=Kd.at_int HR0.out x5_1 p1 q1
      cases e1
      replace p1:=eq_true p1
      replace q1:=eq_true q1
      go_wp2
      go_ret
      exact ⟨by first | rfl | (simp;done) | (simp [*];done),by repeat (first | exact Drawn0.refl _ | apply Drawn0.step)⟩
     ·rw [if_neg c5] at H
      have c5b0 : ((rd l0 x5_1) == a1) = false:=beq_eq_false_iff_ne.mpr c5
      have c5b1 : ((rd l0 x5_1) != a1) = true:=bne_iff_ne.mpr c5
      have H':=a0_ H
      clear H
      have p1 : 0 ≤ (x5_1 : Int):=of_decide_eq_true (by first | (with_reducible assumption) | assumption)
      have q1 : x5_1 < (l0.length : Int):=of_decide_eq_true (by first | (with_reducible assumption) | assumption)
      obtain ⟨ad1,e1,hx1_0⟩:=Kd.at_int HR0.out x5_1 p1 q1
      cases e1
      replace p1:=eq_true p1
      replace q1:=eq_true q1
      go_wp2
      go_roundg k1
      case measure=>have:=HK1.out;omega
      case rel=>exact ⟨(wrap64 (x5_1 + 1)),(by first | rfl | (simp;done) | (simp [*];done)),H',⟨by have:=HK1.out;omega⟩,by repeat (first | exact Drawn0.refl _ | apply Drawn0.step)⟩
    ·rw [if_neg c4] at H
     exact absurd H (by simp)
   ·rw [if_neg c3] at H
    have c3b0 : decide (x5_1 < (l0.length : Int)) = false:=decide_eq_false c3
    clear c3
    obtain rfl:=Option.some.inj H
    go_wp2
    go_ret
    exact ⟨by first | rfl | (simp;done) | (simp [*];done),by repeat (first | exact Drawn0.refl _ | apply Drawn0.step)⟩
theorem spec_hasInt_l0 (l : List Int) (x : Int) (hs : l.length ≤ 9223372036854775807) (d : Nat) : ∀ (k : Nat) (i : Nat),i ≤ l.length → l.length - i = d → d < k → spec_hasInt.l0 k l x (i : Int) = some ((l.drop i).contains x):=by
 induction d with
 | zero =>
  intro k i hi hd hk
  obtain ⟨k,rfl⟩ : ∃ m,k = m + 1:=⟨k - 1,by omega⟩
  simp only [spec_hasInt.l0]
  rw [if_neg (show ¬ (i : Int) < (l.length : Int) by omega),List.drop_eq_nil_of_le (by omega)]
  rfl
 | succ d ih =>
  intro k i hi hd hk
  obtain ⟨k,rfl⟩ : ∃ m,k = m + 1:=⟨k - 1,by omega⟩
  have hlt : i < l.length:=by omega
  simp only [spec_hasInt.l0]
  have hrd : rd l (i : Int) = l[i]:=by simp [rd,hlt]
  rw [if_pos (show (i : Int) < (l.length : Int) by omega),if_pos (show (0 : Int) ≤ (i : Int) by omega),hrd,List.drop_eq_getElem_cons hlt]
  by_cases h1 : l[i] = x
  ·rw [if_pos h1];simp [h1]
  ·rw [if_neg h1,wrap_succ (n:=l.length) (by omega) (by omega) (by omega)]
   rw [show ((i : Int) + 1) = ((i + 1 : Nat) : Int) by omega,ih k (i + 1) (by omega) (by omega) (by omega)]
   have h2 : ¬ x = l[i]:=fun e=>h1 e.symm
   rw [List.contains_cons,beq_eq_false_iff_ne.2 h2,Bool.false_or]
theorem spec_hasInt_ev (l : List Int) (x : Int) (hs : l.length ≤ 9223372036854775807) (k : Nat) (hk : l.length < k) : spec_hasInt.f k l x = some (l.contains x):=by
 have:=spec_hasInt_l0 l x hs l.length k 0 (by omega) (by omega) hk
 rw [List.drop_zero] at this
 exact this
end Go.Proofs.Ytmiholmfbjalfaa.P
namespace Go.Proofs.Ytmiholmfbjalfaa.P
open Go.RowKit Go.Proofs.YtmiholmfbjalfaaW.PrintWords Go.Proofs.YtmiholmfbjalfaaW.PrintLast Go.Proofs.YtmiholmfbjalfaaW.PrintMore
attribute [local go_sem] max2_int min2_int max_two min_two max_three min_three max_four min_four
set_option linter.unusedVariables false
set_option linter.unusedSimpArgs false
def spec_contexts.l0 : Nat → Int → List Int → List (S43) → Option (List Int)
 | 0,_,_,_=>none
 | k + 1,x1,x5,x2000=>if x1 ≥ 0 then ((spec_hasInt.f k x5 x1).bind fun t5=>(if t5 = true then (some x5) else (if x5.length < 17592186044416 then (if 0 ≤ x1 then (if x1 < (x2000.length : Int) then (spec_contexts.l0 k ((rd_T43 x2000 x1).f3) (x5 ++ [x1]) x2000) else (none)) else (none)) else (none)))) else (some x5)
def spec_contexts.f (k : Nat) (l0_0 : List (S43)) (a1 : Int) : Option (List Int):=spec_contexts.l0 k a1 (([] : List Int)) l0_0
theorem spec_contexts.mono_l : ∀ k,(∀ y0 y1 y2,LeO (spec_contexts.l0 k y0 y1 y2) (spec_contexts.l0 (k + 1) y0 y1 y2))
 | 0=>fun _ _ _ r h=>by simp [spec_contexts.l0] at h
 | k + 1=>by
  have ih0:=spec_contexts.mono_l k
  ·intro y0 y1 y2
   unfold spec_contexts.l0
   repeat' first
   | (with_reducible exact ih0 _ _ _)
   | (with_reducible exact spec_hasInt.mono _ _ _)
   | (with_reducible exact LeO.refl _)
   | (with_reducible exact LeO.none _)
   | (with_reducible refine LeO.ite ?_ ?_)
   | (with_reducible refine LeO.bind ?_ (fun _=>?_))
   | exact ih0 _ _ _
   | exact spec_hasInt.mono _ _ _
   | exact LeO.none _
   | refine LeO.ite ?_ ?_
   | refine LeO.bind ?_ (fun _=>?_)
theorem spec_contexts.mono : ∀ a0 a1 k,LeO (spec_contexts.f k a0 a1) (spec_contexts.f (k + 1) a0 a1):=by
 intro a0 a1 k
 have ih0:=spec_contexts.mono_l k
 unfold spec_contexts.f
 repeat' first
   | (with_reducible exact ih0 _ _ _)
   | (with_reducible exact spec_hasInt.mono _ _ _)
   | (with_reducible exact LeO.refl _)
   | (with_reducible exact LeO.none _)
   | (with_reducible refine LeO.ite ?_ ?_)
   | (with_reducible refine LeO.bind ?_ (fun _=>?_))
   | exact ih0 _ _ _
   | exact spec_hasInt.mono _ _ _
   | exact LeO.none _
   | refine LeO.ite ?_ ?_
   | refine LeO.bind ?_ (fun _=>?_)
set_option maxHeartbeats 8000000 in
set_option maxRecDepth 100000 in
theorem spec_contexts.calls (k : Nat) (A0_0 : Option Addr) (c0_0 : Nat) (l0_0 : List (S43)) (a1 : Int) (r : List Int) (w : World) (hr0_0 : Kd.C k43 w A0_0 l0_0.length l0_0) (hc0_0 : l0_0.length ≤ c0_0) (h : spec_contexts.f k l0_0 a1 = some r) :
  Calls Try.prog 73 #[.agg #[.slice A0_0 l0_0.length c0_0],.int .i64 a1] w fun e w'=>∃ v0_ : Value,e = .returned (v0_) ∧ Kd.R (Kd.int .i64) 3 w' w.heap.size (fun _=>True) v0_ r ∧ Below w.heap.size w w':=by
 have hu28:=Try.underlying28
 have HR0_0:=a0_ hr0_0
 have HC0_0:=a0_ hc0_0
 clear hr0_0 hc0_0
 have HB:=a0_ (Below.refl w.heap.size w)
 have H : (spec_contexts.l0 k a1 (([] : List Int)) l0_0) = some r:=h
 clear h
 obtain ⟨y2,hy2⟩ : ∃ y_ : List Int,y_ = (([] : List Int)):=⟨_,rfl⟩
 replace H : (spec_contexts.l0 k a1 y2 l0_0) = some r:=by first | (rw [hy2];with_reducible exact H) | (have H2_:=(Option.bind_some _ _).symm.trans H;rw [hy2];with_reducible exact H2_) | (have H2_:=(Option.bind_some _ _).symm.trans H;with_reducible exact H2_) | with_reducible exact H | (rw [hy2];exact H) | exact H
 have Ny2:=a0_ hy2
 clear hy2
 have H':=a0_ H
 clear H
 go_enter Try.func73,Try.ntmps73
 go_wp2_with (first | ((with_reducible refine gate_dst (N:=2) rfl ?_);refine box_event ?hg (N:=2) ?hd (cs:=#[.slice A0_0 l0_0.length c0_0]) (t:=28) ?hr ?_;(case hd=>rfl);(case hg=>rfl);(case hr=>first | (go_simp;done) | (go_simp;rfl));intro gb1 hg w3 hbox hb;have BK1:=a0_ (hbox);have GW1:=a0_ ((by rw [hg];exact (below_size hb_) : w.heap.size ≤ gb1));have GE1:=a0_ ((by rw [hg];exact (below_size hb_) : w.heap.size ≤ gb1));replace HB:=a0_ (below_step hb_ hb);clear hb hbox hg) | ((with_reducible refine gate_dst (N:=6) rfl ?_);refine Kd.R_lit (Kd.int .i64) _ 3 ?hg (N:=6) ?hd (xs:=([] : List Int)) (inner:=[]) (ok:=fun _=>True) (okp:=fun _=>True) ?hr ?hp (fun _ hk=>hk) trivial (Below.refl _ _) (Nat.le_refl _) (by simp) ?_;(case hd=>rfl);(case hg=>rfl);(case hr=>first | (go_simp;done) | (go_simp;rfl));(case hp=>exact (Reps.none _ _));intro v3 w4 ho5 hb hg_ hnew_;clear hg_ hnew_;(first | rw [← Ny2.out] at ho5 | (simp only [Int.reduceToNat] at ho5;rw [← Ny2.out] at ho5));have HO4:=a0_ (Kd.R_lower ho5 (below_size hb_));replace BK1:=kb_ BK1 hb;replace HB:=a0_ (below_step hb_ hb);clear hb ho5))
 go_loopg [1,5] k (fun kq v1 v5 w'=>∃ (x1_1 : Int) (x5_1 : List Int),v1 = .int .i64 x1_1 ∧ Aside0 (spec_contexts.l0 kq x1_1 x5_1 l0_0 = some r) ∧ Aside0 (kq ≤ k) ∧ Aside0 (Kd.R (Kd.int .i64) 3 w' w.heap.size (fun _=>True) v5 x5_1) ∧ Aside0 (w'.heap[gb1]? = some (.cells #[(.slice A0_0 l0_0.length c0_0)] 28 (0,0))) ∧ Aside0 (Below w.heap.size w w'))
 case atStart=>exact ⟨(a1),(y2),(by first | rfl | (simp;done) | (simp [*];done)),H',⟨Nat.le_refl _⟩,⟨by (with_reducible repeat (first | apply Kd.R_alloc | apply Kd.R_drewN | apply Kd.R_drew));exact HO4.out⟩,⟨by (with_reducible repeat (first | refine blk_drewN ?_ _ | refine blk_drew ?_ | refine blk_alloc ?_ _));exact BK1.out⟩,⟨hb_⟩⟩
 case round =>
  clear H'
  try clear p2
  obtain ⟨x1_1,x5_1,rfl,HA,HK1,HO_5,BK1,HB⟩:=hrel
  cases gk with
  | zero=>exact absurd HA.out (by simp [spec_contexts.l0])
  | succ k1 =>
   have H:=HA.out
   clear HA
   simp only [spec_contexts.l0] at H
   by_cases c6 : x1_1 ≥ 0
   ·rw [if_pos c6] at H
    have c6b0 : decide (0 ≤ x1_1) = true:=decide_eq_true c6
    clear c6
    replace H:=Option.bind_eq_some_iff.mp H
    obtain ⟨t5,A70,H⟩:=H
    try dsimp only at H
    have A7:=a0_ A70
    clear A70
    by_cases c8 : t5 = true
    ·subst c8
     have H1 : (some x5_1) = some r:=by rw [if_pos rfl] at H;exact H
     clear H
     have H:=H1
     clear H1
     obtain rfl:=Option.some.inj H
     obtain ⟨Ao9,co9,eo9⟩:=Kd.R_slice HO_5.out
     subst eo9
     go_wp2_with (first | (go_at_call 64;(with_reducible refine (spec_hasInt.calls k1 _ _ x5_1 x1_1 true _ ?side1 ?side2 A7.out).mono ?_);(case side1=>exact cc_ (Kd.R_reads' HO_5.out).2.2);(case side2=>exact (Kd.R_reads' HO_5.out).2.1);rintro e w' ⟨rfl,⟨nd,rfl⟩⟩))
     go_ret
     exact ⟨_,by first | rfl | (simp [errW_none,errW_some] <;> rfl) | (simp [*,errW_none,errW_some] <;> rfl),by (with_reducible repeat (first | apply Kd.R_alloc | apply Kd.R_drewN | apply Kd.R_drew));exact HO_5.out,hb_⟩
    ·replace c8:=Bool.eq_false_iff.mpr c8
     subst c8
     have H1 : (if x5_1.length < 17592186044416 then (if 0 ≤ x1_1 then (if x1_1 < (l0_0.length : Int) then (spec_contexts.l0 k1 ((rd_T43 l0_0 x1_1).f3) (x5_1 ++ [x1_1]) l0_0) else (none)) else (none)) else (none)) = some r:=by rw [if_neg (show ¬ (false = true) by decide)] at H;exact H
     clear H
     have H:=H1
     clear H1
     by_cases c10 : x5_1.length < 17592186044416
     ·rw [if_pos c10] at H
      have LMc10:=a0_ c10
      clear c10
      obtain ⟨y6,hy6⟩ : ∃ y_ : List Int,y_ = (x5_1 ++ [x1_1]):=⟨_,rfl⟩
      replace H : (if 0 ≤ x1_1 then (if x1_1 < (l0_0.length : Int) then (spec_contexts.l0 k1 ((rd_T43 l0_0 x1_1).f3) y6 l0_0) else (none)) else (none)) = some r:=by first | (rw [hy6];with_reducible exact H) | (have H2_:=(Option.bind_some _ _).symm.trans H;rw [hy6];with_reducible exact H2_) | (have H2_:=(Option.bind_some _ _).symm.trans H;with_reducible exact H2_) | with_reducible exact H | (rw [hy6];exact H) | exact H
      have Ny6:=a0_ hy6
      clear hy6
      by_cases c11 : 0 ≤ x1_1
      ·rw [if_pos c11] at H
       have c11b0 : decide (0 ≤ x1_1) = true:=decide_eq_true c11
       clear c11
       by_cases c12 : x1_1 < (l0_0.length : Int)
       ·rw [if_pos c12] at H
        have c12b0 : decide (x1_1 < (l0_0.length : Int)) = true:=decide_eq_true c12
        clear c12
        have H':=a0_ H
        clear H
        obtain ⟨Ao13,co13,eo13⟩:=Kd.R_slice HO_5.out
        subst eo13
        go_wp2_with (first | (go_at_call 64;(with_reducible refine (spec_hasInt.calls k1 _ _ x5_1 x1_1 false _ ?side1 ?side2 A7.out).mono ?_);(case side1=>exact cc_ (Kd.R_reads' HO_5.out).2.2);(case side2=>exact (Kd.R_reads' HO_5.out).2.1);rintro e w' ⟨rfl,⟨nd,rfl⟩⟩) | ((with_reducible refine gate_builtin (b:=.append) (xs:=#[.tmp 15,.tmp 17]) rfl ?_);at_builtin;refine Kd.R_append (Kd.int .i64) (w0:=w) w.heap.size rfl (.tmp 15) (.tmp 17) 31 3 (.int .i64 0) 8 rfl Try.underlying31 info3 rfl (by decide) (by omega) (.slice Ao13 x5_1.length co13) x5_1 x1_1 [.int .i64 x1_1] (fun _=>True) (fun _=>False) rfl rfl ?aP (fun _ hk=>hk.elim) ?aF ?aO ?aB ?aS ?aL ?_;(case aP=>exact rfl);(case aB=>exact hb_);(case aF=>exact (fun _ _=>trivial));(case aO=>exact (rr_ HO_5.out));(case aS=>exact (below_size hb_));(case aL=>have:=LMc10.out;omega);intro v7 w14 ho hb hg hat;rw [← Ny6.out] at ho;replace BK1:=a0_ (blk_grown (bb_ BK1.out) hg (Kd.R_ne HO_5.out BK1.out (by decide)));have HO8:=a0_ (ho);replace HB:=a0_ (hb);clear HO_5;clear ho hb hg hat;have hcz15_0 : w14.cell? ⟨gb1,0,none⟩ = some (.slice A0_0 l0_0.length c0_0):=(blk_cell BK1.out 0).trans rfl;have hfz15_0:=blk_frozen BK1.out 0;have p9 : 0 ≤ (x1_1 : Int):=of_decide_eq_true (by first | (with_reducible assumption) | assumption);have q9 : x1_1 < (l0_0.length : Int):=of_decide_eq_true (by first | (with_reducible assumption) | assumption);obtain ⟨ad9,e9,hx9_0,hx9_1,hx9_2,hx9_3,hx9_4⟩:=at_T43 HR0_0.out x1_1 p9 q9;cases e9;replace hx9_0:=(HB.out.cell (World.block_lt_of_cell? w _ hx9_0)).trans hx9_0;replace hx9_1:=(HB.out.cell (World.block_lt_of_cell? w _ hx9_1)).trans hx9_1;replace hx9_2:=(HB.out.cell (World.block_lt_of_cell? w _ hx9_2)).trans hx9_2;replace hx9_3:=(HB.out.cell (World.block_lt_of_cell? w _ hx9_3)).trans hx9_3;replace hx9_4:=(HB.out.cell (World.block_lt_of_cell? w _ hx9_4)).trans hx9_4;replace p9:=eq_true p9;replace q9:=eq_true q9))
        go_roundg k1
        case measure=>have:=HK1.out;omega
        case rel=>exact ⟨((rd_T43 l0_0 x1_1).f3),(y6),(by first | rfl | (simp;done) | (simp [*];done)),H',⟨by have:=HK1.out;omega⟩,⟨by (with_reducible repeat (first | apply Kd.R_alloc | apply Kd.R_drewN | apply Kd.R_drew));exact HO8.out⟩,⟨by (with_reducible repeat (first | refine blk_drewN ?_ _ | refine blk_drew ?_ | refine blk_alloc ?_ _));exact BK1.out⟩,⟨hb_⟩⟩
       ·rw [if_neg c12] at H
        exact absurd H (by simp)
      ·rw [if_neg c11] at H
       exact absurd H (by simp)
     ·rw [if_neg c10] at H
      exact absurd H (by simp)
   ·rw [if_neg c6] at H
    have c6b0 : decide (0 ≤ x1_1) = false:=decide_eq_false c6
    clear c6
    obtain rfl:=Option.some.inj H
    go_wp2
    go_ret
    exact ⟨_,by first | rfl | (simp [errW_none,errW_some] <;> rfl) | (simp [*,errW_none,errW_some] <;> rfl),by (with_reducible repeat (first | apply Kd.R_alloc | apply Kd.R_drewN | apply Kd.R_drew));exact HO_5.out,hb_⟩
theorem spec_contexts_l0 (h : List Fau) (hl : h.length ≤ 2097152) (hc : ∀ x : Int,0 ≤ x → x < (h.length : Int) → ctxN h x < (h.length : Int)) : ∀ (d : Nat) (out : List Int) (f : Int),f < (h.length : Int) → restN h.length out ≤ d → out.length + d ≤ h.length → Ev (fun k=>spec_contexts.l0 k f out h) (walkL (ctxN h) d out f):=by
 intro d
 induction d with
 | zero =>
  intro out f hf hr hd
  refine Ev.succ ?_
  simp only [spec_contexts.l0]
  rw [walkL]
  by_cases h0 : f ≥ 0
  ·refine Ev.pos h0 (Ev.bind (Ev.of_mono (spec_hasInt.mono out f) (K:=out.length + 1) (spec_hasInt_ev out f (by omega) _ (by omega))) ?_)
   rw [restN_zero (n:=h.length) (out:=out) h0 hf (by omega)]
   exact Ev.pos rfl (Ev.const rfl)
  ·exact Ev.neg h0 (Ev.const rfl)
 | succ d ih =>
  intro out f hf hr hd
  refine Ev.succ ?_
  simp only [spec_contexts.l0]
  by_cases h0 : f ≥ 0
  ·refine Ev.pos h0 (Ev.bind (Ev.of_mono (spec_hasInt.mono out f) (K:=out.length + 1) (spec_hasInt_ev out f (by omega) _ (by omega))) ?_)
   cases hq : out.contains f with
   | true =>
    rw [walkL_stop _ _ _ _ (by rw [hq];simp)]
    exact Ev.pos rfl (Ev.const rfl)
   | false =>
    have hn : (rd_T43 h f).f3 = ctxN h f:=by simp [rd_T43,ctxN]
    have:=restN_lt h0 hf hq
    rw [walkL,if_pos ⟨h0,hq⟩,hn]
    refine Ev.neg (by simp) (Ev.pos (by omega) (Ev.pos h0 (Ev.pos (by omega) ?_)))
    exact ih (out ++ [f]) (ctxN h f) (hc f h0 hf) (by omega) (by rw [List.length_append,List.length_singleton];omega)
  ·rw [walkL_stop _ _ _ _ (fun hh=>h0 hh.1)]
   exact Ev.neg h0 (Ev.const rfl)
theorem spec_contexts_ev (h : List Fau) (hl : h.length ≤ 2097152) (hc : ∀ x : Int,0 ≤ x → x < (h.length : Int) → ctxN h x < (h.length : Int)) (f : Int) (hf : f < (h.length : Int)) : Ev (fun k=>spec_contexts.f k h f) (ctxL h f) :=
 spec_contexts_l0 h hl hc h.length [] f hf (restN_le _ _) (by simp)
end Go.Proofs.Ytmiholmfbjalfaa.P
namespace Go.Proofs.Ytmiholmfbjalfaa.P
open Go.RowKit Go.Proofs.YtmiholmfbjalfaaW.PrintWords Go.Proofs.YtmiholmfbjalfaaW.PrintLast Go.Proofs.YtmiholmfbjalfaaW.PrintMore
attribute [local go_sem] max2_int min2_int max_two min_two max_three min_three max_four min_four
set_option linter.unusedVariables false
set_option linter.unusedSimpArgs false
def spec_validName.l0 : Nat → ByteArray → Int → Option (Bool)
 | 0,_,_=>none
 | k + 1,x0,x3=>if x3 < (x0.size : Int) then (if 0 ≤ x3 then (if (bt x0 x3) < 97 then (some false) else (if (bt x0 x3) > 122 then (some false) else (spec_validName.l0 k x0 (wrap64 (x3 + 1))))) else (none)) else ((spec_inRange.f (x0.size : Int) 1 6).bind fun t1=>(some t1))
def spec_validName.f (k : Nat) (a0 : ByteArray) : Option (Bool):=spec_validName.l0 k a0 0
theorem spec_validName.mono_l : ∀ k,(∀ y0 y1,LeO (spec_validName.l0 k y0 y1) (spec_validName.l0 (k + 1) y0 y1))
 | 0=>fun _ _ r h=>by simp [spec_validName.l0] at h
 | k + 1=>by
  have ih0:=spec_validName.mono_l k
  ·intro y0 y1
   unfold spec_validName.l0
   repeat' first
   | (with_reducible exact ih0 _ _)
   | (with_reducible exact LeO.refl _)
   | (with_reducible exact LeO.none _)
   | (with_reducible refine LeO.ite ?_ ?_)
   | (with_reducible refine LeO.bind ?_ (fun _=>?_))
   | exact ih0 _ _
   | exact LeO.none _
   | refine LeO.ite ?_ ?_
   | refine LeO.bind ?_ (fun _=>?_)
theorem spec_validName.mono : ∀ a0 k,LeO (spec_validName.f k a0) (spec_validName.f (k + 1) a0):=by
 intro a0 k
 have ih0:=spec_validName.mono_l k
 unfold spec_validName.f
 repeat' first
   | (with_reducible exact ih0 _ _)
   | (with_reducible exact LeO.refl _)
   | (with_reducible exact LeO.none _)
   | (with_reducible refine LeO.ite ?_ ?_)
   | (with_reducible refine LeO.bind ?_ (fun _=>?_))
   | exact ih0 _ _
   | exact LeO.none _
   | refine LeO.ite ?_ ?_
   | refine LeO.bind ?_ (fun _=>?_)
set_option maxHeartbeats 8000000 in
set_option maxRecDepth 100000 in
theorem spec_validName.calls (k : Nat) (a0 : ByteArray) (r : Bool) (w : World) (h : spec_validName.f k a0 = some r) :
  Calls Try.prog 83 #[.string a0] w fun e w'=>e = .returned (.bool r) ∧ Drawn0 w w':=by
 have H : (spec_validName.l0 k a0 0) = some r:=h
 clear h
 have H':=a0_ H
 clear H
 go_enter Try.func83,Try.ntmps83
 go_wp2
 go_loopg [3] k (fun kq v3 w'=>∃ (x3_1 : Int),v3 = .int .i64 x3_1 ∧ Aside0 (spec_validName.l0 kq a0 x3_1 = some r) ∧ Aside0 (kq ≤ k) ∧ Drawn0 w w')
 case atStart=>exact ⟨(0),(by first | rfl | (simp;done) | (simp [*];done)),H',⟨Nat.le_refl _⟩,by repeat (first | exact Drawn0.refl _ | apply Drawn0.step)⟩
 case round =>
  clear H'
  obtain ⟨x3_1,rfl,HA,HK1,⟨m1,rfl⟩⟩:=hrel
  cases gk with
  | zero=>exact absurd HA.out (by simp [spec_validName.l0])
  | succ k1 =>
   have H:=HA.out
   clear HA
   simp only [spec_validName.l0] at H
   by_cases c2 : x3_1 < (a0.size : Int)
   ·rw [if_pos c2] at H
    have c2b0 : decide (x3_1 < (a0.size : Int)) = true:=decide_eq_true c2
    clear c2
    by_cases c3 : 0 ≤ x3_1
    ·rw [if_pos c3] at H
     have c3b0 : decide (0 ≤ x3_1) = true:=decide_eq_true c3
     clear c3
     by_cases c5 : (bt a0 x3_1) < 97
     ·rw [if_pos c5] at H
      have c5b0 : decide ((bt a0 x3_1) < 97) = true:=decide_eq_true c5
      clear c5
      obtain rfl:=Option.some.inj H
      have p4 : 0 ≤ (x3_1 : Int):=of_decide_eq_true (by first | (with_reducible assumption) | assumption)
      have q4 : x3_1 < (a0.size : Int):=of_decide_eq_true (by first | (with_reducible assumption) | assumption)
      have hx4:=bt_at a0 x3_1
      replace p4:=eq_true p4
      replace q4:=eq_true q4
      go_wp2
      go_ret
      exact ⟨by first | rfl | (simp;done) | (simp [*];done),by repeat (first | exact Drawn0.refl _ | apply Drawn0.step)⟩
     ·rw [if_neg c5] at H
      have c5b0 : decide ((bt a0 x3_1) < 97) = false:=decide_eq_false c5
      clear c5
      by_cases c7 : (bt a0 x3_1) > 122
      ·rw [if_pos c7] at H
       have c7b0 : decide (122 < (bt a0 x3_1)) = true:=decide_eq_true c7
       clear c7
       obtain rfl:=Option.some.inj H
       have p4 : 0 ≤ (x3_1 : Int):=of_decide_eq_true (by first | (with_reducible assumption) | assumption)
       have q4 : x3_1 < (a0.size : Int):=of_decide_eq_true (by first | (with_reducible assumption) | assumption)
       have hx4:=bt_at a0 x3_1
       replace p4:=eq_true p4
       replace q4:=eq_true q4
       have p6 : 0 ≤ (x3_1 : Int):=of_decide_eq_true (by first | (with_reducible assumption) | assumption)
       have q6 : x3_1 < (a0.size : Int):=of_decide_eq_true (by first | (with_reducible assumption) | assumption)
       have hx6:=bt_at a0 x3_1
       replace p6:=eq_true p6
       replace q6:=eq_true q6
       go_wp2
       go_ret
       exact ⟨by first | rfl | (simp;done) | (simp [*];done),by repeat (first | exact Drawn0.refl _ | apply Drawn0.step)⟩
      ·rw [if_neg c7] at H
       have c7b0 : decide (122 < (bt a0 x3_1)) = false:=decide_eq_false c7
       clear c7
       have H':=a0_ H
       clear H
       have p4 : 0 ≤ (x3_1 : Int):=of_decide_eq_true (by first | (with_reducible assumption) | assumption)
       have q4 : x3_1 < (a0.size : Int):=of_decide_eq_true (by first | (with_reducible assumption) | assumption)
       have hx4:=bt_at a0 x3_1
       replace p4:=eq_true p4
       replace q4:=eq_true q4
       have p6 : 0 ≤ (x3_1 : Int):=of_decide_eq_true (by first | (with_reducible assumption) | assumption)
       have q6 : x3_1 < (a0.size : Int):=of_decide_eq_true (by first | (with_reducible assumption) | assumption)
       have hx6:=bt_at a0 x3_1
       replace p6:=eq_true p6
       replace q6:=eq_true q6
       go_wp2
       go_roundg k1
       case measure=>have:=HK1.out;omega
       case rel=>exact ⟨(wrap64 (x3_1 + 1)),(by first | rfl | (simp;done) | (simp [*];done)),H',⟨by have:=HK1.out;omega⟩,by repeat (first | exact Drawn0.refl _ | apply Drawn0.step)⟩
    ·rw [if_neg c3] at H
     exact absurd H (by simp)
   ·rw [if_neg c2] at H
    have c2b0 : decide (x3_1 < (a0.size : Int)) = false:=decide_eq_false c2
    clear c2
    replace H:=Option.bind_eq_some_iff.mp H
    obtain ⟨t1,A80,H⟩:=H
    replace H : (some t1) = some r:=H
    have A8:=a0_ A80
    clear A80
    obtain rfl:=Option.some.inj H
    go_wp2_with (first | ((with_reducible refine gate_callee (f:=71) rfl ?_);refine goesL_ (some 22) rfl rfl Try.func71 (by kernel_rfl) rfl #[.int .i64 (a0.size : Int),.int .i64 1,.int .i64 6] rfl lm_ ?_;(with_reducible refine (spec_inRange.calls (a0.size : Int) 1 6 t1 _ A8.out).mono ?_);rintro e w' ⟨rfl,⟨nd,rfl⟩⟩;refine ⟨_,rfl,?_⟩))
    go_ret
    exact ⟨by first | rfl | (simp;done) | (simp [*];done),by repeat (first | exact Drawn0.refl _ | apply Drawn0.step)⟩
theorem spec_validName_l0 (s : ByteArray) (hs : s.size ≤ 9223372036854775807) (d : Nat) : ∀ (k : Nat) (i : Nat),i ≤ s.size → s.size - i = d → d < k → spec_validName.l0 k s (i : Int) = some ((s.data.toList.drop i).all (fun c=>decide (97 ≤ c.toNat) && decide (c.toNat ≤ 122)) && (decide (1 ≤ s.size) && decide (s.size ≤ 6))):=by
 induction d with
 | zero =>
  intro k i hi hd hk
  obtain ⟨k,rfl⟩ : ∃ m,k = m + 1:=⟨k - 1,by omega⟩
  simp only [spec_validName.l0]
  rw [if_neg (by omega)]
  have : s.data.toList.drop i = []:=by
   apply List.drop_eq_nil_of_le
   have : s.data.toList.length = s.size:=toL_len s
   omega
  rw [this]
  simp only [spec_inRange.f,List.all_nil,Bool.true_and]
  by_cases h1 : 1 ≤ s.size
  ·rw [if_pos (show (s.size : Int) ≥ 1 by omega)]
   by_cases h2 : s.size ≤ 6
   ·simp [h1,h2];omega
   ·simp [h2];omega
  ·rw [if_neg (show ¬ (1 : Int) ≤ s.size by omega)];simp [h1]
 | succ d ih =>
  intro k i hi hd hk
  obtain ⟨k,rfl⟩ : ∃ m,k = m + 1:=⟨k - 1,by omega⟩
  have hlt : i < s.size:=by omega
  have hl : s.data.toList.length = s.size:=toL_len s
  simp only [spec_validName.l0]
  rw [if_pos (show (i : Int) < (s.size : Int) by omega),if_pos (show (0 : Int) ≤ (i : Int) by omega),bt_getElem s i hlt]
  have hd2 : s.data.toList.drop i = s[i] :: s.data.toList.drop (i + 1):=by
   rw [List.drop_eq_getElem_cons (by omega)]
   congr 1
  rw [hd2,List.all_cons]
  by_cases h1 : (s[i].toNat : Int) < 97
  ·rw [if_pos h1];have : ¬ 97 ≤ s[i].toNat:=by omega
   simp [this]
  ·rw [if_neg h1]
   by_cases h2 : (s[i].toNat : Int) > 122
   ·rw [if_pos h2];have : ¬ s[i].toNat ≤ 122:=by omega
    simp [this]
   ·rw [if_neg h2,wrap_succ (n:=s.size) (by omega) (by omega) (by omega)]
    have:=ih k (i + 1) (by omega) (by omega) (by omega)
    rw [show ((i : Int) + 1) = ((i + 1 : Nat) : Int) by omega,this]
    have a : 97 ≤ s[i].toNat:=by omega
    have b : s[i].toNat ≤ 122:=by omega
    simp [a,b]
theorem spec_validName_ev (s : ByteArray) (hs : s.size ≤ 9223372036854775807) : spec_validName.f (s.size + 1) s = some (okName s):=by
 unfold spec_validName.f okName
 have:=spec_validName_l0 s hs s.size (s.size + 1) 0 (by omega) (by omega) (by omega)
 simpa using this
end Go.Proofs.Ytmiholmfbjalfaa.P
namespace Go.Proofs.Ytmiholmfbjalfaa.P
open Go.RowKit Go.Proofs.YtmiholmfbjalfaaW.PrintWords Go.Proofs.YtmiholmfbjalfaaW.PrintLast Go.Proofs.YtmiholmfbjalfaaW.PrintMore
attribute [local go_sem] max2_int min2_int max_two min_two max_three min_three max_four min_four
set_option linter.unusedVariables false
set_option linter.unusedSimpArgs false
def spec_classNamed.l0 : Nat → List (S87) → ByteArray → Int → Option (Int)
 | 0,_,_,_=>none
 | k + 1,x0,x1,x5=>if x5 < (x0.length : Int) then (if 0 ≤ x5 then (if ((rd_T87 x0 x5).f0).toList = x1.toList then (some x5) else (spec_classNamed.l0 k x0 x1 (wrap64 (x5 + 1)))) else (none)) else (some (-1))
def spec_classNamed.f (k : Nat) (l0 : List (S87)) (a1 : ByteArray) : Option (Int):=spec_classNamed.l0 k l0 a1 0
theorem spec_classNamed.mono_l : ∀ k,(∀ y0 y1 y2,LeO (spec_classNamed.l0 k y0 y1 y2) (spec_classNamed.l0 (k + 1) y0 y1 y2))
 | 0=>fun _ _ _ r h=>by simp [spec_classNamed.l0] at h
 | k + 1=>by
  have ih0:=spec_classNamed.mono_l k
  ·intro y0 y1 y2
   unfold spec_classNamed.l0
   repeat' first
   | (with_reducible exact ih0 _ _ _)
   | (with_reducible exact LeO.refl _)
   | (with_reducible exact LeO.none _)
   | (with_reducible refine LeO.ite ?_ ?_)
   | (with_reducible refine LeO.bind ?_ (fun _=>?_))
   | exact ih0 _ _ _
   | exact LeO.none _
   | refine LeO.ite ?_ ?_
   | refine LeO.bind ?_ (fun _=>?_)
theorem spec_classNamed.mono : ∀ a0 a1 k,LeO (spec_classNamed.f k a0 a1) (spec_classNamed.f (k + 1) a0 a1):=by
 intro a0 a1 k
 have ih0:=spec_classNamed.mono_l k
 unfold spec_classNamed.f
 repeat' first
   | (with_reducible exact ih0 _ _ _)
   | (with_reducible exact LeO.refl _)
   | (with_reducible exact LeO.none _)
   | (with_reducible refine LeO.ite ?_ ?_)
   | (with_reducible refine LeO.bind ?_ (fun _=>?_))
   | exact ih0 _ _ _
   | exact LeO.none _
   | refine LeO.ite ?_ ?_
   | refine LeO.bind ?_ (fun _=>?_)
set_option maxHeartbeats 8000000 in
set_option maxRecDepth 100000 in
theorem spec_classNamed.calls (k : Nat) (A0 : Option Addr) (c0 : Nat) (l0 : List (S87)) (a1 : ByteArray) (r : Int) (w : World) (hr0 : Kd.C k87 w A0 l0.length l0) (hc0 : l0.length ≤ c0) (h : spec_classNamed.f k l0 a1 = some r) :
  Calls Try.prog 84 #[.slice A0 l0.length c0,.string a1] w fun e w'=>e = .returned (.int .i64 r) ∧ Drawn0 w w':=by
 have HR0:=a0_ hr0
 have HC0:=a0_ hc0
 clear hr0 hc0
 have H : (spec_classNamed.l0 k l0 a1 0) = some r:=h
 clear h
 have H':=a0_ H
 clear H
 go_enter Try.func84,Try.ntmps84
 go_wp2
 go_loopg [5] k (fun kq v5 w'=>∃ (x5_1 : Int),v5 = .int .i64 x5_1 ∧ Aside0 (spec_classNamed.l0 kq l0 a1 x5_1 = some r) ∧ Aside0 (kq ≤ k) ∧ Drawn0 w w')
 case atStart=>exact ⟨(0),(by first | rfl | (simp;done) | (simp [*];done)),H',⟨Nat.le_refl _⟩,by repeat (first | exact Drawn0.refl _ | apply Drawn0.step)⟩
 case round =>
  clear H'
  try clear p2
  obtain ⟨x5_1,rfl,HA,HK1,⟨m1,rfl⟩⟩:=hrel
  cases gk with
  | zero=>exact absurd HA.out (by simp [spec_classNamed.l0])
  | succ k1 =>
   have H:=HA.out
   clear HA
   simp only [spec_classNamed.l0] at H
   by_cases c3 : x5_1 < (l0.length : Int)
   ·rw [if_pos c3] at H
    have c3b0 : decide (x5_1 < (l0.length : Int)) = true:=decide_eq_true c3
    clear c3
    by_cases c4 : 0 ≤ x5_1
    ·rw [if_pos c4] at H
     have c4b0 : decide (0 ≤ x5_1) = true:=decide_eq_true c4
     clear c4
     by_cases c5 : ((rd_T87 l0 x5_1).f0).toList = a1.toList
     ·rw [if_pos c5] at H
      have c5b0 : (((rd_T87 l0 x5_1).f0).toList == a1.toList) = true:=beq_iff_eq.mpr c5
      have c5b1 : (((rd_T87 l0 x5_1).f0).toList != a1.toList) = false:=bne_eq_false_iff_eq.mpr c5
      clear c5
      obtain rfl:=Option.some.inj H
      have p1 : 0 ≤ (x5_1 : Int):=of_decide_eq_true (by first | (with_reducible assumption) | assumption)
      have q1 : x5_1 < (l0.length : Int):=of_decide_eq_true (by first | (with_reducible assumption) | assumption)
      obtain ⟨ad1,e1,hx1_0,hx1_1⟩:=at_T87 HR0.out x5_1 p1 q1
      cases e1
      replace p1:=eq_true p1
      replace q1:=eq_true q1
      go_wp2
      go_ret
      exact ⟨by first | rfl | (simp;done) | (simp [*];done),by repeat (first | exact Drawn0.refl _ | apply Drawn0.step)⟩
     ·rw [if_neg c5] at H
      have c5b0 : (((rd_T87 l0 x5_1).f0).toList == a1.toList) = false:=beq_eq_false_iff_ne.mpr c5
      have c5b1 : (((rd_T87 l0 x5_1).f0).toList != a1.toList) = true:=bne_iff_ne.mpr c5
      have H':=a0_ H
      clear H
      have p1 : 0 ≤ (x5_1 : Int):=of_decide_eq_true (by first | (with_reducible assumption) | assumption)
      have q1 : x5_1 < (l0.length : Int):=of_decide_eq_true (by first | (with_reducible assumption) | assumption)
      obtain ⟨ad1,e1,hx1_0,hx1_1⟩:=at_T87 HR0.out x5_1 p1 q1
      cases e1
      replace p1:=eq_true p1
      replace q1:=eq_true q1
      go_wp2
      go_roundg k1
      case measure=>have:=HK1.out;omega
      case rel=>exact ⟨(wrap64 (x5_1 + 1)),(by first | rfl | (simp;done) | (simp [*];done)),H',⟨by have:=HK1.out;omega⟩,by repeat (first | exact Drawn0.refl _ | apply Drawn0.step)⟩
    ·rw [if_neg c4] at H
     exact absurd H (by simp)
   ·rw [if_neg c3] at H
    have c3b0 : decide (x5_1 < (l0.length : Int)) = false:=decide_eq_false c3
    clear c3
    obtain rfl:=Option.some.inj H
    go_wp2
    go_ret
    exact ⟨by first | rfl | (simp;done) | (simp [*];done),by repeat (first | exact Drawn0.refl _ | apply Drawn0.step)⟩
theorem spec_classNamed_l0 (t : List Cls) (n : ByteArray) (hs : t.length ≤ 9223372036854775807) (d : Nat) : ∀ (k : Nat) (i : Nat),i ≤ t.length → t.length - i = d → d < k → (∀ j (hj : j < t.length),j < i → (t[j].f0.toList == n.toList) = false) → spec_classNamed.l0 k t n (i : Int) = some (named t n):=by
 induction d with
 | zero =>
  intro k i hi hd hk hA
  obtain ⟨k,rfl⟩ : ∃ m,k = m + 1:=⟨k - 1,by omega⟩
  simp only [spec_classNamed.l0]
  rw [if_neg (show ¬ (i : Int) < (t.length : Int) by omega)]
  unfold named
  rw [idxP_miss _ t (fun j hj=>hA j hj (by omega))]
 | succ d ih =>
  intro k i hi hd hk hA
  obtain ⟨k,rfl⟩ : ∃ m,k = m + 1:=⟨k - 1,by omega⟩
  have hlt : i < t.length:=by omega
  simp only [spec_classNamed.l0]
  have hrd : rd_T87 t (i : Int) = t[i]:=by simp [rd_T87,hlt]
  rw [if_pos (show (i : Int) < (t.length : Int) by omega),if_pos (show (0 : Int) ≤ (i : Int) by omega),hrd]
  by_cases h1 : t[i].f0.toList = n.toList
  ·rw [if_pos h1]
   unfold named
   rw [idxP_hit (fun x : Cls=>x.f0.toList == n.toList) t i hlt (beq_iff_eq.2 h1) hA]
  ·rw [if_neg h1,wrap_succ (n:=t.length) (by omega) (by omega) (by omega)]
   rw [show ((i : Int) + 1) = ((i + 1 : Nat) : Int) by omega]
   refine ih k (i + 1) (by omega) (by omega) (by omega) (fun j hj hji=>?_)
   by_cases e : j = i
   ·subst e;exact beq_eq_false_iff_ne.2 h1
   ·exact hA j hj (by omega)
theorem spec_classNamed_ev (t : List Cls) (n : ByteArray) (hs : t.length ≤ 9223372036854775807) : spec_classNamed.f (t.length + 1) t n = some (named t n):=by
 unfold spec_classNamed.f
 exact spec_classNamed_l0 t n hs t.length (t.length + 1) 0 (by omega) (by omega) (by omega) (fun j _ hj=>absurd hj (Nat.not_lt_zero _))
end Go.Proofs.Ytmiholmfbjalfaa.P
namespace Go.Proofs.Ytmiholmfbjalfaa.P
open Go.RowKit Go.Proofs.YtmiholmfbjalfaaW.PrintWords Go.Proofs.YtmiholmfbjalfaaW.PrintLast Go.Proofs.YtmiholmfbjalfaaW.PrintMore
attribute [local go_sem] max2_int min2_int max_two min_two max_three min_three max_four min_four
set_option linter.unusedVariables false
set_option linter.unusedSimpArgs false
theorem named_ahead (t : List Cls) (i : Nat) (hi : i < t.length) : (named (t.take i) t[i].f0 ≥ 0) ↔ ¬ named t t[i].f0 = (i : Int):=by
 have hself : (t[i].f0.toList == t[i].f0.toList) = true:=beq_self_eq_true _
 have hd:=idxP_nonneg (fun x : Cls=>x.f0.toList == t[i].f0.toList) (t.take i)
 unfold named
 by_cases hA : ∀ j (hj : j < t.length),j < i → (t[j].f0.toList == t[i].f0.toList) = false
 ·have h1 : idxP (fun x : Cls=>x.f0.toList == t[i].f0.toList) t = (i : Int):=idxP_hit _ t i hi hself hA
  have h2 : (t.take i).any (fun x : Cls=>x.f0.toList == t[i].f0.toList) = false:=by
   rw [List.any_eq_false]
   intro x hx
   obtain ⟨j,hj,rfl⟩:=List.getElem_of_mem hx
   have hj2 : j < i ∧ j < t.length:=by simp at hj;omega
   rw [List.getElem_take]
   simp [hA j hj2.2 hj2.1]
  rw [h2,decide_eq_false_iff_not] at hd
  constructor
  ·intro h;exact absurd h hd
  ·intro h;exact absurd h1 h
 ·have hex : ∃ j,∃ hj : j < t.length,j < i ∧ (t[j].f0.toList == t[i].f0.toList) = true:=by
   apply Classical.byContradiction
   intro hn
   apply hA
   intro j hj hji
   cases hb : (t[j].f0.toList == t[i].f0.toList) with
   | false=>rfl
   | true=>exact absurd ⟨j,hj,hji,hb⟩ hn
  obtain ⟨j,hj,hji,hb⟩:=hex
  have h2 : (t.take i).any (fun x : Cls=>x.f0.toList == t[i].f0.toList) = true:=by
   rw [List.any_eq_true]
   exact ⟨t[j],List.mem_take_iff_getElem.2 ⟨j,by omega,rfl⟩,hb⟩
  rw [h2,decide_eq_true_eq] at hd
  constructor
  ·intro _ h
   unfold idxP at h
   cases hf : t.findIdx? (fun x : Cls=>x.f0.toList == t[i].f0.toList) with
   | none=>rw [hf] at h;simp at h
   | some m =>
    rw [hf] at h
    have hm : m = i:=by have h' : (m : Int) = (i : Int):=h;omega
    subst hm
    rw [List.findIdx?_eq_some_iff_getElem] at hf
    obtain ⟨_,_,hf⟩:=hf
    exact absurd hb (by simpa using hf j hji)
  ·intro _;exact hd
def spec_validTree.f (l0_0 : List (S87)) : Option Bool:=if smT l0_0 = true then some (vT l0_0) else none
set_option maxHeartbeats 4000000 in
set_option maxRecDepth 100000 in
theorem spec_validTree.calls (A0_0 : Option Addr) (c0_0 : Nat) (l0_0 : List (S87)) (r : Bool) (w : World) (hr0_0 : Kd.C k87 w A0_0 l0_0.length l0_0) (hc0_0 : l0_0.length ≤ c0_0) (h : spec_validTree.f l0_0 = some r) :
  Calls Try.prog 74 #[.agg #[.slice A0_0 l0_0.length c0_0]] w fun e w'=>e = .returned (.bool r) ∧ Below w.heap.size w w':=by
 have hu31:=Try.underlying25
 have hsm : smT l0_0 = true:=by
  apply Classical.byContradiction
  intro hn
  rw [spec_validTree.f,if_neg hn] at h
  cases h
 rw [spec_validTree.f,if_pos hsm] at h
 have HRr:=a0_ (Option.some.inj h)
 have HSM:=a0_ hsm
 have HR:=a0_ hr0_0
 have hmax : l0_0.length ≤ 9223372036854775807:=hr0_0.2.1
 clear h hsm hr0_0
 go_enter Try.func74,Try.ntmps74
 go_wp2
 go_loopg [3] l0_0.length (fun gg s3 wr=>∃ kk : Nat,kk ≤ l0_0.length ∧ l0_0.length - kk ≤ gg ∧ s3 = .int .i64 kk ∧ Aside0 (Below w.heap.size w wr) ∧ Aside0 (wr.heap[w.heap.size]? = some (.cells #[.slice A0_0 l0_0.length c0_0] 25 (0,0))) ∧ Aside0 (∀ j,j < kk → okCls l0_0 j (l0_0.getD j z87) = true))
 case atStart=>exact ⟨0,Nat.zero_le _,by omega,rfl,⟨below1 w _⟩,⟨heap_new1 w _⟩,⟨fun j hj=>absurd hj (Nat.not_lt_zero _)⟩⟩
 case round =>
  obtain ⟨kk,hkk,hg,rfl,BW,BK,HA⟩:=hrel
  have hcz : wr.cell? ⟨w.heap.size,0,none⟩ = some (.slice A0_0 l0_0.length c0_0):=(blk_cell BK.out 0).trans rfl
  by_cases hlt : kk < l0_0.length
  ·have hltz : (kk : Int) < (l0_0.length : Int):=by omega
   obtain ⟨ad,ea,hx0,hx1⟩:=at_T87 HR.out (kk : Int) (by omega) (by omega)
   cases ea
   have hrd : rd_T87 l0_0 (kk : Int) = l0_0[kk]:=by simp [rd_T87,hlt]
   rw [hrd] at hx0 hx1
   rw [Int.toNat_natCast] at hx0 hx1
   replace hx0:=(BW.out.cell (World.block_lt_of_cell? w _ hx0)).trans hx0
   replace hx1:=(BW.out.cell (World.block_lt_of_cell? w _ hx1)).trans hx1
   clear hrd
   generalize hy : l0_0[kk] = y at hx0 hx1
   have B:=a0_ hy
   clear hy
   go_upto_region 5 with (fail)
   have hW1:=a0_ (below_alloc BW.out (.cells #[.string y.f0,.int .i64 y.f1] 87))
   have hW2:=a0_ (blk_alloc BK.out (.cells #[.string y.f0,.int .i64 y.f1] 87))
   have hW3:=(blk_cell hW2.out 0).trans rfl
   have hW4:=(blk_cell (heap_new1 wr (.cells #[.string y.f0,.int .i64 y.f1] 87)) 0).trans rfl
   have hW5:=(blk_cell (heap_new1 wr (.cells #[.string y.f0,.int .i64 y.f1] 87)) 1).trans rfl
   clear hcz hx0 hx1 BW BK
   generalize wr.alloc (.cells #[.string y.f0,.int .i64 y.f1] 87) = W1 at hW1 hW2 hW3 hW4 hW5 ⊢
   generalize wr.heap.size = gb at hW4 hW5 ⊢
   have hy1 : y.f0.size ≤ 9223372036854775806:=by rw [← B.out];exact smT_at HSM.out kk hlt
   have A1:=a0_ (spec_validName_ev y.f0 (by omega))
   have hlen : (l0_0.take kk).length = kk:=by simp;omega
   have hcn0:=fun (W : World) (hW : Below w.heap.size w W)=>spec_classNamed.calls _ (some ad) c0_0 (l0_0.take kk) y.f0 _ W (by
    have h1:=Kd.C_take (Kd.C_below HR.out hW) (show kk ≤ l0_0.length by omega)
    exact h1) (by rw [hlen];omega) (spec_classNamed_ev (l0_0.take kk) y.f0 (by rw [hlen];omega))
   rw [hlen] at hcn0
   have hahead:=named_ahead l0_0 kk hlt
   rw [B.out] at hahead
   have hok : okCls l0_0 kk (l0_0.getD kk z87) = okCls l0_0 kk y:=by
    rw [← B.out];simp [List.getD,hlt]
   have hdef : okCls l0_0 kk y = (okName y.f0 && (decide (named l0_0 y.f0 = (kk : Int)) && (if kk = 0 then decide (y.f1 = -1) else decide (0 ≤ y.f1) && decide (y.f1 ≤ (kk : Int) - 1)))):=rfl
   generalize hnn : named (l0_0.take kk) y.f0 = nn at hcn0 hahead
   have HCN:=a0_ hcn0
   have HAH:=a0_ hahead
   have HOK:=a0_ hok
   have HDF:=a0_ hdef
   clear hcn0 hahead hok hdef hnn hlen hy1
   have hcut : ∀ W : World,(Instr.slice 23 (.slice (some ad) l0_0.length c0_0) none (some (.int .i64 (kk : Int))) none).run Try.prog W = .ok (.slice (some ad) kk c0_0) W:=by
    obtain ⟨i0,hi0,_,hsz,_⟩:=info_parts info87
    have h1:=cut_to (P:=Try.prog) 23 87 .i64 Try.underlying23 hi0 (some ad) l0_0.length c0_0 (kk : Int) (by omega) (by omega) hc0_0
    rw [Int.toNat_natCast] at h1
    exact h1
   go_cut [51] (fun v51 wc=>v51 = .bool (!okCls l0_0 kk y) ∧ Aside0 (Below w.heap.size w wc) ∧ Aside0 (wc.heap[w.heap.size]? = some (.cells #[.slice (some ad) l0_0.length c0_0] 25 (0,0))))
   case first =>
    have hw1 : IntKind.i64.wrap ((kk : Int) - 1) = (kk : Int) - 1:=by rw [IntKind.wrap_i64];omega
    have A2:=a0_ (show spec_inRange.f y.f1 0 ((kk : Int) - 1) = some (decide (0 ≤ y.f1) && decide (y.f1 ≤ (kk : Int) - 1)) by
     unfold spec_inRange.f
     by_cases h0 : 0 ≤ y.f1
     ·rw [if_pos h0];simp [h0]
     ·rw [if_neg h0];simp [h0])
    cases hb1 : okName y.f0 with
    | false =>
     rw [hb1] at A1
     have BV : okCls l0_0 kk y = false:=by rw [HDF.out,hb1];rfl
     clear HDF HAH HOK
     go_quiet (first
     | (go_at_call 83;(with_reducible refine (spec_validName.calls _ y.f0 _ _ A1.out).mono ?_);rintro e w' ⟨rfl,⟨nd,rfl⟩⟩;exact ⟨rfl,_,World.drewN_drewN _ _ _⟩)
     | (go_at_call 84;(with_reducible refine (HCN.out _ (pw_below_drewN hW1.out _)).mono ?_);rintro e w' ⟨rfl,⟨nd,rfl⟩⟩;exact ⟨rfl,_,World.drewN_drewN _ _ _⟩)
     | (go_at_call 71;(with_reducible refine (spec_inRange.calls y.f1 0 ((kk : Int) - 1) _ _ A2.out).mono ?_);rintro e w' ⟨rfl,⟨nd,rfl⟩⟩;exact ⟨rfl,_,World.drewN_drewN _ _ _⟩))
     go_wp2
     go_meet
     case rel=>exact ⟨by (rw [BV]);first | rfl | (simp [*];done),⟨pw_below_drewN hW1.out _⟩,⟨blk_drewN hW2.out _⟩⟩
    | true =>
     rw [hb1] at A1
     by_cases hb2 : nn ≥ 0
     ·have BV : okCls l0_0 kk y = false:=by rw [HDF.out,hb1,decide_eq_false (HAH.out.1 hb2)];rfl
      have d2 : decide (0 ≤ nn) = true:=decide_eq_true hb2
      clear HDF HAH HOK hb2
      go_quiet (first
     | (go_at_call 83;(with_reducible refine (spec_validName.calls _ y.f0 _ _ A1.out).mono ?_);rintro e w' ⟨rfl,⟨nd,rfl⟩⟩;exact ⟨rfl,_,World.drewN_drewN _ _ _⟩)
     | (go_at_call 84;(with_reducible refine (HCN.out _ (pw_below_drewN hW1.out _)).mono ?_);rintro e w' ⟨rfl,⟨nd,rfl⟩⟩;exact ⟨rfl,_,World.drewN_drewN _ _ _⟩)
     | (go_at_call 71;(with_reducible refine (spec_inRange.calls y.f1 0 ((kk : Int) - 1) _ _ A2.out).mono ?_);rintro e w' ⟨rfl,⟨nd,rfl⟩⟩;exact ⟨rfl,_,World.drewN_drewN _ _ _⟩))
      go_wp2
      go_meet
      case rel=>exact ⟨by (rw [BV]);first | rfl | (simp [*];done),⟨pw_below_drewN hW1.out _⟩,⟨blk_drewN hW2.out _⟩⟩
     ·have hnm : named l0_0 y.f0 = (kk : Int):=Classical.byContradiction fun hn=>hb2 (HAH.out.2 hn)
      have d2 : decide (0 ≤ nn) = false:=decide_eq_false hb2
      have BV0 : okCls l0_0 kk y = (if kk = 0 then decide (y.f1 = -1) else decide (0 ≤ y.f1) && decide (y.f1 ≤ (kk : Int) - 1)):=by rw [HDF.out,hb1,decide_eq_true hnm];rfl
      clear HDF HAH HOK hb2 hnm
      by_cases hk0 : kk = 0
      ·have BV : okCls l0_0 kk y = decide (y.f1 = -1):=by rw [BV0,if_pos hk0]
       have e0 : ((kk : Int) == 0) = true:=beq_iff_eq.2 (by omega)
       have e1 : decide (0 < (kk : Int)) = false:=decide_eq_false (by omega)
       have e1n : decide (0 < kk) = false:=decide_eq_false (by omega)
       clear BV0
       by_cases hp : y.f1 = -1
       ·have e2 : (y.f1 != -1) = false:=by rw [hp];rfl
        have e3 : (y.f1 == -1) = true:=by rw [hp];rfl
        rw [decide_eq_true hp] at BV
        clear hp hk0
        go_quiet (first
     | (go_at_call 83;(with_reducible refine (spec_validName.calls _ y.f0 _ _ A1.out).mono ?_);rintro e w' ⟨rfl,⟨nd,rfl⟩⟩;exact ⟨rfl,_,World.drewN_drewN _ _ _⟩)
     | (go_at_call 84;(with_reducible refine (HCN.out _ (pw_below_drewN hW1.out _)).mono ?_);rintro e w' ⟨rfl,⟨nd,rfl⟩⟩;exact ⟨rfl,_,World.drewN_drewN _ _ _⟩)
     | (go_at_call 71;(with_reducible refine (spec_inRange.calls y.f1 0 ((kk : Int) - 1) _ _ A2.out).mono ?_);rintro e w' ⟨rfl,⟨nd,rfl⟩⟩;exact ⟨rfl,_,World.drewN_drewN _ _ _⟩))
        go_wp2
        go_meet
        case rel=>exact ⟨by (rw [BV]);first | rfl | (simp [*];done),⟨pw_below_drewN hW1.out _⟩,⟨blk_drewN hW2.out _⟩⟩
       ·have e2 : (y.f1 != -1) = true:=bne_iff_ne.2 hp
        have e3 : (y.f1 == -1) = false:=beq_eq_false_iff_ne.2 hp
        rw [decide_eq_false hp] at BV
        clear hp hk0
        go_quiet (first
     | (go_at_call 83;(with_reducible refine (spec_validName.calls _ y.f0 _ _ A1.out).mono ?_);rintro e w' ⟨rfl,⟨nd,rfl⟩⟩;exact ⟨rfl,_,World.drewN_drewN _ _ _⟩)
     | (go_at_call 84;(with_reducible refine (HCN.out _ (pw_below_drewN hW1.out _)).mono ?_);rintro e w' ⟨rfl,⟨nd,rfl⟩⟩;exact ⟨rfl,_,World.drewN_drewN _ _ _⟩)
     | (go_at_call 71;(with_reducible refine (spec_inRange.calls y.f1 0 ((kk : Int) - 1) _ _ A2.out).mono ?_);rintro e w' ⟨rfl,⟨nd,rfl⟩⟩;exact ⟨rfl,_,World.drewN_drewN _ _ _⟩))
        go_wp2
        go_meet
        case rel=>exact ⟨by (rw [BV]);first | rfl | (simp [*];done),⟨pw_below_drewN hW1.out _⟩,⟨blk_drewN hW2.out _⟩⟩
      ·have BV : okCls l0_0 kk y = (decide (0 ≤ y.f1) && decide (y.f1 ≤ (kk : Int) - 1)):=by rw [BV0,if_neg hk0]
       have e0 : ((kk : Int) == 0) = false:=beq_eq_false_iff_ne.2 (by omega)
       have e1 : decide (0 < (kk : Int)) = true:=decide_eq_true (by omega)
       have e1n : decide (0 < kk) = true:=decide_eq_true (by omega)
       rw [← BV] at A2
       clear BV BV0 hk0
       cases BV : okCls l0_0 kk y with
       | false =>
        rw [BV] at A2
        go_quiet (first
     | (go_at_call 83;(with_reducible refine (spec_validName.calls _ y.f0 _ _ A1.out).mono ?_);rintro e w' ⟨rfl,⟨nd,rfl⟩⟩;exact ⟨rfl,_,World.drewN_drewN _ _ _⟩)
     | (go_at_call 84;(with_reducible refine (HCN.out _ (pw_below_drewN hW1.out _)).mono ?_);rintro e w' ⟨rfl,⟨nd,rfl⟩⟩;exact ⟨rfl,_,World.drewN_drewN _ _ _⟩)
     | (go_at_call 71;(with_reducible refine (spec_inRange.calls y.f1 0 ((kk : Int) - 1) _ _ A2.out).mono ?_);rintro e w' ⟨rfl,⟨nd,rfl⟩⟩;exact ⟨rfl,_,World.drewN_drewN _ _ _⟩))
        go_wp2
        go_meet
        case rel=>exact ⟨by (rw [BV]);first | rfl | (simp [*];done),⟨pw_below_drewN hW1.out _⟩,⟨blk_drewN hW2.out _⟩⟩
       | true =>
        rw [BV] at A2
        go_quiet (first
     | (go_at_call 83;(with_reducible refine (spec_validName.calls _ y.f0 _ _ A1.out).mono ?_);rintro e w' ⟨rfl,⟨nd,rfl⟩⟩;exact ⟨rfl,_,World.drewN_drewN _ _ _⟩)
     | (go_at_call 84;(with_reducible refine (HCN.out _ (pw_below_drewN hW1.out _)).mono ?_);rintro e w' ⟨rfl,⟨nd,rfl⟩⟩;exact ⟨rfl,_,World.drewN_drewN _ _ _⟩)
     | (go_at_call 71;(with_reducible refine (spec_inRange.calls y.f1 0 ((kk : Int) - 1) _ _ A2.out).mono ?_);rintro e w' ⟨rfl,⟨nd,rfl⟩⟩;exact ⟨rfl,_,World.drewN_drewN _ _ _⟩))
        go_wp2
        go_meet
        case rel=>exact ⟨by (rw [BV]);first | rfl | (simp [*];done),⟨pw_below_drewN hW1.out _⟩,⟨blk_drewN hW2.out _⟩⟩
   case rest =>
    obtain ⟨rfl,hW,hK⟩:=hcut
    have hb:=HOK.out
    cases BV : okCls l0_0 kk y with
    | false =>
     go_wp2
     go_ret
     refine ⟨?_,hW.out⟩
     rw [← HRr.out]
     have : vT l0_0 = false:=by
      cases hv : vT l0_0 with
      | false=>rfl
      | true=>have:=vT_at hv kk hlt;rw [HOK.out,BV] at this;cases this
     rw [this];rfl
    | true =>
     go_wp2
     go_roundg (l0_0.length - (kk + 1))
     case measure=>omega
     case rel =>
      refine ⟨kk + 1,by omega,by omega,by go_num,⟨hW.out⟩,⟨hK.out⟩,⟨fun j hj=>?_⟩⟩
      by_cases e : j = kk
      ·subst e;rw [HOK.out,BV]
      ·exact HA.out j (by omega)
  ·have hltz : ¬ (kk : Int) < (l0_0.length : Int):=by omega
   have : kk = l0_0.length:=by omega
   subst this
   have A3:=a0_ (show spec_inRange.f (l0_0.length : Int) 1 8 = some (vT l0_0) by
    have hall : (List.range l0_0.length).all (fun i=>okCls l0_0 i (l0_0.getD i z87)) = true:=by
     rw [List.all_eq_true];intro i hi;exact HA.out i (by simpa using hi)
    unfold spec_inRange.f vT
    rw [hall]
    by_cases h1 : (1 : Int) ≤ l0_0.length
    ·rw [if_pos h1]
     have h1' : 1 ≤ l0_0.length:=by omega
     by_cases h8 : l0_0.length ≤ 8
     ·simp [h1',h8];omega
     ·simp [h8];omega
    ·rw [if_neg h1]
     have h1' : ¬ 1 ≤ l0_0.length:=by omega
     simp [h1'])
   rw [HRr.out] at A3
   go_wp2_with (go_at_call 71;(with_reducible refine (spec_inRange.calls (l0_0.length : Int) 1 8 _ _ A3.out).mono ?_);rintro e w' ⟨rfl,⟨nd,rfl⟩⟩)
   go_ret
   exact ⟨rfl,pw_below_drewN BW.out _⟩
end Go.Proofs.Ytmiholmfbjalfaa.P
