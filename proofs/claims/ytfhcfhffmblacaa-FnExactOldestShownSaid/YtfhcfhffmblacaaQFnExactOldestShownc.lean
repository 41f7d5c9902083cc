/- Texts under the proof of FnExactOldestShown: helper words, the functions' contracts and the plain laws. No condition. -/
import Derived.Test.YtfhcfhffmblacaaQFnExactOldestShowna
import Derived.Test.YtfhcfhffmblacaaQFnExactOldestShownb
namespace Go.Proofs.Ytfhcfhffmblacaa.P
open Go.RowKit Go.Proofs.YtfhcfhffmblacaaW.PrintWords Go.Proofs.YtfhcfhffmblacaaW.PrintLast Go.Proofs.YtfhcfhffmblacaaW.PrintMore
attribute [local go_sem] max2_int min2_int max_two min_two max_three min_three max_four min_four
set_option linter.unusedVariables false
set_option linter.unusedSimpArgs false
def impl_nameOk.l0 : Nat → ByteArray → Int → Int → Option (Bool)
 | 0,_,_,_=>none
 | k + 1,x0,x5,x6=>if x6 < x5 then (if 0 ≤ x6 then (if x6 < (x0.size : Int) then (if (bt x0 x6) < 97 then (some false) else (if (bt x0 x6) > 122 then (some false) else (impl_nameOk.l0 k x0 x5 (wrap64 (x6 + 1))))) else (none)) else (none)) else ((impl_within.f (x0.size : Int) 1 6).bind fun t1=>(some t1))
def impl_nameOk.f (k : Nat) (a0 : ByteArray) : Option (Bool):=impl_nameOk.l0 k a0 (a0.size : Int) 0
theorem impl_nameOk.mono_l : ∀ k,(∀ y0 y1 y2,LeO (impl_nameOk.l0 k y0 y1 y2) (impl_nameOk.l0 (k + 1) y0 y1 y2))
 | 0=>fun _ _ _ r h=>by simp [impl_nameOk.l0] at h
 | k + 1=>by
  have ih0:=impl_nameOk.mono_l k
  ·intro y0 y1 y2
   unfold impl_nameOk.l0
   repeat' first
   | (with_reducible exact ih0 _ _ _)
   | (with_reducible exact LeO.refl _)
   | (with_reducible exact LeO.none _)
   | (with_reducible refine LeO.ite ?_ ?_)
   | (with_reducible refine LeO.bind ?_ (fun _=>?_))
   | exact ih0 _ _ _
   | exact LeO.none _
   | refine LeO.ite ?_ ?_
   | refine LeO.bind ?_ (fun _=>?_)
theorem impl_nameOk.mono : ∀ a0 k,LeO (impl_nameOk.f k a0) (impl_nameOk.f (k + 1) a0):=by
 intro a0 k
 have ih0:=impl_nameOk.mono_l k
 unfold impl_nameOk.f
 repeat' first
   | (with_reducible exact ih0 _ _ _)
   | (with_reducible exact LeO.refl _)
   | (with_reducible exact LeO.none _)
   | (with_reducible refine LeO.ite ?_ ?_)
   | (with_reducible refine LeO.bind ?_ (fun _=>?_))
   | exact ih0 _ _ _
   | exact LeO.none _
   | refine LeO.ite ?_ ?_
   | refine LeO.bind ?_ (fun _=>?_)
set_option maxHeartbeats 8000000 in
set_option maxRecDepth 100000 in
theorem impl_nameOk.calls (k : Nat) (a0 : ByteArray) (r : Bool) (w : World) (h : impl_nameOk.f k a0 = some r) :
  Calls Try.prog 95 #[.string a0] w fun e w'=>e = .returned (.bool r) ∧ Drawn0 w w':=by
 have H : (impl_nameOk.l0 k a0 (a0.size : Int) 0) = some r:=h
 clear h
 have H':=a0_ H
 clear H
 go_enter Try.func95,Try.ntmps95
 go_wp2
 go_loopg [6] k (fun kq v6 w'=>∃ (x6_1 : Int),v6 = .int .i64 x6_1 ∧ Aside0 (impl_nameOk.l0 kq a0 (a0.size : Int) x6_1 = some r) ∧ Aside0 (kq ≤ k) ∧ Drawn0 w w')
 case atStart=>exact ⟨(0),(by first | rfl | (simp;done) | (simp [*];done)),H',⟨Nat.le_refl _⟩,by repeat (first | exact Drawn0.refl _ | apply Drawn0.step)⟩
 case round =>
  clear H'
  obtain ⟨x6_1,rfl,HA,HK1,⟨m1,rfl⟩⟩:=hrel
  cases gk with
  | zero=>exact absurd HA.out (by simp [impl_nameOk.l0])
  | succ k1 =>
   have H:=HA.out
   clear HA
   simp only [impl_nameOk.l0] at H
   by_cases c2 : x6_1 < (a0.size : Int)
   ·rw [if_pos c2] at H
    have c2b0 : decide (x6_1 < (a0.size : Int)) = true:=decide_eq_true c2
    clear c2
    by_cases c3 : 0 ≤ x6_1
    ·rw [if_pos c3] at H
     have c3b0 : decide (0 ≤ x6_1) = true:=decide_eq_true c3
     clear c3
     by_cases c4 : x6_1 < (a0.size : Int)
     ·rw [if_pos c4] at H
      have c4b0 : decide (x6_1 < (a0.size : Int)) = true:=decide_eq_true c4
      clear c4
      by_cases c6 : (bt a0 x6_1) < 97
      ·rw [if_pos c6] at H
       have c6b0 : decide ((bt a0 x6_1) < 97) = true:=decide_eq_true c6
       clear c6
       obtain rfl:=Option.some.inj H
       have p5 : 0 ≤ (x6_1 : Int):=of_decide_eq_true (by first | (with_reducible assumption) | assumption)
       have q5 : x6_1 < (a0.size : Int):=of_decide_eq_true (by first | (with_reducible assumption) | assumption)
       have hx5:=bt_at a0 x6_1
       replace p5:=eq_true p5
       replace q5:=eq_true q5
       go_wp2
       go_ret
       exact ⟨by first | rfl | (simp;done) | (simp [*];done),by repeat (first | exact Drawn0.refl _ | apply Drawn0.step)⟩
      ·rw [if_neg c6] at H
       have c6b0 : decide ((bt a0 x6_1) < 97) = false:=decide_eq_false c6
       clear c6
       by_cases c8 : (bt a0 x6_1) > 122
       ·rw [if_pos c8] at H
        have c8b0 : decide (122 < (bt a0 x6_1)) = true:=decide_eq_true c8
        clear c8
        obtain rfl:=Option.some.inj H
        have p5 : 0 ≤ (x6_1 : Int):=of_decide_eq_true (by first | (with_reducible assumption) | assumption)
        have q5 : x6_1 < (a0.size : Int):=of_decide_eq_true (by first | (with_reducible assumption) | assumption)
        have hx5:=bt_at a0 x6_1
        replace p5:=eq_true p5
        replace q5:=eq_true q5
        have p7 : 0 ≤ (x6_1 : Int):=of_decide_eq_true (by first | (with_reducible assumption) | assumption)
        have q7 : x6_1 < (a0.size : Int):=of_decide_eq_true (by first | (with_reducible assumption) | assumption)
        have hx7:=bt_at a0 x6_1
        replace p7:=eq_true p7
        replace q7:=eq_true q7
        go_wp2
        go_ret
        exact ⟨by first | rfl | (simp;done) | (simp [*];done),by repeat (first | exact Drawn0.refl _ | apply Drawn0.step)⟩
       ·rw [if_neg c8] at H
        have c8b0 : decide (122 < (bt a0 x6_1)) = false:=decide_eq_false c8
        clear c8
        have H':=a0_ H
        clear H
        have p5 : 0 ≤ (x6_1 : Int):=of_decide_eq_true (by first | (with_reducible assumption) | assumption)
        have q5 : x6_1 < (a0.size : Int):=of_decide_eq_true (by first | (with_reducible assumption) | assumption)
        have hx5:=bt_at a0 x6_1
        replace p5:=eq_true p5
        replace q5:=eq_true q5
        have p7 : 0 ≤ (x6_1 : Int):=of_decide_eq_true (by first | (with_reducible assumption) | assumption)
        have q7 : x6_1 < (a0.size : Int):=of_decide_eq_true (by first | (with_reducible assumption) | assumption)
        have hx7:=bt_at a0 x6_1
        replace p7:=eq_true p7
        replace q7:=eq_true q7
        go_wp2
        go_roundg k1
        case measure=>have:=HK1.1;omega
        case rel=>exact ⟨(wrap64 (x6_1 + 1)),(by first | rfl | (simp;done) | (simp [*];done)),H',⟨by have:=HK1.1;omega⟩,by repeat (first | exact Drawn0.refl _ | apply Drawn0.step)⟩
     ·rw [if_neg c4] at H
      exact absurd H (by simp)
    ·rw [if_neg c3] at H
     exact absurd H (by simp)
   ·rw [if_neg c2] at H
    have c2b0 : decide (x6_1 < (a0.size : Int)) = false:=decide_eq_false c2
    clear c2
    replace H:=Option.bind_eq_some_iff.mp H
    obtain ⟨t1,A90,H⟩:=H
    replace H : (some t1) = some r:=H
    have A9:=a0_ A90
    clear A90
    obtain rfl:=Option.some.inj H
    go_wp2_with (first | ((with_reducible refine gate_callee (f:=93) rfl ?_);refine goesL_ (some 22) rfl rfl Try.func93 (by kernel_rfl) rfl #[.int .i64 (a0.size : Int),.int .i64 1,.int .i64 6] rfl lm_ ?_;(with_reducible refine (impl_within.calls (a0.size : Int) 1 6 t1 _ A9.1).mono ?_);rintro e w' ⟨rfl,⟨nd,rfl⟩⟩;refine ⟨_,rfl,?_⟩))
    go_ret
    exact ⟨by first | rfl | (simp;done) | (simp [*];done),by repeat (first | exact Drawn0.refl _ | apply Drawn0.step)⟩
theorem impl_nameOk_l0 (s : ByteArray) (hs : s.size ≤ 9223372036854775807) (d : Nat) : ∀ (k : Nat) (i : Nat),i ≤ s.size → s.size - i = d → d < k → impl_nameOk.l0 k s (s.size : Int) (i : Int) = some ((s.data.toList.drop i).all (fun c=>decide (97 ≤ c.toNat) && decide (c.toNat ≤ 122)) && (decide (1 ≤ s.size) && decide (s.size ≤ 6))):=by
 induction d with
 | zero =>
  intro k i hi hd hk
  obtain ⟨k,rfl⟩ : ∃ m,k = m + 1:=⟨k - 1,by omega⟩
  simp only [impl_nameOk.l0]
  rw [if_neg (by omega)]
  have : s.data.toList.drop i = []:=by
   apply List.drop_eq_nil_of_le
   have : s.data.toList.length = s.size:=toL_len s
   omega
  rw [this]
  simp only [impl_within.f,List.all_nil,Bool.true_and]
  by_cases h1 : 1 ≤ s.size
  ·rw [if_pos (show (s.size : Int) ≥ 1 by omega)]
   by_cases h2 : s.size ≤ 6
   ·simp [h1,h2];omega
   ·simp [h2];omega
  ·rw [if_neg (show ¬ (s.size : Int) ≥ 1 by omega)];simp [h1]
 | succ d ih =>
  intro k i hi hd hk
  obtain ⟨k,rfl⟩ : ∃ m,k = m + 1:=⟨k - 1,by omega⟩
  have hlt : i < s.size:=by omega
  have hl : s.data.toList.length = s.size:=toL_len s
  simp only [impl_nameOk.l0]
  rw [if_pos (show (i : Int) < (s.size : Int) by omega),if_pos (show (0 : Int) ≤ (i : Int) by omega),if_pos (show (i : Int) < (s.size : Int) by omega),bt_getElem s i hlt]
  have hd2 : s.data.toList.drop i = s[i] :: s.data.toList.drop (i + 1):=by
   rw [List.drop_eq_getElem_cons (by omega)]
   congr 1
  rw [hd2,List.all_cons]
  by_cases h1 : (s[i].toNat : Int) < 97
  ·rw [if_pos h1];have : ¬ 97 ≤ s[i].toNat:=by omega
   simp [this]
  ·rw [if_neg h1]
   by_cases h2 : (s[i].toNat : Int) > 122
   ·rw [if_pos h2];have : ¬ s[i].toNat ≤ 122:=by omega
    simp [this]
   ·rw [if_neg h2,wrap_succ (n:=s.size) (by omega) (by omega) (by omega)]
    have:=ih k (i + 1) (by omega) (by omega) (by omega)
    rw [show ((i : Int) + 1) = ((i + 1 : Nat) : Int) by omega,this]
    have a : 97 ≤ s[i].toNat:=by omega
    have b : s[i].toNat ≤ 122:=by omega
    simp [a,b]
theorem impl_nameOk_ev (s : ByteArray) (hs : s.size ≤ 9223372036854775807) : impl_nameOk.f (s.size + 1) s = some (okName s):=by
 unfold impl_nameOk.f okName
 have:=impl_nameOk_l0 s hs s.size (s.size + 1) 0 (by omega) (by omega) (by omega)
 simpa using this
end Go.Proofs.Ytfhcfhffmblacaa.P
namespace Go.Proofs.Ytfhcfhffmblacaa.P
open Go.RowKit Go.Proofs.YtfhcfhffmblacaaW.PrintWords Go.Proofs.YtfhcfhffmblacaaW.PrintLast Go.Proofs.YtfhcfhffmblacaaW.PrintMore
attribute [local go_sem] max2_int min2_int max_two min_two max_three min_three max_four min_four
set_option linter.unusedVariables false
set_option linter.unusedSimpArgs false
set_option maxHeartbeats 2000000 in
theorem slices_IndexFunc_Class.callsF (A : Option Addr) (c : Nat) (l : List S106) (g : Nat) (lb : Array Value) (p : S106 → Bool) (w : World) (eg : ∀ args w,(callFunc g args).run Try.prog w = .ok (.enter g args) w)
  (hr : Kd.C k106 w A l.length l) (hc : l.length ≤ c) (hp : ∀ x,x ∈ l → ∀ W,Below w.heap.size w W → Calls Try.prog g (#[.agg #[.string x.f0,.int .i64 x.f1]] ++ lb) W fun e w'=>e = .returned (.bool (p x)) ∧ Below W.heap.size W w') :
  Calls Try.prog 107 #[.slice A l.length c,.func (.func g) #[] lb] w fun e w'=>e = .returned (.int .i64 (idxP p l)) ∧ Below w.heap.size w w':=by
 have HR:=a0_ hr
 have HP:=a0_ hp
 have hmax : l.length ≤ 9223372036854775807:=hr.2.1
 clear hr hp hc
 go_enter Try.func107,Try.ntmps107
 go_wp2
 go_loopg [5,8] l.length (fun gg _ s8 wr=>∃ kk : Nat,kk ≤ l.length ∧ l.length - kk ≤ gg ∧ s8 = .int .i64 kk ∧ Aside0 (Below w.heap.size w wr) ∧ Aside0 (∀ j (hj : j < l.length),j < kk → p l[j] = false))
 case atStart=>exact ⟨0,Nat.zero_le _,by omega,rfl,⟨Below.refl _ w⟩,⟨fun j _ hj=>absurd hj (Nat.not_lt_zero _)⟩⟩
 case round =>
  obtain ⟨kk,hkk,hg,rfl,BW,HA⟩:=hrel
  by_cases hlt : kk < l.length
  ·have hltz : (kk : Int) < (l.length : Int):=by omega
   obtain ⟨ad,ea,hx0,hx1⟩:=at_T106 HR.out (kk : Int) (by omega) (by omega)
   cases ea
   have hrd : rd_T106 l (kk : Int) = l[kk]:=by simp [rd_T106,hlt]
   rw [hrd] at hx0 hx1
   rw [Int.toNat_natCast] at hx0 hx1
   replace hx0:=(BW.out.cell (World.block_lt_of_cell? w _ hx0)).trans hx0
   replace hx1:=(BW.out.cell (World.block_lt_of_cell? w _ hx1)).trans hx1
   have hcall:=HP.out l[kk] (List.getElem_mem hlt) wr BW.out
   clear hrd
   generalize hy : l[kk] = y at hx0 hx1 hcall
   have B:=a0_ hy
   clear hy
   cases hq : p y with
   | true =>
    rw [hq] at hcall
    go_wp2_with (go_at_fn g;refine hcall.mono ?_;rintro e w' ⟨rfl,hb'⟩)
    go_ret
    refine ⟨?_,below_step BW.out hb'⟩
    rw [idxP_hit p l kk hlt (by rw [B.out];exact hq) HA.out];rfl
   | false =>
    rw [hq] at hcall
    go_wp2_with (go_at_fn g;refine hcall.mono ?_;rintro e w' ⟨rfl,hb'⟩)
    go_roundg (l.length - (kk + 1))
    case measure=>omega
    case rel =>
     refine ⟨kk + 1,by omega,by omega,by go_num,⟨below_step BW.out hb'⟩,⟨fun j hj hjk=>?_⟩⟩
     by_cases e : j = kk
     ·subst e
      rw [B.out];exact hq
     ·exact HA.out j hj (by omega)
  ·have hltz : ¬ (kk : Int) < (l.length : Int):=by omega
   have : kk = l.length:=by omega
   subst this
   go_wp2
   go_ret
   refine ⟨?_,BW.out⟩
   rw [idxP_miss p l (fun j hj=>HA.out j hj hj)];rfl
end Go.Proofs.Ytfhcfhffmblacaa.P
namespace Go.Proofs.Ytfhcfhffmblacaa.P
open Go.RowKit Go.Proofs.YtfhcfhffmblacaaW.PrintWords Go.Proofs.YtfhcfhffmblacaaW.PrintLast Go.Proofs.YtfhcfhffmblacaaW.PrintMore
attribute [local go_sem] max2_int min2_int max_two min_two max_three min_three max_four min_four
set_option linter.unusedVariables false
set_option linter.unusedSimpArgs false
theorem impl_Tree_named_1.callsF (B : Nat) (nm : ByteArray) (x : S106) (w : World) (hB : w.heap[B]? = some (.cells #[.string nm] 9 (0,0))) :
  Calls Try.prog 108 #[.agg #[.string x.f0,.int .i64 x.f1],.pointer (some ⟨B,0,none⟩)] w fun e w'=>e = .returned (.bool (x.f0.toList == nm.toList)) ∧ Below w.heap.size w w':=by
 have hc : w.cell? ⟨B,0,none⟩ = some (.string nm):=(blk_cell hB 0).trans rfl
 have hlt : B < w.heap.size:=(Array.getElem?_eq_some_iff.1 hB).1
 have hne : B ≠ w.heap.size:=by omega
 clear hB
 go_enter Try.func108,Try.ntmps108
 go_wp2
 all_goals (go_ret;exact ⟨by simp_all,(Below.refl _ w).alloc (Nat.le_refl _) _⟩)
end Go.Proofs.Ytfhcfhffmblacaa.P
namespace Go.Proofs.Ytfhcfhffmblacaa.P
open Go.RowKit Go.Proofs.YtfhcfhffmblacaaW.PrintWords Go.Proofs.YtfhcfhffmblacaaW.PrintLast Go.Proofs.YtfhcfhffmblacaaW.PrintMore
attribute [local go_sem] max2_int min2_int max_two min_two max_three min_three max_four min_four
set_option linter.unusedVariables false
set_option linter.unusedSimpArgs false
def impl_Tree_named.f (l0_0 : List (S106)) (a1 : ByteArray) : Option Int:=some (idxP (fun x : S106=>x.f0.toList == a1.toList) l0_0)
set_option maxHeartbeats 2000000 in
theorem impl_Tree_named.calls (A0_0 : Option Addr) (c0_0 : Nat) (l0_0 : List (S106)) (a1 : ByteArray) (r : Int) (w : World) (hr0_0 : Kd.C k106 w A0_0 l0_0.length l0_0) (hc0_0 : l0_0.length ≤ c0_0) (h : impl_Tree_named.f l0_0 a1 = some r) :
  Calls Try.prog 96 #[.agg #[.slice A0_0 l0_0.length c0_0],.string a1] w fun e w'=>e = .returned (.int .i64 r) ∧ Below w.heap.size w w':=by
 obtain rfl:=Option.some.inj h
 clear h
 have hu31:=Try.underlying33
 have eg : ∀ args w,(callFunc 108 args).run Try.prog w = .ok (.enter 108 args) w:=enters_of Try.func108 (by kernel_rfl) rfl
 have hcon:=fun (W : World) (hb : Below w.heap.size w W) (hB : W.heap[w.heap.size + 1]? = some (.cells #[.string a1] 9 (0,0)))=>slices_IndexFunc_Class.callsF A0_0 c0_0 l0_0 108 #[.pointer (some ⟨w.heap.size + 1,0,none⟩)] (fun x=>x.f0.toList == a1.toList) W eg (Kd.C_below hr0_0 hb) hc0_0 (fun x _ W' hW=>by
  have:=impl_Tree_named_1.callsF (w.heap.size + 1) a1 x W' (blk_keptB hB hW)
  simpa using this)
 clear hr0_0 hc0_0
 generalize idxP (fun x : S106=>x.f0.toList == a1.toList) l0_0 = r at hcon ⊢
 have HC:=a0_ hcon
 clear hcon
 go_enter Try.func96,Try.ntmps96
 go_wp2_with (go_at_call 107;refine (HC.out _ ?hb ?hB).mono ?_;(case hb=>exact below2 w _ _);(case hB=>exact heap_new2 w _ _);rintro e w' ⟨rfl,hb'⟩)
 go_ret
 exact ⟨rfl,(below2 w _ _).trans (hb'.mono (by simp;omega))⟩
end Go.Proofs.Ytfhcfhffmblacaa.P
namespace Go.Proofs.Ytfhcfhffmblacaa.P
open Go.RowKit Go.Proofs.YtfhcfhffmblacaaW.PrintWords Go.Proofs.YtfhcfhffmblacaaW.PrintLast Go.Proofs.YtfhcfhffmblacaaW.PrintMore
attribute [local go_sem] max2_int min2_int max_two min_two max_three min_three max_four min_four
set_option linter.unusedVariables false
set_option linter.unusedSimpArgs false
def impl_ValidTree.f (l0_0 : List (S106)) : Option Bool:=if smT l0_0 = true then some (vT l0_0) else none
set_option maxHeartbeats 4000000 in
set_option maxRecDepth 100000 in
theorem impl_ValidTree.calls (A0_0 : Option Addr) (c0_0 : Nat) (l0_0 : List (S106)) (r : Bool) (w : World) (hr0_0 : Kd.C k106 w A0_0 l0_0.length l0_0) (hc0_0 : l0_0.length ≤ c0_0) (h : impl_ValidTree.f l0_0 = some r) :
  Calls Try.prog 62 #[.agg #[.slice A0_0 l0_0.length c0_0]] w fun e w'=>e = .returned (.bool r) ∧ Below w.heap.size w w':=by
 have hu31:=Try.underlying33
 have hsm : smT l0_0 = true:=by
  apply Classical.byContradiction
  intro hn
  rw [impl_ValidTree.f,if_neg hn] at h
  cases h
 rw [impl_ValidTree.f,if_pos hsm] at h
 have HRr:=a0_ (Option.some.inj h)
 have HSM:=a0_ hsm
 have HR:=a0_ hr0_0
 have hmax : l0_0.length ≤ 9223372036854775807:=hr0_0.2.1
 clear h hsm hr0_0
 go_enter Try.func62,Try.ntmps62
 go_wp2
 go_loopg [8] l0_0.length (fun gg s8 wr=>∃ kk : Nat,kk ≤ l0_0.length ∧ l0_0.length - kk ≤ gg ∧ s8 = .int .i64 kk ∧ Aside0 (Below w.heap.size w wr) ∧ Aside0 (wr.heap[w.heap.size]? = some (.cells #[.slice A0_0 l0_0.length c0_0] 33 (0,0))) ∧ Aside0 (∀ j,j < kk → okCls l0_0 j (l0_0.getD j z106) = true))
 case atStart=>exact ⟨0,Nat.zero_le _,by omega,rfl,⟨below1 w _⟩,⟨heap_new1 w _⟩,⟨fun j hj=>absurd hj (Nat.not_lt_zero _)⟩⟩
 case round =>
  obtain ⟨kk,hkk,hg,rfl,BW,BK,HA⟩:=hrel
  have hcz : wr.cell? ⟨w.heap.size,0,none⟩ = some (.slice A0_0 l0_0.length c0_0):=(blk_cell BK.1 0).trans rfl
  by_cases hlt : kk < l0_0.length
  ·have hltz : (kk : Int) < (l0_0.length : Int):=by omega
   obtain ⟨ad,ea,hx0,hx1⟩:=at_T106 HR.out (kk : Int) (by omega) (by omega)
   cases ea
   have hrd : rd_T106 l0_0 (kk : Int) = l0_0[kk]:=by simp [rd_T106,hlt]
   rw [hrd] at hx0 hx1
   rw [Int.toNat_natCast] at hx0 hx1
   replace hx0:=(BW.out.cell (World.block_lt_of_cell? w _ hx0)).trans hx0
   replace hx1:=(BW.out.cell (World.block_lt_of_cell? w _ hx1)).trans hx1
   clear hrd
   generalize hy : l0_0[kk] = y at hx0 hx1
   have B:=a0_ hy
   clear hy
   go_upto_region 4 with (fail)
   have hW1:=a0_ (below_alloc BW.out (.cells #[.string y.f0,.int .i64 y.f1] 106))
   have hW2:=a0_ (blk_alloc BK.1 (.cells #[.string y.f0,.int .i64 y.f1] 106))
   have hW3:=(blk_cell hW2.out 0).trans rfl
   have hW4:=(blk_cell (heap_new1 wr (.cells #[.string y.f0,.int .i64 y.f1] 106)) 0).trans rfl
   have hW5:=(blk_cell (heap_new1 wr (.cells #[.string y.f0,.int .i64 y.f1] 106)) 1).trans rfl
   clear hcz hx0 hx1 BW BK
   generalize wr.alloc (.cells #[.string y.f0,.int .i64 y.f1] 106) = W1 at hW1 hW2 hW3 hW4 hW5 ⊢
   generalize wr.heap.size = gb at hW4 hW5 ⊢
   have hy1 : y.f0.size ≤ 9223372036854775806:=by rw [← B.out];exact smT_at HSM.out kk hlt
   have A1:=a0_ (impl_nameOk_ev y.f0 (by omega))
   have hcn0:=fun (W : World) (hW : Below w.heap.size w W)=>impl_Tree_named.calls (some ad) c0_0 l0_0 y.f0 (named l0_0 y.f0) W (Kd.C_below HR.out hW) hc0_0 rfl
   have hok : okCls l0_0 kk (l0_0.getD kk z106) = okCls l0_0 kk y:=by
    rw [← B.out];simp [List.getD,hlt]
   have hdef : okCls l0_0 kk y = (okName y.f0 && (decide (named l0_0 y.f0 = (kk : Int)) && (if kk = 0 then decide (y.f1 = -1) else decide (0 ≤ y.f1) && decide (y.f1 ≤ (kk : Int) - 1)))):=rfl
   generalize named l0_0 y.f0 = nn at hcn0 hdef
   have HCN:=a0_ hcn0
   have HOK:=a0_ hok
   have HDF:=a0_ hdef
   clear hcn0 hok hdef hy1
   go_cut [45] (fun v45 wc=>v45 = .bool (!okCls l0_0 kk y) ∧ Aside0 (Below w.heap.size w wc) ∧ Aside0 (wc.heap[w.heap.size]? = some (.cells #[.slice (some ad) l0_0.length c0_0] 33 (0,0))))
   case first =>
    have hw1 : IntKind.i64.wrap ((kk : Int) - 1) = (kk : Int) - 1:=by rw [IntKind.wrap_i64];omega
    have A2:=a0_ (show impl_within.f y.f1 0 ((kk : Int) - 1) = some (decide (0 ≤ y.f1) && decide (y.f1 ≤ (kk : Int) - 1)) by
     unfold impl_within.f
     by_cases h0 : 0 ≤ y.f1
     ·rw [if_pos h0];simp [h0]
     ·rw [if_neg h0];simp [h0])
    cases hb1 : okName y.f0 with
    | false =>
     rw [hb1] at A1
     have BV : okCls l0_0 kk y = false:=by rw [HDF.out,hb1];rfl
     clear HDF HOK
     go_wp2_with (first
     | (go_at_call 95;(with_reducible refine (impl_nameOk.calls _ y.f0 _ _ A1.1).mono ?_);rintro e w' ⟨rfl,hd⟩;have hb:=drawn_below hd;replace hW3:=pw_cell_below hb hW3;replace hW4:=pw_cell_below hb hW4;replace hW5:=pw_cell_below hb hW5;replace hW1:=a0_ (below_step hW1.out hb);replace hW2:=a0_ (blk_keptB hW2.out hb);clear hb hd)
     | (go_at_call 96;(with_reducible refine (HCN.out _ hW1.out).mono ?_);rintro e w' ⟨rfl,hb⟩;replace hW3:=pw_cell_below hb hW3;replace hW4:=pw_cell_below hb hW4;replace hW5:=pw_cell_below hb hW5;replace hW1:=a0_ (below_step hW1.out hb);replace hW2:=a0_ (blk_keptB hW2.out hb);clear hb)
     | (go_at_call 93;(with_reducible refine (impl_within.calls y.f1 0 ((kk : Int) - 1) _ _ A2.1).mono ?_);rintro e w' ⟨rfl,hd⟩;have hb:=drawn_below hd;replace hW3:=pw_cell_below hb hW3;replace hW4:=pw_cell_below hb hW4;replace hW5:=pw_cell_below hb hW5;replace hW1:=a0_ (below_step hW1.out hb);replace hW2:=a0_ (blk_keptB hW2.out hb);clear hb hd))
     go_meet
     case rel=>exact ⟨by (rw [BV]);first | rfl | (simp [*];done),⟨hW1.out⟩,⟨hW2.out⟩⟩
    | true =>
     rw [hb1] at A1
     by_cases hb2 : nn ≠ (kk : Int)
     ·have BV : okCls l0_0 kk y = false:=by rw [HDF.out,hb1,decide_eq_false hb2];rfl
      have d2 : (nn != (kk : Int)) = true:=bne_iff_ne.2 hb2
      have d2' : (nn == (kk : Int)) = false:=beq_eq_false_iff_ne.2 hb2
      clear HDF HOK hb2
      go_wp2_with (first
     | (go_at_call 95;(with_reducible refine (impl_nameOk.calls _ y.f0 _ _ A1.1).mono ?_);rintro e w' ⟨rfl,hd⟩;have hb:=drawn_below hd;replace hW3:=pw_cell_below hb hW3;replace hW4:=pw_cell_below hb hW4;replace hW5:=pw_cell_below hb hW5;replace hW1:=a0_ (below_step hW1.out hb);replace hW2:=a0_ (blk_keptB hW2.out hb);clear hb hd)
     | (go_at_call 96;(with_reducible refine (HCN.out _ hW1.out).mono ?_);rintro e w' ⟨rfl,hb⟩;replace hW3:=pw_cell_below hb hW3;replace hW4:=pw_cell_below hb hW4;replace hW5:=pw_cell_below hb hW5;replace hW1:=a0_ (below_step hW1.out hb);replace hW2:=a0_ (blk_keptB hW2.out hb);clear hb)
     | (go_at_call 93;(with_reducible refine (impl_within.calls y.f1 0 ((kk : Int) - 1) _ _ A2.1).mono ?_);rintro e w' ⟨rfl,hd⟩;have hb:=drawn_below hd;replace hW3:=pw_cell_below hb hW3;replace hW4:=pw_cell_below hb hW4;replace hW5:=pw_cell_below hb hW5;replace hW1:=a0_ (below_step hW1.out hb);replace hW2:=a0_ (blk_keptB hW2.out hb);clear hb hd))
      go_meet
      case rel=>exact ⟨by (rw [BV]);first | rfl | (simp [*];done),⟨hW1.out⟩,⟨hW2.out⟩⟩
     ·have hnm : nn = (kk : Int):=Classical.byContradiction fun hn=>hb2 hn
      have d2 : (nn != (kk : Int)) = false:=bne_eq_false_iff_eq.2 hnm
      have d2' : (nn == (kk : Int)) = true:=beq_iff_eq.2 hnm
      have BV0 : okCls l0_0 kk y = (if kk = 0 then decide (y.f1 = -1) else decide (0 ≤ y.f1) && decide (y.f1 ≤ (kk : Int) - 1)):=by rw [HDF.out,hb1,decide_eq_true hnm];rfl
      clear HDF HOK hb2 hnm
      by_cases hk0 : kk = 0
      ·have BV : okCls l0_0 kk y = decide (y.f1 = -1):=by rw [BV0,if_pos hk0]
       have e0 : ((kk : Int) == 0) = true:=beq_iff_eq.2 (by omega)
       have e1 : decide (0 < (kk : Int)) = false:=decide_eq_false (by omega)
       have e1n : decide (0 < kk) = false:=decide_eq_false (by omega)
       clear BV0
       by_cases hp : y.f1 = -1
       ·have e2 : (y.f1 != -1) = false:=by rw [hp];rfl
        have e3 : (y.f1 == -1) = true:=by rw [hp];rfl
        rw [decide_eq_true hp] at BV
        clear hp hk0
        go_wp2_with (first
     | (go_at_call 95;(with_reducible refine (impl_nameOk.calls _ y.f0 _ _ A1.1).mono ?_);rintro e w' ⟨rfl,hd⟩;have hb:=drawn_below hd;replace hW3:=pw_cell_below hb hW3;replace hW4:=pw_cell_below hb hW4;replace hW5:=pw_cell_below hb hW5;replace hW1:=a0_ (below_step hW1.out hb);replace hW2:=a0_ (blk_keptB hW2.out hb);clear hb hd)
     | (go_at_call 96;(with_reducible refine (HCN.out _ hW1.out).mono ?_);rintro e w' ⟨rfl,hb⟩;replace hW3:=pw_cell_below hb hW3;replace hW4:=pw_cell_below hb hW4;replace hW5:=pw_cell_below hb hW5;replace hW1:=a0_ (below_step hW1.out hb);replace hW2:=a0_ (blk_keptB hW2.out hb);clear hb)
     | (go_at_call 93;(with_reducible refine (impl_within.calls y.f1 0 ((kk : Int) - 1) _ _ A2.1).mono ?_);rintro e w' ⟨rfl,hd⟩;have hb:=drawn_below hd;replace hW3:=pw_cell_below hb hW3;replace hW4:=pw_cell_below hb hW4;replace hW5:=pw_cell_below hb hW5;replace hW1:=a0_ (below_step hW1.out hb);replace hW2:=a0_ (blk_keptB hW2.out hb);clear hb hd))
        go_meet
        case rel=>exact ⟨by (rw [BV]);first | rfl | (simp [*];done),⟨hW1.out⟩,⟨hW2.out⟩⟩
       ·have e2 : (y.f1 != -1) = true:=bne_iff_ne.2 hp
        have e3 : (y.f1 == -1) = false:=beq_eq_false_iff_ne.2 hp
        rw [decide_eq_false hp] at BV
        clear hp hk0
        go_wp2_with (first
     | (go_at_call 95;(with_reducible refine (impl_nameOk.calls _ y.f0 _ _ A1.1).mono ?_);rintro e w' ⟨rfl,hd⟩;have hb:=drawn_below hd;replace hW3:=pw_cell_below hb hW3;replace hW4:=pw_cell_below hb hW4;replace hW5:=pw_cell_below hb hW5;replace hW1:=a0_ (below_step hW1.out hb);replace hW2:=a0_ (blk_keptB hW2.out hb);clear hb hd)
     | (go_at_call 96;(with_reducible refine (HCN.out _ hW1.out).mono ?_);rintro e w' ⟨rfl,hb⟩;replace hW3:=pw_cell_below hb hW3;replace hW4:=pw_cell_below hb hW4;replace hW5:=pw_cell_below hb hW5;replace hW1:=a0_ (below_step hW1.out hb);replace hW2:=a0_ (blk_keptB hW2.out hb);clear hb)
     | (go_at_call 93;(with_reducible refine (impl_within.calls y.f1 0 ((kk : Int) - 1) _ _ A2.1).mono ?_);rintro e w' ⟨rfl,hd⟩;have hb:=drawn_below hd;replace hW3:=pw_cell_below hb hW3;replace hW4:=pw_cell_below hb hW4;replace hW5:=pw_cell_below hb hW5;replace hW1:=a0_ (below_step hW1.out hb);replace hW2:=a0_ (blk_keptB hW2.out hb);clear hb hd))
        go_meet
        case rel=>exact ⟨by (rw [BV]);first | rfl | (simp [*];done),⟨hW1.out⟩,⟨hW2.out⟩⟩
      ·have BV : okCls l0_0 kk y = (decide (0 ≤ y.f1) && decide (y.f1 ≤ (kk : Int) - 1)):=by rw [BV0,if_neg hk0]
       have e0 : ((kk : Int) == 0) = false:=beq_eq_false_iff_ne.2 (by omega)
       have e1 : decide (0 < (kk : Int)) = true:=decide_eq_true (by omega)
       have e1n : decide (0 < kk) = true:=decide_eq_true (by omega)
       rw [← BV] at A2
       clear BV BV0 hk0
       cases BV : okCls l0_0 kk y with
       | false =>
        rw [BV] at A2
        go_wp2_with (first
     | (go_at_call 95;(with_reducible refine (impl_nameOk.calls _ y.f0 _ _ A1.1).mono ?_);rintro e w' ⟨rfl,hd⟩;have hb:=drawn_below hd;replace hW3:=pw_cell_below hb hW3;replace hW4:=pw_cell_below hb hW4;replace hW5:=pw_cell_below hb hW5;replace hW1:=a0_ (below_step hW1.out hb);replace hW2:=a0_ (blk_keptB hW2.out hb);clear hb hd)
     | (go_at_call 96;(with_reducible refine (HCN.out _ hW1.out).mono ?_);rintro e w' ⟨rfl,hb⟩;replace hW3:=pw_cell_below hb hW3;replace hW4:=pw_cell_below hb hW4;replace hW5:=pw_cell_below hb hW5;replace hW1:=a0_ (below_step hW1.out hb);replace hW2:=a0_ (blk_keptB hW2.out hb);clear hb)
     | (go_at_call 93;(with_reducible refine (impl_within.calls y.f1 0 ((kk : Int) - 1) _ _ A2.1).mono ?_);rintro e w' ⟨rfl,hd⟩;have hb:=drawn_below hd;replace hW3:=pw_cell_below hb hW3;replace hW4:=pw_cell_below hb hW4;replace hW5:=pw_cell_below hb hW5;replace hW1:=a0_ (below_step hW1.out hb);replace hW2:=a0_ (blk_keptB hW2.out hb);clear hb hd))
        go_meet
        case rel=>exact ⟨by (rw [BV]);first | rfl | (simp [*];done),⟨hW1.out⟩,⟨hW2.out⟩⟩
       | true =>
        rw [BV] at A2
        go_wp2_with (first
     | (go_at_call 95;(with_reducible refine (impl_nameOk.calls _ y.f0 _ _ A1.1).mono ?_);rintro e w' ⟨rfl,hd⟩;have hb:=drawn_below hd;replace hW3:=pw_cell_below hb hW3;replace hW4:=pw_cell_below hb hW4;replace hW5:=pw_cell_below hb hW5;replace hW1:=a0_ (below_step hW1.out hb);replace hW2:=a0_ (blk_keptB hW2.out hb);clear hb hd)
     | (go_at_call 96;(with_reducible refine (HCN.out _ hW1.out).mono ?_);rintro e w' ⟨rfl,hb⟩;replace hW3:=pw_cell_below hb hW3;replace hW4:=pw_cell_below hb hW4;replace hW5:=pw_cell_below hb hW5;replace hW1:=a0_ (below_step hW1.out hb);replace hW2:=a0_ (blk_keptB hW2.out hb);clear hb)
     | (go_at_call 93;(with_reducible refine (impl_within.calls y.f1 0 ((kk : Int) - 1) _ _ A2.1).mono ?_);rintro e w' ⟨rfl,hd⟩;have hb:=drawn_below hd;replace hW3:=pw_cell_below hb hW3;replace hW4:=pw_cell_below hb hW4;replace hW5:=pw_cell_below hb hW5;replace hW1:=a0_ (below_step hW1.out hb);replace hW2:=a0_ (blk_keptB hW2.out hb);clear hb hd))
        go_meet
        case rel=>exact ⟨by (rw [BV]);first | rfl | (simp [*];done),⟨hW1.out⟩,⟨hW2.out⟩⟩
   case rest =>
    obtain ⟨rfl,hW,hK⟩:=hcut
    have hb:=HOK.out
    cases BV : okCls l0_0 kk y with
    | false =>
     go_wp2
     go_ret
     refine ⟨?_,hW.out⟩
     rw [← HRr.out]
     have : vT l0_0 = false:=by
      cases hv : vT l0_0 with
      | false=>rfl
      | true=>have:=vT_at hv kk hlt;rw [HOK.out,BV] at this;cases this
     rw [this];rfl
    | true =>
     go_wp2
     go_roundg (l0_0.length - (kk + 1))
     case measure=>omega
     case rel =>
      refine ⟨kk + 1,by omega,by omega,by go_num,⟨hW.out⟩,⟨hK.out⟩,⟨fun j hj=>?_⟩⟩
      by_cases e : j = kk
      ·subst e;rw [HOK.out,BV]
      ·exact HA.out j (by omega)
  ·have hltz : ¬ (kk : Int) < (l0_0.length : Int):=by omega
   have : kk = l0_0.length:=by omega
   subst this
   have A3:=a0_ (show impl_within.f (l0_0.length : Int) 1 8 = some (vT l0_0) by
    have hall : (List.range l0_0.length).all (fun i=>okCls l0_0 i (l0_0.getD i z106)) = true:=by
     rw [List.all_eq_true];intro i hi;exact HA.out i (by simpa using hi)
    unfold impl_within.f vT
    rw [hall]
    by_cases h1 : (1 : Int) ≤ l0_0.length
    ·rw [if_pos h1]
     have h1' : 1 ≤ l0_0.length:=by omega
     by_cases h8 : l0_0.length ≤ 8
     ·simp [h1',h8];omega
     ·simp [h8];omega
    ·rw [if_neg h1]
     have h1' : ¬ 1 ≤ l0_0.length:=by omega
     simp [h1'])
   rw [HRr.out] at A3
   go_wp2_with (go_at_call 93;(with_reducible refine (impl_within.calls (l0_0.length : Int) 1 8 _ _ A3.1).mono ?_);rintro e w' ⟨rfl,⟨nd,rfl⟩⟩)
   go_ret
   exact ⟨rfl,pw_below_drewN BW.out _⟩
end Go.Proofs.Ytfhcfhffmblacaa.P
namespace Go.Proofs.Ytfhcfhffmblacaa.P
open Go.RowKit Go.Proofs.YtfhcfhffmblacaaW.PrintWords Go.Proofs.YtfhcfhffmblacaaW.PrintLast Go.Proofs.YtfhcfhffmblacaaW.PrintMore
attribute [local go_sem] max2_int min2_int max_two min_two max_three min_three max_four min_four
set_option linter.unusedVariables false
set_option linter.unusedSimpArgs false
def impl_ValidHeap.f (l0_0 : List Cls) (l1_0 : List Fau) : Option Bool:=if smT l0_0 = true ∧ l1_0.length ≤ 1048576 then some (vH l0_0 l1_0) else none
set_option maxHeartbeats 4000000 in
set_option maxRecDepth 100000 in
theorem impl_ValidHeap.calls (A0_0 : Option Addr) (c0_0 : Nat) (l0_0 : List (S106)) (A1_0 : Option Addr) (c1_0 : Nat) (l1_0 : List (S79)) (r : Bool) (w : World) (hr0_0 : Kd.C k106 w A0_0 l0_0.length l0_0) (hc0_0 : l0_0.length ≤ c0_0) (hr1_0 : Kd.C k79 w A1_0 l1_0.length l1_0) (hc1_0 : l1_0.length ≤ c1_0) (h : impl_ValidHeap.f l0_0 l1_0 = some r) :
  Calls Try.prog 19 #[.agg #[.slice A0_0 l0_0.length c0_0],.agg #[.slice A1_0 l1_0.length c1_0]] w fun e w'=>e = .returned (.bool r) ∧ Below w.heap.size w w':=by
 have hu31:=Try.underlying33
 have hu37:=Try.underlying37
 have hu79:=Try.underlying79
 have hsm : smT l0_0 = true ∧ l1_0.length ≤ 1048576:=by
  apply Classical.byContradiction
  intro hn
  rw [impl_ValidHeap.f,if_neg hn] at h
  cases h
 rw [impl_ValidHeap.f,if_pos hsm] at h
 have HR:=a0_ (Option.some.inj h)
 have hlm:=hsm.2
 have HV:=a0_ (fun (W : World) (hb : Below w.heap.size w W)=>impl_ValidTree.calls A0_0 c0_0 l0_0 (vT l0_0) W (Kd.C_below hr0_0 hb) hc0_0 (by rw [impl_ValidTree.f,if_pos hsm.1]))
 have HH:=a0_ (fun (a : Int) (W : World) (hb : Below w.heap.size w W)=>impl_Tree_has.calls A0_0 c0_0 l0_0 a (hasC l0_0 a) W (Kd.C_below hr0_0 hb) hc0_0 (impl_Tree_has_ev l0_0 a hr0_0.2.1))
 have HL:=a0_ (fun (f u : Int) (W : World) (hb : Below w.heap.size w W) (hB : W.heap[w.heap.size + 1]? = some (.cells #[.slice A1_0 l1_0.length c1_0] 37 (0,0)))=>impl_ValidHeap_1.callsF (w.heap.size + 1) A1_0 c1_0 l1_0 f u W hc1_0 hB (Kd.C_below hr1_0 hb))
 have HX:=a0_ (fun (hf : fsH l0_0 l1_0 = true) (f : Int) (h1 : f < (l1_0.length : Int)) (W : World) (hb : Below w.heap.size w W)=>impl_Heap_contexts.callsF A1_0 c1_0 l1_0 f W h1 hsm.2 (fun x h0 h1=>(fsH_ctx hf x h0 h1).2) (Kd.C_below hr1_0 hb))
 have eg : ∀ args w,(callFunc 57 args).run Try.prog w = .ok (.enter 57 args) w:=enters_of Try.func57 (by kernel_rfl) rfl
 have HRD:=a0_ hr1_0
 have HC1:=a0_ hc1_0
 clear h hsm hr0_0 hr1_0
 have BK1:=a0_ (heap_old2 w (.cells #[.slice A0_0 l0_0.length c0_0] 33) (.cells #[.slice A1_0 l1_0.length c1_0] 37))
 have BK2:=a0_ (heap_new2 w (.cells #[.slice A0_0 l0_0.length c0_0] 33) (.cells #[.slice A1_0 l1_0.length c1_0] 37))
 have HB:=a0_ (below2 w (.cells #[.slice A0_0 l0_0.length c0_0] 33) (.cells #[.slice A1_0 l1_0.length c1_0] 37))
 have hcell:=(blk_cell BK1.1 0).trans rfl
 have hcell2:=(blk_cell BK2.1 0).trans rfl
 go_enter Try.func19,Try.ntmps19
 go_wp2
 clear hcell hcell2
 go_loopg [14] l1_0.length (fun gg s14 wr=>∃ kk : Nat,kk ≤ l1_0.length ∧ l1_0.length - kk ≤ gg ∧ s14 = .int .i64 kk ∧ Aside0 (Below w.heap.size w wr) ∧ Aside0 (wr.heap[w.heap.size]? = some (.cells #[.slice A0_0 l0_0.length c0_0] 33 (0,0))) ∧ Aside0 (wr.heap[w.heap.size + 1]? = some (.cells #[.slice A1_0 l1_0.length c1_0] 37 (0,0))) ∧ Aside0 (∀ j,j < kk → okF l0_0 l1_0 j (l1_0.getD j z79) = true))
 case atStart=>exact ⟨0,Nat.zero_le _,by omega,rfl,HB,BK1,BK2,⟨fun j hj=>absurd hj (Nat.not_lt_zero _)⟩⟩
 case round =>
  clear HB BK1 BK2
  obtain ⟨kk,hkk,hg,rfl,HB,BK1,BK2,HA⟩:=hrel
  by_cases hlt : kk < l1_0.length
  ·have hltz : (kk : Int) < (l1_0.length : Int):=by omega
   obtain ⟨ad,ea,hx0,hx1,hx2,hx3,hx4⟩:=at_T79 HRD.out (kk : Int) (by omega) (by omega)
   cases ea
   have hrd : rd_T79 l1_0 (kk : Int) = l1_0.getD kk z79:=by simp [rd_T79]
   rw [hrd] at hx0 hx1 hx2 hx3 hx4
   rw [Int.toNat_natCast] at hx0 hx1 hx2 hx3 hx4
   replace hx0:=(HB.1.cell (World.block_lt_of_cell? w _ hx0)).trans hx0
   replace hx1:=(HB.1.cell (World.block_lt_of_cell? w _ hx1)).trans hx1
   replace hx2:=(HB.1.cell (World.block_lt_of_cell? w _ hx2)).trans hx2
   replace hx3:=(HB.1.cell (World.block_lt_of_cell? w _ hx3)).trans hx3
   replace hx4:=(HB.1.cell (World.block_lt_of_cell? w _ hx4)).trans hx4
   clear hrd
   have hdf : okF l0_0 l1_0 kk (l1_0.getD kk z79) = (hasC l0_0 (l1_0.getD kk z79).f0 && ((decide (0 ≤ (l1_0.getD kk z79).f1) && decide ((l1_0.getD kk z79).f1 ≤ 99)) && (lnkB l1_0 (kk : Int) (l1_0.getD kk z79).f2 && lnkB l1_0 (kk : Int) (l1_0.getD kk z79).f3))):=rfl
   have hrf : ∀ b,okF l0_0 l1_0 kk (l1_0.getD kk z79) = b → b = false → vH l0_0 l1_0 = false:=fun b e1 e2=>by unfold vH fsH;rw [all_false hlt (e1.trans e2)];rfl
   generalize hy : l1_0.getD kk z79 = y at hx0 hx1 hx2 hx3 hx4 hdf hrf
   have NB:=a0_ hy
   clear hy
   obtain ⟨y0,y1,y2,y3,y4⟩:=y
   go_upto_region 5 with (fail)
   have HB1:=a0_ (below_alloc HB.1 (.cells #[.int .i64 y0,.int .i64 y1,.int .i64 y2,.int .i64 y3,.bool y4] 79))
   have BKA:=a0_ (blk_alloc BK1.1 (.cells #[.int .i64 y0,.int .i64 y1,.int .i64 y2,.int .i64 y3,.bool y4] 79))
   have BKB:=a0_ (blk_alloc BK2.1 (.cells #[.int .i64 y0,.int .i64 y1,.int .i64 y2,.int .i64 y3,.bool y4] 79))
   have BY:=a0_ (heap_new1 wr (.cells #[.int .i64 y0,.int .i64 y1,.int .i64 y2,.int .i64 y3,.bool y4] 79))
   clear HB BK1 BK2 hx0 hx1 hx2 hx3 hx4
   generalize wr.alloc (.cells #[.int .i64 y0,.int .i64 y1,.int .i64 y2,.int .i64 y3,.bool y4] 79) = W1 at HB1 BKA BKB BY ⊢
   generalize wr.heap.size = gb at BY ⊢
   have HB:=HB1
   have BK1:=BKA
   have BK2:=BKB
   clear HB1 BKA BKB
   have hcell:=(blk_cell BK1.1 0).trans rfl
   have hx0:=(blk_cell BY.out 0).trans rfl
   have hx1:=(blk_cell BY.out 1).trans rfl
   have hx2:=(blk_cell BY.out 2).trans rfl
   have hx3:=(blk_cell BY.out 3).trans rfl
   replace HH:=a0_ (fun (_ : Unit)=>HH.out y0)
   have HC:=a0_ (impl_codeOk_ev y1)
   have HL2:=a0_ (HL.out (kk : Int) y2)
   have HL3:=a0_ (HL.out (kk : Int) y3)
   simp only at hdf
   generalize hasC l0_0 y0 = q1 at HH hdf
   generalize (decide (0 ≤ y1) && decide (y1 ≤ 99)) = q2 at HC hdf
   generalize lnkB l1_0 (kk : Int) y2 = q3 at HL2 hdf
   generalize lnkB l1_0 (kk : Int) y3 = q4 at HL3 hdf
   cases q1 with
   | false =>
    have HRF:=a0_ (hrf _ hdf rfl)
    clear hdf hrf HV HX
    go_wp2_with (first | (go_at_call 59;(with_reducible refine (HH.out () _ HB.1).mono ?_);rintro e w' ⟨rfl,hb'⟩;replace BK1:=a0_ (blk_keptB BK1.1 hb');replace BK2:=a0_ (blk_keptB BK2.1 hb');replace BY:=a0_ (blk_keptB BY.out hb');replace HB:=a0_ (below_step HB.1 hb');clear hb';have hx0:=(blk_cell BY.out 0).trans rfl;have hx1:=(blk_cell BY.out 1).trans rfl;have hx2:=(blk_cell BY.out 2).trans rfl;have hx3:=(blk_cell BY.out 3).trans rfl) | (go_at_call 60;(with_reducible refine (impl_codeOk.calls _ _ _ HC.out).mono ?_);rintro e w' ⟨rfl,hd'⟩;have hb':=hd'.below;replace BK1:=a0_ (blk_keptB BK1.1 hb');replace BK2:=a0_ (blk_keptB BK2.1 hb');replace BY:=a0_ (blk_keptB BY.out hb');replace HB:=a0_ (below_step HB.1 hb');clear hb' hd';have hx0:=(blk_cell BY.out 0).trans rfl;have hx1:=(blk_cell BY.out 1).trans rfl;have hx2:=(blk_cell BY.out 2).trans rfl;have hx3:=(blk_cell BY.out 3).trans rfl) | (go_at_fn 57;(with_reducible refine (HL2.out _ HB.1 BK2.1).mono ?_);rintro e w' ⟨rfl,hb'⟩;replace BK1:=a0_ (blk_keptB BK1.1 hb');replace BK2:=a0_ (blk_keptB BK2.1 hb');replace BY:=a0_ (blk_keptB BY.out hb');replace HB:=a0_ (below_step HB.1 hb');clear hb';have hx0:=(blk_cell BY.out 0).trans rfl;have hx1:=(blk_cell BY.out 1).trans rfl;have hx2:=(blk_cell BY.out 2).trans rfl;have hx3:=(blk_cell BY.out 3).trans rfl) | (go_at_fn 57;(with_reducible refine (HL3.out _ HB.1 BK2.1).mono ?_);rintro e w' ⟨rfl,hb'⟩;replace BK1:=a0_ (blk_keptB BK1.1 hb');replace BK2:=a0_ (blk_keptB BK2.1 hb');replace BY:=a0_ (blk_keptB BY.out hb');replace HB:=a0_ (below_step HB.1 hb');clear hb';have hx0:=(blk_cell BY.out 0).trans rfl;have hx1:=(blk_cell BY.out 1).trans rfl;have hx2:=(blk_cell BY.out 2).trans rfl;have hx3:=(blk_cell BY.out 3).trans rfl))
    go_ret
    exact ⟨by rw [← HR.out,HRF.out];rfl,HB.1⟩
   | true =>
    cases q2 with
    | false =>
     have HRF:=a0_ (hrf _ hdf rfl)
     clear hdf hrf HV HX
     go_wp2_with (first | (go_at_call 59;(with_reducible refine (HH.out () _ HB.1).mono ?_);rintro e w' ⟨rfl,hb'⟩;replace BK1:=a0_ (blk_keptB BK1.1 hb');replace BK2:=a0_ (blk_keptB BK2.1 hb');replace BY:=a0_ (blk_keptB BY.out hb');replace HB:=a0_ (below_step HB.1 hb');clear hb';have hx0:=(blk_cell BY.out 0).trans rfl;have hx1:=(blk_cell BY.out 1).trans rfl;have hx2:=(blk_cell BY.out 2).trans rfl;have hx3:=(blk_cell BY.out 3).trans rfl) | (go_at_call 60;(with_reducible refine (impl_codeOk.calls _ _ _ HC.out).mono ?_);rintro e w' ⟨rfl,hd'⟩;have hb':=hd'.below;replace BK1:=a0_ (blk_keptB BK1.1 hb');replace BK2:=a0_ (blk_keptB BK2.1 hb');replace BY:=a0_ (blk_keptB BY.out hb');replace HB:=a0_ (below_step HB.1 hb');clear hb' hd';have hx0:=(blk_cell BY.out 0).trans rfl;have hx1:=(blk_cell BY.out 1).trans rfl;have hx2:=(blk_cell BY.out 2).trans rfl;have hx3:=(blk_cell BY.out 3).trans rfl) | (go_at_fn 57;(with_reducible refine (HL2.out _ HB.1 BK2.1).mono ?_);rintro e w' ⟨rfl,hb'⟩;replace BK1:=a0_ (blk_keptB BK1.1 hb');replace BK2:=a0_ (blk_keptB BK2.1 hb');replace BY:=a0_ (blk_keptB BY.out hb');replace HB:=a0_ (below_step HB.1 hb');clear hb';have hx0:=(blk_cell BY.out 0).trans rfl;have hx1:=(blk_cell BY.out 1).trans rfl;have hx2:=(blk_cell BY.out 2).trans rfl;have hx3:=(blk_cell BY.out 3).trans rfl) | (go_at_fn 57;(with_reducible refine (HL3.out _ HB.1 BK2.1).mono ?_);rintro e w' ⟨rfl,hb'⟩;replace BK1:=a0_ (blk_keptB BK1.1 hb');replace BK2:=a0_ (blk_keptB BK2.1 hb');replace BY:=a0_ (blk_keptB BY.out hb');replace HB:=a0_ (below_step HB.1 hb');clear hb';have hx0:=(blk_cell BY.out 0).trans rfl;have hx1:=(blk_cell BY.out 1).trans rfl;have hx2:=(blk_cell BY.out 2).trans rfl;have hx3:=(blk_cell BY.out 3).trans rfl))
     go_ret
     exact ⟨by rw [← HR.out,HRF.out];rfl,HB.1⟩
    | true =>
     cases q3 with
     | false =>
      have HRF:=a0_ (hrf _ hdf rfl)
      clear hdf hrf HV HX
      go_wp2_with (first | (go_at_call 59;(with_reducible refine (HH.out () _ HB.1).mono ?_);rintro e w' ⟨rfl,hb'⟩;replace BK1:=a0_ (blk_keptB BK1.1 hb');replace BK2:=a0_ (blk_keptB BK2.1 hb');replace BY:=a0_ (blk_keptB BY.out hb');replace HB:=a0_ (below_step HB.1 hb');clear hb';have hx0:=(blk_cell BY.out 0).trans rfl;have hx1:=(blk_cell BY.out 1).trans rfl;have hx2:=(blk_cell BY.out 2).trans rfl;have hx3:=(blk_cell BY.out 3).trans rfl) | (go_at_call 60;(with_reducible refine (impl_codeOk.calls _ _ _ HC.out).mono ?_);rintro e w' ⟨rfl,hd'⟩;have hb':=hd'.below;replace BK1:=a0_ (blk_keptB BK1.1 hb');replace BK2:=a0_ (blk_keptB BK2.1 hb');replace BY:=a0_ (blk_keptB BY.out hb');replace HB:=a0_ (below_step HB.1 hb');clear hb' hd';have hx0:=(blk_cell BY.out 0).trans rfl;have hx1:=(blk_cell BY.out 1).trans rfl;have hx2:=(blk_cell BY.out 2).trans rfl;have hx3:=(blk_cell BY.out 3).trans rfl) | (go_at_fn 57;(with_reducible refine (HL2.out _ HB.1 BK2.1).mono ?_);rintro e w' ⟨rfl,hb'⟩;replace BK1:=a0_ (blk_keptB BK1.1 hb');replace BK2:=a0_ (blk_keptB BK2.1 hb');replace BY:=a0_ (blk_keptB BY.out hb');replace HB:=a0_ (below_step HB.1 hb');clear hb';have hx0:=(blk_cell BY.out 0).trans rfl;have hx1:=(blk_cell BY.out 1).trans rfl;have hx2:=(blk_cell BY.out 2).trans rfl;have hx3:=(blk_cell BY.out 3).trans rfl) | (go_at_fn 57;(with_reducible refine (HL3.out _ HB.1 BK2.1).mono ?_);rintro e w' ⟨rfl,hb'⟩;replace BK1:=a0_ (blk_keptB BK1.1 hb');replace BK2:=a0_ (blk_keptB BK2.1 hb');replace BY:=a0_ (blk_keptB BY.out hb');replace HB:=a0_ (below_step HB.1 hb');clear hb';have hx0:=(blk_cell BY.out 0).trans rfl;have hx1:=(blk_cell BY.out 1).trans rfl;have hx2:=(blk_cell BY.out 2).trans rfl;have hx3:=(blk_cell BY.out 3).trans rfl))
      go_ret
      exact ⟨by rw [← HR.out,HRF.out];rfl,HB.1⟩
     | true =>
      cases q4 with
      | false =>
       have HRF:=a0_ (hrf _ hdf rfl)
       clear hdf hrf HV HX
       go_wp2_with (first | (go_at_call 59;(with_reducible refine (HH.out () _ HB.1).mono ?_);rintro e w' ⟨rfl,hb'⟩;replace BK1:=a0_ (blk_keptB BK1.1 hb');replace BK2:=a0_ (blk_keptB BK2.1 hb');replace BY:=a0_ (blk_keptB BY.out hb');replace HB:=a0_ (below_step HB.1 hb');clear hb';have hx0:=(blk_cell BY.out 0).trans rfl;have hx1:=(blk_cell BY.out 1).trans rfl;have hx2:=(blk_cell BY.out 2).trans rfl;have hx3:=(blk_cell BY.out 3).trans rfl) | (go_at_call 60;(with_reducible refine (impl_codeOk.calls _ _ _ HC.out).mono ?_);rintro e w' ⟨rfl,hd'⟩;have hb':=hd'.below;replace BK1:=a0_ (blk_keptB BK1.1 hb');replace BK2:=a0_ (blk_keptB BK2.1 hb');replace BY:=a0_ (blk_keptB BY.out hb');replace HB:=a0_ (below_step HB.1 hb');clear hb' hd';have hx0:=(blk_cell BY.out 0).trans rfl;have hx1:=(blk_cell BY.out 1).trans rfl;have hx2:=(blk_cell BY.out 2).trans rfl;have hx3:=(blk_cell BY.out 3).trans rfl) | (go_at_fn 57;(with_reducible refine (HL2.out _ HB.1 BK2.1).mono ?_);rintro e w' ⟨rfl,hb'⟩;replace BK1:=a0_ (blk_keptB BK1.1 hb');replace BK2:=a0_ (blk_keptB BK2.1 hb');replace BY:=a0_ (blk_keptB BY.out hb');replace HB:=a0_ (below_step HB.1 hb');clear hb';have hx0:=(blk_cell BY.out 0).trans rfl;have hx1:=(blk_cell BY.out 1).trans rfl;have hx2:=(blk_cell BY.out 2).trans rfl;have hx3:=(blk_cell BY.out 3).trans rfl) | (go_at_fn 57;(with_reducible refine (HL3.out _ HB.1 BK2.1).mono ?_);rintro e w' ⟨rfl,hb'⟩;replace BK1:=a0_ (blk_keptB BK1.1 hb');replace BK2:=a0_ (blk_keptB BK2.1 hb');replace BY:=a0_ (blk_keptB BY.out hb');replace HB:=a0_ (below_step HB.1 hb');clear hb';have hx0:=(blk_cell BY.out 0).trans rfl;have hx1:=(blk_cell BY.out 1).trans rfl;have hx2:=(blk_cell BY.out 2).trans rfl;have hx3:=(blk_cell BY.out 3).trans rfl))
       go_ret
       exact ⟨by rw [← HR.out,HRF.out];rfl,HB.1⟩
      | true =>
       have HDF:=a0_ hdf
       clear hdf hrf HV HX
       go_wp2_with (first | (go_at_call 59;(with_reducible refine (HH.out () _ HB.1).mono ?_);rintro e w' ⟨rfl,hb'⟩;replace BK1:=a0_ (blk_keptB BK1.1 hb');replace BK2:=a0_ (blk_keptB BK2.1 hb');replace BY:=a0_ (blk_keptB BY.out hb');replace HB:=a0_ (below_step HB.1 hb');clear hb';have hx0:=(blk_cell BY.out 0).trans rfl;have hx1:=(blk_cell BY.out 1).trans rfl;have hx2:=(blk_cell BY.out 2).trans rfl;have hx3:=(blk_cell BY.out 3).trans rfl) | (go_at_call 60;(with_reducible refine (impl_codeOk.calls _ _ _ HC.out).mono ?_);rintro e w' ⟨rfl,hd'⟩;have hb':=hd'.below;replace BK1:=a0_ (blk_keptB BK1.1 hb');replace BK2:=a0_ (blk_keptB BK2.1 hb');replace BY:=a0_ (blk_keptB BY.out hb');replace HB:=a0_ (below_step HB.1 hb');clear hb' hd';have hx0:=(blk_cell BY.out 0).trans rfl;have hx1:=(blk_cell BY.out 1).trans rfl;have hx2:=(blk_cell BY.out 2).trans rfl;have hx3:=(blk_cell BY.out 3).trans rfl) | (go_at_fn 57;(with_reducible refine (HL2.out _ HB.1 BK2.1).mono ?_);rintro e w' ⟨rfl,hb'⟩;replace BK1:=a0_ (blk_keptB BK1.1 hb');replace BK2:=a0_ (blk_keptB BK2.1 hb');replace BY:=a0_ (blk_keptB BY.out hb');replace HB:=a0_ (below_step HB.1 hb');clear hb';have hx0:=(blk_cell BY.out 0).trans rfl;have hx1:=(blk_cell BY.out 1).trans rfl;have hx2:=(blk_cell BY.out 2).trans rfl;have hx3:=(blk_cell BY.out 3).trans rfl) | (go_at_fn 57;(with_reducible refine (HL3.out _ HB.1 BK2.1).mono ?_);rintro e w' ⟨rfl,hb'⟩;replace BK1:=a0_ (blk_keptB BK1.1 hb');replace BK2:=a0_ (blk_keptB BK2.1 hb');replace BY:=a0_ (blk_keptB BY.out hb');replace HB:=a0_ (below_step HB.1 hb');clear hb';have hx0:=(blk_cell BY.out 0).trans rfl;have hx1:=(blk_cell BY.out 1).trans rfl;have hx2:=(blk_cell BY.out 2).trans rfl;have hx3:=(blk_cell BY.out 3).trans rfl))
       go_roundg (l1_0.length - (kk + 1))
       case measure=>omega
       case rel =>
        refine ⟨kk + 1,by omega,by omega,by go_num,HB,BK1,BK2,⟨fun j hj=>?_⟩⟩
        by_cases e : j = kk
        ·subst e;rw [NB.out];exact HDF.out
        ·exact HA.out j (by omega)
  ·have hltz : ¬ (kk : Int) < (l1_0.length : Int):=by omega
   have : kk = l1_0.length:=by omega
   subst this
   have hfs : fsH l0_0 l1_0 = true:=all_of HA.out
   replace HX:=a0_ (HX.out hfs)
   have HCT:=a0_ (fsH_ctx hfs)
   have hrr : r = (esH l1_0 && (vT l0_0 && decide (l1_0.length ≤ 24))):=by rw [← HR.out];unfold vH;rw [hfs,Bool.true_and]
   have HRR:=a0_ hrr
   have hcell:=(blk_cell BK1.1 0).trans rfl
   have hcell2:=(blk_cell BK2.1 0).trans rfl
   clear HA HR hfs hrr HH HL
   go_wp2
   clear hcell hcell2
   go_loopg [50] l1_0.length (fun gg s50 wr=>∃ kk : Nat,kk ≤ l1_0.length ∧ l1_0.length - kk ≤ gg ∧ s50 = .int .i64 kk ∧ Aside0 (Below w.heap.size w wr) ∧ Aside0 (wr.heap[w.heap.size]? = some (.cells #[.slice A0_0 l0_0.length c0_0] 33 (0,0))) ∧ Aside0 (wr.heap[w.heap.size + 1]? = some (.cells #[.slice A1_0 l1_0.length c1_0] 37 (0,0))) ∧ Aside0 (∀ j,j < kk → endB l1_0 j = true))
   case atStart=>exact ⟨0,Nat.zero_le _,by omega,rfl,HB,BK1,BK2,⟨fun j hj=>absurd hj (Nat.not_lt_zero _)⟩⟩
   case round =>
    clear HB BK1 BK2 hltz
    obtain ⟨kk,hkk,hg,rfl,HB,BK1,BK2,HA⟩:=hrel
    have hcell:=(blk_cell BK1.1 0).trans rfl
    have hcell2:=(blk_cell BK2.1 0).trans rfl
    by_cases hlt : kk < l1_0.length
    ·have hltz : (kk : Int) < (l1_0.length : Int):=by omega
     have hX:=HX.out (kk : Int) hltz
     have hpos:=ctxL_pos l1_0 (kk : Int) (by omega) hltz
     have hlen:=ctxL_len l1_0 (kk : Int)
     have hmem:=ctxL_mem (fun x h0 h1=>(HCT.out x h0 h1).2) (kk : Int) hltz
     have hlast:=hmem _ (lastI_mem hpos)
     have hdf : endB l1_0 kk = decide (ctxN l1_0 (lastI (ctxL l1_0 (kk : Int))) < 0):=rfl
     have hlo:=HCT.out _ hlast.1 hlast.2
     have hrdl : rd (ctxL l1_0 (kk : Int)) (((ctxL l1_0 (kk : Int)).length : Int) - 1) = lastI (ctxL l1_0 (kk : Int)):=by
      unfold lastI
      rw [show (((ctxL l1_0 (kk : Int)).length : Int) - 1) = (((ctxL l1_0 (kk : Int)).length - 1 : Nat) : Int) by omega]
      exact rd_nat _ _ (by omega)
     generalize hL : ctxL l1_0 (kk : Int) = L at hX hpos hlen hlast hdf hlo hrdl
     generalize hz : lastI L = la at hlast hdf hlo hrdl
     obtain ⟨ad,ea,hx0,hx1,hx2,hx3,hx4⟩:=at_T79 HRD.out la hlast.1 hlast.2
     cases ea
     have hrd : (rd_T79 l1_0 la).f3 = ctxN l1_0 la:=by simp [rd_T79,ctxN]
     rw [hrd] at hx3
     have HX3:=a0_ hx3
     have HXX:=a0_ hX
     generalize ctxN l1_0 la = cx at HX3 hdf hlo
     clear hx0 hx1 hx2 hx3 hx4 hrd hmem hL hz hX
     obtain ⟨ix,hix⟩ : ∃ ix,ix = (L.length : Int) - 1:=⟨_,rfl⟩
     have hw1 : wrap64 ((L.length : Int) - 1) = ix:=(wrap_in (by omega) (by omega)).trans hix.symm
     have hw2 : IntKind.i64.wrap ((L.length : Int) - 1) = ix:=(i64_w _).trans hw1
     rw [← hix] at hrdl
     have HRL:=a0_ hrdl
     have hl0:=eq_true hlast.1
     have hl1:=eq_true hlast.2
     have hl2 : 0 ≤ ix:=by omega
     have hl3 : ix < (L.length : Int):=by omega
     clear hix
     have HLO:=a0_ hlo
     have HDF:=a0_ hdf
     clear hrdl hlast hlo hdf
     go_upto_region 12 with (go_at_call 61;refine (HXX.out _ HB.1).mono ?_;rintro e w2 ⟨v9,rfl,ho9,hb9⟩;replace BK1:=a0_ (blk_keptB BK1.1 hb9);replace BK2:=a0_ (blk_keptB BK2.1 hb9);replace HB:=a0_ (below_step HB.1 hb9);obtain ⟨Ao,co,eo⟩:=Kd.R_slice ho9;subst eo;have HO9:=a0_ ho9;clear ho9 hb9)
     obtain ⟨ae,eae,hy0⟩:=Kd.at_int (Kd.R_reads' HO9.1).2.2 ix hl2 hl3
     cases eae
     rw [HRL.out] at hy0
     have hx3:=(HB.1.cell (World.block_lt_of_cell? w _ HX3.out)).trans HX3.out
     have hcell2:=(blk_cell BK2.1 0).trans rfl
     cases hq : (cx != -1) with
     | true =>
      have HRF:=a0_ (show r = false by
       have hc : cx ≠ -1:=bne_iff_ne.1 hq
       have hd:=HDF.out
       rw [decide_eq_false (show ¬ cx < 0 by have:=HLO.out;omega)] at hd
       rw [HRR.out];unfold esH;rw [all_false hlt hd];rfl)
      clear hlt
      go_quiet (fail)
      go_wp2
      go_ret
      exact ⟨by rw [HRF.out];rfl,pw_below_drewN HB.1 _⟩
     | false =>
      have HDT:=a0_ (show endB l1_0 kk = true by
       have hc : cx = -1:=bne_eq_false_iff_eq.1 hq
       rw [HDF.out]
       exact decide_eq_true (by omega))
      go_quiet (fail)
      go_wp2
      go_roundg (l1_0.length - (kk + 1))
      case measure=>omega
      case rel =>
       refine ⟨kk + 1,by omega,by omega,by go_num,⟨pw_below_drewN HB.1 _⟩,⟨blk_drewN BK1.1 _⟩,⟨blk_drewN BK2.1 _⟩,⟨fun j hj=>?_⟩⟩
       by_cases e : j = kk
       ·subst e;exact HDT.out
       ·exact HA.out j (by omega)
    ·have hltz : ¬ (kk : Int) < (l1_0.length : Int):=by omega
     have : kk = l1_0.length:=by omega
     subst this
     have hes : esH l1_0 = true:=all_of HA.out
     have hrr:=HRR.out
     rw [hes,Bool.true_and] at hrr
     have hd24 : decide (l1_0.length ≤ 24) = decide ((l1_0.length : Int) ≤ 24):=decide_eq_decide.2 (by omega)
     rw [hd24] at hrr
     clear HA hes HX HCT HRR hd24
     cases hv : vT l0_0 with
     | false =>
      rw [hv] at HV hrr
      clear hv
      go_wp2_with (go_at_call 62;refine (HV.out _ HB.1).mono ?_;rintro e w1 ⟨rfl,hb1⟩;replace HB:=a0_ (below_step HB.1 hb1);replace BK2:=a0_ (blk_keptB BK2.1 hb1);clear hb1;have hcell2:=(blk_cell BK2.1 0).trans rfl)
      go_ret
      exact ⟨by rw [hrr];rfl,HB.1⟩
     | true =>
      rw [hv,Bool.true_and] at hrr
      rw [hv] at HV
      have HRR:=a0_ hrr
      clear hv hrr
      go_wp2_with (go_at_call 62;refine (HV.out _ HB.1).mono ?_;rintro e w1 ⟨rfl,hb1⟩;replace HB:=a0_ (below_step HB.1 hb1);replace BK2:=a0_ (blk_keptB BK2.1 hb1);clear hb1;have hcell2:=(blk_cell BK2.1 0).trans rfl)
      go_ret
      exact ⟨by rw [HRR.out];rfl,HB.1⟩
theorem impl_ValidHeap_ev (t : List Cls) (h : List Fau) (hs : smT t = true) (hl : h.length ≤ 1048576) : impl_ValidHeap.f t h = some (vH t h):=by rw [impl_ValidHeap.f,if_pos ⟨hs,hl⟩]
end Go.Proofs.Ytfhcfhffmblacaa.P
namespace Go.Proofs.Ytfhcfhffmblacaa.P
open Go.RowKit Go.Proofs.YtfhcfhffmblacaaW.PrintWords Go.Proofs.YtfhcfhffmblacaaW.PrintLast Go.Proofs.YtfhcfhffmblacaaW.PrintMore
attribute [local go_sem] max2_int min2_int max_two min_two max_three min_three max_four min_four
set_option linter.unusedVariables false
set_option linter.unusedSimpArgs false
set_option maxHeartbeats 2000000 in
theorem slices_IndexFunc_int.callsF (A : Option Addr) (c : Nat) (l : List Int) (g : Nat) (lb : Array Value) (p : Int → Bool) (w : World) (eg : ∀ args w,(callFunc g args).run Try.prog w = .ok (.enter g args) w)
  (hr : Kd.C (Kd.int .i64) w A l.length l) (hc : l.length ≤ c) (hp : ∀ x,x ∈ l → ∀ W,Below w.heap.size w W → Calls Try.prog g (#[.int .i64 x] ++ lb) W fun e w'=>e = .returned (.bool (p x)) ∧ Below W.heap.size W w') :
  Calls Try.prog 109 #[.slice A l.length c,.func (.func g) #[] lb] w fun e w'=>e = .returned (.int .i64 (idxP p l)) ∧ Below w.heap.size w w':=by
 have HR:=a0_ hr
 have HP:=a0_ hp
 have hmax : l.length ≤ 9223372036854775807:=hr.2.1
 clear hr hp hc
 go_enter Try.func109,Try.ntmps109
 go_wp2
 go_loopg [5,8] l.length (fun gg _ s8 wr=>∃ kk : Nat,kk ≤ l.length ∧ l.length - kk ≤ gg ∧ s8 = .int .i64 kk ∧ Aside0 (Below w.heap.size w wr) ∧ Aside0 (∀ j (hj : j < l.length),j < kk → p l[j] = false))
 case atStart=>exact ⟨0,Nat.zero_le _,by omega,rfl,⟨Below.refl _ w⟩,⟨fun j _ hj=>absurd hj (Nat.not_lt_zero _)⟩⟩
 case round =>
  obtain ⟨kk,hkk,hg,rfl,BW,HA⟩:=hrel
  by_cases hlt : kk < l.length
  ·have hltz : (kk : Int) < (l.length : Int):=by omega
   obtain ⟨ad,ea,hx0⟩:=Kd.at_int HR.out (kk : Int) (by omega) (by omega)
   cases ea
   have hrd : rd l (kk : Int) = l[kk]:=by simp [rd,hlt]
   rw [hrd] at hx0
   rw [Int.toNat_natCast] at hx0
   replace hx0:=(BW.out.cell (World.block_lt_of_cell? w _ hx0)).trans hx0
   have hcall:=HP.out l[kk] (List.getElem_mem hlt) wr BW.out
   clear hrd
   generalize hy : l[kk] = y at hx0 hcall
   have B:=a0_ hy
   clear hy
   cases hq : p y with
   | true =>
    rw [hq] at hcall
    go_wp2_with (go_at_fn g;refine hcall.mono ?_;rintro e w' ⟨rfl,hb'⟩)
    go_ret
    refine ⟨?_,below_step BW.out hb'⟩
    rw [idxP_hit p l kk hlt (by rw [B.out];exact hq) HA.out];rfl
   | false =>
    rw [hq] at hcall
    go_wp2_with (go_at_fn g;refine hcall.mono ?_;rintro e w' ⟨rfl,hb'⟩)
    go_roundg (l.length - (kk + 1))
    case measure=>omega
    case rel =>
     refine ⟨kk + 1,by omega,by omega,by go_num,⟨below_step BW.out hb'⟩,⟨fun j hj hjk=>?_⟩⟩
     by_cases e : j = kk
     ·subst e
      rw [B.out];exact hq
     ·exact HA.out j hj (by omega)
  ·have hltz : ¬ (kk : Int) < (l.length : Int):=by omega
   have : kk = l.length:=by omega
   subst this
   go_wp2
   go_ret
   refine ⟨?_,BW.out⟩
   rw [idxP_miss p l (fun j hj=>HA.out j hj hj)];rfl
end Go.Proofs.Ytfhcfhffmblacaa.P
namespace Go.Proofs.Ytfhcfhffmblacaa.P
open Go.RowKit Go.Proofs.YtfhcfhffmblacaaW.PrintWords Go.Proofs.YtfhcfhffmblacaaW.PrintLast Go.Proofs.YtfhcfhffmblacaaW.PrintMore
attribute [local go_sem] max2_int min2_int max_two min_two max_three min_three max_four min_four
set_option linter.unusedVariables false
set_option linter.unusedSimpArgs false
set_option maxHeartbeats 2000000 in
theorem slices_ContainsFunc_int.callsF (A : Option Addr) (c : Nat) (l : List Int) (g : Nat) (lb : Array Value) (p : Int → Bool) (w : World) (eg : ∀ args w,(callFunc g args).run Try.prog w = .ok (.enter g args) w)
  (hr : Kd.C (Kd.int .i64) w A l.length l) (hc : l.length ≤ c) (hp : ∀ x,x ∈ l → ∀ W,Below w.heap.size w W → Calls Try.prog g (#[.int .i64 x] ++ lb) W fun e w'=>e = .returned (.bool (p x)) ∧ Below W.heap.size W w') :
  Calls Try.prog 99 #[.slice A l.length c,.func (.func g) #[] lb] w fun e w'=>e = .returned (.bool (l.any p)) ∧ Below w.heap.size w w':=by
 have hcon:=slices_IndexFunc_int.callsF A c l g lb p w eg hr hc hp
 rw [← idxP_nonneg]
 clear eg hr hc hp
 generalize idxP p l = r at hcon ⊢
 go_enter Try.func99,Try.ntmps99
 go_wp2_with (go_at_call 109;refine hcon.mono ?_;rintro e w' ⟨rfl,hb'⟩)
 go_ret
 exact ⟨rfl,hb'⟩
end Go.Proofs.Ytfhcfhffmblacaa.P
namespace Go.Proofs.Ytfhcfhffmblacaa.P
open Go.RowKit Go.Proofs.YtfhcfhffmblacaaW.PrintWords Go.Proofs.YtfhcfhffmblacaaW.PrintLast Go.Proofs.YtfhcfhffmblacaaW.PrintMore
attribute [local go_sem] max2_int min2_int max_two min_two max_three min_three max_four min_four
set_option linter.unusedVariables false
set_option linter.unusedSimpArgs false
theorem impl_faultsIn_1.callsF (B : Nat) (A : Option Addr) (c : Nat) (h : List Fau) (f : Int) (w : World) (hc : h.length ≤ c) (hB : w.heap[B]? = some (.cells #[.slice A h.length c] 37 (0,0))) (hr : Kd.C k79 w A h.length h) :
  Calls Try.prog 100 #[.int .i64 f,.pointer (some ⟨B,0,none⟩)] w fun e w'=>e = .returned (.bool (!hasF h f)) ∧ Below w.heap.size w w':=by
 have hu37:=Try.underlying37
 have hcell : w.cell? ⟨B,0,none⟩ = some (.slice A h.length c):=(blk_cell hB 0).trans rfl
 have hcon:=impl_Heap_has.calls A c h f (hasF h f) w hr hc (impl_Heap_has_ev h f hr.2.1)
 clear hB hr
 generalize hasF h f = q at hcon ⊢
 go_enter Try.func100,Try.ntmps100
 go_wp2_with (go_at_call 58;refine hcon.mono ?_;rintro e w' ⟨rfl,hb'⟩)
 go_ret
 exact ⟨rfl,hb'⟩
end Go.Proofs.Ytfhcfhffmblacaa.P
namespace Go.Proofs.Ytfhcfhffmblacaa.P
open Go.RowKit Go.Proofs.YtfhcfhffmblacaaW.PrintWords Go.Proofs.YtfhcfhffmblacaaW.PrintLast Go.Proofs.YtfhcfhffmblacaaW.PrintMore
attribute [local go_sem] max2_int min2_int max_two min_two max_three min_three max_four min_four
set_option linter.unusedVariables false
set_option linter.unusedSimpArgs false
def impl_faultsIn.f (l0_0 : List Cls) (l1_0 : List Fau) (l2 : List Int) : Option Bool:=if smT l0_0 = true ∧ l1_0.length ≤ 1048576 then some (vH l0_0 l1_0 && !(l2.any (fun f=>!hasF l1_0 f))) else none
set_option maxHeartbeats 2000000 in
set_option maxRecDepth 100000 in
theorem impl_faultsIn.calls (A0_0 : Option Addr) (c0_0 : Nat) (l0_0 : List (S106)) (A1_0 : Option Addr) (c1_0 : Nat) (l1_0 : List (S79)) (A2 : Option Addr) (c2 : Nat) (l2 : List Int) (r : Bool) (w : World) (hr0_0 : Kd.C k106 w A0_0 l0_0.length l0_0) (hc0_0 : l0_0.length ≤ c0_0) (hr1_0 : Kd.C k79 w A1_0 l1_0.length l1_0) (hc1_0 : l1_0.length ≤ c1_0) (hr2 : Kd.C (Kd.int .i64) w A2 l2.length l2) (hc2 : l2.length ≤ c2) (h : impl_faultsIn.f l0_0 l1_0 l2 = some r) :
  Calls Try.prog 67 #[.agg #[.slice A0_0 l0_0.length c0_0],.agg #[.slice A1_0 l1_0.length c1_0],.slice A2 l2.length c2] w fun e w'=>e = .returned (.bool r) ∧ Below w.heap.size w w':=by
 have hu33:=Try.underlying33
 have hu37:=Try.underlying37
 have hsm : smT l0_0 = true ∧ l1_0.length ≤ 1048576:=by
  apply Classical.byContradiction
  intro hn
  rw [impl_faultsIn.f,if_neg hn] at h
  cases h
 rw [impl_faultsIn.f,if_pos hsm] at h
 obtain rfl:=Option.some.inj h
 clear h
 have HV:=a0_ (fun (W : World) (hb : Below w.heap.size w W)=>impl_ValidHeap.calls A0_0 c0_0 l0_0 A1_0 c1_0 l1_0 (vH l0_0 l1_0) W (Kd.C_below hr0_0 hb) hc0_0 (Kd.C_below hr1_0 hb) hc1_0 (by rw [impl_ValidHeap.f,if_pos hsm]))
 have eg : ∀ args w,(callFunc 100 args).run Try.prog w = .ok (.enter 100 args) w:=enters_of Try.func100 (by kernel_rfl) rfl
 have HC:=a0_ (fun (W : World) (hb : Below w.heap.size w W) (hB : W.heap[w.heap.size + 1]? = some (.cells #[.slice A1_0 l1_0.length c1_0] 37 (0,0)))=>slices_ContainsFunc_int.callsF A2 c2 l2 100 #[.pointer (some ⟨w.heap.size + 1,0,none⟩)] (fun f=>!hasF l1_0 f) W eg (Kd.C_below hr2 hb) hc2 (fun x _ W' hW=>impl_faultsIn_1.callsF (w.heap.size + 1) A1_0 c1_0 l1_0 x W' hc1_0 (blk_keptB hB hW) (Kd.C_below (Kd.C_below hr1_0 hb) hW)))
 have BK1:=a0_ (heap_old2 w (.cells #[.slice A0_0 l0_0.length c0_0] 33) (.cells #[.slice A1_0 l1_0.length c1_0] 37))
 have BK2:=a0_ (heap_new2 w (.cells #[.slice A0_0 l0_0.length c0_0] 33) (.cells #[.slice A1_0 l1_0.length c1_0] 37))
 have HB:=a0_ (below2 w (.cells #[.slice A0_0 l0_0.length c0_0] 33) (.cells #[.slice A1_0 l1_0.length c1_0] 37))
 have hcell:=(blk_cell BK1.1 0).trans rfl
 have hcell2:=(blk_cell BK2.1 0).trans rfl
 clear hr0_0 hr1_0 hr2 hsm eg
 generalize (l2.any fun f=>!hasF l1_0 f) = q at HC ⊢
 cases hv : vH l0_0 l1_0 with
 | false =>
  rw [hv] at HV
  clear HC hv
  go_enter Try.func67,Try.ntmps67
  go_wp2_with (go_at_call 19;refine (HV.out _ HB.1).mono ?_;rintro e w' ⟨rfl,hb'⟩)
  go_ret
  exact ⟨rfl,below_step HB.1 hb'⟩
 | true =>
  rw [hv] at HV
  clear hv
  go_enter Try.func67,Try.ntmps67
  go_wp2_with (first
   | (go_at_call 19;refine (HV.out _ HB.1).mono ?_;rintro e w' ⟨rfl,hb'⟩;replace HB:=a0_ (below_step HB.1 hb');replace BK2:=a0_ (blk_keptB BK2.1 hb');clear hb')
   | (go_at_call 99;refine (HC.out _ HB.1 BK2.1).mono ?_;rintro e w2 ⟨rfl,hb2⟩))
  go_ret
  exact ⟨by simp,below_step HB.1 hb2⟩
theorem impl_faultsIn_ev (t : List Cls) (h : List Fau) (f : Int) (hs : smT t = true) (hl : h.length ≤ 1048576) : impl_faultsIn.f t h [f] = some (vH t h && hasF h f):=by
 rw [impl_faultsIn.f,if_pos ⟨hs,hl⟩]
 simp
theorem hasF_in {h : List Fau} {f : Int} (hb : hasF h f = true) : 0 ≤ f ∧ f < (h.length : Int):=by
 unfold hasF at hb
 simp only [Bool.and_eq_true,decide_eq_true_eq] at hb
 omega
end Go.Proofs.Ytfhcfhffmblacaa.P
namespace Go.Proofs.Ytfhcfhffmblacaa.P
open Go.RowKit Go.Proofs.YtfhcfhffmblacaaW.PrintWords Go.Proofs.YtfhcfhffmblacaaW.PrintLast Go.Proofs.YtfhcfhffmblacaaW.PrintMore
attribute [local go_sem] max2_int min2_int max_two min_two max_three min_three max_four min_four
set_option linter.unusedVariables false
set_option linter.unusedSimpArgs false
def impl_Heap_shown.f (l0_0 : List (S79)) (a1 : Int) : Option (Int):=if 0 ≤ a1 then (if a1 < (l0_0.length : Int) then (if ((rd_T79 l0_0 a1).f2) ≥ 0 then (some ((rd_T79 l0_0 a1).f2)) else (if (rd_T79 l0_0 a1).f4 = true then (some (-1)) else (some ((rd_T79 l0_0 a1).f3)))) else (none)) else (none)
set_option maxHeartbeats 8000000 in
set_option maxRecDepth 100000 in
theorem impl_Heap_shown.calls (A0_0 : Option Addr) (c0_0 : Nat) (l0_0 : List (S79)) (a1 : Int) (r : Int) (w : World) (hr0_0 : Kd.C k79 w A0_0 l0_0.length l0_0) (hc0_0 : l0_0.length ≤ c0_0) (h : impl_Heap_shown.f l0_0 a1 = some r) :
  Calls Try.prog 68 #[.agg #[.slice A0_0 l0_0.length c0_0],.int .i64 a1] w fun e w'=>e = .returned (.int .i64 r) ∧ Below w.heap.size w w':=by
 have hu37:=Try.underlying37
 have hu79:=Try.underlying79
 have HR0_0:=a0_ hr0_0
 have HC0_0:=a0_ hc0_0
 clear hr0_0 hc0_0
 have HB:=a0_ (Below.refl w.heap.size w)
 have H : (if 0 ≤ a1 then (if a1 < (l0_0.length : Int) then (if ((rd_T79 l0_0 a1).f2) ≥ 0 then (some ((rd_T79 l0_0 a1).f2)) else (if (rd_T79 l0_0 a1).f4 = true then (some (-1)) else (some ((rd_T79 l0_0 a1).f3)))) else (none)) else (none)) = some r:=h
 clear h
 by_cases c3 : 0 ≤ a1
 ·rw [if_pos c3] at H
  have c3b0 : decide (0 ≤ a1) = true:=decide_eq_true c3
  clear c3
  by_cases c4 : a1 < (l0_0.length : Int)
  ·rw [if_pos c4] at H
   have c4b0 : decide (a1 < (l0_0.length : Int)) = true:=decide_eq_true c4
   clear c4
   by_cases c5 : ((rd_T79 l0_0 a1).f2) ≥ 0
   ·rw [if_pos c5] at H
    have c5b0 : decide (0 ≤ ((rd_T79 l0_0 a1).f2)) = true:=decide_eq_true c5
    clear c5
    obtain rfl:=Option.some.inj H
    go_enter Try.func68,Try.ntmps68
    go_wp2_with (first | ((with_reducible refine gate_dst (N:=2) rfl ?_);refine box_event ?hg (N:=2) ?hd (cs:=#[.slice A0_0 l0_0.length c0_0]) (t:=37) ?hr ?_;(case hd=>rfl);(case hg=>rfl);(case hr=>first | (go_simp;done) | (go_simp;rfl));intro gb1 hg w6 hbox hb;have n0_:=a0_ (below_step hb_ hb);have n1_:=a0_ (hbox);have n2_:=a0_ ((by rw [hg];exact (below_size hb_) : w.heap.size ≤ gb1));have n3_:=a0_ ((by rw [hg];exact (below_size hb_) : w.heap.size ≤ gb1));clear HB;have HB:=n0_;have BK1:=n1_;have GW1:=n2_;have GE1:=n3_;clear n0_ n1_ n2_ n3_;clear hb hbox hg;have hcz7_0 : w6.cell? ⟨gb1,0,none⟩ = some (.slice A0_0 l0_0.length c0_0):=(blk_cell BK1.1 0).trans rfl;have hfz7_0:=blk_frozen BK1.1 0;have p2 : 0 ≤ (a1 : Int):=of_decide_eq_true (by first | (with_reducible assumption) | assumption);have q2 : a1 < (l0_0.length : Int):=of_decide_eq_true (by first | (with_reducible assumption) | assumption);obtain ⟨ad2,e2,hx2_0,hx2_1,hx2_2,hx2_3,hx2_4⟩:=at_T79 HR0_0.1 a1 p2 q2;cases e2;replace hx2_0:=(HB.1.cell (World.block_lt_of_cell? w _ hx2_0)).trans hx2_0;replace hx2_1:=(HB.1.cell (World.block_lt_of_cell? w _ hx2_1)).trans hx2_1;replace hx2_2:=(HB.1.cell (World.block_lt_of_cell? w _ hx2_2)).trans hx2_2;replace hx2_3:=(HB.1.cell (World.block_lt_of_cell? w _ hx2_3)).trans hx2_3;replace hx2_4:=(HB.1.cell (World.block_lt_of_cell? w _ hx2_4)).trans hx2_4;replace p2:=eq_true p2;replace q2:=eq_true q2) | ((with_reducible refine gate_dst (N:=5) rfl ?_);refine box_event ?hg (N:=5) ?hd (cs:=#[.int .i64 0,.int .i64 0,.int .i64 0,.int .i64 0,.bool false]) (t:=79) ?hr ?_;(case hd=>rfl);(case hg=>rfl);(case hr=>first | (go_simp;done) | (go_simp;rfl));intro gb3 hg w8 hbox hb;have n0_:=a0_ (blk_below (bb_ BK1.1) hb);have n1_:=a0_ (below_step hb_ hb);have n2_:=a0_ (hbox);have n3_:=a0_ ((by rw [hg];exact (below_size hb_) : w.heap.size ≤ gb3));have n4_:=a0_ ((by rw [hg];exact (below_size hb_) : w.heap.size ≤ gb3));have n5_:=a0_ ((by rw [hg];exact Nat.ne_of_lt (blk_lt (bb_ BK1.1)) : gb1 ≠ gb3));have n6_:=a0_ ((by rw [hg];exact Nat.ne_of_gt (blk_lt (bb_ BK1.1)) : gb3 ≠ gb1));clear BK1 HB;have BK1:=n0_;have HB:=n1_;have BK3:=n2_;have GW3:=n3_;have GE3:=n4_;have NB1_3:=n5_;have NB3_1:=n6_;clear n0_ n1_ n2_ n3_ n4_ n5_ n6_;clear hb hbox hg;have hnb9:=NB3_1.1;have hnc9:=NB1_3.1;have hcz10_0 : w8.cell? ⟨gb3,0,none⟩ = some (.int .i64 0):=(blk_cell BK3.1 0).trans rfl;have hcz10_1 : w8.cell? ⟨gb3,1,none⟩ = some (.int .i64 0):=(blk_cell BK3.1 1).trans rfl;have hcz10_2 : w8.cell? ⟨gb3,2,none⟩ = some (.int .i64 0):=(blk_cell BK3.1 2).trans rfl;have hcz10_3 : w8.cell? ⟨gb3,3,none⟩ = some (.int .i64 0):=(blk_cell BK3.1 3).trans rfl;have hcz10_4 : w8.cell? ⟨gb3,4,none⟩ = some (.bool false):=(blk_cell BK3.1 4).trans rfl;have hfz10_0:=blk_frozen BK3.1 0;have hfz10_1:=blk_frozen BK3.1 1;have hfz10_2:=blk_frozen BK3.1 2;have hfz10_3:=blk_frozen BK3.1 3;have hfz10_4:=blk_frozen BK3.1 4))
    go_ret
    exact ⟨by first | rfl | (simp [errW_none,errW_some] <;> rfl) | (simp [*,errW_none,errW_some] <;> rfl),hb_⟩
   ·rw [if_neg c5] at H
    have c5b0 : decide (0 ≤ ((rd_T79 l0_0 a1).f2)) = false:=decide_eq_false c5
    clear c5
    obtain ⟨bq11,hbq11⟩ : ∃ b_ : Bool,b_ = ((rd_T79 l0_0 a1).f4):=⟨_,rfl⟩
    replace H : (if bq11 = true then (some (-1)) else (some ((rd_T79 l0_0 a1).f3))) = some r:=by rw [← hbq11] at H;exact H
    have Nbq11:=a0_ hbq11
    clear hbq11
    by_cases c12 : bq11 = true
    ·subst c12
     have H1 : (some (-1)) = some r:=by rw [if_pos rfl] at H;exact H
     clear H
     have H:=H1
     clear H1
     obtain rfl:=Option.some.inj H
     go_enter Try.func68,Try.ntmps68
     go_wp2_with (first | ((with_reducible refine gate_dst (N:=2) rfl ?_);refine box_event ?hg (N:=2) ?hd (cs:=#[.slice A0_0 l0_0.length c0_0]) (t:=37) ?hr ?_;(case hd=>rfl);(case hg=>rfl);(case hr=>first | (go_simp;done) | (go_simp;rfl));intro gb1 hg w13 hbox hb;have n0_:=a0_ (below_step hb_ hb);have n1_:=a0_ (hbox);have n2_:=a0_ ((by rw [hg];exact (below_size hb_) : w.heap.size ≤ gb1));have n3_:=a0_ ((by rw [hg];exact (below_size hb_) : w.heap.size ≤ gb1));clear HB;have HB:=n0_;have BK1:=n1_;have GW1:=n2_;have GE1:=n3_;clear n0_ n1_ n2_ n3_;clear hb hbox hg;have hcz14_0 : w13.cell? ⟨gb1,0,none⟩ = some (.slice A0_0 l0_0.length c0_0):=(blk_cell BK1.1 0).trans rfl;have hfz14_0:=blk_frozen BK1.1 0;have p2 : 0 ≤ (a1 : Int):=of_decide_eq_true (by first | (with_reducible assumption) | assumption);have q2 : a1 < (l0_0.length : Int):=of_decide_eq_true (by first | (with_reducible assumption) | assumption);obtain ⟨ad2,e2,hx2_0,hx2_1,hx2_2,hx2_3,hx2_4⟩:=at_T79 HR0_0.1 a1 p2 q2;(try rw [← Nbq11.out] at hx2_4);cases e2;replace hx2_0:=(HB.1.cell (World.block_lt_of_cell? w _ hx2_0)).trans hx2_0;replace hx2_1:=(HB.1.cell (World.block_lt_of_cell? w _ hx2_1)).trans hx2_1;replace hx2_2:=(HB.1.cell (World.block_lt_of_cell? w _ hx2_2)).trans hx2_2;replace hx2_3:=(HB.1.cell (World.block_lt_of_cell? w _ hx2_3)).trans hx2_3;replace hx2_4:=(HB.1.cell (World.block_lt_of_cell? w _ hx2_4)).trans hx2_4;replace p2:=eq_true p2;replace q2:=eq_true q2) | ((with_reducible refine gate_dst (N:=5) rfl ?_);refine box_event ?hg (N:=5) ?hd (cs:=#[.int .i64 0,.int .i64 0,.int .i64 0,.int .i64 0,.bool false]) (t:=79) ?hr ?_;(case hd=>rfl);(case hg=>rfl);(case hr=>first | (go_simp;done) | (go_simp;rfl));intro gb3 hg w15 hbox hb;have n0_:=a0_ (blk_below (bb_ BK1.1) hb);have n1_:=a0_ (below_step hb_ hb);have n2_:=a0_ (hbox);have n3_:=a0_ ((by rw [hg];exact (below_size hb_) : w.heap.size ≤ gb3));have n4_:=a0_ ((by rw [hg];exact (below_size hb_) : w.heap.size ≤ gb3));have n5_:=a0_ ((by rw [hg];exact Nat.ne_of_lt (blk_lt (bb_ BK1.1)) : gb1 ≠ gb3));have n6_:=a0_ ((by rw [hg];exact Nat.ne_of_gt (blk_lt (bb_ BK1.1)) : gb3 ≠ gb1));clear BK1 HB;have BK1:=n0_;have HB:=n1_;have BK3:=n2_;have GW3:=n3_;have GE3:=n4_;have NB1_3:=n5_;have NB3_1:=n6_;clear n0_ n1_ n2_ n3_ n4_ n5_ n6_;clear hb hbox hg;have hnb16:=NB3_1.1;have hnc16:=NB1_3.1;have hcz17_0 : w15.cell? ⟨gb3,0,none⟩ = some (.int .i64 0):=(blk_cell BK3.1 0).trans rfl;have hcz17_1 : w15.cell? ⟨gb3,1,none⟩ = some (.int .i64 0):=(blk_cell BK3.1 1).trans rfl;have hcz17_2 : w15.cell? ⟨gb3,2,none⟩ = some (.int .i64 0):=(blk_cell BK3.1 2).trans rfl;have hcz17_3 : w15.cell? ⟨gb3,3,none⟩ = some (.int .i64 0):=(blk_cell BK3.1 3).trans rfl;have hcz17_4 : w15.cell? ⟨gb3,4,none⟩ = some (.bool false):=(blk_cell BK3.1 4).trans rfl;have hfz17_0:=blk_frozen BK3.1 0;have hfz17_1:=blk_frozen BK3.1 1;have hfz17_2:=blk_frozen BK3.1 2;have hfz17_3:=blk_frozen BK3.1 3;have hfz17_4:=blk_frozen BK3.1 4))
     go_ret
     exact ⟨by first | rfl | (simp [errW_none,errW_some] <;> rfl) | (simp [*,errW_none,errW_some] <;> rfl),hb_⟩
    ·replace c12:=Bool.eq_false_iff.mpr c12
     subst c12
     have H1 : (some ((rd_T79 l0_0 a1).f3)) = some r:=by rw [if_neg (show ¬ (false = true) by decide)] at H;exact H
     clear H
     have H:=H1
     clear H1
     obtain rfl:=Option.some.inj H
     go_enter Try.func68,Try.ntmps68
     go_wp2_with (first | ((with_reducible refine gate_dst (N:=2) rfl ?_);refine box_event ?hg (N:=2) ?hd (cs:=#[.slice A0_0 l0_0.length c0_0]) (t:=37) ?hr ?_;(case hd=>rfl);(case hg=>rfl);(case hr=>first | (go_simp;done) | (go_simp;rfl));intro gb1 hg w18 hbox hb;have n0_:=a0_ (below_step hb_ hb);have n1_:=a0_ (hbox);have n2_:=a0_ ((by rw [hg];exact (below_size hb_) : w.heap.size ≤ gb1));have n3_:=a0_ ((by rw [hg];exact (below_size hb_) : w.heap.size ≤ gb1));clear HB;have HB:=n0_;have BK1:=n1_;have GW1:=n2_;have GE1:=n3_;clear n0_ n1_ n2_ n3_;clear hb hbox hg;have hcz19_0 : w18.cell? ⟨gb1,0,none⟩ = some (.slice A0_0 l0_0.length c0_0):=(blk_cell BK1.1 0).trans rfl;have hfz19_0:=blk_frozen BK1.1 0;have p2 : 0 ≤ (a1 : Int):=of_decide_eq_true (by first | (with_reducible assumption) | assumption);have q2 : a1 < (l0_0.length : Int):=of_decide_eq_true (by first | (with_reducible assumption) | assumption);obtain ⟨ad2,e2,hx2_0,hx2_1,hx2_2,hx2_3,hx2_4⟩:=at_T79 HR0_0.1 a1 p2 q2;(try rw [← Nbq11.out] at hx2_4);cases e2;replace hx2_0:=(HB.1.cell (World.block_lt_of_cell? w _ hx2_0)).trans hx2_0;replace hx2_1:=(HB.1.cell (World.block_lt_of_cell? w _ hx2_1)).trans hx2_1;replace hx2_2:=(HB.1.cell (World.block_lt_of_cell? w _ hx2_2)).trans hx2_2;replace hx2_3:=(HB.1.cell (World.block_lt_of_cell? w _ hx2_3)).trans hx2_3;replace hx2_4:=(HB.1.cell (World.block_lt_of_cell? w _ hx2_4)).trans hx2_4;replace p2:=eq_true p2;replace q2:=eq_true q2) | ((with_reducible refine gate_dst (N:=5) rfl ?_);refine box_event ?hg (N:=5) ?hd (cs:=#[.int .i64 0,.int .i64 0,.int .i64 0,.int .i64 0,.bool false]) (t:=79) ?hr ?_;(case hd=>rfl);(case hg=>rfl);(case hr=>first | (go_simp;done) | (go_simp;rfl));intro gb3 hg w20 hbox hb;have n0_:=a0_ (blk_below (bb_ BK1.1) hb);have n1_:=a0_ (below_step hb_ hb);have n2_:=a0_ (hbox);have n3_:=a0_ ((by rw [hg];exact (below_size hb_) : w.heap.size ≤ gb3));have n4_:=a0_ ((by rw [hg];exact (below_size hb_) : w.heap.size ≤ gb3));have n5_:=a0_ ((by rw [hg];exact Nat.ne_of_lt (blk_lt (bb_ BK1.1)) : gb1 ≠ gb3));have n6_:=a0_ ((by rw [hg];exact Nat.ne_of_gt (blk_lt (bb_ BK1.1)) : gb3 ≠ gb1));clear BK1 HB;have BK1:=n0_;have HB:=n1_;have BK3:=n2_;have GW3:=n3_;have GE3:=n4_;have NB1_3:=n5_;have NB3_1:=n6_;clear n0_ n1_ n2_ n3_ n4_ n5_ n6_;clear hb hbox hg;have hnb21:=NB3_1.1;have hnc21:=NB1_3.1;have hcz22_0 : w20.cell? ⟨gb3,0,none⟩ = some (.int .i64 0):=(blk_cell BK3.1 0).trans rfl;have hcz22_1 : w20.cell? ⟨gb3,1,none⟩ = some (.int .i64 0):=(blk_cell BK3.1 1).trans rfl;have hcz22_2 : w20.cell? ⟨gb3,2,none⟩ = some (.int .i64 0):=(blk_cell BK3.1 2).trans rfl;have hcz22_3 : w20.cell? ⟨gb3,3,none⟩ = some (.int .i64 0):=(blk_cell BK3.1 3).trans rfl;have hcz22_4 : w20.cell? ⟨gb3,4,none⟩ = some (.bool false):=(blk_cell BK3.1 4).trans rfl;have hfz22_0:=blk_frozen BK3.1 0;have hfz22_1:=blk_frozen BK3.1 1;have hfz22_2:=blk_frozen BK3.1 2;have hfz22_3:=blk_frozen BK3.1 3;have hfz22_4:=blk_frozen BK3.1 4))
     go_ret
     exact ⟨by first | rfl | (simp [errW_none,errW_some] <;> rfl) | (simp [*,errW_none,errW_some] <;> rfl),hb_⟩
  ·rw [if_neg c4] at H
   exact absurd H (by simp)
 ·rw [if_neg c3] at H
  exact absurd H (by simp)
theorem impl_Heap_shown_ev (h : List Fau) (f : Int) (h0 : 0 ≤ f) (hf : f < (h.length : Int)) : impl_Heap_shown.f h f = some (shwN h f):=by
 unfold impl_Heap_shown.f shwN
 have hrd : rd_T79 h f = h.getD f.toNat z79:=by simp [rd_T79]
 rw [if_pos h0,if_pos hf,hrd]
 generalize h.getD f.toNat z79 = x
 by_cases h1 : x.f2 ≥ 0
 ·rw [if_pos h1,if_pos h1]
 ·rw [if_neg h1,if_neg h1]
  cases x.f4 <;> rfl
end Go.Proofs.Ytfhcfhffmblacaa.P
namespace Go.Proofs.Ytfhcfhffmblacaa.P
open Go.RowKit Go.Proofs.YtfhcfhffmblacaaW.PrintWords Go.Proofs.YtfhcfhffmblacaaW.PrintLast Go.Proofs.YtfhcfhffmblacaaW.PrintMore
attribute [local go_sem] max2_int min2_int max_two min_two max_three min_three max_four min_four
set_option linter.unusedVariables false
set_option linter.unusedSimpArgs false
def impl_OldestShown.f (l0_0 : List Cls) (l1_0 : List Fau) (a2 : Int) : Option Int:=if smT l0_0 = true ∧ l1_0.length ≤ 1048576 then some (oldP l0_0 l1_0 a2) else none
set_option maxHeartbeats 2000000 in
set_option maxRecDepth 100000 in
theorem impl_OldestShown.calls (A0_0 : Option Addr) (c0_0 : Nat) (l0_0 : List (S106)) (A1_0 : Option Addr) (c1_0 : Nat) (l1_0 : List (S79)) (a2 : Int) (r : Int) (w : World) (hr0_0 : Kd.C k106 w A0_0 l0_0.length l0_0) (hc0_0 : l0_0.length ≤ c0_0) (hr1_0 : Kd.C k79 w A1_0 l1_0.length l1_0) (hc1_0 : l1_0.length ≤ c1_0) (h : impl_OldestShown.f l0_0 l1_0 a2 = some r) :
  Calls Try.prog 25 #[.agg #[.slice A0_0 l0_0.length c0_0],.agg #[.slice A1_0 l1_0.length c1_0],.int .i64 a2] w fun e w'=>e = .returned (.int .i64 r) ∧ Below w.heap.size w w':=by
 have hu33:=Try.underlying33
 have hu37:=Try.underlying37
 have hsm : smT l0_0 = true ∧ l1_0.length ≤ 1048576:=by
  apply Classical.byContradiction
  intro hn
  rw [impl_OldestShown.f,if_neg hn] at h
  cases h
 rw [impl_OldestShown.f,if_pos hsm] at h
 obtain rfl:=Option.some.inj h
 clear h
 obtain ⟨y3,hy3⟩ : ∃ y_ : List Int,y_ = [a2]:=⟨_,rfl⟩
 have Ny3:=a0_ hy3
 have HF:=a0_ (fun (A : Option Addr) (c : Nat) (W : World) (hb : Below w.heap.size w W) (hr : Kd.C (Kd.int .i64) W A y3.length y3) (hc : y3.length ≤ c)=>impl_faultsIn.calls A0_0 c0_0 l0_0 A1_0 c1_0 l1_0 A c y3 (vH l0_0 l1_0 && hasF l1_0 a2) W (Kd.C_below hr0_0 hb) hc0_0 (Kd.C_below hr1_0 hb) hc1_0 hr hc (by rw [hy3];exact impl_faultsIn_ev l0_0 l1_0 a2 hsm.1 hsm.2))
 have eg : ∀ args w,(callFunc 68 args).run Try.prog w = .ok (.enter 68 args) w:=enters_of Try.func68 (by kernel_rfl) rfl
 have HW:=a0_ (fun (hf : fsH l0_0 l1_0 = true) (h1 : a2 < (l1_0.length : Int)) (W : World) (hb : Below w.heap.size w W)=>impl_walk.callsF l1_0.length (shwN l1_0) 68 #[.agg #[.slice A1_0 l1_0.length c1_0]] #[] a2 W eg h1 hsm.2 (fun x h0 h1=>(fsH_shw hf x h0 h1).2) (fun x h0 h1 W' hW=>by
  have:=impl_Heap_shown.calls A1_0 c1_0 l1_0 x (shwN l1_0 x) W' (Kd.C_below (Kd.C_below hr1_0 hb) hW) hc1_0 (impl_Heap_shown_ev l1_0 x h0 h1)
  simpa using this))
 have BK1:=a0_ (heap_old2 w (.cells #[.slice A0_0 l0_0.length c0_0] 33) (.cells #[.slice A1_0 l1_0.length c1_0] 37))
 have BK2:=a0_ (heap_new2 w (.cells #[.slice A0_0 l0_0.length c0_0] 33) (.cells #[.slice A1_0 l1_0.length c1_0] 37))
 have HB:=a0_ (below2 w (.cells #[.slice A0_0 l0_0.length c0_0] 33) (.cells #[.slice A1_0 l1_0.length c1_0] 37))
 have hcell:=(blk_cell BK1.1 0).trans rfl
 have hcell2:=(blk_cell BK2.1 0).trans rfl
 have hlm:=hsm.2
 clear hr0_0 hr1_0 hsm eg hy3
 unfold oldP
 cases hq : (vH l0_0 l1_0 && hasF l1_0 a2) with
 | false =>
  rw [hq] at HF
  clear HW hq
  go_enter Try.func25,Try.ntmps25
  go_wp2_with (first | ((with_reducible refine gate_dst (N:=11) rfl ?_);refine Kd.R_lit (Kd.int .i64) _ 3 ?hg (N:=11) ?hd (xs:=([a2] : List Int)) (inner:=[.int .i64 a2]) (ok:=fun _=>True) (okp:=fun _=>True) ?hr ?hp (fun _ hk=>hk) trivial (Below.refl _ _) (Nat.le_refl _) (by simp) ?_;(case hd=>rfl);(case hg=>rfl);(case hr=>first | (go_simp;done) | (go_simp;rfl));(case hp=>exact (Reps.one (show Kd.M (Kd.int .i64) _ _ _ a2 [.int .i64 a2] from rfl) (Reps.none _ _)));intro v4 w12 ho13 hb hg_ hnew_;clear hg_ hnew_;rw [← Ny3.1] at ho13;have HO5:=a0_ ho13;replace BK2:=a0_ (blk_keptB BK2.1 hb);replace HB:=a0_ (below_step HB.1 hb);clear hb ho13;obtain ⟨Ao14,co14,eo14⟩:=Kd.R_slice HO5.1;subst eo14) | (go_at_call 67;refine (HF.out _ _ _ HB.1 (Kd.R_reads' HO5.1).2.2 (Kd.R_reads' HO5.1).2.1).mono ?_;rintro e w' ⟨rfl,hb'⟩;replace BK2:=a0_ (blk_keptB BK2.1 hb');replace HB:=a0_ (below_step HB.1 hb');clear hb';have hcell2:=(blk_cell BK2.1 0).trans rfl))
  go_ret
  exact ⟨rfl,HB.1⟩
 | true =>
  obtain ⟨hfs,h0,h1⟩:=good_parts hq
  rw [hq] at HF
  replace HW:=a0_ (HW.out hfs h1)
  change Aside0 (∀ (W : World) (hb : Below w.heap.size w W),Calls _ _ _ W fun e w'=>∃ v : Value,e = .returned v ∧ Kd.R (Kd.int .i64) 3 w' W.heap.size (fun _=>True) v (shwL l1_0 a2) ∧ Below W.heap.size W w') at HW
  rw [if_pos rfl]
  have hpos:=shwL_pos l1_0 a2 h0 h1
  have hlen:=shwL_len l1_0 a2
  have hrdl : rd (shwL l1_0 a2) (((shwL l1_0 a2).length : Int) - 1) = lastI (shwL l1_0 a2):=by
   unfold lastI
   rw [show (((shwL l1_0 a2).length : Int) - 1) = (((shwL l1_0 a2).length - 1 : Nat) : Int) by omega]
   exact rd_nat _ _ (by omega)
  generalize shwL l1_0 a2 = L at HW hpos hlen hrdl ⊢
  obtain ⟨ix,hix⟩ : ∃ ix,ix = (L.length : Int) - 1:=⟨_,rfl⟩
  have hw1 : wrap64 ((L.length : Int) - 1) = ix:=(wrap_in (by omega) (by omega)).trans hix.symm
  have hw2 : IntKind.i64.wrap ((L.length : Int) - 1) = ix:=(i64_w _).trans hw1
  rw [← hix] at hrdl
  have hl2 : 0 ≤ ix:=by omega
  have hl3 : ix < (L.length : Int):=by omega
  have HRL:=a0_ hrdl
  clear hix hrdl hpos hlen
  clear hq hfs h0 h1
  go_enter Try.func25,Try.ntmps25
  go_wp2_with (first | ((with_reducible refine gate_dst (N:=11) rfl ?_);refine Kd.R_lit (Kd.int .i64) _ 3 ?hg (N:=11) ?hd (xs:=([a2] : List Int)) (inner:=[.int .i64 a2]) (ok:=fun _=>True) (okp:=fun _=>True) ?hr ?hp (fun _ hk=>hk) trivial (Below.refl _ _) (Nat.le_refl _) (by simp) ?_;(case hd=>rfl);(case hg=>rfl);(case hr=>first | (go_simp;done) | (go_simp;rfl));(case hp=>exact (Reps.one (show Kd.M (Kd.int .i64) _ _ _ a2 [.int .i64 a2] from rfl) (Reps.none _ _)));intro v4 w12 ho13 hb hg_ hnew_;clear hg_ hnew_;rw [← Ny3.1] at ho13;have HO5:=a0_ ho13;replace BK2:=a0_ (blk_keptB BK2.1 hb);replace HB:=a0_ (below_step HB.1 hb);clear hb ho13;obtain ⟨Ao14,co14,eo14⟩:=Kd.R_slice HO5.1;subst eo14) | (go_at_call 67;refine (HF.out _ _ _ HB.1 (Kd.R_reads' HO5.1).2.2 (Kd.R_reads' HO5.1).2.1).mono ?_;rintro e w' ⟨rfl,hb'⟩;replace BK2:=a0_ (blk_keptB BK2.1 hb');replace HB:=a0_ (below_step HB.1 hb');clear hb';have hcell2:=(blk_cell BK2.1 0).trans rfl) | (go_at_call 70;refine (HW.out _ HB.1).mono ?_;rintro e w2 ⟨v2,rfl,ho2,hb2⟩;have HO2:=a0_ (Kd.R_lower ho2 (below_size HB.1));replace HB:=a0_ (below_step HB.1 hb2);clear ho2 hb2;obtain ⟨Ao2,co2,eo2⟩:=Kd.R_slice HO2.1;subst eo2;obtain ⟨ae,eae,hy0⟩:=Kd.at_int (Kd.R_reads' HO2.1).2.2 ix hl2 hl3;cases eae;rw [HRL.out] at hy0))
  go_ret
  exact ⟨rfl,HB.1⟩
theorem impl_OldestShown_ev (t : List Cls) (h : List Fau) (f : Int) (hs : smT t = true) (hl : h.length ≤ 1048576) : impl_OldestShown.f t h f = some (oldP t h f):=by rw [impl_OldestShown.f,if_pos ⟨hs,hl⟩]
end Go.Proofs.Ytfhcfhffmblacaa.P
namespace Go.Proofs.Ytfhcfhffmblacaa.P
open Go.RowKit Go.Proofs.YtfhcfhffmblacaaW.PrintWords Go.Proofs.YtfhcfhffmblacaaW.PrintLast Go.Proofs.YtfhcfhffmblacaaW.PrintMore
attribute [local go_sem] max2_int min2_int max_two min_two max_three min_three max_four min_four
set_option linter.unusedVariables false
set_option linter.unusedSimpArgs false
def laws_FnExactOldestShown.f (k : Nat) (l0_0 : List (S103)) (l1_0 : List (S109)) (a2 : Int) : Option (Bool):=(laws_szTree.f k l0_0 1048576).bind fun t3=>(if t3 < 0 then (some true) else ((laws_szHeap.f l1_0 t3).bind fun t4=>(if t4 < 0 then (some true) else ((laws_toTree.f k l0_0).bind fun t5=>((laws_toHeap.f k l1_0).bind fun t8=>((spec_OldestShown.f k t5 t8 a2).bind fun t11=>((laws_toTree.f k l0_0).bind fun t12=>((laws_toHeap.f k l1_0).bind fun t16=>((impl_OldestShown.f t12 t16 a2).bind fun t20=>(if t20 = t11 then ((laws_toTree.f k l0_0).bind fun t21=>((laws_eqTree.f k t12 t21).bind fun t24=>(if t24 = true then ((laws_toHeap.f k l1_0).bind fun t25=>((laws_eqHeap.f k t16 t25).bind fun t28=>(if t28 = true then (some true) else (some false)))) else (some false)))) else (some false)))))))))))
theorem laws_FnExactOldestShown.mono : ∀ a0 a1 a2 k,LeO (laws_FnExactOldestShown.f k a0 a1 a2) (laws_FnExactOldestShown.f (k + 1) a0 a1 a2):=by
 intro a0 a1 a2 k
 unfold laws_FnExactOldestShown.f
 repeat' first
   | (with_reducible exact laws_eqHeap.mono _ _ _)
   | (with_reducible exact laws_eqTree.mono _ _ _)
   | (with_reducible exact laws_szTree.mono _ _ _)
   | (with_reducible exact laws_toHeap.mono _ _)
   | (with_reducible exact laws_toTree.mono _ _)
   | (with_reducible exact spec_OldestShown.mono _ _ _ _)
   | (with_reducible exact LeO.refl _)
   | (with_reducible exact LeO.none _)
   | (with_reducible refine LeO.ite ?_ ?_)
   | (with_reducible refine LeO.bind ?_ (fun _=>?_))
   | exact laws_eqHeap.mono _ _ _
   | exact laws_eqTree.mono _ _ _
   | exact laws_szTree.mono _ _ _
   | exact laws_toHeap.mono _ _
   | exact laws_toTree.mono _ _
   | exact spec_OldestShown.mono _ _ _ _
   | exact LeO.none _
   | refine LeO.ite ?_ ?_
   | refine LeO.bind ?_ (fun _=>?_)
set_option maxHeartbeats 8000000 in
set_option maxRecDepth 100000 in
theorem laws_FnExactOldestShown.calls (k : Nat) (A0_0 : Option Addr) (c0_0 : Nat) (l0_0 : List (S103)) (A1_0 : Option Addr) (c1_0 : Nat) (l1_0 : List (S109)) (a2 : Int) (r : Bool) (w : World) (hr0_0 : Kd.C k103 w A0_0 l0_0.length l0_0) (hc0_0 : l0_0.length ≤ c0_0) (hr1_0 : Kd.C k109 w A1_0 l1_0.length l1_0) (hc1_0 : l1_0.length ≤ c1_0) (h : laws_FnExactOldestShown.f k l0_0 l1_0 a2 = some r) :
  Calls Try.prog 5 #[.agg #[.slice A0_0 l0_0.length c0_0],.agg #[.slice A1_0 l1_0.length c1_0],.int .i64 a2] w fun e w'=>e = .returned (.bool r) ∧ Below w.heap.size w w':=by
 have hu24:=Try.underlying24
 have hu27:=Try.underlying27
 have hu33:=Try.underlying33
 have hu37:=Try.underlying37
 have HR0_0:=a0_ hr0_0
 have HC0_0:=a0_ hc0_0
 clear hr0_0 hc0_0
 have HR1_0:=a0_ hr1_0
 have HC1_0:=a0_ hc1_0
 clear hr1_0 hc1_0
 have HB:=a0_ (Below.refl w.heap.size w)
 have H : ((laws_szTree.f k l0_0 1048576).bind fun t3=>(if t3 < 0 then (some true) else ((laws_szHeap.f l1_0 t3).bind fun t4=>(if t4 < 0 then (some true) else ((laws_toTree.f k l0_0).bind fun t5=>((laws_toHeap.f k l1_0).bind fun t8=>((spec_OldestShown.f k t5 t8 a2).bind fun t11=>((laws_toTree.f k l0_0).bind fun t12=>((laws_toHeap.f k l1_0).bind fun t16=>((impl_OldestShown.f t12 t16 a2).bind fun t20=>(if t20 = t11 then ((laws_toTree.f k l0_0).bind fun t21=>((laws_eqTree.f k t12 t21).bind fun t24=>(if t24 = true then ((laws_toHeap.f k l1_0).bind fun t25=>((laws_eqHeap.f k t16 t25).bind fun t28=>(if t28 = true then (some true) else (some false)))) else (some false)))) else (some false)))))))))))) = some r:=h
 clear h
 replace H:=Option.bind_eq_some_iff.mp H
 obtain ⟨t3,A40,H⟩:=H
 replace H : (if t3 < 0 then (some true) else ((laws_szHeap.f l1_0 t3).bind fun t4=>(if t4 < 0 then (some true) else ((laws_toTree.f k l0_0).bind fun t5=>((laws_toHeap.f k l1_0).bind fun t8=>((spec_OldestShown.f k t5 t8 a2).bind fun t11=>((laws_toTree.f k l0_0).bind fun t12=>((laws_toHeap.f k l1_0).bind fun t16=>((impl_OldestShown.f t12 t16 a2).bind fun t20=>(if t20 = t11 then ((laws_toTree.f k l0_0).bind fun t21=>((laws_eqTree.f k t12 t21).bind fun t24=>(if t24 = true then ((laws_toHeap.f k l1_0).bind fun t25=>((laws_eqHeap.f k t16 t25).bind fun t28=>(if t28 = true then (some true) else (some false)))) else (some false)))) else (some false))))))))))) = some r:=H
 have A4:=a0_ A40
 clear A40
 by_cases c5 : t3 < 0
 ·rw [if_pos c5] at H
  have c5b0 : decide (t3 < 0) = true:=decide_eq_true c5
  clear c5
  obtain rfl:=Option.some.inj H
  go_enter Try.func5,Try.ntmps5
  go_wp2_with (first | ((with_reducible refine gate_dst (N:=3) rfl ?_);refine box_event ?hg (N:=3) ?hd (cs:=#[.slice A0_0 l0_0.length c0_0]) (t:=24) ?hr ?_;(case hd=>rfl);(case hg=>rfl);(case hr=>first | (go_simp;done) | (go_simp;rfl));intro gb1 hg w6 hbox hb;have n0_:=a0_ (below_step hb_ hb);have n1_:=a0_ (hbox);have n2_:=a0_ ((by rw [hg];exact (below_size hb_) : w.heap.size ≤ gb1));have n3_:=a0_ ((by rw [hg];exact (below_size hb_) : w.heap.size ≤ gb1));clear HB;have HB:=n0_;have BK1:=n1_;have GW1:=n2_;have GE1:=n3_;clear n0_ n1_ n2_ n3_;clear hb hbox hg) | ((with_reducible refine gate_dst (N:=4) rfl ?_);refine box_event ?hg (N:=4) ?hd (cs:=#[.slice A1_0 l1_0.length c1_0]) (t:=27) ?hr ?_;(case hd=>rfl);(case hg=>rfl);(case hr=>first | (go_simp;done) | (go_simp;rfl));intro gb2 hg w7 hbox hb;have n0_:=a0_ (blk_below (bb_ BK1.1) hb);have n1_:=a0_ (below_step hb_ hb);have n2_:=a0_ (hbox);have n3_:=a0_ ((by rw [hg];exact (below_size hb_) : w.heap.size ≤ gb2));have n4_:=a0_ ((by rw [hg];exact (below_size hb_) : w.heap.size ≤ gb2));have n5_:=a0_ ((by rw [hg];exact Nat.ne_of_lt (blk_lt (bb_ BK1.1)) : gb1 ≠ gb2));have n6_:=a0_ ((by rw [hg];exact Nat.ne_of_gt (blk_lt (bb_ BK1.1)) : gb2 ≠ gb1));clear BK1 HB;have BK1:=n0_;have HB:=n1_;have BK2:=n2_;have GW2:=n3_;have GE2:=n4_;have NB1_2:=n5_;have NB2_1:=n6_;clear n0_ n1_ n2_ n3_ n4_ n5_ n6_;clear hb hbox hg;have hnb8:=NB1_2.1;have hnc8:=NB2_1.1;have hcz9_0 : w7.cell? ⟨gb1,0,none⟩ = some (.slice A0_0 l0_0.length c0_0):=(blk_cell BK1.1 0).trans rfl;have hfz9_0:=blk_frozen BK1.1 0) | ((with_reducible refine gate_callee (f:=14) rfl ?_);refine goesL_ (some 14) rfl rfl Try.func14 (by kernel_rfl) rfl #[.agg #[.slice A0_0 l0_0.length c0_0],.int .i64 1048576] rfl lm_ ?_;(with_reducible refine (laws_szTree.calls k _ _ l0_0 1048576 t3 _ ?side1 ?side2 A4.1).mono ?_);(case side1=>exact cc_ (Kd.C_below HR0_0.1 HB.1));(case side2=>exact HC0_0.1);rintro e w10 ⟨rfl,hb⟩;refine ⟨_,rfl,?_⟩;have n0_:=a0_ (blk_below (bb_ BK1.1) hb);have n1_:=a0_ (blk_below (bb_ BK2.1) hb);have n2_:=a0_ (below_step hb_ hb);clear BK1 BK2 HB;have BK1:=n0_;have BK2:=n1_;have HB:=n2_;clear n0_ n1_ n2_;(try clear hb);(try clear hb2);(try clear hk);(try clear hi)))
  go_ret
  exact ⟨by first | rfl | (simp [errW_none,errW_some] <;> rfl) | (simp [*,errW_none,errW_some] <;> rfl),hb_⟩
 ·rw [if_neg c5] at H
  have c5b0 : decide (t3 < 0) = false:=decide_eq_false c5
  clear c5
  replace H:=Option.bind_eq_some_iff.mp H
  obtain ⟨t4,A110,H⟩:=H
  replace H : (if t4 < 0 then (some true) else ((laws_toTree.f k l0_0).bind fun t5=>((laws_toHeap.f k l1_0).bind fun t8=>((spec_OldestShown.f k t5 t8 a2).bind fun t11=>((laws_toTree.f k l0_0).bind fun t12=>((laws_toHeap.f k l1_0).bind fun t16=>((impl_OldestShown.f t12 t16 a2).bind fun t20=>(if t20 = t11 then ((laws_toTree.f k l0_0).bind fun t21=>((laws_eqTree.f k t12 t21).bind fun t24=>(if t24 = true then ((laws_toHeap.f k l1_0).bind fun t25=>((laws_eqHeap.f k t16 t25).bind fun t28=>(if t28 = true then (some true) else (some false)))) else (some false)))) else (some false))))))))) = some r:=H
  have A11:=a0_ A110
  clear A110
  by_cases c12 : t4 < 0
  ·rw [if_pos c12] at H
   have c12b0 : decide (t4 < 0) = true:=decide_eq_true c12
   clear c12
   obtain rfl:=Option.some.inj H
   go_enter Try.func5,Try.ntmps5
   go_wp2_with (first | ((with_reducible refine gate_dst (N:=3) rfl ?_);refine box_event ?hg (N:=3) ?hd (cs:=#[.slice A0_0 l0_0.length c0_0]) (t:=24) ?hr ?_;(case hd=>rfl);(case hg=>rfl);(case hr=>first | (go_simp;done) | (go_simp;rfl));intro gb1 hg w13 hbox hb;have n0_:=a0_ (below_step hb_ hb);have n1_:=a0_ (hbox);have n2_:=a0_ ((by rw [hg];exact (below_size hb_) : w.heap.size ≤ gb1));have n3_:=a0_ ((by rw [hg];exact (below_size hb_) : w.heap.size ≤ gb1));clear HB;have HB:=n0_;have BK1:=n1_;have GW1:=n2_;have GE1:=n3_;clear n0_ n1_ n2_ n3_;clear hb hbox hg) | ((with_reducible refine gate_dst (N:=4) rfl ?_);refine box_event ?hg (N:=4) ?hd (cs:=#[.slice A1_0 l1_0.length c1_0]) (t:=27) ?hr ?_;(case hd=>rfl);(case hg=>rfl);(case hr=>first | (go_simp;done) | (go_simp;rfl));intro gb2 hg w14 hbox hb;have n0_:=a0_ (blk_below (bb_ BK1.1) hb);have n1_:=a0_ (below_step hb_ hb);have n2_:=a0_ (hbox);have n3_:=a0_ ((by rw [hg];exact (below_size hb_) : w.heap.size ≤ gb2));have n4_:=a0_ ((by rw [hg];exact (below_size hb_) : w.heap.size ≤ gb2));have n5_:=a0_ ((by rw [hg];exact Nat.ne_of_lt (blk_lt (bb_ BK1.1)) : gb1 ≠ gb2));have n6_:=a0_ ((by rw [hg];exact Nat.ne_of_gt (blk_lt (bb_ BK1.1)) : gb2 ≠ gb1));clear BK1 HB;have BK1:=n0_;have HB:=n1_;have BK2:=n2_;have GW2:=n3_;have GE2:=n4_;have NB1_2:=n5_;have NB2_1:=n6_;clear n0_ n1_ n2_ n3_ n4_ n5_ n6_;clear hb hbox hg;have hnb15:=NB1_2.1;have hnc15:=NB2_1.1;have hcz16_0 : w14.cell? ⟨gb1,0,none⟩ = some (.slice A0_0 l0_0.length c0_0):=(blk_cell BK1.1 0).trans rfl;have hfz16_0:=blk_frozen BK1.1 0) | ((with_reducible refine gate_callee (f:=14) rfl ?_);refine goesL_ (some 14) rfl rfl Try.func14 (by kernel_rfl) rfl #[.agg #[.slice A0_0 l0_0.length c0_0],.int .i64 1048576] rfl lm_ ?_;(with_reducible refine (laws_szTree.calls k _ _ l0_0 1048576 t3 _ ?side1 ?side2 A4.1).mono ?_);(case side1=>exact cc_ (Kd.C_below HR0_0.1 HB.1));(case side2=>exact HC0_0.1);rintro e w17 ⟨rfl,hb⟩;refine ⟨_,rfl,?_⟩;have n0_:=a0_ (blk_below (bb_ BK1.1) hb);have n1_:=a0_ (blk_below (bb_ BK2.1) hb);have n2_:=a0_ (below_step hb_ hb);clear BK1 BK2 HB;have BK1:=n0_;have BK2:=n1_;have HB:=n2_;clear n0_ n1_ n2_;(try clear hb);(try clear hb2);(try clear hk);(try clear hi);have hcz18_0 : w17.cell? ⟨gb2,0,none⟩ = some (.slice A1_0 l1_0.length c1_0):=(blk_cell BK2.1 0).trans rfl;have hfz18_0:=blk_frozen BK2.1 0) | ((with_reducible refine gate_callee (f:=15) rfl ?_);refine goesL_ (some 19) rfl rfl Try.func15 (by kernel_rfl) rfl #[.agg #[.slice A1_0 l1_0.length c1_0],.int .i64 t3] rfl lm_ ?_;(with_reducible refine (laws_szHeap.calls _ _ l1_0 t3 t4 _ ?side1 ?side2 A11.1).mono ?_);(case side1=>exact cc_ (Kd.C_below HR1_0.1 HB.1));(case side2=>exact HC1_0.1);rintro e w19 ⟨rfl,hb⟩;refine ⟨_,rfl,?_⟩;have n0_:=a0_ (blk_below (bb_ BK1.1) hb);have n1_:=a0_ (blk_below (bb_ BK2.1) hb);have n2_:=a0_ (below_step hb_ hb);clear BK1 BK2 HB;have BK1:=n0_;have BK2:=n1_;have HB:=n2_;clear n0_ n1_ n2_;(try clear hb);(try clear hb2);(try clear hk);(try clear hi)))
   go_ret
   exact ⟨by first | rfl | (simp [errW_none,errW_some] <;> rfl) | (simp [*,errW_none,errW_some] <;> rfl),hb_⟩
  ·rw [if_neg c12] at H
   have c12b0 : decide (t4 < 0) = false:=decide_eq_false c12
   clear c12
   replace H:=Option.bind_eq_some_iff.mp H
   obtain ⟨t5,A200,H⟩:=H
   replace H : ((laws_toHeap.f k l1_0).bind fun t8=>((spec_OldestShown.f k t5 t8 a2).bind fun t11=>((laws_toTree.f k l0_0).bind fun t12=>((laws_toHeap.f k l1_0).bind fun t16=>((impl_OldestShown.f t12 t16 a2).bind fun t20=>(if t20 = t11 then ((laws_toTree.f k l0_0).bind fun t21=>((laws_eqTree.f k t12 t21).bind fun t24=>(if t24 = true then ((laws_toHeap.f k l1_0).bind fun t25=>((laws_eqHeap.f k t16 t25).bind fun t28=>(if t28 = true then (some true) else (some false)))) else (some false)))) else (some false))))))) = some r:=H
   have A20:=a0_ A200
   clear A200
   replace H:=Option.bind_eq_some_iff.mp H
   obtain ⟨t8,A210,H⟩:=H
   replace H : ((spec_OldestShown.f k t5 t8 a2).bind fun t11=>((laws_toTree.f k l0_0).bind fun t12=>((laws_toHeap.f k l1_0).bind fun t16=>((impl_OldestShown.f t12 t16 a2).bind fun t20=>(if t20 = t11 then ((laws_toTree.f k l0_0).bind fun t21=>((laws_eqTree.f k t12 t21).bind fun t24=>(if t24 = true then ((laws_toHeap.f k l1_0).bind fun t25=>((laws_eqHeap.f k t16 t25).bind fun t28=>(if t28 = true then (some true) else (some false)))) else (some false)))) else (some false)))))) = some r:=H
   have A21:=a0_ A210
   clear A210
   replace H:=Option.bind_eq_some_iff.mp H
   obtain ⟨t11,A220,H⟩:=H
   replace H : ((laws_toTree.f k l0_0).bind fun t12=>((laws_toHeap.f k l1_0).bind fun t16=>((impl_OldestShown.f t12 t16 a2).bind fun t20=>(if t20 = t11 then ((laws_toTree.f k l0_0).bind fun t21=>((laws_eqTree.f k t12 t21).bind fun t24=>(if t24 = true then ((laws_toHeap.f k l1_0).bind fun t25=>((laws_eqHeap.f k t16 t25).bind fun t28=>(if t28 = true then (some true) else (some false)))) else (some false)))) else (some false))))) = some r:=H
   have A22:=a0_ A220
   clear A220
   replace H:=Option.bind_eq_some_iff.mp H
   obtain ⟨t12,A230,H⟩:=H
   replace H : ((laws_toHeap.f k l1_0).bind fun t16=>((impl_OldestShown.f t12 t16 a2).bind fun t20=>(if t20 = t11 then ((laws_toTree.f k l0_0).bind fun t21=>((laws_eqTree.f k t12 t21).bind fun t24=>(if t24 = true then ((laws_toHeap.f k l1_0).bind fun t25=>((laws_eqHeap.f k t16 t25).bind fun t28=>(if t28 = true then (some true) else (some false)))) else (some false)))) else (some false)))) = some r:=H
   have A23:=a0_ A230
   clear A230
   replace H:=Option.bind_eq_some_iff.mp H
   obtain ⟨t16,A240,H⟩:=H
   replace H : ((impl_OldestShown.f t12 t16 a2).bind fun t20=>(if t20 = t11 then ((laws_toTree.f k l0_0).bind fun t21=>((laws_eqTree.f k t12 t21).bind fun t24=>(if t24 = true then ((laws_toHeap.f k l1_0).bind fun t25=>((laws_eqHeap.f k t16 t25).bind fun t28=>(if t28 = true then (some true) else (some false)))) else (some false)))) else (some false))) = some r:=H
   have A24:=a0_ A240
   clear A240
   replace H:=Option.bind_eq_some_iff.mp H
   obtain ⟨t20,A250,H⟩:=H
   replace H : (if t20 = t11 then ((laws_toTree.f k l0_0).bind fun t21=>((laws_eqTree.f k t12 t21).bind fun t24=>(if t24 = true then ((laws_toHeap.f k l1_0).bind fun t25=>((laws_eqHeap.f k t16 t25).bind fun t28=>(if t28 = true then (some true) else (some false)))) else (some false)))) else (some false)) = some r:=H
   have A25:=a0_ A250
   clear A250
   by_cases c26 : t20 = t11
   ·rw [if_pos c26] at H
    have c26b0 : (t20 == t11) = true:=beq_iff_eq.mpr c26
    have c26b1 : (t20 != t11) = false:=bne_eq_false_iff_eq.mpr c26
    clear c26
    replace H:=Option.bind_eq_some_iff.mp H
    obtain ⟨t21,A270,H⟩:=H
    replace H : ((laws_eqTree.f k t12 t21).bind fun t24=>(if t24 = true then ((laws_toHeap.f k l1_0).bind fun t25=>((laws_eqHeap.f k t16 t25).bind fun t28=>(if t28 = true then (some true) else (some false)))) else (some false))) = some r:=H
    have A27:=a0_ A270
    clear A270
    replace H:=Option.bind_eq_some_iff.mp H
    obtain ⟨t24,A280,H⟩:=H
    replace H : (if t24 = true then ((laws_toHeap.f k l1_0).bind fun t25=>((laws_eqHeap.f k t16 t25).bind fun t28=>(if t28 = true then (some true) else (some false)))) else (some false)) = some r:=H
    have A28:=a0_ A280
    clear A280
    by_cases c29 : t24 = true
    ·subst c29
     have H1 : ((laws_toHeap.f k l1_0).bind fun t25=>((laws_eqHeap.f k t16 t25).bind fun t28=>(if t28 = true then (some true) else (some false)))) = some r:=by rw [if_pos rfl] at H;exact H
     clear H
     have H:=H1
     clear H1
     replace H:=Option.bind_eq_some_iff.mp H
     obtain ⟨t25,A300,H⟩:=H
     replace H : ((laws_eqHeap.f k t16 t25).bind fun t28=>(if t28 = true then (some true) else (some false))) = some r:=H
     have A30:=a0_ A300
     clear A300
     replace H:=Option.bind_eq_some_iff.mp H
     obtain ⟨t28,A310,H⟩:=H
     replace H : (if t28 = true then (some true) else (some false)) = some r:=H
     have A31:=a0_ A310
     clear A310
     by_cases c32 : t28 = true
     ·subst c32
      have H1 : (some true) = some r:=by rw [if_pos rfl] at H;exact H
      clear H
      have H:=H1
      clear H1
      obtain rfl:=Option.some.inj H
      go_enter Try.func5,Try.ntmps5
      try go_wp2_with (first | ((with_reducible refine gate_dst (N:=3) rfl ?_);refine box_event ?hg (N:=3) ?hd (cs:=#[.slice A0_0 l0_0.length c0_0]) (t:=24) ?hr ?_;(case hd=>rfl);(case hg=>rfl);(case hr=>first | (go_simp;done) | (go_simp;rfl));intro gb1 hg w33 hbox hb;have n0_:=a0_ (below_step hb_ hb);have n1_:=a0_ (hbox);have n2_:=a0_ ((by rw [hg];exact (below_size hb_) : w.heap.size ≤ gb1));have n3_:=a0_ ((by rw [hg];exact (below_size hb_) : w.heap.size ≤ gb1));clear HB;have HB:=n0_;have BK1:=n1_;have GW1:=n2_;have GE1:=n3_;clear n0_ n1_ n2_ n3_;clear hb hbox hg) | ((with_reducible refine gate_dst (N:=4) rfl ?_);refine box_event ?hg (N:=4) ?hd (cs:=#[.slice A1_0 l1_0.length c1_0]) (t:=27) ?hr ?_;(case hd=>rfl);(case hg=>rfl);(case hr=>first | (go_simp;done) | (go_simp;rfl));intro gb2 hg w34 hbox hb;have n0_:=a0_ (blk_below (bb_ BK1.1) hb);have n1_:=a0_ (below_step hb_ hb);have n2_:=a0_ (hbox);have n3_:=a0_ ((by rw [hg];exact (below_size hb_) : w.heap.size ≤ gb2));have n4_:=a0_ ((by rw [hg];exact (below_size hb_) : w.heap.size ≤ gb2));have n5_:=a0_ ((by rw [hg];exact Nat.ne_of_lt (blk_lt (bb_ BK1.1)) : gb1 ≠ gb2));have n6_:=a0_ ((by rw [hg];exact Nat.ne_of_gt (blk_lt (bb_ BK1.1)) : gb2 ≠ gb1));clear BK1 HB;have BK1:=n0_;have HB:=n1_;have BK2:=n2_;have GW2:=n3_;have GE2:=n4_;have NB1_2:=n5_;have NB2_1:=n6_;clear n0_ n1_ n2_ n3_ n4_ n5_ n6_;clear hb hbox hg;have hnb35:=NB1_2.1;have hnc35:=NB2_1.1;have hcz36_0 : w34.cell? ⟨gb1,0,none⟩ = some (.slice A0_0 l0_0.length c0_0):=(blk_cell BK1.1 0).trans rfl;have hfz36_0:=blk_frozen BK1.1 0) | ((with_reducible refine gate_callee (f:=14) rfl ?_);refine goesL_ (some 14) rfl rfl Try.func14 (by kernel_rfl) rfl #[.agg #[.slice A0_0 l0_0.length c0_0],.int .i64 1048576] rfl lm_ ?_;(with_reducible refine (laws_szTree.calls k _ _ l0_0 1048576 t3 _ ?side1 ?side2 A4.1).mono ?_);(case side1=>exact cc_ (Kd.C_below HR0_0.1 HB.1));(case side2=>exact HC0_0.1);rintro e w37 ⟨rfl,hb⟩;refine ⟨_,rfl,?_⟩;have n0_:=a0_ (blk_below (bb_ BK1.1) hb);have n1_:=a0_ (blk_below (bb_ BK2.1) hb);have n2_:=a0_ (below_step hb_ hb);clear BK1 BK2 HB;have BK1:=n0_;have BK2:=n1_;have HB:=n2_;clear n0_ n1_ n2_;(try clear hb);(try clear hb2);(try clear hk);(try clear hi);have hcz38_0 : w37.cell? ⟨gb2,0,none⟩ = some (.slice A1_0 l1_0.length c1_0):=(blk_cell BK2.1 0).trans rfl;have hfz38_0:=blk_frozen BK2.1 0) | ((with_reducible refine gate_callee (f:=15) rfl ?_);refine goesL_ (some 19) rfl rfl Try.func15 (by kernel_rfl) rfl #[.agg #[.slice A1_0 l1_0.length c1_0],.int .i64 t3] rfl lm_ ?_;(with_reducible refine (laws_szHeap.calls _ _ l1_0 t3 t4 _ ?side1 ?side2 A11.1).mono ?_);(case side1=>exact cc_ (Kd.C_below HR1_0.1 HB.1));(case side2=>exact HC1_0.1);rintro e w39 ⟨rfl,hb⟩;refine ⟨_,rfl,?_⟩;have n0_:=a0_ (blk_below (bb_ BK1.1) hb);have n1_:=a0_ (blk_below (bb_ BK2.1) hb);have n2_:=a0_ (below_step hb_ hb);clear BK1 BK2 HB;have BK1:=n0_;have BK2:=n1_;have HB:=n2_;clear n0_ n1_ n2_;(try clear hb);(try clear hb2);(try clear hk);(try clear hi)))
      have n0_:=a0_ (blk_drew BK1.1)
      have n1_:=a0_ (blk_drew BK2.1)
      have n2_:=a0_ (below_drew1 HB.1)
      clear BK1
      clear BK2
      clear HB
      have BK1:=n0_
      have BK2:=n1_
      have HB:=n2_
      clear n0_ n1_ n2_
      refine start_ (n:=7) (S:=fun w'=>w'.cell? ⟨gb1,0,none⟩ = some (.slice A0_0 l0_0.length c0_0) ∧ w'.cell? ⟨gb2,0,none⟩ = some (.slice A1_0 l1_0.length c1_0)) (ds:=[]) #[false,false,false,false,false,false,false] (by kernel_rfl) rfl rfl ⟨(blk_cell BK1.1 0).trans rfl,(blk_cell BK2.1 0).trans rfl⟩ (fun hHeld=>?_)
      generalize w39.drew = w40 at BK1 BK2 HB hHeld ⊢
      refine pure_ (i:=4) (N:=some 26) (v:=?_) (a':=?_) #[false,false,false,false,true,false,false] rfl rfl (by kernel_rfl) (fun _ _ _ h=>h) (Or.inl ⟨by rfl,?_⟩) ?_ ?_
      rotate_left
      ·intro w'
       go_simp
       with_reducible rfl
      rotate_left
      ·simp only [Act.put,s1_,s2_,s3_,i64_w,i32_w]
       rfl
      refine take_ (i:=0) (N:=some 22) (v:=?_) (a':=?_) #[true,false,false,false,true,false,false] rfl rfl (by kernel_rfl) (fun _ _ _ h=>h) (Or.inl ⟨by rfl,?_⟩) hHeld ?_ ?_
      rotate_left
      ·rintro w' ⟨s0,s1⟩
       go_simp
       with_reducible rfl
      rotate_left
      ·simp only [Act.put,s1_,s2_,s3_,i64_w,i32_w]
       rfl
      refine take_ (i:=2) (N:=some 24) (v:=?_) (a':=?_) #[true,false,true,false,true,false,false] rfl rfl (by kernel_rfl) (fun _ _ _ h=>h) (Or.inl ⟨by rfl,?_⟩) hHeld ?_ ?_
      rotate_left
      ·rintro w' ⟨s0,s1⟩
       go_simp
       with_reducible rfl
      rotate_left
      ·simp only [Act.put,s1_,s2_,s3_,i64_w,i32_w]
       rfl
      refine one_ (i:=1) (N:=some 23) #[true,true,true,false,true,false,false] rfl rfl (by kernel_rfl) (by decide) (fun K hK=>?_)
      refine goes_ Try.func17 (by kernel_rfl) rfl #[.agg #[.slice A0_0 l0_0.length c0_0]] (by rfl) rfl rfl lm_ ?_
      with_reducible refine (laws_toTree.calls k _ _ l0_0 t5 _ ?side1 ?side2 A20.1).mono ?_
      (case side1=>exact cc_ (Kd.C_below HR0_0.1 HB.1))
      (case side2=>exact HC0_0.1)
      rintro e w41 ⟨v6,rfl,ho0,hb⟩
      refine ⟨_,rfl,?_⟩
      have n0_:=a0_ (Kd.R_lower ho0 (below_size hb_))
      have n1_:=a0_ (blk_below (bb_ BK1.1) hb)
      have n2_:=a0_ (blk_below (bb_ BK2.1) hb)
      have n3_:=a0_ (below_step hb_ hb)
      clear BK1
      clear BK2
      clear HB
      have HO7:=n0_
      have BK1:=n1_
      have BK2:=n2_
      have HB:=n3_
      clear n0_ n1_ n2_ n3_
      (try clear hb)
      (try clear hb2)
      (try clear hk)
      (try clear hi)
      (try clear ho0)
      refine hK.out _ _ ⟨(blk_cell BK1.1 0).trans rfl,(blk_cell BK2.1 0).trans rfl⟩ (fun hHeld=>?_)
      clear hK K
      refine norm_ (a':=?_) ?_ ?_
      rotate_left
      ·show Act.put _ (some 23) _ = _
       simp only [Act.put,s1_,s2_,s3_,i64_w,i32_w]
       rfl
      refine one_ (i:=3) (N:=some 25) #[true,true,true,true,true,false,false] rfl rfl (by kernel_rfl) (by decide) (fun K hK=>?_)
      refine goes_ Try.func18 (by kernel_rfl) rfl #[.agg #[.slice A1_0 l1_0.length c1_0]] (by rfl) rfl rfl lm_ ?_
      with_reducible refine (laws_toHeap.calls k _ _ l1_0 t8 _ ?side1 ?side2 A21.1).mono ?_
      (case side1=>exact cc_ (Kd.C_below HR1_0.1 HB.1))
      (case side2=>exact HC1_0.1)
      rintro e w42 ⟨v9,rfl,ho0,hb⟩
      refine ⟨_,rfl,?_⟩
      have n0_:=a0_ (Kd.R_below (rr_ HO7.1) hb)
      have n1_:=a0_ (Kd.R_lower ho0 (below_size hb_))
      have n2_:=a0_ (blk_below (bb_ BK1.1) hb)
      have n3_:=a0_ (blk_below (bb_ BK2.1) hb)
      have n4_:=a0_ (below_step hb_ hb)
      clear HO7
      clear BK1
      clear BK2
      clear HB
      have HO7:=n0_
      have HO10:=n1_
      have BK1:=n2_
      have BK2:=n3_
      have HB:=n4_
      clear n0_ n1_ n2_ n3_ n4_
      (try clear hb)
      (try clear hb2)
      (try clear hk)
      (try clear hi)
      (try clear ho0)
      obtain ⟨Ao43,co43,eo43⟩:=Kd.R_slice HO7.1
      (first | subst eo43 | (injection eo43 with f1_ f2_ f3_;have f4_:=f1_.symm;have f5_:=f3_.symm;clear f1_ f2_ f3_;subst f4_;subst f5_))
      obtain ⟨Ao44,co44,eo44⟩:=Kd.R_slice HO10.1
      (first | subst eo44 | (injection eo44 with f1_ f2_ f3_;have f4_:=f1_.symm;have f5_:=f3_.symm;clear f1_ f2_ f3_;subst f4_;subst f5_))
      refine hK.out _ _ ⟨(blk_cell BK1.1 0).trans rfl,(blk_cell BK2.1 0).trans rfl⟩ (fun hHeld=>?_)
      clear hK K
      refine norm_ (a':=?_) ?_ ?_
      rotate_left
      ·show Act.put _ (some 25) _ = _
       simp only [Act.put,s1_,s2_,s3_,i64_w,i32_w]
       rfl
      refine one_ (i:=5) (N:=some 27) #[true,true,true,true,true,true,false] rfl rfl (by kernel_rfl) (by decide) (fun K hK=>?_)
      refine goes_ Try.func24 (by kernel_rfl) rfl #[.agg #[.slice Ao43 t5.length co43],.agg #[.slice Ao44 t8.length co44],.int .i64 a2] (by rfl) rfl rfl lm_ ?_
      with_reducible refine (spec_OldestShown.calls k _ _ t5 _ _ t8 a2 t11 _ ?side1 ?side2 ?side3 ?side4 A22.1).mono ?_
      (case side1=>repeat (first | exact (Kd.R_reads' HO7.1).2.2 | (with_reducible refine Kd.C_alloc ?_ _) | (with_reducible refine Kd.C_drewN ?_ _) | (with_reducible refine Kd.C_drew ?_)))
      (case side2=>exact (Kd.R_reads' HO7.1).2.1)
      (case side3=>repeat (first | exact (Kd.R_reads' HO10.1).2.2 | (with_reducible refine Kd.C_alloc ?_ _) | (with_reducible refine Kd.C_drewN ?_ _) | (with_reducible refine Kd.C_drew ?_)))
      (case side4=>exact (Kd.R_reads' HO10.1).2.1)
      rintro e w45 ⟨rfl,hb⟩
      refine ⟨_,rfl,?_⟩
      have n0_:=a0_ (Kd.R_below (rr_ HO7.1) hb)
      have n1_:=a0_ (Kd.R_below (rr_ HO10.1) hb)
      have n2_:=a0_ (blk_below (bb_ BK1.1) hb)
      have n3_:=a0_ (blk_below (bb_ BK2.1) hb)
      have n4_:=a0_ (below_step hb_ hb)
      clear HO7
      clear HO10
      clear BK1
      clear BK2
      clear HB
      have HO7:=n0_
      have HO10:=n1_
      have BK1:=n2_
      have BK2:=n3_
      have HB:=n4_
      clear n0_ n1_ n2_ n3_ n4_
      (try clear hb)
      (try clear hb2)
      (try clear hk)
      (try clear hi)
      refine hK.out _ _ ⟨(blk_cell BK1.1 0).trans rfl,(blk_cell BK2.1 0).trans rfl⟩ (fun hHeld=>?_)
      clear hK K
      refine norm_ (a':=?_) ?_ ?_
      rotate_left
      ·show Act.put _ (some 27) _ = _
       simp only [Act.put,s1_,s2_,s3_,i64_w,i32_w]
       rfl
      refine pure_ (i:=6) (N:=some 8) (v:=?_) (a':=?_) #[true,true,true,true,true,true,true] rfl rfl (by kernel_rfl) (fun _ _ _ h=>h) (Or.inl ⟨by rfl,?_⟩) ?_ ?_
      rotate_left
      ·intro w'
       go_simp
       with_reducible rfl
      rotate_left
      ·simp only [Act.put,s1_,s2_,s3_,i64_w,i32_w]
       rfl
      refine done_ (by kernel_rfl) ?_
      have hcz46_0 : w45.cell? ⟨gb1,0,none⟩ = some (.slice A0_0 l0_0.length c0_0):=(blk_cell BK1.1 0).trans rfl
      have hfz46_0:=blk_frozen BK1.1 0
      try go_wp2_with (first | ((with_reducible refine gate_callee (f:=17) rfl ?_);refine goesL_ (some 29) rfl rfl Try.func17 (by kernel_rfl) rfl #[.agg #[.slice A0_0 l0_0.length c0_0]] rfl lm_ ?_;(with_reducible refine (laws_toTree.calls k _ _ l0_0 t12 _ ?side1 ?side2 A23.1).mono ?_);(case side1=>exact cc_ (Kd.C_below HR0_0.1 HB.1));(case side2=>exact HC0_0.1);rintro e w47 ⟨v13,rfl,ho0,hb⟩;refine ⟨_,rfl,?_⟩;have n0_:=a0_ (Kd.R_elder' (rr_ HO7.1) (Kd.R_base ho0) hb);have n1_:=a0_ (Kd.R_below (rr_ HO10.1) hb);have n2_:=a0_ (Kd.R_lower (Kd.R_new' ho0 (Kd.R_lt (rr_ HO7.1))) (below_size hb_));have n3_:=a0_ (blk_below (bb_ BK1.1) hb);have n4_:=a0_ (blk_below (bb_ BK2.1) hb);have n5_:=a0_ (below_step hb_ hb);clear HO7 HO10;clear BK1 BK2 HB;have HO7:=n0_;have HO10:=n1_;have HO14:=n2_;have BK1:=n3_;have BK2:=n4_;have HB:=n5_;clear n0_ n1_ n2_ n3_ n4_ n5_;(try clear hb);(try clear hb2);(try clear hk);(try clear hi);(try clear ho0)) | ((with_reducible refine gate_dst (N:=9) rfl ?_);refine box_event ?hg (N:=9) ?hd (cs:=#[.slice none 0 0]) (t:=33) ?hr ?_;(case hd=>rfl);(case hg=>rfl);(case hr=>first | (go_simp;done) | (go_simp;rfl));intro gb15 hg w48 hbox hb;have n0_:=a0_ (Kd.R_below (rr_ HO7.1) hb);have n1_:=a0_ (Kd.R_below (rr_ HO10.1) hb);have n2_:=a0_ (Kd.R_below (rr_ HO14.1) hb);have n3_:=a0_ (blk_below (bb_ BK1.1) hb);have n4_:=a0_ (blk_below (bb_ BK2.1) hb);have n5_:=a0_ (below_step hb_ hb);have n6_:=a0_ (hbox);have n7_:=a0_ ((by rw [hg];exact (below_size hb_) : w.heap.size ≤ gb15));have n8_:=a0_ ((by rw [hg];exact (below_size hb_) : w.heap.size ≤ gb15));have n9_:=a0_ ((by rw [hg];exact Nat.ne_of_lt (blk_lt (bb_ BK1.1)) : gb1 ≠ gb15));have n10_:=a0_ ((by rw [hg];exact Nat.ne_of_gt (blk_lt (bb_ BK1.1)) : gb15 ≠ gb1));have n11_:=a0_ ((by rw [hg];exact Nat.ne_of_lt (blk_lt (bb_ BK2.1)) : gb2 ≠ gb15));have n12_:=a0_ ((by rw [hg];exact Nat.ne_of_gt (blk_lt (bb_ BK2.1)) : gb15 ≠ gb2));clear HO7 HO10;clear HO14 BK1;clear BK2 HB;have HO7:=n0_;have HO10:=n1_;have HO14:=n2_;have BK1:=n3_;have BK2:=n4_;have HB:=n5_;have BK15:=n6_;have GW15:=n7_;have GE15:=n8_;have NB1_15:=n9_;have NB15_1:=n10_;have NB2_15:=n11_;have NB15_2:=n12_;clear n0_ n1_ n2_ n3_ n4_ n5_ n6_ n7_ n8_ n9_ n10_ n11_ n12_;clear hb hbox hg;obtain ⟨Ao49,co49,eo49⟩:=Kd.R_slice HO14.1;subst eo49;have hnb50:=NB15_1.1;have hnc50:=NB1_15.1;have hnb51:=NB15_2.1;have hnc51:=NB2_15.1;have hcz52_0 : w48.cell? ⟨gb15,0,none⟩ = some (.slice none 0 0):=(blk_cell BK15.1 0).trans rfl;have hfz52_0:=blk_frozen BK15.1 0;have hcz53_0 : w48.cell? ⟨gb2,0,none⟩ = some (.slice A1_0 l1_0.length c1_0):=(blk_cell BK2.1 0).trans rfl;have hfz53_0:=blk_frozen BK2.1 0) | ((with_reducible refine gate_callee (f:=18) rfl ?_);refine goesL_ (some 31) rfl rfl Try.func18 (by kernel_rfl) rfl #[.agg #[.slice A1_0 l1_0.length c1_0]] rfl lm_ ?_;(with_reducible refine (laws_toHeap.calls k _ _ l1_0 t16 _ ?side1 ?side2 A24.1).mono ?_);(case side1=>exact Kd.C_below HR1_0.1 hb_);(case side2=>exact HC1_0.1);rintro e w54 ⟨v17,rfl,ho0,hb⟩;refine ⟨_,rfl,?_⟩;have n0_:=a0_ (Kd.R_below (by (with_reducible repeat (first | apply Kd.R_alloc | apply Kd.R_drewN | apply Kd.R_drew));exact (Kd.R_mono (Kd.R_far (p:=⟨gb15,0,none⟩) (Kd.R_types HO7.1 BK15.1 (by decide)) (fun _ hk=>hk.2) (.slice Ao49 t12.length co49)) (fun _ h_=>h_.1))) hb);have n1_:=a0_ (Kd.R_elder' (by (with_reducible repeat (first | apply Kd.R_alloc | apply Kd.R_drewN | apply Kd.R_drew));exact (Kd.R_mono (Kd.R_far (p:=⟨gb15,0,none⟩) (Kd.R_types HO10.1 BK15.1 (by decide)) (fun _ hk=>hk.2) (.slice Ao49 t12.length co49)) (fun _ h_=>h_.1))) (Kd.R_base ho0) hb);have n2_:=a0_ (Kd.R_below (by (with_reducible repeat (first | apply Kd.R_alloc | apply Kd.R_drewN | apply Kd.R_drew));exact (Kd.R_mono (Kd.R_far (p:=⟨gb15,0,none⟩) (Kd.R_types HO14.1 BK15.1 (by decide)) (fun _ hk=>hk.2) (.slice Ao49 t12.length co49)) (fun _ h_=>h_.1))) hb);have n3_:=a0_ (Kd.R_lower (Kd.R_new' ho0 (Kd.R_lt (by (with_reducible repeat (first | apply Kd.R_alloc | apply Kd.R_drewN | apply Kd.R_drew));exact (Kd.R_mono (Kd.R_far (p:=⟨gb15,0,none⟩) (Kd.R_types HO10.1 BK15.1 (by decide)) (fun _ hk=>hk.2) (.slice Ao49 t12.length co49)) (fun _ h_=>h_.1))))) (below_size hb_));have n4_:=a0_ (blk_below (g:=gb1) (o:=.cells #[.slice A0_0 l0_0.length c0_0] 24 (0,0)) (by (with_reducible repeat (first | refine blk_drewN ?_ _ | refine blk_drew ?_ | refine blk_alloc ?_ _));refine blk_far ?_ NB1_15.1 _;(with_reducible repeat (first | refine blk_drewN ?_ _ | refine blk_drew ?_ | refine blk_alloc ?_ _));exact BK1.1) hb);have n5_:=a0_ (blk_below (g:=gb2) (o:=.cells #[.slice A1_0 l1_0.length c1_0] 27 (0,0)) (by (with_reducible repeat (first | refine blk_drewN ?_ _ | refine blk_drew ?_ | refine blk_alloc ?_ _));refine blk_far ?_ NB2_15.1 _;(with_reducible repeat (first | refine blk_drewN ?_ _ | refine blk_drew ?_ | refine blk_alloc ?_ _));exact BK2.1) hb);have n6_:=a0_ (blk_below (g:=gb15) (o:=.cells #[.slice Ao49 t12.length co49] 33 (0,0)) (by (with_reducible repeat (first | refine blk_drewN ?_ _ | refine blk_drew ?_ | refine blk_alloc ?_ _));refine blk_put (cs:=#[.slice none 0 0]) ?_ 0 _ rfl;(with_reducible repeat (first | refine blk_drewN ?_ _ | refine blk_drew ?_ | refine blk_alloc ?_ _));exact BK15.1) hb);have n7_:=a0_ (below_step hb_ hb);clear HO7 HO10;clear HO14 BK1;clear BK2 BK15 HB;have HO7:=n0_;have HO10:=n1_;have HO14:=n2_;have HO18:=n3_;have BK1:=n4_;have BK2:=n5_;have BK15:=n6_;have HB:=n7_;clear n0_ n1_ n2_ n3_ n4_ n5_ n6_ n7_;(try clear hb);(try clear hb2);(try clear hk);(try clear hi);(try clear ho0)) | ((with_reducible refine gate_dst (N:=10) rfl ?_);refine box_event ?hg (N:=10) ?hd (cs:=#[.slice none 0 0]) (t:=37) ?hr ?_;(case hd=>rfl);(case hg=>rfl);(case hr=>first | (go_simp;done) | (go_simp;rfl));intro gb19 hg w55 hbox hb;have n0_:=a0_ (Kd.R_below (rr_ HO7.1) hb);have n1_:=a0_ (Kd.R_below (rr_ HO10.1) hb);have n2_:=a0_ (Kd.R_below (rr_ HO14.1) hb);have n3_:=a0_ (Kd.R_below (rr_ HO18.1) hb);have n4_:=a0_ (blk_below (bb_ BK1.1) hb);have n5_:=a0_ (blk_below (bb_ BK2.1) hb);have n6_:=a0_ (blk_below (bb_ BK15.1) hb);have n7_:=a0_ (below_step hb_ hb);have n8_:=a0_ (hbox);have n9_:=a0_ ((by rw [hg];exact (below_size hb_) : w.heap.size ≤ gb19));have n10_:=a0_ ((by rw [hg];exact (below_size hb_) : w.heap.size ≤ gb19));have n11_:=a0_ ((by rw [hg];exact Nat.ne_of_lt (blk_lt (bb_ BK1.1)) : gb1 ≠ gb19));have n12_:=a0_ ((by rw [hg];exact Nat.ne_of_gt (blk_lt (bb_ BK1.1)) : gb19 ≠ gb1));have n13_:=a0_ ((by rw [hg];exact Nat.ne_of_lt (blk_lt (bb_ BK2.1)) : gb2 ≠ gb19));have n14_:=a0_ ((by rw [hg];exact Nat.ne_of_gt (blk_lt (bb_ BK2.1)) : gb19 ≠ gb2));have n15_:=a0_ ((by rw [hg];exact Nat.ne_of_lt (blk_lt (bb_ BK15.1)) : gb15 ≠ gb19));have n16_:=a0_ ((by rw [hg];exact Nat.ne_of_gt (blk_lt (bb_ BK15.1)) : gb19 ≠ gb15));clear HO7 HO10;clear HO14 HO18;clear BK1 BK2;clear BK15 HB;have HO7:=n0_;have HO10:=n1_;have HO14:=n2_;have HO18:=n3_;have BK1:=n4_;have BK2:=n5_;have BK15:=n6_;have HB:=n7_;have BK19:=n8_;have GW19:=n9_;have GE19:=n10_;have NB1_19:=n11_;have NB19_1:=n12_;have NB2_19:=n13_;have NB19_2:=n14_;have NB15_19:=n15_;have NB19_15:=n16_;clear n0_ n1_ n2_ n3_ n4_ n5_ n6_ n7_ n8_ n9_ n10_ n11_ n12_ n13_ n14_ n15_ n16_;clear hb hbox hg;obtain ⟨Ao56,co56,eo56⟩:=Kd.R_slice HO18.1;subst eo56;have hnb57:=NB19_1.1;have hnc57:=NB1_19.1;have hnb58:=NB19_2.1;have hnc58:=NB2_19.1;have hnb59:=NB19_15.1;have hnc59:=NB15_19.1;have hcz60_0 : w55.cell? ⟨gb19,0,none⟩ = some (.slice none 0 0):=(blk_cell BK19.1 0).trans rfl;have hfz60_0:=blk_frozen BK19.1 0;have hcz61_0 : w55.cell? ⟨gb15,0,none⟩ = some (.slice Ao49 t12.length co49):=(blk_cell BK15.1 0).trans rfl;have hfz61_0:=blk_frozen BK15.1 0) | ((with_reducible refine gate_callee (f:=25) rfl ?_);refine goesL_ (some 35) rfl rfl Try.func25 (by kernel_rfl) rfl #[.agg #[.slice Ao49 t12.length co49],.agg #[.slice Ao56 t16.length co56],.int .i64 a2] rfl lm_ ?_;(with_reducible refine (impl_OldestShown.calls _ _ t12 _ _ t16 a2 t20 _ ?side1 ?side2 ?side3 ?side4 A25.1).mono ?_);(case side1=>refine (Kd.R_reads' (e:=106) (base:=w.heap.size) (ok:=fun k_=>(True ∧ some k_ ≠ (.slice Ao43 t5.length co43 : Value).ownBlock)) (n:=t12.length) (c:=co49) ?_).2.2;exact (by (with_reducible repeat (first | apply Kd.R_alloc | apply Kd.R_drewN | apply Kd.R_drew));exact (Kd.R_mono (Kd.R_far (p:=⟨gb19,0,none⟩) (Kd.R_types HO14.1 BK19.1 (by decide)) (fun _ hk=>hk.2) (.slice Ao56 t16.length co56)) (fun _ h_=>h_.1))));(case side2=>exact (Kd.R_reads' HO14.1).2.1);(case side3=>refine (Kd.R_reads' (e:=79) (base:=w.heap.size) (ok:=fun k_=>(True ∧ some k_ ≠ (.slice Ao44 t8.length co44 : Value).ownBlock)) (n:=t16.length) (c:=co56) ?_).2.2;exact (by (with_reducible repeat (first | apply Kd.R_alloc | apply Kd.R_drewN | apply Kd.R_drew));exact (Kd.R_mono (Kd.R_far (p:=⟨gb19,0,none⟩) (Kd.R_types HO18.1 BK19.1 (by decide)) (fun _ hk=>hk.2) (.slice Ao56 t16.length co56)) (fun _ h_=>h_.1))));(case side4=>exact (Kd.R_reads' HO18.1).2.1);rintro e w62 ⟨rfl,hb⟩;refine ⟨_,rfl,?_⟩;have n0_:=a0_ (Kd.R_below (by (with_reducible repeat (first | apply Kd.R_alloc | apply Kd.R_drewN | apply Kd.R_drew));exact (Kd.R_mono (Kd.R_far (p:=⟨gb19,0,none⟩) (Kd.R_types HO7.1 BK19.1 (by decide)) (fun _ hk=>hk.2) (.slice Ao56 t16.length co56)) (fun _ h_=>h_.1))) hb);have n1_:=a0_ (Kd.R_below (by (with_reducible repeat (first | apply Kd.R_alloc | apply Kd.R_drewN | apply Kd.R_drew));exact (Kd.R_mono (Kd.R_far (p:=⟨gb19,0,none⟩) (Kd.R_types HO10.1 BK19.1 (by decide)) (fun _ hk=>hk.2) (.slice Ao56 t16.length co56)) (fun _ h_=>h_.1))) hb);have n2_:=a0_ (Kd.R_below (by (with_reducible repeat (first | apply Kd.R_alloc | apply Kd.R_drewN | apply Kd.R_drew));exact (Kd.R_mono (Kd.R_far (p:=⟨gb19,0,none⟩) (Kd.R_types HO14.1 BK19.1 (by decide)) (fun _ hk=>hk.2) (.slice Ao56 t16.length co56)) (fun _ h_=>h_.1))) hb);have n3_:=a0_ (Kd.R_below (by (with_reducible repeat (first | apply Kd.R_alloc | apply Kd.R_drewN | apply Kd.R_drew));exact (Kd.R_mono (Kd.R_far (p:=⟨gb19,0,none⟩) (Kd.R_types HO18.1 BK19.1 (by decide)) (fun _ hk=>hk.2) (.slice Ao56 t16.length co56)) (fun _ h_=>h_.1))) hb);have n4_:=a0_ (blk_below (g:=gb1) (o:=.cells #[.slice A0_0 l0_0.length c0_0] 24 (0,0)) (by (with_reducible repeat (first | refine blk_drewN ?_ _ | refine blk_drew ?_ | refine blk_alloc ?_ _));refine blk_far ?_ NB1_19.1 _;(with_reducible repeat (first | refine blk_drewN ?_ _ | refine blk_drew ?_ | refine blk_alloc ?_ _));exact BK1.1) hb);have n5_:=a0_ (blk_below (g:=gb2) (o:=.cells #[.slice A1_0 l1_0.length c1_0] 27 (0,0)) (by (with_reducible repeat (first | refine blk_drewN ?_ _ | refine blk_drew ?_ | refine blk_alloc ?_ _));refine blk_far ?_ NB2_19.1 _;(with_reducible repeat (first | refine blk_drewN ?_ _ | refine blk_drew ?_ | refine blk_alloc ?_ _));exact BK2.1) hb);have n6_:=a0_ (blk_below (g:=gb15) (o:=.cells #[.slice Ao49 t12.length co49] 33 (0,0)) (by (with_reducible repeat (first | refine blk_drewN ?_ _ | refine blk_drew ?_ | refine blk_alloc ?_ _));refine blk_far ?_ NB15_19.1 _;(with_reducible repeat (first | refine blk_drewN ?_ _ | refine blk_drew ?_ | refine blk_alloc ?_ _));exact BK15.1) hb);have n7_:=a0_ (blk_below (g:=gb19) (o:=.cells #[.slice Ao56 t16.length co56] 37 (0,0)) (by (with_reducible repeat (first | refine blk_drewN ?_ _ | refine blk_drew ?_ | refine blk_alloc ?_ _));refine blk_put (cs:=#[.slice none 0 0]) ?_ 0 _ rfl;(with_reducible repeat (first | refine blk_drewN ?_ _ | refine blk_drew ?_ | refine blk_alloc ?_ _));exact BK19.1) hb);have n8_:=a0_ (below_step hb_ hb);clear HO7 HO10;clear HO14 HO18;clear BK1 BK2;clear BK15 BK19 HB;have HO7:=n0_;have HO10:=n1_;have HO14:=n2_;have HO18:=n3_;have BK1:=n4_;have BK2:=n5_;have BK15:=n6_;have BK19:=n7_;have HB:=n8_;clear n0_ n1_ n2_ n3_ n4_ n5_ n6_ n7_ n8_;(try clear hb);(try clear hb2);(try clear hk);(try clear hi)))
      have n0_:=a0_ (Kd.R_drew HO7.1)
      have n1_:=a0_ (Kd.R_drew HO10.1)
      have n2_:=a0_ (Kd.R_drew HO14.1)
      have n3_:=a0_ (Kd.R_drew HO18.1)
      have n4_:=a0_ (blk_drew BK1.1)
      have n5_:=a0_ (blk_drew BK2.1)
      have n6_:=a0_ (blk_drew BK15.1)
      have n7_:=a0_ (blk_drew BK19.1)
      have n8_:=a0_ (below_drew1 HB.1)
      clear HO7
      clear HO10
      clear HO14
      clear HO18
      clear BK1
      clear BK2
      clear BK15
      clear BK19
      clear HB
      have HO7:=n0_
      have HO10:=n1_
      have HO14:=n2_
      have HO18:=n3_
      have BK1:=n4_
      have BK2:=n5_
      have BK15:=n6_
      have BK19:=n7_
      have HB:=n8_
      clear n0_ n1_ n2_ n3_ n4_ n5_ n6_ n7_ n8_
      refine start_ (n:=5) (S:=fun w'=>w'.cell? ⟨gb15,0,none⟩ = some (.slice Ao49 t12.length co49) ∧ w'.cell? ⟨gb1,0,none⟩ = some (.slice A0_0 l0_0.length c0_0)) (ds:=[]) #[false,false,false,false,false] (by kernel_rfl) rfl rfl ⟨(blk_cell BK15.1 0).trans rfl,(blk_cell BK1.1 0).trans rfl⟩ (fun hHeld=>?_)
      generalize w62.drew = w63 at HO7 HO10 HO14 HO18 BK1 BK2 BK15 BK19 HB hHeld ⊢
      refine take_ (i:=0) (N:=some 39) (v:=?_) (a':=?_) #[true,false,false,false,false] rfl rfl (by kernel_rfl) (fun _ _ _ h=>h) (Or.inl ⟨by rfl,?_⟩) hHeld ?_ ?_
      rotate_left
      ·rintro w' ⟨s0,s1⟩
       go_simp
       with_reducible rfl
      rotate_left
      ·simp only [Act.put,s1_,s2_,s3_,i64_w,i32_w]
       rfl
      refine take_ (i:=1) (N:=some 40) (v:=?_) (a':=?_) #[true,true,false,false,false] rfl rfl (by kernel_rfl) (fun _ _ _ h=>h) (Or.inl ⟨by rfl,?_⟩) hHeld ?_ ?_
      rotate_left
      ·rintro w' ⟨s0,s1⟩
       go_simp
       with_reducible rfl
      rotate_left
      ·simp only [Act.put,s1_,s2_,s3_,i64_w,i32_w]
       rfl
      refine one_ (i:=2) (N:=some 41) #[true,true,true,false,false] rfl rfl (by kernel_rfl) (by decide) (fun K hK=>?_)
      refine goes_ Try.func17 (by kernel_rfl) rfl #[.agg #[.slice A0_0 l0_0.length c0_0]] (by rfl) rfl rfl lm_ ?_
      with_reducible refine (laws_toTree.calls k _ _ l0_0 t21 _ ?side1 ?side2 A27.1).mono ?_
      (case side1=>exact cc_ (Kd.C_below HR0_0.1 HB.1))
      (case side2=>exact HC0_0.1)
      rintro e w64 ⟨v22,rfl,ho0,hb⟩
      refine ⟨_,rfl,?_⟩
      have n0_:=a0_ (Kd.R_elder' (rr_ HO7.1) (Kd.R_base ho0) hb)
      have n1_:=a0_ (Kd.R_below (rr_ HO10.1) hb)
      have n2_:=a0_ (Kd.R_elder' (rr_ HO14.1) (Kd.R_base ho0) hb)
      have n3_:=a0_ (Kd.R_below (rr_ HO18.1) hb)
      have n4_:=a0_ (Kd.R_lower (Kd.R_new' (Kd.R_new' ho0 (Kd.R_lt (rr_ HO7.1))) (Kd.R_lt (rr_ HO14.1))) (below_size hb_))
      have n5_:=a0_ (blk_below (bb_ BK1.1) hb)
      have n6_:=a0_ (blk_below (bb_ BK2.1) hb)
      have n7_:=a0_ (blk_below (bb_ BK15.1) hb)
      have n8_:=a0_ (blk_below (bb_ BK19.1) hb)
      have n9_:=a0_ (below_step hb_ hb)
      clear HO7
      clear HO10
      clear HO14
      clear HO18
      clear BK1
      clear BK2
      clear BK15
      clear BK19
      clear HB
      have HO7:=n0_
      have HO10:=n1_
      have HO14:=n2_
      have HO18:=n3_
      have HO23:=n4_
      have BK1:=n5_
      have BK2:=n6_
      have BK15:=n7_
      have BK19:=n8_
      have HB:=n9_
      clear n0_ n1_ n2_ n3_ n4_ n5_ n6_ n7_ n8_ n9_
      (try clear hb)
      (try clear hb2)
      (try clear hk)
      (try clear hi)
      (try clear ho0)
      obtain ⟨Ao65,co65,eo65⟩:=Kd.R_slice HO23.1
      (first | subst eo65 | (injection eo65 with f1_ f2_ f3_;have f4_:=f1_.symm;have f5_:=f3_.symm;clear f1_ f2_ f3_;subst f4_;subst f5_))
      refine hK.out _ _ ⟨(blk_cell BK15.1 0).trans rfl,(blk_cell BK1.1 0).trans rfl⟩ (fun hHeld=>?_)
      clear hK K
      refine norm_ (a':=?_) ?_ ?_
      rotate_left
      ·show Act.put _ (some 41) _ = _
       simp only [Act.put,s1_,s2_,s3_,i64_w,i32_w]
       rfl
      refine one_ (i:=3) (N:=some 42) #[true,true,true,true,false] rfl rfl (by kernel_rfl) (by decide) (fun K hK=>?_)
      refine goes_ Try.func20 (by kernel_rfl) rfl #[.agg #[.slice Ao49 t12.length co49],.agg #[.slice Ao65 t21.length co65]] (by rfl) rfl rfl lm_ ?_
      with_reducible refine (laws_eqTree.calls k _ _ t12 _ _ t21 true _ ?side1 ?side2 ?side3 ?side4 A28.1).mono ?_
      (case side1=>repeat (first | exact (Kd.R_reads' HO14.1).2.2 | (with_reducible refine Kd.C_alloc ?_ _) | (with_reducible refine Kd.C_drewN ?_ _) | (with_reducible refine Kd.C_drew ?_)))
      (case side2=>exact (Kd.R_reads' HO14.1).2.1)
      (case side3=>repeat (first | exact (Kd.R_reads' HO23.1).2.2 | (with_reducible refine Kd.C_alloc ?_ _) | (with_reducible refine Kd.C_drewN ?_ _) | (with_reducible refine Kd.C_drew ?_)))
      (case side4=>exact (Kd.R_reads' HO23.1).2.1)
      rintro e w66 ⟨rfl,hb⟩
      refine ⟨_,rfl,?_⟩
      have n0_:=a0_ (Kd.R_below (rr_ HO7.1) hb)
      have n1_:=a0_ (Kd.R_below (rr_ HO10.1) hb)
      have n2_:=a0_ (Kd.R_below (rr_ HO14.1) hb)
      have n3_:=a0_ (Kd.R_below (rr_ HO18.1) hb)
      have n4_:=a0_ (Kd.R_below (rr_ HO23.1) hb)
      have n5_:=a0_ (blk_below (bb_ BK1.1) hb)
      have n6_:=a0_ (blk_below (bb_ BK2.1) hb)
      have n7_:=a0_ (blk_below (bb_ BK15.1) hb)
      have n8_:=a0_ (blk_below (bb_ BK19.1) hb)
      have n9_:=a0_ (below_step hb_ hb)
      clear HO7
      clear HO10
      clear HO14
      clear HO18
      clear HO23
      clear BK1
      clear BK2
      clear BK15
      clear BK19
      clear HB
      have HO7:=n0_
      have HO10:=n1_
      have HO14:=n2_
      have HO18:=n3_
      have HO23:=n4_
      have BK1:=n5_
      have BK2:=n6_
      have BK15:=n7_
      have BK19:=n8_
      have HB:=n9_
      clear n0_ n1_ n2_ n3_ n4_ n5_ n6_ n7_ n8_ n9_
      (try clear hb)
      (try clear hb2)
      (try clear hk)
      (try clear hi)
      refine hK.out _ _ ⟨(blk_cell BK15.1 0).trans rfl,(blk_cell BK1.1 0).trans rfl⟩ (fun hHeld=>?_)
      clear hK K
      refine norm_ (a':=?_) ?_ ?_
      rotate_left
      ·show Act.put _ (some 42) _ = _
       simp only [Act.put,s1_,s2_,s3_,i64_w,i32_w]
       rfl
      refine pure_ (i:=4) (N:=some 43) (v:=?_) (a':=?_) #[true,true,true,true,true] rfl rfl (by kernel_rfl) (fun _ _ _ h=>h) (Or.inl ⟨by rfl,?_⟩) ?_ ?_
      rotate_left
      ·intro w'
       go_simp
       with_reducible rfl
      rotate_left
      ·simp only [Act.put,s1_,s2_,s3_,i64_w,i32_w]
       rfl
      refine done_ (by kernel_rfl) ?_
      try go_wp2
      have n0_:=a0_ (Kd.R_drew HO7.1)
      have n1_:=a0_ (Kd.R_drew HO10.1)
      have n2_:=a0_ (Kd.R_drew HO14.1)
      have n3_:=a0_ (Kd.R_drew HO18.1)
      have n4_:=a0_ (Kd.R_drew HO23.1)
      have n5_:=a0_ (blk_drew BK1.1)
      have n6_:=a0_ (blk_drew BK2.1)
      have n7_:=a0_ (blk_drew BK15.1)
      have n8_:=a0_ (blk_drew BK19.1)
      have n9_:=a0_ (below_drew1 HB.1)
      clear HO7
      clear HO10
      clear HO14
      clear HO18
      clear HO23
      clear BK1
      clear BK2
      clear BK15
      clear BK19
      clear HB
      have HO7:=n0_
      have HO10:=n1_
      have HO14:=n2_
      have HO18:=n3_
      have HO23:=n4_
      have BK1:=n5_
      have BK2:=n6_
      have BK15:=n7_
      have BK19:=n8_
      have HB:=n9_
      clear n0_ n1_ n2_ n3_ n4_ n5_ n6_ n7_ n8_ n9_
      refine start_ (n:=5) (S:=fun w'=>w'.cell? ⟨gb19,0,none⟩ = some (.slice Ao56 t16.length co56) ∧ w'.cell? ⟨gb2,0,none⟩ = some (.slice A1_0 l1_0.length c1_0)) (ds:=[]) #[false,false,false,false,false] (by kernel_rfl) rfl rfl ⟨(blk_cell BK19.1 0).trans rfl,(blk_cell BK2.1 0).trans rfl⟩ (fun hHeld=>?_)
      generalize w66.drew = w67 at HO7 HO10 HO14 HO18 HO23 BK1 BK2 BK15 BK19 HB hHeld ⊢
      refine take_ (i:=0) (N:=some 44) (v:=?_) (a':=?_) #[true,false,false,false,false] rfl rfl (by kernel_rfl) (fun _ _ _ h=>h) (Or.inl ⟨by rfl,?_⟩) hHeld ?_ ?_
      rotate_left
      ·rintro w' ⟨s0,s1⟩
       go_simp
       with_reducible rfl
      rotate_left
      ·simp only [Act.put,s1_,s2_,s3_,i64_w,i32_w]
       rfl
      refine take_ (i:=1) (N:=some 45) (v:=?_) (a':=?_) #[true,true,false,false,false] rfl rfl (by kernel_rfl) (fun _ _ _ h=>h) (Or.inl ⟨by rfl,?_⟩) hHeld ?_ ?_
      rotate_left
      ·rintro w' ⟨s0,s1⟩
       go_simp
       with_reducible rfl
      rotate_left
      ·simp only [Act.put,s1_,s2_,s3_,i64_w,i32_w]
       rfl
      refine one_ (i:=2) (N:=some 46) #[true,true,true,false,false] rfl rfl (by kernel_rfl) (by decide) (fun K hK=>?_)
      refine goes_ Try.func18 (by kernel_rfl) rfl #[.agg #[.slice A1_0 l1_0.length c1_0]] (by rfl) rfl rfl lm_ ?_
      with_reducible refine (laws_toHeap.calls k _ _ l1_0 t25 _ ?side1 ?side2 A30.1).mono ?_
      (case side1=>exact cc_ (Kd.C_below HR1_0.1 HB.1))
      (case side2=>exact HC1_0.1)
      rintro e w68 ⟨v26,rfl,ho0,hb⟩
      refine ⟨_,rfl,?_⟩
      have n0_:=a0_ (Kd.R_below (rr_ HO7.1) hb)
      have n1_:=a0_ (Kd.R_elder' (rr_ HO10.1) (Kd.R_base ho0) hb)
      have n2_:=a0_ (Kd.R_below (rr_ HO14.1) hb)
      have n3_:=a0_ (Kd.R_elder' (rr_ HO18.1) (Kd.R_base ho0) hb)
      have n4_:=a0_ (Kd.R_below (rr_ HO23.1) hb)
      have n5_:=a0_ (Kd.R_lower (Kd.R_new' (Kd.R_new' ho0 (Kd.R_lt (rr_ HO10.1))) (Kd.R_lt (rr_ HO18.1))) (below_size hb_))
      have n6_:=a0_ (blk_below (bb_ BK1.1) hb)
      have n7_:=a0_ (blk_below (bb_ BK2.1) hb)
      have n8_:=a0_ (blk_below (bb_ BK15.1) hb)
      have n9_:=a0_ (blk_below (bb_ BK19.1) hb)
      have n10_:=a0_ (below_step hb_ hb)
      clear HO7
      clear HO10
      clear HO14
      clear HO18
      clear HO23
      clear BK1
      clear BK2
      clear BK15
      clear BK19
      clear HB
      have HO7:=n0_
      have HO10:=n1_
      have HO14:=n2_
      have HO18:=n3_
      have HO23:=n4_
      have HO27:=n5_
      have BK1:=n6_
      have BK2:=n7_
      have BK15:=n8_
      have BK19:=n9_
      have HB:=n10_
      clear n0_ n1_ n2_ n3_ n4_ n5_ n6_ n7_ n8_ n9_ n10_
      (try clear hb)
      (try clear hb2)
      (try clear hk)
      (try clear hi)
      (try clear ho0)
      obtain ⟨Ao69,co69,eo69⟩:=Kd.R_slice HO27.1
      (first | subst eo69 | (injection eo69 with f1_ f2_ f3_;have f4_:=f1_.symm;have f5_:=f3_.symm;clear f1_ f2_ f3_;subst f4_;subst f5_))
      refine hK.out _ _ ⟨(blk_cell BK19.1 0).trans rfl,(blk_cell BK2.1 0).trans rfl⟩ (fun hHeld=>?_)
      clear hK K
      refine norm_ (a':=?_) ?_ ?_
      rotate_left
      ·show Act.put _ (some 46) _ = _
       simp only [Act.put,s1_,s2_,s3_,i64_w,i32_w]
       rfl
      refine one_ (i:=3) (N:=some 47) #[true,true,true,true,false] rfl rfl (by kernel_rfl) (by decide) (fun K hK=>?_)
      refine goes_ Try.func21 (by kernel_rfl) rfl #[.agg #[.slice Ao56 t16.length co56],.agg #[.slice Ao69 t25.length co69]] (by rfl) rfl rfl lm_ ?_
      with_reducible refine (laws_eqHeap.calls k _ _ t16 _ _ t25 true _ ?side1 ?side2 ?side3 ?side4 A31.1).mono ?_
      (case side1=>repeat (first | exact (Kd.R_reads' HO18.1).2.2 | (with_reducible refine Kd.C_alloc ?_ _) | (with_reducible refine Kd.C_drewN ?_ _) | (with_reducible refine Kd.C_drew ?_)))
      (case side2=>exact (Kd.R_reads' HO18.1).2.1)
      (case side3=>repeat (first | exact (Kd.R_reads' HO27.1).2.2 | (with_reducible refine Kd.C_alloc ?_ _) | (with_reducible refine Kd.C_drewN ?_ _) | (with_reducible refine Kd.C_drew ?_)))
      (case side4=>exact (Kd.R_reads' HO27.1).2.1)
      rintro e w70 ⟨rfl,hb⟩
      refine ⟨_,rfl,?_⟩
      have n0_:=a0_ (Kd.R_below (rr_ HO7.1) hb)
      have n1_:=a0_ (Kd.R_below (rr_ HO10.1) hb)
      have n2_:=a0_ (Kd.R_below (rr_ HO14.1) hb)
      have n3_:=a0_ (Kd.R_below (rr_ HO18.1) hb)
      have n4_:=a0_ (Kd.R_below (rr_ HO23.1) hb)
      have n5_:=a0_ (Kd.R_below (rr_ HO27.1) hb)
      have n6_:=a0_ (blk_below (bb_ BK1.1) hb)
      have n7_:=a0_ (blk_below (bb_ BK2.1) hb)
      have n8_:=a0_ (blk_below (bb_ BK15.1) hb)
      have n9_:=a0_ (blk_below (bb_ BK19.1) hb)
      have n10_:=a0_ (below_step hb_ hb)
      clear HO7
      clear HO10
      clear HO14
      clear HO18
      clear HO23
      clear HO27
      clear BK1
      clear BK2
      clear BK15
      clear BK19
      clear HB
      have HO7:=n0_
      have HO10:=n1_
      have HO14:=n2_
      have HO18:=n3_
      have HO23:=n4_
      have HO27:=n5_
      have BK1:=n6_
      have BK2:=n7_
      have BK15:=n8_
      have BK19:=n9_
      have HB:=n10_
      clear n0_ n1_ n2_ n3_ n4_ n5_ n6_ n7_ n8_ n9_ n10_
      (try clear hb)
      (try clear hb2)
      (try clear hk)
      (try clear hi)
      refine hK.out _ _ ⟨(blk_cell BK19.1 0).trans rfl,(blk_cell BK2.1 0).trans rfl⟩ (fun hHeld=>?_)
      clear hK K
      refine norm_ (a':=?_) ?_ ?_
      rotate_left
      ·show Act.put _ (some 47) _ = _
       simp only [Act.put,s1_,s2_,s3_,i64_w,i32_w]
       rfl
      refine pure_ (i:=4) (N:=some 48) (v:=?_) (a':=?_) #[true,true,true,true,true] rfl rfl (by kernel_rfl) (fun _ _ _ h=>h) (Or.inl ⟨by rfl,?_⟩) ?_ ?_
      rotate_left
      ·intro w'
       go_simp
       with_reducible rfl
      rotate_left
      ·simp only [Act.put,s1_,s2_,s3_,i64_w,i32_w]
       rfl
      refine done_ (by kernel_rfl) ?_
      try go_wp2
      go_ret
      exact ⟨by first | rfl | (simp [errW_none,errW_some] <;> rfl) | (simp [*,errW_none,errW_some] <;> rfl),hb_⟩
     ·replace c32:=Bool.eq_false_iff.mpr c32
      subst c32
      have H1 : (some false) = some r:=by rw [if_neg (show ¬ (false = true) by decide)] at H;exact H
      clear H
      have H:=H1
      clear H1
      obtain rfl:=Option.some.inj H
      go_enter Try.func5,Try.ntmps5
      try go_wp2_with (first | ((with_reducible refine gate_dst (N:=3) rfl ?_);refine box_event ?hg (N:=3) ?hd (cs:=#[.slice A0_0 l0_0.length c0_0]) (t:=24) ?hr ?_;(case hd=>rfl);(case hg=>rfl);(case hr=>first | (go_simp;done) | (go_simp;rfl));intro gb1 hg w71 hbox hb;have n0_:=a0_ (below_step hb_ hb);have n1_:=a0_ (hbox);have n2_:=a0_ ((by rw [hg];exact (below_size hb_) : w.heap.size ≤ gb1));have n3_:=a0_ ((by rw [hg];exact (below_size hb_) : w.heap.size ≤ gb1));clear HB;have HB:=n0_;have BK1:=n1_;have GW1:=n2_;have GE1:=n3_;clear n0_ n1_ n2_ n3_;clear hb hbox hg) | ((with_reducible refine gate_dst (N:=4) rfl ?_);refine box_event ?hg (N:=4) ?hd (cs:=#[.slice A1_0 l1_0.length c1_0]) (t:=27) ?hr ?_;(case hd=>rfl);(case hg=>rfl);(case hr=>first | (go_simp;done) | (go_simp;rfl));intro gb2 hg w72 hbox hb;have n0_:=a0_ (blk_below (bb_ BK1.1) hb);have n1_:=a0_ (below_step hb_ hb);have n2_:=a0_ (hbox);have n3_:=a0_ ((by rw [hg];exact (below_size hb_) : w.heap.size ≤ gb2));have n4_:=a0_ ((by rw [hg];exact (below_size hb_) : w.heap.size ≤ gb2));have n5_:=a0_ ((by rw [hg];exact Nat.ne_of_lt (blk_lt (bb_ BK1.1)) : gb1 ≠ gb2));have n6_:=a0_ ((by rw [hg];exact Nat.ne_of_gt (blk_lt (bb_ BK1.1)) : gb2 ≠ gb1));clear BK1 HB;have BK1:=n0_;have HB:=n1_;have BK2:=n2_;have GW2:=n3_;have GE2:=n4_;have NB1_2:=n5_;have NB2_1:=n6_;clear n0_ n1_ n2_ n3_ n4_ n5_ n6_;clear hb hbox hg;have hnb73:=NB1_2.1;have hnc73:=NB2_1.1;have hcz74_0 : w72.cell? ⟨gb1,0,none⟩ = some (.slice A0_0 l0_0.length c0_0):=(blk_cell BK1.1 0).trans rfl;have hfz74_0:=blk_frozen BK1.1 0) | ((with_reducible refine gate_callee (f:=14) rfl ?_);refine goesL_ (some 14) rfl rfl Try.func14 (by kernel_rfl) rfl #[.agg #[.slice A0_0 l0_0.length c0_0],.int .i64 1048576] rfl lm_ ?_;(with_reducible refine (laws_szTree.calls k _ _ l0_0 1048576 t3 _ ?side1 ?side2 A4.1).mono ?_);(case side1=>exact cc_ (Kd.C_below HR0_0.1 HB.1));(case side2=>exact HC0_0.1);rintro e w75 ⟨rfl,hb⟩;refine ⟨_,rfl,?_⟩;have n0_:=a0_ (blk_below (bb_ BK1.1) hb);have n1_:=a0_ (blk_below (bb_ BK2.1) hb);have n2_:=a0_ (below_step hb_ hb);clear BK1 BK2 HB;have BK1:=n0_;have BK2:=n1_;have HB:=n2_;clear n0_ n1_ n2_;(try clear hb);(try clear hb2);(try clear hk);(try clear hi);have hcz76_0 : w75.cell? ⟨gb2,0,none⟩ = some (.slice A1_0 l1_0.length c1_0):=(blk_cell BK2.1 0).trans rfl;have hfz76_0:=blk_frozen BK2.1 0) | ((with_reducible refine gate_callee (f:=15) rfl ?_);refine goesL_ (some 19) rfl rfl Try.func15 (by kernel_rfl) rfl #[.agg #[.slice A1_0 l1_0.length c1_0],.int .i64 t3] rfl lm_ ?_;(with_reducible refine (laws_szHeap.calls _ _ l1_0 t3 t4 _ ?side1 ?side2 A11.1).mono ?_);(case side1=>exact cc_ (Kd.C_below HR1_0.1 HB.1));(case side2=>exact HC1_0.1);rintro e w77 ⟨rfl,hb⟩;refine ⟨_,rfl,?_⟩;have n0_:=a0_ (blk_below (bb_ BK1.1) hb);have n1_:=a0_ (blk_below (bb_ BK2.1) hb);have n2_:=a0_ (below_step hb_ hb);clear BK1 BK2 HB;have BK1:=n0_;have BK2:=n1_;have HB:=n2_;clear n0_ n1_ n2_;(try clear hb);(try clear hb2);(try clear hk);(try clear hi)))
      have n0_:=a0_ (blk_drew BK1.1)
      have n1_:=a0_ (blk_drew BK2.1)
      have n2_:=a0_ (below_drew1 HB.1)
      clear BK1
      clear BK2
      clear HB
      have BK1:=n0_
      have BK2:=n1_
      have HB:=n2_
      clear n0_ n1_ n2_
      refine start_ (n:=7) (S:=fun w'=>w'.cell? ⟨gb1,0,none⟩ = some (.slice A0_0 l0_0.length c0_0) ∧ w'.cell? ⟨gb2,0,none⟩ = some (.slice A1_0 l1_0.length c1_0)) (ds:=[]) #[false,false,false,false,false,false,false] (by kernel_rfl) rfl rfl ⟨(blk_cell BK1.1 0).trans rfl,(blk_cell BK2.1 0).trans rfl⟩ (fun hHeld=>?_)
      generalize w77.drew = w78 at BK1 BK2 HB hHeld ⊢
      refine pure_ (i:=4) (N:=some 26) (v:=?_) (a':=?_) #[false,false,false,false,true,false,false] rfl rfl (by kernel_rfl) (fun _ _ _ h=>h) (Or.inl ⟨by rfl,?_⟩) ?_ ?_
      rotate_left
      ·intro w'
       go_simp
       with_reducible rfl
      rotate_left
      ·simp only [Act.put,s1_,s2_,s3_,i64_w,i32_w]
       rfl
      refine take_ (i:=0) (N:=some 22) (v:=?_) (a':=?_) #[true,false,false,false,true,false,false] rfl rfl (by kernel_rfl) (fun _ _ _ h=>h) (Or.inl ⟨by rfl,?_⟩) hHeld ?_ ?_
      rotate_left
      ·rintro w' ⟨s0,s1⟩
       go_simp
       with_reducible rfl
      rotate_left
      ·simp only [Act.put,s1_,s2_,s3_,i64_w,i32_w]
       rfl
      refine take_ (i:=2) (N:=some 24) (v:=?_) (a':=?_) #[true,false,true,false,true,false,false] rfl rfl (by kernel_rfl) (fun _ _ _ h=>h) (Or.inl ⟨by rfl,?_⟩) hHeld ?_ ?_
      rotate_left
      ·rintro w' ⟨s0,s1⟩
       go_simp
       with_reducible rfl
      rotate_left
      ·simp only [Act.put,s1_,s2_,s3_,i64_w,i32_w]
       rfl
      refine one_ (i:=1) (N:=some 23) #[true,true,true,false,true,false,false] rfl rfl (by kernel_rfl) (by decide) (fun K hK=>?_)
      refine goes_ Try.func17 (by kernel_rfl) rfl #[.agg #[.slice A0_0 l0_0.length c0_0]] (by rfl) rfl rfl lm_ ?_
      with_reducible refine (laws_toTree.calls k _ _ l0_0 t5 _ ?side1 ?side2 A20.1).mono ?_
      (case side1=>exact cc_ (Kd.C_below HR0_0.1 HB.1))
      (case side2=>exact HC0_0.1)
      rintro e w79 ⟨v6,rfl,ho0,hb⟩
      refine ⟨_,rfl,?_⟩
      have n0_:=a0_ (Kd.R_lower ho0 (below_size hb_))
      have n1_:=a0_ (blk_below (bb_ BK1.1) hb)
      have n2_:=a0_ (blk_below (bb_ BK2.1) hb)
      have n3_:=a0_ (below_step hb_ hb)
      clear BK1
      clear BK2
      clear HB
      have HO7:=n0_
      have BK1:=n1_
      have BK2:=n2_
      have HB:=n3_
      clear n0_ n1_ n2_ n3_
      (try clear hb)
      (try clear hb2)
      (try clear hk)
      (try clear hi)
      (try clear ho0)
      refine hK.out _ _ ⟨(blk_cell BK1.1 0).trans rfl,(blk_cell BK2.1 0).trans rfl⟩ (fun hHeld=>?_)
      clear hK K
      refine norm_ (a':=?_) ?_ ?_
      rotate_left
      ·show Act.put _ (some 23) _ = _
       simp only [Act.put,s1_,s2_,s3_,i64_w,i32_w]
       rfl
      refine one_ (i:=3) (N:=some 25) #[true,true,true,true,true,false,false] rfl rfl (by kernel_rfl) (by decide) (fun K hK=>?_)
      refine goes_ Try.func18 (by kernel_rfl) rfl #[.agg #[.slice A1_0 l1_0.length c1_0]] (by rfl) rfl rfl lm_ ?_
      with_reducible refine (laws_toHeap.calls k _ _ l1_0 t8 _ ?side1 ?side2 A21.1).mono ?_
      (case side1=>exact cc_ (Kd.C_below HR1_0.1 HB.1))
      (case side2=>exact HC1_0.1)
      rintro e w80 ⟨v9,rfl,ho0,hb⟩
      refine ⟨_,rfl,?_⟩
      have n0_:=a0_ (Kd.R_below (rr_ HO7.1) hb)
      have n1_:=a0_ (Kd.R_lower ho0 (below_size hb_))
      have n2_:=a0_ (blk_below (bb_ BK1.1) hb)
      have n3_:=a0_ (blk_below (bb_ BK2.1) hb)
      have n4_:=a0_ (below_step hb_ hb)
      clear HO7
      clear BK1
      clear BK2
      clear HB
      have HO7:=n0_
      have HO10:=n1_
      have BK1:=n2_
      have BK2:=n3_
      have HB:=n4_
      clear n0_ n1_ n2_ n3_ n4_
      (try clear hb)
      (try clear hb2)
      (try clear hk)
      (try clear hi)
      (try clear ho0)
      obtain ⟨Ao81,co81,eo81⟩:=Kd.R_slice HO7.1
      (first | subst eo81 | (injection eo81 with f1_ f2_ f3_;have f4_:=f1_.symm;have f5_:=f3_.symm;clear f1_ f2_ f3_;subst f4_;subst f5_))
      obtain ⟨Ao82,co82,eo82⟩:=Kd.R_slice HO10.1
      (first | subst eo82 | (injection eo82 with f1_ f2_ f3_;have f4_:=f1_.symm;have f5_:=f3_.symm;clear f1_ f2_ f3_;subst f4_;subst f5_))
      refine hK.out _ _ ⟨(blk_cell BK1.1 0).trans rfl,(blk_cell BK2.1 0).trans rfl⟩ (fun hHeld=>?_)
      clear hK K
      refine norm_ (a':=?_) ?_ ?_
      rotate_left
      ·show Act.put _ (some 25) _ = _
       simp only [Act.put,s1_,s2_,s3_,i64_w,i32_w]
       rfl
      refine one_ (i:=5) (N:=some 27) #[true,true,true,true,true,true,false] rfl rfl (by kernel_rfl) (by decide) (fun K hK=>?_)
      refine goes_ Try.func24 (by kernel_rfl) rfl #[.agg #[.slice Ao81 t5.length co81],.agg #[.slice Ao82 t8.length co82],.int .i64 a2] (by rfl) rfl rfl lm_ ?_
      with_reducible refine (spec_OldestShown.calls k _ _ t5 _ _ t8 a2 t11 _ ?side1 ?side2 ?side3 ?side4 A22.1).mono ?_
      (case side1=>repeat (first | exact (Kd.R_reads' HO7.1).2.2 | (with_reducible refine Kd.C_alloc ?_ _) | (with_reducible refine Kd.C_drewN ?_ _) | (with_reducible refine Kd.C_drew ?_)))
      (case side2=>exact (Kd.R_reads' HO7.1).2.1)
      (case side3=>repeat (first | exact (Kd.R_reads' HO10.1).2.2 | (with_reducible refine Kd.C_alloc ?_ _) | (with_reducible refine Kd.C_drewN ?_ _) | (with_reducible refine Kd.C_drew ?_)))
      (case side4=>exact (Kd.R_reads' HO10.1).2.1)
      rintro e w83 ⟨rfl,hb⟩
      refine ⟨_,rfl,?_⟩
      have n0_:=a0_ (Kd.R_below (rr_ HO7.1) hb)
      have n1_:=a0_ (Kd.R_below (rr_ HO10.1) hb)
      have n2_:=a0_ (blk_below (bb_ BK1.1) hb)
      have n3_:=a0_ (blk_below (bb_ BK2.1) hb)
      have n4_:=a0_ (below_step hb_ hb)
      clear HO7
      clear HO10
      clear BK1
      clear BK2
      clear HB
      have HO7:=n0_
      have HO10:=n1_
      have BK1:=n2_
      have BK2:=n3_
      have HB:=n4_
      clear n0_ n1_ n2_ n3_ n4_
      (try clear hb)
      (try clear hb2)
      (try clear hk)
      (try clear hi)
      refine hK.out _ _ ⟨(blk_cell BK1.1 0).trans rfl,(blk_cell BK2.1 0).trans rfl⟩ (fun hHeld=>?_)
      clear hK K
      refine norm_ (a':=?_) ?_ ?_
      rotate_left
      ·show Act.put _ (some 27) _ = _
       simp only [Act.put,s1_,s2_,s3_,i64_w,i32_w]
       rfl
      refine pure_ (i:=6) (N:=some 8) (v:=?_) (a':=?_) #[true,true,true,true,true,true,true] rfl rfl (by kernel_rfl) (fun _ _ _ h=>h) (Or.inl ⟨by rfl,?_⟩) ?_ ?_
      rotate_left
      ·intro w'
       go_simp
       with_reducible rfl
      rotate_left
      ·simp only [Act.put,s1_,s2_,s3_,i64_w,i32_w]
       rfl
      refine done_ (by kernel_rfl) ?_
      have hcz84_0 : w83.cell? ⟨gb1,0,none⟩ = some (.slice A0_0 l0_0.length c0_0):=(blk_cell BK1.1 0).trans rfl
      have hfz84_0:=blk_frozen BK1.1 0
      try go_wp2_with (first | ((with_reducible refine gate_callee (f:=17) rfl ?_);refine goesL_ (some 29) rfl rfl Try.func17 (by kernel_rfl) rfl #[.agg #[.slice A0_0 l0_0.length c0_0]] rfl lm_ ?_;(with_reducible refine (laws_toTree.calls k _ _ l0_0 t12 _ ?side1 ?side2 A23.1).mono ?_);(case side1=>exact cc_ (Kd.C_below HR0_0.1 HB.1));(case side2=>exact HC0_0.1);rintro e w85 ⟨v13,rfl,ho0,hb⟩;refine ⟨_,rfl,?_⟩;have n0_:=a0_ (Kd.R_elder' (rr_ HO7.1) (Kd.R_base ho0) hb);have n1_:=a0_ (Kd.R_below (rr_ HO10.1) hb);have n2_:=a0_ (Kd.R_lower (Kd.R_new' ho0 (Kd.R_lt (rr_ HO7.1))) (below_size hb_));have n3_:=a0_ (blk_below (bb_ BK1.1) hb);have n4_:=a0_ (blk_below (bb_ BK2.1) hb);have n5_:=a0_ (below_step hb_ hb);clear HO7 HO10;clear BK1 BK2 HB;have HO7:=n0_;have HO10:=n1_;have HO14:=n2_;have BK1:=n3_;have BK2:=n4_;have HB:=n5_;clear n0_ n1_ n2_ n3_ n4_ n5_;(try clear hb);(try clear hb2);(try clear hk);(try clear hi);(try clear ho0)) | ((with_reducible refine gate_dst (N:=9) rfl ?_);refine box_event ?hg (N:=9) ?hd (cs:=#[.slice none 0 0]) (t:=33) ?hr ?_;(case hd=>rfl);(case hg=>rfl);(case hr=>first | (go_simp;done) | (go_simp;rfl));intro gb15 hg w86 hbox hb;have n0_:=a0_ (Kd.R_below (rr_ HO7.1) hb);have n1_:=a0_ (Kd.R_below (rr_ HO10.1) hb);have n2_:=a0_ (Kd.R_below (rr_ HO14.1) hb);have n3_:=a0_ (blk_below (bb_ BK1.1) hb);have n4_:=a0_ (blk_below (bb_ BK2.1) hb);have n5_:=a0_ (below_step hb_ hb);have n6_:=a0_ (hbox);have n7_:=a0_ ((by rw [hg];exact (below_size hb_) : w.heap.size ≤ gb15));have n8_:=a0_ ((by rw [hg];exact (below_size hb_) : w.heap.size ≤ gb15));have n9_:=a0_ ((by rw [hg];exact Nat.ne_of_lt (blk_lt (bb_ BK1.1)) : gb1 ≠ gb15));have n10_:=a0_ ((by rw [hg];exact Nat.ne_of_gt (blk_lt (bb_ BK1.1)) : gb15 ≠ gb1));have n11_:=a0_ ((by rw [hg];exact Nat.ne_of_lt (blk_lt (bb_ BK2.1)) : gb2 ≠ gb15));have n12_:=a0_ ((by rw [hg];exact Nat.ne_of_gt (blk_lt (bb_ BK2.1)) : gb15 ≠ gb2));clear HO7 HO10;clear HO14 BK1;clear BK2 HB;have HO7:=n0_;have HO10:=n1_;have HO14:=n2_;have BK1:=n3_;have BK2:=n4_;have HB:=n5_;have BK15:=n6_;have GW15:=n7_;have GE15:=n8_;have NB1_15:=n9_;have NB15_1:=n10_;have NB2_15:=n11_;have NB15_2:=n12_;clear n0_ n1_ n2_ n3_ n4_ n5_ n6_ n7_ n8_ n9_ n10_ n11_ n12_;clear hb hbox hg;obtain ⟨Ao87,co87,eo87⟩:=Kd.R_slice HO14.1;subst eo87;have hnb88:=NB15_1.1;have hnc88:=NB1_15.1;have hnb89:=NB15_2.1;have hnc89:=NB2_15.1;have hcz90_0 : w86.cell? ⟨gb15,0,none⟩ = some (.slice none 0 0):=(blk_cell BK15.1 0).trans rfl;have hfz90_0:=blk_frozen BK15.1 0;have hcz91_0 : w86.cell? ⟨gb2,0,none⟩ = some (.slice A1_0 l1_0.length c1_0):=(blk_cell BK2.1 0).trans rfl;have hfz91_0:=blk_frozen BK2.1 0) | ((with_reducible refine gate_callee (f:=18) rfl ?_);refine goesL_ (some 31) rfl rfl Try.func18 (by kernel_rfl) rfl #[.agg #[.slice A1_0 l1_0.length c1_0]] rfl lm_ ?_;(with_reducible refine (laws_toHeap.calls k _ _ l1_0 t16 _ ?side1 ?side2 A24.1).mono ?_);(case side1=>exact Kd.C_below HR1_0.1 hb_);(case side2=>exact HC1_0.1);rintro e w92 ⟨v17,rfl,ho0,hb⟩;refine ⟨_,rfl,?_⟩;have n0_:=a0_ (Kd.R_below (by (with_reducible repeat (first | apply Kd.R_alloc | apply Kd.R_drewN | apply Kd.R_drew));exact (Kd.R_mono (Kd.R_far (p:=⟨gb15,0,none⟩) (Kd.R_types HO7.1 BK15.1 (by decide)) (fun _ hk=>hk.2) (.slice Ao87 t12.length co87)) (fun _ h_=>h_.1))) hb);have n1_:=a0_ (Kd.R_elder' (by (with_reducible repeat (first | apply Kd.R_alloc | apply Kd.R_drewN | apply Kd.R_drew));exact (Kd.R_mono (Kd.R_far (p:=⟨gb15,0,none⟩) (Kd.R_types HO10.1 BK15.1 (by decide)) (fun _ hk=>hk.2) (.slice Ao87 t12.length co87)) (fun _ h_=>h_.1))) (Kd.R_base ho0) hb);have n2_:=a0_ (Kd.R_below (by (with_reducible repeat (first | apply Kd.R_alloc | apply Kd.R_drewN | apply Kd.R_drew));exact (Kd.R_mono (Kd.R_far (p:=⟨gb15,0,none⟩) (Kd.R_types HO14.1 BK15.1 (by decide)) (fun _ hk=>hk.2) (.slice Ao87 t12.length co87)) (fun _ h_=>h_.1))) hb);have n3_:=a0_ (Kd.R_lower (Kd.R_new' ho0 (Kd.R_lt (by (with_reducible repeat (first | apply Kd.R_alloc | apply Kd.R_drewN | apply Kd.R_drew));exact (Kd.R_mono (Kd.R_far (p:=⟨gb15,0,none⟩) (Kd.R_types HO10.1 BK15.1 (by decide)) (fun _ hk=>hk.2) (.slice Ao87 t12.length co87)) (fun _ h_=>h_.1))))) (below_size hb_));have n4_:=a0_ (blk_below (g:=gb1) (o:=.cells #[.slice A0_0 l0_0.length c0_0] 24 (0,0)) (by (with_reducible repeat (first | refine blk_drewN ?_ _ | refine blk_drew ?_ | refine blk_alloc ?_ _));refine blk_far ?_ NB1_15.1 _;(with_reducible repeat (first | refine blk_drewN ?_ _ | refine blk_drew ?_ | refine blk_alloc ?_ _));exact BK1.1) hb);have n5_:=a0_ (blk_below (g:=gb2) (o:=.cells #[.slice A1_0 l1_0.length c1_0] 27 (0,0)) (by (with_reducible repeat (first | refine blk_drewN ?_ _ | refine blk_drew ?_ | refine blk_alloc ?_ _));refine blk_far ?_ NB2_15.1 _;(with_reducible repeat (first | refine blk_drewN ?_ _ | refine blk_drew ?_ | refine blk_alloc ?_ _));exact BK2.1) hb);have n6_:=a0_ (blk_below (g:=gb15) (o:=.cells #[.slice Ao87 t12.length co87] 33 (0,0)) (by (with_reducible repeat (first | refine blk_drewN ?_ _ | refine blk_drew ?_ | refine blk_alloc ?_ _));refine blk_put (cs:=#[.slice none 0 0]) ?_ 0 _ rfl;(with_reducible repeat (first | refine blk_drewN ?_ _ | refine blk_drew ?_ | refine blk_alloc ?_ _));exact BK15.1) hb);have n7_:=a0_ (below_step hb_ hb);clear HO7 HO10;clear HO14 BK1;clear BK2 BK15 HB;have HO7:=n0_;have HO10:=n1_;have HO14:=n2_;have HO18:=n3_;have BK1:=n4_;have BK2:=n5_;have BK15:=n6_;have HB:=n7_;clear n0_ n1_ n2_ n3_ n4_ n5_ n6_ n7_;(try clear hb);(try clear hb2);(try clear hk);(try clear hi);(try clear ho0)) | ((with_reducible refine gate_dst (N:=10) rfl ?_);refine box_event ?hg (N:=10) ?hd (cs:=#[.slice none 0 0]) (t:=37) ?hr ?_;(case hd=>rfl);(case hg=>rfl);(case hr=>first | (go_simp;done) | (go_simp;rfl));intro gb19 hg w93 hbox hb;have n0_:=a0_ (Kd.R_below (rr_ HO7.1) hb);have n1_:=a0_ (Kd.R_below (rr_ HO10.1) hb);have n2_:=a0_ (Kd.R_below (rr_ HO14.1) hb);have n3_:=a0_ (Kd.R_below (rr_ HO18.1) hb);have n4_:=a0_ (blk_below (bb_ BK1.1) hb);have n5_:=a0_ (blk_below (bb_ BK2.1) hb);have n6_:=a0_ (blk_below (bb_ BK15.1) hb);have n7_:=a0_ (below_step hb_ hb);have n8_:=a0_ (hbox);have n9_:=a0_ ((by rw [hg];exact (below_size hb_) : w.heap.size ≤ gb19));have n10_:=a0_ ((by rw [hg];exact (below_size hb_) : w.heap.size ≤ gb19));have n11_:=a0_ ((by rw [hg];exact Nat.ne_of_lt (blk_lt (bb_ BK1.1)) : gb1 ≠ gb19));have n12_:=a0_ ((by rw [hg];exact Nat.ne_of_gt (blk_lt (bb_ BK1.1)) : gb19 ≠ gb1));have n13_:=a0_ ((by rw [hg];exact Nat.ne_of_lt (blk_lt (bb_ BK2.1)) : gb2 ≠ gb19));have n14_:=a0_ ((by rw [hg];exact Nat.ne_of_gt (blk_lt (bb_ BK2.1)) : gb19 ≠ gb2));have n15_:=a0_ ((by rw [hg];exact Nat.ne_of_lt (blk_lt (bb_ BK15.1)) : gb15 ≠ gb19));have n16_:=a0_ ((by rw [hg];exact Nat.ne_of_gt (blk_lt (bb_ BK15.1)) : gb19 ≠ gb15));clear HO7 HO10;clear HO14 HO18;clear BK1 BK2;clear BK15 HB;have HO7:=n0_;have HO10:=n1_;have HO14:=n2_;have HO18:=n3_;have BK1:=n4_;have BK2:=n5_;have BK15:=n6_;have HB:=n7_;have BK19:=n8_;have GW19:=n9_;have GE19:=n10_;have NB1_19:=n11_;have NB19_1:=n12_;have NB2_19:=n13_;have NB19_2:=n14_;have NB15_19:=n15_;have NB19_15:=n16_;clear n0_ n1_ n2_ n3_ n4_ n5_ n6_ n7_ n8_ n9_ n10_ n11_ n12_ n13_ n14_ n15_ n16_;clear hb hbox hg;obtain ⟨Ao94,co94,eo94⟩:=Kd.R_slice HO18.1;subst eo94;have hnb95:=NB19_1.1;have hnc95:=NB1_19.1;have hnb96:=NB19_2.1;have hnc96:=NB2_19.1;have hnb97:=NB19_15.1;have hnc97:=NB15_19.1;have hcz98_0 : w93.cell? ⟨gb19,0,none⟩ = some (.slice none 0 0):=(blk_cell BK19.1 0).trans rfl;have hfz98_0:=blk_frozen BK19.1 0;have hcz99_0 : w93.cell? ⟨gb15,0,none⟩ = some (.slice Ao87 t12.length co87):=(blk_cell BK15.1 0).trans rfl;have hfz99_0:=blk_frozen BK15.1 0) | ((with_reducible refine gate_callee (f:=25) rfl ?_);refine goesL_ (some 35) rfl rfl Try.func25 (by kernel_rfl) rfl #[.agg #[.slice Ao87 t12.length co87],.agg #[.slice Ao94 t16.length co94],.int .i64 a2] rfl lm_ ?_;(with_reducible refine (impl_OldestShown.calls _ _ t12 _ _ t16 a2 t20 _ ?side1 ?side2 ?side3 ?side4 A25.1).mono ?_);(case side1=>refine (Kd.R_reads' (e:=106) (base:=w.heap.size) (ok:=fun k_=>(True ∧ some k_ ≠ (.slice Ao81 t5.length co81 : Value).ownBlock)) (n:=t12.length) (c:=co87) ?_).2.2;exact (by (with_reducible repeat (first | apply Kd.R_alloc | apply Kd.R_drewN | apply Kd.R_drew));exact (Kd.R_mono (Kd.R_far (p:=⟨gb19,0,none⟩) (Kd.R_types HO14.1 BK19.1 (by decide)) (fun _ hk=>hk.2) (.slice Ao94 t16.length co94)) (fun _ h_=>h_.1))));(case side2=>exact (Kd.R_reads' HO14.1).2.1);(case side3=>refine (Kd.R_reads' (e:=79) (base:=w.heap.size) (ok:=fun k_=>(True ∧ some k_ ≠ (.slice Ao82 t8.length co82 : Value).ownBlock)) (n:=t16.length) (c:=co94) ?_).2.2;exact (by (with_reducible repeat (first | apply Kd.R_alloc | apply Kd.R_drewN | apply Kd.R_drew));exact (Kd.R_mono (Kd.R_far (p:=⟨gb19,0,none⟩) (Kd.R_types HO18.1 BK19.1 (by decide)) (fun _ hk=>hk.2) (.slice Ao94 t16.length co94)) (fun _ h_=>h_.1))));(case side4=>exact (Kd.R_reads' HO18.1).2.1);rintro e w100 ⟨rfl,hb⟩;refine ⟨_,rfl,?_⟩;have n0_:=a0_ (Kd.R_below (by (with_reducible repeat (first | apply Kd.R_alloc | apply Kd.R_drewN | apply Kd.R_drew));exact (Kd.R_mono (Kd.R_far (p:=⟨gb19,0,none⟩) (Kd.R_types HO7.1 BK19.1 (by decide)) (fun _ hk=>hk.2) (.slice Ao94 t16.length co94)) (fun _ h_=>h_.1))) hb);have n1_:=a0_ (Kd.R_below (by (with_reducible repeat (first | apply Kd.R_alloc | apply Kd.R_drewN | apply Kd.R_drew));exact (Kd.R_mono (Kd.R_far (p:=⟨gb19,0,none⟩) (Kd.R_types HO10.1 BK19.1 (by decide)) (fun _ hk=>hk.2) (.slice Ao94 t16.length co94)) (fun _ h_=>h_.1))) hb);have n2_:=a0_ (Kd.R_below (by (with_reducible repeat (first | apply Kd.R_alloc | apply Kd.R_drewN | apply Kd.R_drew));exact (Kd.R_mono (Kd.R_far (p:=⟨gb19,0,none⟩) (Kd.R_types HO14.1 BK19.1 (by decide)) (fun _ hk=>hk.2) (.slice Ao94 t16.length co94)) (fun _ h_=>h_.1))) hb);have n3_:=a0_ (Kd.R_below (by (with_reducible repeat (first | apply Kd.R_alloc | apply Kd.R_drewN | apply Kd.R_drew));exact (Kd.R_mono (Kd.R_far (p:=⟨gb19,0,none⟩) (Kd.R_types HO18.1 BK19.1 (by decide)) (fun _ hk=>hk.2) (.slice Ao94 t16.length co94)) (fun _ h_=>h_.1))) hb);have n4_:=a0_ (blk_below (g:=gb1) (o:=.cells #[.slice A0_0 l0_0.length c0_0] 24 (0,0)) (by (with_reducible repeat (first | refine blk_drewN ?_ _ | refine blk_drew ?_ | refine blk_alloc ?_ _));refine blk_far ?_ NB1_19.1 _;(with_reducible repeat (first | refine blk_drewN ?_ _ | refine blk_drew ?_ | refine blk_alloc ?_ _));exact BK1.1) hb);have n5_:=a0_ (blk_below (g:=gb2) (o:=.cells #[.slice A1_0 l1_0.length c1_0] 27 (0,0)) (by (with_reducible repeat (first | refine blk_drewN ?_ _ | refine blk_drew ?_ | refine blk_alloc ?_ _));refine blk_far ?_ NB2_19.1 _;(with_reducible repeat (first | refine blk_drewN ?_ _ | refine blk_drew ?_ | refine blk_alloc ?_ _));exact BK2.1) hb);have n6_:=a0_ (blk_below (g:=gb15) (o:=.cells #[.slice Ao87 t12.length co87] 33 (0,0)) (by (with_reducible repeat (first | refine blk_drewN ?_ _ | refine blk_drew ?_ | refine blk_alloc ?_ _));refine blk_far ?_ NB15_19.1 _;(with_reducible repeat (first | refine blk_drewN ?_ _ | refine blk_drew ?_ | refine blk_alloc ?_ _));exact BK15.1) hb);have n7_:=a0_ (blk_below (g:=gb19) (o:=.cells #[.slice Ao94 t16.length co94] 37 (0,0)) (by (with_reducible repeat (first | refine blk_drewN ?_ _ | refine blk_drew ?_ | refine blk_alloc ?_ _));refine blk_put (cs:=#[.slice none 0 0]) ?_ 0 _ rfl;(with_reducible repeat (first | refine blk_drewN ?_ _ | refine blk_drew ?_ | refine blk_alloc ?_ _));exact BK19.1) hb);have n8_:=a0_ (below_step hb_ hb);clear HO7 HO10;clear HO14 HO18;clear BK1 BK2;clear BK15 BK19 HB;have HO7:=n0_;have HO10:=n1_;have HO14:=n2_;have HO18:=n3_;have BK1:=n4_;have BK2:=n5_;have BK15:=n6_;have BK19:=n7_;have HB:=n8_;clear n0_ n1_ n2_ n3_ n4_ n5_ n6_ n7_ n8_;(try clear hb);(try clear hb2);(try clear hk);(try clear hi)))
      have n0_:=a0_ (Kd.R_drew HO7.1)
      have n1_:=a0_ (Kd.R_drew HO10.1)
      have n2_:=a0_ (Kd.R_drew HO14.1)
      have n3_:=a0_ (Kd.R_drew HO18.1)
      have n4_:=a0_ (blk_drew BK1.1)
      have n5_:=a0_ (blk_drew BK2.1)
      have n6_:=a0_ (blk_drew BK15.1)
      have n7_:=a0_ (blk_drew BK19.1)
      have n8_:=a0_ (below_drew1 HB.1)
      clear HO7
      clear HO10
      clear HO14
      clear HO18
      clear BK1
      clear BK2
      clear BK15
      clear BK19
      clear HB
      have HO7:=n0_
      have HO10:=n1_
      have HO14:=n2_
      have HO18:=n3_
      have BK1:=n4_
      have BK2:=n5_
      have BK15:=n6_
      have BK19:=n7_
      have HB:=n8_
      clear n0_ n1_ n2_ n3_ n4_ n5_ n6_ n7_ n8_
      refine start_ (n:=5) (S:=fun w'=>w'.cell? ⟨gb15,0,none⟩ = some (.slice Ao87 t12.length co87) ∧ w'.cell? ⟨gb1,0,none⟩ = some (.slice A0_0 l0_0.length c0_0)) (ds:=[]) #[false,false,false,false,false] (by kernel_rfl) rfl rfl ⟨(blk_cell BK15.1 0).trans rfl,(blk_cell BK1.1 0).trans rfl⟩ (fun hHeld=>?_)
      generalize w100.drew = w101 at HO7 HO10 HO14 HO18 BK1 BK2 BK15 BK19 HB hHeld ⊢
      refine take_ (i:=0) (N:=some 39) (v:=?_) (a':=?_) #[true,false,false,false,false] rfl rfl (by kernel_rfl) (fun _ _ _ h=>h) (Or.inl ⟨by rfl,?_⟩) hHeld ?_ ?_
      rotate_left
      ·rintro w' ⟨s0,s1⟩
       go_simp
       with_reducible rfl
      rotate_left
      ·simp only [Act.put,s1_,s2_,s3_,i64_w,i32_w]
       rfl
      refine take_ (i:=1) (N:=some 40) (v:=?_) (a':=?_) #[true,true,false,false,false] rfl rfl (by kernel_rfl) (fun _ _ _ h=>h) (Or.inl ⟨by rfl,?_⟩) hHeld ?_ ?_
      rotate_left
      ·rintro w' ⟨s0,s1⟩
       go_simp
       with_reducible rfl
      rotate_left
      ·simp only [Act.put,s1_,s2_,s3_,i64_w,i32_w]
       rfl
      refine one_ (i:=2) (N:=some 41) #[true,true,true,false,false] rfl rfl (by kernel_rfl) (by decide) (fun K hK=>?_)
      refine goes_ Try.func17 (by kernel_rfl) rfl #[.agg #[.slice A0_0 l0_0.length c0_0]] (by rfl) rfl rfl lm_ ?_
      with_reducible refine (laws_toTree.calls k _ _ l0_0 t21 _ ?side1 ?side2 A27.1).mono ?_
      (case side1=>exact cc_ (Kd.C_below HR0_0.1 HB.1))
      (case side2=>exact HC0_0.1)
      rintro e w102 ⟨v22,rfl,ho0,hb⟩
      refine ⟨_,rfl,?_⟩
      have n0_:=a0_ (Kd.R_elder' (rr_ HO7.1) (Kd.R_base ho0) hb)
      have n1_:=a0_ (Kd.R_below (rr_ HO10.1) hb)
      have n2_:=a0_ (Kd.R_elder' (rr_ HO14.1) (Kd.R_base ho0) hb)
      have n3_:=a0_ (Kd.R_below (rr_ HO18.1) hb)
      have n4_:=a0_ (Kd.R_lower (Kd.R_new' (Kd.R_new' ho0 (Kd.R_lt (rr_ HO7.1))) (Kd.R_lt (rr_ HO14.1))) (below_size hb_))
      have n5_:=a0_ (blk_below (bb_ BK1.1) hb)
      have n6_:=a0_ (blk_below (bb_ BK2.1) hb)
      have n7_:=a0_ (blk_below (bb_ BK15.1) hb)
      have n8_:=a0_ (blk_below (bb_ BK19.1) hb)
      have n9_:=a0_ (below_step hb_ hb)
      clear HO7
      clear HO10
      clear HO14
      clear HO18
      clear BK1
      clear BK2
      clear BK15
      clear BK19
      clear HB
      have HO7:=n0_
      have HO10:=n1_
      have HO14:=n2_
      have HO18:=n3_
      have HO23:=n4_
      have BK1:=n5_
      have BK2:=n6_
      have BK15:=n7_
      have BK19:=n8_
      have HB:=n9_
      clear n0_ n1_ n2_ n3_ n4_ n5_ n6_ n7_ n8_ n9_
      (try clear hb)
      (try clear hb2)
      (try clear hk)
      (try clear hi)
      (try clear ho0)
      obtain ⟨Ao103,co103,eo103⟩:=Kd.R_slice HO23.1
      (first | subst eo103 | (injection eo103 with f1_ f2_ f3_;have f4_:=f1_.symm;have f5_:=f3_.symm;clear f1_ f2_ f3_;subst f4_;subst f5_))
      refine hK.out _ _ ⟨(blk_cell BK15.1 0).trans rfl,(blk_cell BK1.1 0).trans rfl⟩ (fun hHeld=>?_)
      clear hK K
      refine norm_ (a':=?_) ?_ ?_
      rotate_left
      ·show Act.put _ (some 41) _ = _
       simp only [Act.put,s1_,s2_,s3_,i64_w,i32_w]
       rfl
      refine one_ (i:=3) (N:=some 42) #[true,true,true,true,false] rfl rfl (by kernel_rfl) (by decide) (fun K hK=>?_)
      refine goes_ Try.func20 (by kernel_rfl) rfl #[.agg #[.slice Ao87 t12.length co87],.agg #[.slice Ao103 t21.length co103]] (by rfl) rfl rfl lm_ ?_
      with_reducible refine (laws_eqTree.calls k _ _ t12 _ _ t21 true _ ?side1 ?side2 ?side3 ?side4 A28.1).mono ?_
      (case side1=>repeat (first | exact (Kd.R_reads' HO14.1).2.2 | (with_reducible refine Kd.C_alloc ?_ _) | (with_reducible refine Kd.C_drewN ?_ _) | (with_reducible refine Kd.C_drew ?_)))
      (case side2=>exact (Kd.R_reads' HO14.1).2.1)
      (case side3=>repeat (first | exact (Kd.R_reads' HO23.1).2.2 | (with_reducible refine Kd.C_alloc ?_ _) | (with_reducible refine Kd.C_drewN ?_ _) | (with_reducible refine Kd.C_drew ?_)))
      (case side4=>exact (Kd.R_reads' HO23.1).2.1)
      rintro e w104 ⟨rfl,hb⟩
      refine ⟨_,rfl,?_⟩
      have n0_:=a0_ (Kd.R_below (rr_ HO7.1) hb)
      have n1_:=a0_ (Kd.R_below (rr_ HO10.1) hb)
      have n2_:=a0_ (Kd.R_below (rr_ HO14.1) hb)
      have n3_:=a0_ (Kd.R_below (rr_ HO18.1) hb)
      have n4_:=a0_ (Kd.R_below (rr_ HO23.1) hb)
      have n5_:=a0_ (blk_below (bb_ BK1.1) hb)
      have n6_:=a0_ (blk_below (bb_ BK2.1) hb)
      have n7_:=a0_ (blk_below (bb_ BK15.1) hb)
      have n8_:=a0_ (blk_below (bb_ BK19.1) hb)
      have n9_:=a0_ (below_step hb_ hb)
      clear HO7
      clear HO10
      clear HO14
      clear HO18
      clear HO23
      clear BK1
      clear BK2
      clear BK15
      clear BK19
      clear HB
      have HO7:=n0_
      have HO10:=n1_
      have HO14:=n2_
      have HO18:=n3_
      have HO23:=n4_
      have BK1:=n5_
      have BK2:=n6_
      have BK15:=n7_
      have BK19:=n8_
      have HB:=n9_
      clear n0_ n1_ n2_ n3_ n4_ n5_ n6_ n7_ n8_ n9_
      (try clear hb)
      (try clear hb2)
      (try clear hk)
      (try clear hi)
      refine hK.out _ _ ⟨(blk_cell BK15.1 0).trans rfl,(blk_cell BK1.1 0).trans rfl⟩ (fun hHeld=>?_)
      clear hK K
      refine norm_ (a':=?_) ?_ ?_
      rotate_left
      ·show Act.put _ (some 42) _ = _
       simp only [Act.put,s1_,s2_,s3_,i64_w,i32_w]
       rfl
      refine pure_ (i:=4) (N:=some 43) (v:=?_) (a':=?_) #[true,true,true,true,true] rfl rfl (by kernel_rfl) (fun _ _ _ h=>h) (Or.inl ⟨by rfl,?_⟩) ?_ ?_
      rotate_left
      ·intro w'
       go_simp
       with_reducible rfl
      rotate_left
      ·simp only [Act.put,s1_,s2_,s3_,i64_w,i32_w]
       rfl
      refine done_ (by kernel_rfl) ?_
      try go_wp2
      have n0_:=a0_ (Kd.R_drew HO7.1)
      have n1_:=a0_ (Kd.R_drew HO10.1)
      have n2_:=a0_ (Kd.R_drew HO14.1)
      have n3_:=a0_ (Kd.R_drew HO18.1)
      have n4_:=a0_ (Kd.R_drew HO23.1)
      have n5_:=a0_ (blk_drew BK1.1)
      have n6_:=a0_ (blk_drew BK2.1)
      have n7_:=a0_ (blk_drew BK15.1)
      have n8_:=a0_ (blk_drew BK19.1)
      have n9_:=a0_ (below_drew1 HB.1)
      clear HO7
      clear HO10
      clear HO14
      clear HO18
      clear HO23
      clear BK1
      clear BK2
      clear BK15
      clear BK19
      clear HB
      have HO7:=n0_
      have HO10:=n1_
      have HO14:=n2_
      have HO18:=n3_
      have HO23:=n4_
      have BK1:=n5_
      have BK2:=n6_
      have BK15:=n7_
      have BK19:=n8_
      have HB:=n9_
      clear n0_ n1_ n2_ n3_ n4_ n5_ n6_ n7_ n8_ n9_
      refine start_ (n:=5) (S:=fun w'=>w'.cell? ⟨gb19,0,none⟩ = some (.slice Ao94 t16.length co94) ∧ w'.cell? ⟨gb2,0,none⟩ = some (.slice A1_0 l1_0.length c1_0)) (ds:=[]) #[false,false,false,false,false] (by kernel_rfl) rfl rfl ⟨(blk_cell BK19.1 0).trans rfl,(blk_cell BK2.1 0).trans rfl⟩ (fun hHeld=>?_)
      generalize w104.drew = w105 at HO7 HO10 HO14 HO18 HO23 BK1 BK2 BK15 BK19 HB hHeld ⊢
      refine take_ (i:=0) (N:=some 44) (v:=?_) (a':=?_) #[true,false,false,false,false] rfl rfl (by kernel_rfl) (fun _ _ _ h=>h) (Or.inl ⟨by rfl,?_⟩) hHeld ?_ ?_
      rotate_left
      ·rintro w' ⟨s0,s1⟩
       go_simp
       with_reducible rfl
      rotate_left
      ·simp only [Act.put,s1_,s2_,s3_,i64_w,i32_w]
       rfl
      refine take_ (i:=1) (N:=some 45) (v:=?_) (a':=?_) #[true,true,false,false,false] rfl rfl (by kernel_rfl) (fun _ _ _ h=>h) (Or.inl ⟨by rfl,?_⟩) hHeld ?_ ?_
      rotate_left
      ·rintro w' ⟨s0,s1⟩
       go_simp
       with_reducible rfl
      rotate_left
      ·simp only [Act.put,s1_,s2_,s3_,i64_w,i32_w]
       rfl
      refine one_ (i:=2) (N:=some 46) #[true,true,true,false,false] rfl rfl (by kernel_rfl) (by decide) (fun K hK=>?_)
      refine goes_ Try.func18 (by kernel_rfl) rfl #[.agg #[.slice A1_0 l1_0.length c1_0]] (by rfl) rfl rfl lm_ ?_
      with_reducible refine (laws_toHeap.calls k _ _ l1_0 t25 _ ?side1 ?side2 A30.1).mono ?_
      (case side1=>exact cc_ (Kd.C_below HR1_0.1 HB.1))
      (case side2=>exact HC1_0.1)
      rintro e w106 ⟨v26,rfl,ho0,hb⟩
      refine ⟨_,rfl,?_⟩
      have n0_:=a0_ (Kd.R_below (rr_ HO7.1) hb)
      have n1_:=a0_ (Kd.R_elder' (rr_ HO10.1) (Kd.R_base ho0) hb)
      have n2_:=a0_ (Kd.R_below (rr_ HO14.1) hb)
      have n3_:=a0_ (Kd.R_elder' (rr_ HO18.1) (Kd.R_base ho0) hb)
      have n4_:=a0_ (Kd.R_below (rr_ HO23.1) hb)
      have n5_:=a0_ (Kd.R_lower (Kd.R_new' (Kd.R_new' ho0 (Kd.R_lt (rr_ HO10.1))) (Kd.R_lt (rr_ HO18.1))) (below_size hb_))
      have n6_:=a0_ (blk_below (bb_ BK1.1) hb)
      have n7_:=a0_ (blk_below (bb_ BK2.1) hb)
      have n8_:=a0_ (blk_below (bb_ BK15.1) hb)
      have n9_:=a0_ (blk_below (bb_ BK19.1) hb)
      have n10_:=a0_ (below_step hb_ hb)
      clear HO7
      clear HO10
      clear HO14
      clear HO18
      clear HO23
      clear BK1
      clear BK2
      clear BK15
      clear BK19
      clear HB
      have HO7:=n0_
      have HO10:=n1_
      have HO14:=n2_
      have HO18:=n3_
      have HO23:=n4_
      have HO27:=n5_
      have BK1:=n6_
      have BK2:=n7_
      have BK15:=n8_
      have BK19:=n9_
      have HB:=n10_
      clear n0_ n1_ n2_ n3_ n4_ n5_ n6_ n7_ n8_ n9_ n10_
      (try clear hb)
      (try clear hb2)
      (try clear hk)
      (try clear hi)
      (try clear ho0)
      obtain ⟨Ao107,co107,eo107⟩:=Kd.R_slice HO27.1
      (first | subst eo107 | (injection eo107 with f1_ f2_ f3_;have f4_:=f1_.symm;have f5_:=f3_.symm;clear f1_ f2_ f3_;subst f4_;subst f5_))
      refine hK.out _ _ ⟨(blk_cell BK19.1 0).trans rfl,(blk_cell BK2.1 0).trans rfl⟩ (fun hHeld=>?_)
      clear hK K
      refine norm_ (a':=?_) ?_ ?_
      rotate_left
      ·show Act.put _ (some 46) _ = _
       simp only [Act.put,s1_,s2_,s3_,i64_w,i32_w]
       rfl
      refine one_ (i:=3) (N:=some 47) #[true,true,true,true,false] rfl rfl (by kernel_rfl) (by decide) (fun K hK=>?_)
      refine goes_ Try.func21 (by kernel_rfl) rfl #[.agg #[.slice Ao94 t16.length co94],.agg #[.slice Ao107 t25.length co107]] (by rfl) rfl rfl lm_ ?_
      with_reducible refine (laws_eqHeap.calls k _ _ t16 _ _ t25 false _ ?side1 ?side2 ?side3 ?side4 A31.1).mono ?_
      (case side1=>repeat (first | exact (Kd.R_reads' HO18.1).2.2 | (with_reducible refine Kd.C_alloc ?_ _) | (with_reducible refine Kd.C_drewN ?_ _) | (with_reducible refine Kd.C_drew ?_)))
      (case side2=>exact (Kd.R_reads' HO18.1).2.1)
      (case side3=>repeat (first | exact (Kd.R_reads' HO27.1).2.2 | (with_reducible refine Kd.C_alloc ?_ _) | (with_reducible refine Kd.C_drewN ?_ _) | (with_reducible refine Kd.C_drew ?_)))
      (case side4=>exact (Kd.R_reads' HO27.1).2.1)
      rintro e w108 ⟨rfl,hb⟩
      refine ⟨_,rfl,?_⟩
      have n0_:=a0_ (Kd.R_below (rr_ HO7.1) hb)
      have n1_:=a0_ (Kd.R_below (rr_ HO10.1) hb)
      have n2_:=a0_ (Kd.R_below (rr_ HO14.1) hb)
      have n3_:=a0_ (Kd.R_below (rr_ HO18.1) hb)
      have n4_:=a0_ (Kd.R_below (rr_ HO23.1) hb)
      have n5_:=a0_ (Kd.R_below (rr_ HO27.1) hb)
      have n6_:=a0_ (blk_below (bb_ BK1.1) hb)
      have n7_:=a0_ (blk_below (bb_ BK2.1) hb)
      have n8_:=a0_ (blk_below (bb_ BK15.1) hb)
      have n9_:=a0_ (blk_below (bb_ BK19.1) hb)
      have n10_:=a0_ (below_step hb_ hb)
      clear HO7
      clear HO10
      clear HO14
      clear HO18
      clear HO23
      clear HO27
      clear BK1
      clear BK2
      clear BK15
      clear BK19
      clear HB
      have HO7:=n0_
      have HO10:=n1_
      have HO14:=n2_
      have HO18:=n3_
      have HO23:=n4_
      have HO27:=n5_
      have BK1:=n6_
      have BK2:=n7_
      have BK15:=n8_
      have BK19:=n9_
      have HB:=n10_
      clear n0_ n1_ n2_ n3_ n4_ n5_ n6_ n7_ n8_ n9_ n10_
      (try clear hb)
      (try clear hb2)
      (try clear hk)
      (try clear hi)
      refine hK.out _ _ ⟨(blk_cell BK19.1 0).trans rfl,(blk_cell BK2.1 0).trans rfl⟩ (fun hHeld=>?_)
      clear hK K
      refine norm_ (a':=?_) ?_ ?_
      rotate_left
      ·show Act.put _ (some 47) _ = _
       simp only [Act.put,s1_,s2_,s3_,i64_w,i32_w]
       rfl
      refine pure_ (i:=4) (N:=some 48) (v:=?_) (a':=?_) #[true,true,true,true,true] rfl rfl (by kernel_rfl) (fun _ _ _ h=>h) (Or.inl ⟨by rfl,?_⟩) ?_ ?_
      rotate_left
      ·intro w'
       go_simp
       with_reducible rfl
      rotate_left
      ·simp only [Act.put,s1_,s2_,s3_,i64_w,i32_w]
       rfl
      refine done_ (by kernel_rfl) ?_
      try go_wp2
      go_ret
      exact ⟨by first | rfl | (simp [errW_none,errW_some] <;> rfl) | (simp [*,errW_none,errW_some] <;> rfl),hb_⟩
    ·replace c29:=Bool.eq_false_iff.mpr c29
     subst c29
     have H1 : (some false) = some r:=by rw [if_neg (show ¬ (false = true) by decide)] at H;exact H
     clear H
     have H:=H1
     clear H1
     obtain rfl:=Option.some.inj H
     go_enter Try.func5,Try.ntmps5
     try go_wp2_with (first | ((with_reducible refine gate_dst (N:=3) rfl ?_);refine box_event ?hg (N:=3) ?hd (cs:=#[.slice A0_0 l0_0.length c0_0]) (t:=24) ?hr ?_;(case hd=>rfl);(case hg=>rfl);(case hr=>first | (go_simp;done) | (go_simp;rfl));intro gb1 hg w109 hbox hb;have n0_:=a0_ (below_step hb_ hb);have n1_:=a0_ (hbox);have n2_:=a0_ ((by rw [hg];exact (below_size hb_) : w.heap.size ≤ gb1));have n3_:=a0_ ((by rw [hg];exact (below_size hb_) : w.heap.size ≤ gb1));clear HB;have HB:=n0_;have BK1:=n1_;have GW1:=n2_;have GE1:=n3_;clear n0_ n1_ n2_ n3_;clear hb hbox hg) | ((with_reducible refine gate_dst (N:=4) rfl ?_);refine box_event ?hg (N:=4) ?hd (cs:=#[.slice A1_0 l1_0.length c1_0]) (t:=27) ?hr ?_;(case hd=>rfl);(case hg=>rfl);(case hr=>first | (go_simp;done) | (go_simp;rfl));intro gb2 hg w110 hbox hb;have n0_:=a0_ (blk_below (bb_ BK1.1) hb);have n1_:=a0_ (below_step hb_ hb);have n2_:=a0_ (hbox);have n3_:=a0_ ((by rw [hg];exact (below_size hb_) : w.heap.size ≤ gb2));have n4_:=a0_ ((by rw [hg];exact (below_size hb_) : w.heap.size ≤ gb2));have n5_:=a0_ ((by rw [hg];exact Nat.ne_of_lt (blk_lt (bb_ BK1.1)) : gb1 ≠ gb2));have n6_:=a0_ ((by rw [hg];exact Nat.ne_of_gt (blk_lt (bb_ BK1.1)) : gb2 ≠ gb1));clear BK1 HB;have BK1:=n0_;have HB:=n1_;have BK2:=n2_;have GW2:=n3_;have GE2:=n4_;have NB1_2:=n5_;have NB2_1:=n6_;clear n0_ n1_ n2_ n3_ n4_ n5_ n6_;clear hb hbox hg;have hnb111:=NB1_2.1;have hnc111:=NB2_1.1;have hcz112_0 : w110.cell? ⟨gb1,0,none⟩ = some (.slice A0_0 l0_0.length c0_0):=(blk_cell BK1.1 0).trans rfl;have hfz112_0:=blk_frozen BK1.1 0) | ((with_reducible refine gate_callee (f:=14) rfl ?_);refine goesL_ (some 14) rfl rfl Try.func14 (by kernel_rfl) rfl #[.agg #[.slice A0_0 l0_0.length c0_0],.int .i64 1048576] rfl lm_ ?_;(with_reducible refine (laws_szTree.calls k _ _ l0_0 1048576 t3 _ ?side1 ?side2 A4.1).mono ?_);(case side1=>exact cc_ (Kd.C_below HR0_0.1 HB.1));(case side2=>exact HC0_0.1);rintro e w113 ⟨rfl,hb⟩;refine ⟨_,rfl,?_⟩;have n0_:=a0_ (blk_below (bb_ BK1.1) hb);have n1_:=a0_ (blk_below (bb_ BK2.1) hb);have n2_:=a0_ (below_step hb_ hb);clear BK1 BK2 HB;have BK1:=n0_;have BK2:=n1_;have HB:=n2_;clear n0_ n1_ n2_;(try clear hb);(try clear hb2);(try clear hk);(try clear hi);have hcz114_0 : w113.cell? ⟨gb2,0,none⟩ = some (.slice A1_0 l1_0.length c1_0):=(blk_cell BK2.1 0).trans rfl;have hfz114_0:=blk_frozen BK2.1 0) | ((with_reducible refine gate_callee (f:=15) rfl ?_);refine goesL_ (some 19) rfl rfl Try.func15 (by kernel_rfl) rfl #[.agg #[.slice A1_0 l1_0.length c1_0],.int .i64 t3] rfl lm_ ?_;(with_reducible refine (laws_szHeap.calls _ _ l1_0 t3 t4 _ ?side1 ?side2 A11.1).mono ?_);(case side1=>exact cc_ (Kd.C_below HR1_0.1 HB.1));(case side2=>exact HC1_0.1);rintro e w115 ⟨rfl,hb⟩;refine ⟨_,rfl,?_⟩;have n0_:=a0_ (blk_below (bb_ BK1.1) hb);have n1_:=a0_ (blk_below (bb_ BK2.1) hb);have n2_:=a0_ (below_step hb_ hb);clear BK1 BK2 HB;have BK1:=n0_;have BK2:=n1_;have HB:=n2_;clear n0_ n1_ n2_;(try clear hb);(try clear hb2);(try clear hk);(try clear hi)))
     have n0_:=a0_ (blk_drew BK1.1)
     have n1_:=a0_ (blk_drew BK2.1)
     have n2_:=a0_ (below_drew1 HB.1)
     clear BK1
     clear BK2
     clear HB
     have BK1:=n0_
     have BK2:=n1_
     have HB:=n2_
     clear n0_ n1_ n2_
     refine start_ (n:=7) (S:=fun w'=>w'.cell? ⟨gb1,0,none⟩ = some (.slice A0_0 l0_0.length c0_0) ∧ w'.cell? ⟨gb2,0,none⟩ = some (.slice A1_0 l1_0.length c1_0)) (ds:=[]) #[false,false,false,false,false,false,false] (by kernel_rfl) rfl rfl ⟨(blk_cell BK1.1 0).trans rfl,(blk_cell BK2.1 0).trans rfl⟩ (fun hHeld=>?_)
     generalize w115.drew = w116 at BK1 BK2 HB hHeld ⊢
     refine pure_ (i:=4) (N:=some 26) (v:=?_) (a':=?_) #[false,false,false,false,true,false,false] rfl rfl (by kernel_rfl) (fun _ _ _ h=>h) (Or.inl ⟨by rfl,?_⟩) ?_ ?_
     rotate_left
     ·intro w'
      go_simp
      with_reducible rfl
     rotate_left
     ·simp only [Act.put,s1_,s2_,s3_,i64_w,i32_w]
      rfl
     refine take_ (i:=0) (N:=some 22) (v:=?_) (a':=?_) #[true,false,false,false,true,false,false] rfl rfl (by kernel_rfl) (fun _ _ _ h=>h) (Or.inl ⟨by rfl,?_⟩) hHeld ?_ ?_
     rotate_left
     ·rintro w' ⟨s0,s1⟩
      go_simp
      with_reducible rfl
     rotate_left
     ·simp only [Act.put,s1_,s2_,s3_,i64_w,i32_w]
      rfl
     refine take_ (i:=2) (N:=some 24) (v:=?_) (a':=?_) #[true,false,true,false,true,false,false] rfl rfl (by kernel_rfl) (fun _ _ _ h=>h) (Or.inl ⟨by rfl,?_⟩) hHeld ?_ ?_
     rotate_left
     ·rintro w' ⟨s0,s1⟩
      go_simp
      with_reducible rfl
     rotate_left
     ·simp only [Act.put,s1_,s2_,s3_,i64_w,i32_w]
      rfl
     refine one_ (i:=1) (N:=some 23) #[true,true,true,false,true,false,false] rfl rfl (by kernel_rfl) (by decide) (fun K hK=>?_)
     refine goes_ Try.func17 (by kernel_rfl) rfl #[.agg #[.slice A0_0 l0_0.length c0_0]] (by rfl) rfl rfl lm_ ?_
     with_reducible refine (laws_toTree.calls k _ _ l0_0 t5 _ ?side1 ?side2 A20.1).mono ?_
     (case side1=>exact cc_ (Kd.C_below HR0_0.1 HB.1))
     (case side2=>exact HC0_0.1)
     rintro e w117 ⟨v6,rfl,ho0,hb⟩
     refine ⟨_,rfl,?_⟩
     have n0_:=a0_ (Kd.R_lower ho0 (below_size hb_))
     have n1_:=a0_ (blk_below (bb_ BK1.1) hb)
     have n2_:=a0_ (blk_below (bb_ BK2.1) hb)
     have n3_:=a0_ (below_step hb_ hb)
     clear BK1
     clear BK2
     clear HB
     have HO7:=n0_
     have BK1:=n1_
     have BK2:=n2_
     have HB:=n3_
     clear n0_ n1_ n2_ n3_
     (try clear hb)
     (try clear hb2)
     (try clear hk)
     (try clear hi)
     (try clear ho0)
     refine hK.out _ _ ⟨(blk_cell BK1.1 0).trans rfl,(blk_cell BK2.1 0).trans rfl⟩ (fun hHeld=>?_)
     clear hK K
     refine norm_ (a':=?_) ?_ ?_
     rotate_left
     ·show Act.put _ (some 23) _ = _
      simp only [Act.put,s1_,s2_,s3_,i64_w,i32_w]
      rfl
     refine one_ (i:=3) (N:=some 25) #[true,true,true,true,true,false,false] rfl rfl (by kernel_rfl) (by decide) (fun K hK=>?_)
     refine goes_ Try.func18 (by kernel_rfl) rfl #[.agg #[.slice A1_0 l1_0.length c1_0]] (by rfl) rfl rfl lm_ ?_
     with_reducible refine (laws_toHeap.calls k _ _ l1_0 t8 _ ?side1 ?side2 A21.1).mono ?_
     (case side1=>exact cc_ (Kd.C_below HR1_0.1 HB.1))
     (case side2=>exact HC1_0.1)
     rintro e w118 ⟨v9,rfl,ho0,hb⟩
     refine ⟨_,rfl,?_⟩
     have n0_:=a0_ (Kd.R_below (rr_ HO7.1) hb)
     have n1_:=a0_ (Kd.R_lower ho0 (below_size hb_))
     have n2_:=a0_ (blk_below (bb_ BK1.1) hb)
     have n3_:=a0_ (blk_below (bb_ BK2.1) hb)
     have n4_:=a0_ (below_step hb_ hb)
     clear HO7
     clear BK1
     clear BK2
     clear HB
     have HO7:=n0_
     have HO10:=n1_
     have BK1:=n2_
     have BK2:=n3_
     have HB:=n4_
     clear n0_ n1_ n2_ n3_ n4_
     (try clear hb)
     (try clear hb2)
     (try clear hk)
     (try clear hi)
     (try clear ho0)
     obtain ⟨Ao119,co119,eo119⟩:=Kd.R_slice HO7.1
     (first | subst eo119 | (injection eo119 with f1_ f2_ f3_;have f4_:=f1_.symm;have f5_:=f3_.symm;clear f1_ f2_ f3_;subst f4_;subst f5_))
     obtain ⟨Ao120,co120,eo120⟩:=Kd.R_slice HO10.1
     (first | subst eo120 | (injection eo120 with f1_ f2_ f3_;have f4_:=f1_.symm;have f5_:=f3_.symm;clear f1_ f2_ f3_;subst f4_;subst f5_))
     refine hK.out _ _ ⟨(blk_cell BK1.1 0).trans rfl,(blk_cell BK2.1 0).trans rfl⟩ (fun hHeld=>?_)
     clear hK K
     refine norm_ (a':=?_) ?_ ?_
     rotate_left
     ·show Act.put _ (some 25) _ = _
      simp only [Act.put,s1_,s2_,s3_,i64_w,i32_w]
      rfl
     refine one_ (i:=5) (N:=some 27) #[true,true,true,true,true,true,false] rfl rfl (by kernel_rfl) (by decide) (fun K hK=>?_)
     refine goes_ Try.func24 (by kernel_rfl) rfl #[.agg #[.slice Ao119 t5.length co119],.agg #[.slice Ao120 t8.length co120],.int .i64 a2] (by rfl) rfl rfl lm_ ?_
     with_reducible refine (spec_OldestShown.calls k _ _ t5 _ _ t8 a2 t11 _ ?side1 ?side2 ?side3 ?side4 A22.1).mono ?_
     (case side1=>repeat (first | exact (Kd.R_reads' HO7.1).2.2 | (with_reducible refine Kd.C_alloc ?_ _) | (with_reducible refine Kd.C_drewN ?_ _) | (with_reducible refine Kd.C_drew ?_)))
     (case side2=>exact (Kd.R_reads' HO7.1).2.1)
     (case side3=>repeat (first | exact (Kd.R_reads' HO10.1).2.2 | (with_reducible refine Kd.C_alloc ?_ _) | (with_reducible refine Kd.C_drewN ?_ _) | (with_reducible refine Kd.C_drew ?_)))
     (case side4=>exact (Kd.R_reads' HO10.1).2.1)
     rintro e w121 ⟨rfl,hb⟩
     refine ⟨_,rfl,?_⟩
     have n0_:=a0_ (Kd.R_below (rr_ HO7.1) hb)
     have n1_:=a0_ (Kd.R_below (rr_ HO10.1) hb)
     have n2_:=a0_ (blk_below (bb_ BK1.1) hb)
     have n3_:=a0_ (blk_below (bb_ BK2.1) hb)
     have n4_:=a0_ (below_step hb_ hb)
     clear HO7
     clear HO10
     clear BK1
     clear BK2
     clear HB
     have HO7:=n0_
     have HO10:=n1_
     have BK1:=n2_
     have BK2:=n3_
     have HB:=n4_
     clear n0_ n1_ n2_ n3_ n4_
     (try clear hb)
     (try clear hb2)
     (try clear hk)
     (try clear hi)
     refine hK.out _ _ ⟨(blk_cell BK1.1 0).trans rfl,(blk_cell BK2.1 0).trans rfl⟩ (fun hHeld=>?_)
     clear hK K
     refine norm_ (a':=?_) ?_ ?_
     rotate_left
     ·show Act.put _ (some 27) _ = _
      simp only [Act.put,s1_,s2_,s3_,i64_w,i32_w]
      rfl
     refine pure_ (i:=6) (N:=some 8) (v:=?_) (a':=?_) #[true,true,true,true,true,true,true] rfl rfl (by kernel_rfl) (fun _ _ _ h=>h) (Or.inl ⟨by rfl,?_⟩) ?_ ?_
     rotate_left
     ·intro w'
      go_simp
      with_reducible rfl
     rotate_left
     ·simp only [Act.put,s1_,s2_,s3_,i64_w,i32_w]
      rfl
     refine done_ (by kernel_rfl) ?_
     have hcz122_0 : w121.cell? ⟨gb1,0,none⟩ = some (.slice A0_0 l0_0.length c0_0):=(blk_cell BK1.1 0).trans rfl
     have hfz122_0:=blk_frozen BK1.1 0
     try go_wp2_with (first | ((with_reducible refine gate_callee (f:=17) rfl ?_);refine goesL_ (some 29) rfl rfl Try.func17 (by kernel_rfl) rfl #[.agg #[.slice A0_0 l0_0.length c0_0]] rfl lm_ ?_;(with_reducible refine (laws_toTree.calls k _ _ l0_0 t12 _ ?side1 ?side2 A23.1).mono ?_);(case side1=>exact cc_ (Kd.C_below HR0_0.1 HB.1));(case side2=>exact HC0_0.1);rintro e w123 ⟨v13,rfl,ho0,hb⟩;refine ⟨_,rfl,?_⟩;have n0_:=a0_ (Kd.R_elder' (rr_ HO7.1) (Kd.R_base ho0) hb);have n1_:=a0_ (Kd.R_below (rr_ HO10.1) hb);have n2_:=a0_ (Kd.R_lower (Kd.R_new' ho0 (Kd.R_lt (rr_ HO7.1))) (below_size hb_));have n3_:=a0_ (blk_below (bb_ BK1.1) hb);have n4_:=a0_ (blk_below (bb_ BK2.1) hb);have n5_:=a0_ (below_step hb_ hb);clear HO7 HO10;clear BK1 BK2 HB;have HO7:=n0_;have HO10:=n1_;have HO14:=n2_;have BK1:=n3_;have BK2:=n4_;have HB:=n5_;clear n0_ n1_ n2_ n3_ n4_ n5_;(try clear hb);(try clear hb2);(try clear hk);(try clear hi);(try clear ho0)) | ((with_reducible refine gate_dst (N:=9) rfl ?_);refine box_event ?hg (N:=9) ?hd (cs:=#[.slice none 0 0]) (t:=33) ?hr ?_;(case hd=>rfl);(case hg=>rfl);(case hr=>first | (go_simp;done) | (go_simp;rfl));intro gb15 hg w124 hbox hb;have n0_:=a0_ (Kd.R_below (rr_ HO7.1) hb);have n1_:=a0_ (Kd.R_below (rr_ HO10.1) hb);have n2_:=a0_ (Kd.R_below (rr_ HO14.1) hb);have n3_:=a0_ (blk_below (bb_ BK1.1) hb);have n4_:=a0_ (blk_below (bb_ BK2.1) hb);have n5_:=a0_ (below_step hb_ hb);have n6_:=a0_ (hbox);have n7_:=a0_ ((by rw [hg];exact (below_size hb_) : w.heap.size ≤ gb15));have n8_:=a0_ ((by rw [hg];exact (below_size hb_) : w.heap.size ≤ gb15));have n9_:=a0_ ((by rw [hg];exact Nat.ne_of_lt (blk_lt (bb_ BK1.1)) : gb1 ≠ gb15));have n10_:=a0_ ((by rw [hg];exact Nat.ne_of_gt (blk_lt (bb_ BK1.1)) : gb15 ≠ gb1));have n11_:=a0_ ((by rw [hg];exact Nat.ne_of_lt (blk_lt (bb_ BK2.1)) : gb2 ≠ gb15));have n12_:=a0_ ((by rw [hg];exact Nat.ne_of_gt (blk_lt (bb_ BK2.1)) : gb15 ≠ gb2));clear HO7 HO10;clear HO14 BK1;clear BK2 HB;have HO7:=n0_;have HO10:=n1_;have HO14:=n2_;have BK1:=n3_;have BK2:=n4_;have HB:=n5_;have BK15:=n6_;have GW15:=n7_;have GE15:=n8_;have NB1_15:=n9_;have NB15_1:=n10_;have NB2_15:=n11_;have NB15_2:=n12_;clear n0_ n1_ n2_ n3_ n4_ n5_ n6_ n7_ n8_ n9_ n10_ n11_ n12_;clear hb hbox hg;obtain ⟨Ao125,co125,eo125⟩:=Kd.R_slice HO14.1;subst eo125;have hnb126:=NB15_1.1;have hnc126:=NB1_15.1;have hnb127:=NB15_2.1;have hnc127:=NB2_15.1;have hcz128_0 : w124.cell? ⟨gb15,0,none⟩ = some (.slice none 0 0):=(blk_cell BK15.1 0).trans rfl;have hfz128_0:=blk_frozen BK15.1 0;have hcz129_0 : w124.cell? ⟨gb2,0,none⟩ = some (.slice A1_0 l1_0.length c1_0):=(blk_cell BK2.1 0).trans rfl;have hfz129_0:=blk_frozen BK2.1 0) | ((with_reducible refine gate_callee (f:=18) rfl ?_);refine goesL_ (some 31) rfl rfl Try.func18 (by kernel_rfl) rfl #[.agg #[.slice A1_0 l1_0.length c1_0]] rfl lm_ ?_;(with_reducible refine (laws_toHeap.calls k _ _ l1_0 t16 _ ?side1 ?side2 A24.1).mono ?_);(case side1=>exact Kd.C_below HR1_0.1 hb_);(case side2=>exact HC1_0.1);rintro e w130 ⟨v17,rfl,ho0,hb⟩;refine ⟨_,rfl,?_⟩;have n0_:=a0_ (Kd.R_below (by (with_reducible repeat (first | apply Kd.R_alloc | apply Kd.R_drewN | apply Kd.R_drew));exact (Kd.R_mono (Kd.R_far (p:=⟨gb15,0,none⟩) (Kd.R_types HO7.1 BK15.1 (by decide)) (fun _ hk=>hk.2) (.slice Ao125 t12.length co125)) (fun _ h_=>h_.1))) hb);have n1_:=a0_ (Kd.R_elder' (by (with_reducible repeat (first | apply Kd.R_alloc | apply Kd.R_drewN | apply Kd.R_drew));exact (Kd.R_mono (Kd.R_far (p:=⟨gb15,0,none⟩) (Kd.R_types HO10.1 BK15.1 (by decide)) (fun _ hk=>hk.2) (.slice Ao125 t12.length co125)) (fun _ h_=>h_.1))) (Kd.R_base ho0) hb);have n2_:=a0_ (Kd.R_below (by (with_reducible repeat (first | apply Kd.R_alloc | apply Kd.R_drewN | apply Kd.R_drew));exact (Kd.R_mono (Kd.R_far (p:=⟨gb15,0,none⟩) (Kd.R_types HO14.1 BK15.1 (by decide)) (fun _ hk=>hk.2) (.slice Ao125 t12.length co125)) (fun _ h_=>h_.1))) hb);have n3_:=a0_ (Kd.R_lower (Kd.R_new' ho0 (Kd.R_lt (by (with_reducible repeat (first | apply Kd.R_alloc | apply Kd.R_drewN | apply Kd.R_drew));exact (Kd.R_mono (Kd.R_far (p:=⟨gb15,0,none⟩) (Kd.R_types HO10.1 BK15.1 (by decide)) (fun _ hk=>hk.2) (.slice Ao125 t12.length co125)) (fun _ h_=>h_.1))))) (below_size hb_));have n4_:=a0_ (blk_below (g:=gb1) (o:=.cells #[.slice A0_0 l0_0.length c0_0] 24 (0,0)) (by (with_reducible repeat (first | refine blk_drewN ?_ _ | refine blk_drew ?_ | refine blk_alloc ?_ _));refine blk_far ?_ NB1_15.1 _;(with_reducible repeat (first | refine blk_drewN ?_ _ | refine blk_drew ?_ | refine blk_alloc ?_ _));exact BK1.1) hb);have n5_:=a0_ (blk_below (g:=gb2) (o:=.cells #[.slice A1_0 l1_0.length c1_0] 27 (0,0)) (by (with_reducible repeat (first | refine blk_drewN ?_ _ | refine blk_drew ?_ | refine blk_alloc ?_ _));refine blk_far ?_ NB2_15.1 _;(with_reducible repeat (first | refine blk_drewN ?_ _ | refine blk_drew ?_ | refine blk_alloc ?_ _));exact BK2.1) hb);have n6_:=a0_ (blk_below (g:=gb15) (o:=.cells #[.slice Ao125 t12.length co125] 33 (0,0)) (by (with_reducible repeat (first | refine blk_drewN ?_ _ | refine blk_drew ?_ | refine blk_alloc ?_ _));refine blk_put (cs:=#[.slice none 0 0]) ?_ 0 _ rfl;(with_reducible repeat (first | refine blk_drewN ?_ _ | refine blk_drew ?_ | refine blk_alloc ?_ _));exact BK15.1) hb);have n7_:=a0_ (below_step hb_ hb);clear HO7 HO10;clear HO14 BK1;clear BK2 BK15 HB;have HO7:=n0_;have HO10:=n1_;have HO14:=n2_;have HO18:=n3_;have BK1:=n4_;have BK2:=n5_;have BK15:=n6_;have HB:=n7_;clear n0_ n1_ n2_ n3_ n4_ n5_ n6_ n7_;(try clear hb);(try clear hb2);(try clear hk);(try clear hi);(try clear ho0)) | ((with_reducible refine gate_dst (N:=10) rfl ?_);refine box_event ?hg (N:=10) ?hd (cs:=#[.slice none 0 0]) (t:=37) ?hr ?_;(case hd=>rfl);(case hg=>rfl);(case hr=>first | (go_simp;done) | (go_simp;rfl));intro gb19 hg w131 hbox hb;have n0_:=a0_ (Kd.R_below (rr_ HO7.1) hb);have n1_:=a0_ (Kd.R_below (rr_ HO10.1) hb);have n2_:=a0_ (Kd.R_below (rr_ HO14.1) hb);have n3_:=a0_ (Kd.R_below (rr_ HO18.1) hb);have n4_:=a0_ (blk_below (bb_ BK1.1) hb);have n5_:=a0_ (blk_below (bb_ BK2.1) hb);have n6_:=a0_ (blk_below (bb_ BK15.1) hb);have n7_:=a0_ (below_step hb_ hb);have n8_:=a0_ (hbox);have n9_:=a0_ ((by rw [hg];exact (below_size hb_) : w.heap.size ≤ gb19));have n10_:=a0_ ((by rw [hg];exact (below_size hb_) : w.heap.size ≤ gb19));have n11_:=a0_ ((by rw [hg];exact Nat.ne_of_lt (blk_lt (bb_ BK1.1)) : gb1 ≠ gb19));have n12_:=a0_ ((by rw [hg];exact Nat.ne_of_gt (blk_lt (bb_ BK1.1)) : gb19 ≠ gb1));have n13_:=a0_ ((by rw [hg];exact Nat.ne_of_lt (blk_lt (bb_ BK2.1)) : gb2 ≠ gb19));have n14_:=a0_ ((by rw [hg];exact Nat.ne_of_gt (blk_lt (bb_ BK2.1)) : gb19 ≠ gb2));have n15_:=a0_ ((by rw [hg];exact Nat.ne_of_lt (blk_lt (bb_ BK15.1)) : gb15 ≠ gb19));have n16_:=a0_ ((by rw [hg];exact Nat.ne_of_gt (blk_lt (bb_ BK15.1)) : gb19 ≠ gb15));clear HO7 HO10;clear HO14 HO18;clear BK1 BK2;clear BK15 HB;have HO7:=n0_;have HO10:=n1_;have HO14:=n2_;have HO18:=n3_;have BK1:=n4_;have BK2:=n5_;have BK15:=n6_;have HB:=n7_;have BK19:=n8_;have GW19:=n9_;have GE19:=n10_;have NB1_19:=n11_;have NB19_1:=n12_;have NB2_19:=n13_;have NB19_2:=n14_;have NB15_19:=n15_;have NB19_15:=n16_;clear n0_ n1_ n2_ n3_ n4_ n5_ n6_ n7_ n8_ n9_ n10_ n11_ n12_ n13_ n14_ n15_ n16_;clear hb hbox hg;obtain ⟨Ao132,co132,eo132⟩:=Kd.R_slice HO18.1;subst eo132;have hnb133:=NB19_1.1;have hnc133:=NB1_19.1;have hnb134:=NB19_2.1;have hnc134:=NB2_19.1;have hnb135:=NB19_15.1;have hnc135:=NB15_19.1;have hcz136_0 : w131.cell? ⟨gb19,0,none⟩ = some (.slice none 0 0):=(blk_cell BK19.1 0).trans rfl;have hfz136_0:=blk_frozen BK19.1 0;have hcz137_0 : w131.cell? ⟨gb15,0,none⟩ = some (.slice Ao125 t12.length co125):=(blk_cell BK15.1 0).trans rfl;have hfz137_0:=blk_frozen BK15.1 0) | ((with_reducible refine gate_callee (f:=25) rfl ?_);refine goesL_ (some 35) rfl rfl Try.func25 (by kernel_rfl) rfl #[.agg #[.slice Ao125 t12.length co125],.agg #[.slice Ao132 t16.length co132],.int .i64 a2] rfl lm_ ?_;(with_reducible refine (impl_OldestShown.calls _ _ t12 _ _ t16 a2 t20 _ ?side1 ?side2 ?side3 ?side4 A25.1).mono ?_);(case side1=>refine (Kd.R_reads' (e:=106) (base:=w.heap.size) (ok:=fun k_=>(True ∧ some k_ ≠ (.slice Ao119 t5.length co119 : Value).ownBlock)) (n:=t12.length) (c:=co125) ?_).2.2;exact (by (with_reducible repeat (first | apply Kd.R_alloc | apply Kd.R_drewN | apply Kd.R_drew));exact (Kd.R_mono (Kd.R_far (p:=⟨gb19,0,none⟩) (Kd.R_types HO14.1 BK19.1 (by decide)) (fun _ hk=>hk.2) (.slice Ao132 t16.length co132)) (fun _ h_=>h_.1))));(case side2=>exact (Kd.R_reads' HO14.1).2.1);(case side3=>refine (Kd.R_reads' (e:=79) (base:=w.heap.size) (ok:=fun k_=>(True ∧ some k_ ≠ (.slice Ao120 t8.length co120 : Value).ownBlock)) (n:=t16.length) (c:=co132) ?_).2.2;exact (by (with_reducible repeat (first | apply Kd.R_alloc | apply Kd.R_drewN | apply Kd.R_drew));exact (Kd.R_mono (Kd.R_far (p:=⟨gb19,0,none⟩) (Kd.R_types HO18.1 BK19.1 (by decide)) (fun _ hk=>hk.2) (.slice Ao132 t16.length co132)) (fun _ h_=>h_.1))));(case side4=>exact (Kd.R_reads' HO18.1).2.1);rintro e w138 ⟨rfl,hb⟩;refine ⟨_,rfl,?_⟩;have n0_:=a0_ (Kd.R_below (by (with_reducible repeat (first | apply Kd.R_alloc | apply Kd.R_drewN | apply Kd.R_drew));exact (Kd.R_mono (Kd.R_far (p:=⟨gb19,0,none⟩) (Kd.R_types HO7.1 BK19.1 (by decide)) (fun _ hk=>hk.2) (.slice Ao132 t16.length co132)) (fun _ h_=>h_.1))) hb);have n1_:=a0_ (Kd.R_below (by (with_reducible repeat (first | apply Kd.R_alloc | apply Kd.R_drewN | apply Kd.R_drew));exact (Kd.R_mono (Kd.R_far (p:=⟨gb19,0,none⟩) (Kd.R_types HO10.1 BK19.1 (by decide)) (fun _ hk=>hk.2) (.slice Ao132 t16.length co132)) (fun _ h_=>h_.1))) hb);have n2_:=a0_ (Kd.R_below (by (with_reducible repeat (first | apply Kd.R_alloc | apply Kd.R_drewN | apply Kd.R_drew));exact (Kd.R_mono (Kd.R_far (p:=⟨gb19,0,none⟩) (Kd.R_types HO14.1 BK19.1 (by decide)) (fun _ hk=>hk.2) (.slice Ao132 t16.length co132)) (fun _ h_=>h_.1))) hb);have n3_:=a0_ (Kd.R_below (by (with_reducible repeat (first | apply Kd.R_alloc | apply Kd.R_drewN | apply Kd.R_drew));exact (Kd.R_mono (Kd.R_far (p:=⟨gb19,0,none⟩) (Kd.R_types HO18.1 BK19.1 (by decide)) (fun _ hk=>hk.2) (.slice Ao132 t16.length co132)) (fun _ h_=>h_.1))) hb);have n4_:=a0_ (blk_below (g:=gb1) (o:=.cells #[.slice A0_0 l0_0.length c0_0] 24 (0,0)) (by (with_reducible repeat (first | refine blk_drewN ?_ _ | refine blk_drew ?_ | refine blk_alloc ?_ _));refine blk_far ?_ NB1_19.1 _;(with_reducible repeat (first | refine blk_drewN ?_ _ | refine blk_drew ?_ | refine blk_alloc ?_ _));exact BK1.1) hb);have n5_:=a0_ (blk_below (g:=gb2) (o:=.cells #[.slice A1_0 l1_0.length c1_0] 27 (0,0)) (by (with_reducible repeat (first | refine blk_drewN ?_ _ | refine blk_drew ?_ | refine blk_alloc ?_ _));refine blk_far ?_ NB2_19.1 _;(with_reducible repeat (first | refine blk_drewN ?_ _ | refine blk_drew ?_ | refine blk_alloc ?_ _));exact BK2.1) hb);have n6_:=a0_ (blk_below (g:=gb15) (o:=.cells #[.slice Ao125 t12.length co125] 33 (0,0)) (by (with_reducible repeat (first | refine blk_drewN ?_ _ | refine blk_drew ?_ | refine blk_alloc ?_ _));refine blk_far ?_ NB15_19.1 _;(with_reducible repeat (first | refine blk_drewN ?_ _ | refine blk_drew ?_ | refine blk_alloc ?_ _));exact BK15.1) hb);have n7_:=a0_ (blk_below (g:=gb19) (o:=.cells #[.slice Ao132 t16.length co132] 37 (0,0)) (by (with_reducible repeat (first | refine blk_drewN ?_ _ | refine blk_drew ?_ | refine blk_alloc ?_ _));refine blk_put (cs:=#[.slice none 0 0]) ?_ 0 _ rfl;(with_reducible repeat (first | refine blk_drewN ?_ _ | refine blk_drew ?_ | refine blk_alloc ?_ _));exact BK19.1) hb);have n8_:=a0_ (below_step hb_ hb);clear HO7 HO10;clear HO14 HO18;clear BK1 BK2;clear BK15 BK19 HB;have HO7:=n0_;have HO10:=n1_;have HO14:=n2_;have HO18:=n3_;have BK1:=n4_;have BK2:=n5_;have BK15:=n6_;have BK19:=n7_;have HB:=n8_;clear n0_ n1_ n2_ n3_ n4_ n5_ n6_ n7_ n8_;(try clear hb);(try clear hb2);(try clear hk);(try clear hi)))
     have n0_:=a0_ (Kd.R_drew HO7.1)
     have n1_:=a0_ (Kd.R_drew HO10.1)
     have n2_:=a0_ (Kd.R_drew HO14.1)
     have n3_:=a0_ (Kd.R_drew HO18.1)
     have n4_:=a0_ (blk_drew BK1.1)
     have n5_:=a0_ (blk_drew BK2.1)
     have n6_:=a0_ (blk_drew BK15.1)
     have n7_:=a0_ (blk_drew BK19.1)
     have n8_:=a0_ (below_drew1 HB.1)
     clear HO7
     clear HO10
     clear HO14
     clear HO18
     clear BK1
     clear BK2
     clear BK15
     clear BK19
     clear HB
     have HO7:=n0_
     have HO10:=n1_
     have HO14:=n2_
     have HO18:=n3_
     have BK1:=n4_
     have BK2:=n5_
     have BK15:=n6_
     have BK19:=n7_
     have HB:=n8_
     clear n0_ n1_ n2_ n3_ n4_ n5_ n6_ n7_ n8_
     refine start_ (n:=5) (S:=fun w'=>w'.cell? ⟨gb15,0,none⟩ = some (.slice Ao125 t12.length co125) ∧ w'.cell? ⟨gb1,0,none⟩ = some (.slice A0_0 l0_0.length c0_0)) (ds:=[]) #[false,false,false,false,false] (by kernel_rfl) rfl rfl ⟨(blk_cell BK15.1 0).trans rfl,(blk_cell BK1.1 0).trans rfl⟩ (fun hHeld=>?_)
     generalize w138.drew = w139 at HO7 HO10 HO14 HO18 BK1 BK2 BK15 BK19 HB hHeld ⊢
     refine take_ (i:=0) (N:=some 39) (v:=?_) (a':=?_) #[true,false,false,false,false] rfl rfl (by kernel_rfl) (fun _ _ _ h=>h) (Or.inl ⟨by rfl,?_⟩) hHeld ?_ ?_
     rotate_left
     ·rintro w' ⟨s0,s1⟩
      go_simp
      with_reducible rfl
     rotate_left
     ·simp only [Act.put,s1_,s2_,s3_,i64_w,i32_w]
      rfl
     refine take_ (i:=1) (N:=some 40) (v:=?_) (a':=?_) #[true,true,false,false,false] rfl rfl (by kernel_rfl) (fun _ _ _ h=>h) (Or.inl ⟨by rfl,?_⟩) hHeld ?_ ?_
     rotate_left
     ·rintro w' ⟨s0,s1⟩
      go_simp
      with_reducible rfl
     rotate_left
     ·simp only [Act.put,s1_,s2_,s3_,i64_w,i32_w]
      rfl
     refine one_ (i:=2) (N:=some 41) #[true,true,true,false,false] rfl rfl (by kernel_rfl) (by decide) (fun K hK=>?_)
     refine goes_ Try.func17 (by kernel_rfl) rfl #[.agg #[.slice A0_0 l0_0.length c0_0]] (by rfl) rfl rfl lm_ ?_
     with_reducible refine (laws_toTree.calls k _ _ l0_0 t21 _ ?side1 ?side2 A27.1).mono ?_
     (case side1=>exact cc_ (Kd.C_below HR0_0.1 HB.1))
     (case side2=>exact HC0_0.1)
     rintro e w140 ⟨v22,rfl,ho0,hb⟩
     refine ⟨_,rfl,?_⟩
     have n0_:=a0_ (Kd.R_elder' (rr_ HO7.1) (Kd.R_base ho0) hb)
     have n1_:=a0_ (Kd.R_below (rr_ HO10.1) hb)
     have n2_:=a0_ (Kd.R_elder' (rr_ HO14.1) (Kd.R_base ho0) hb)
     have n3_:=a0_ (Kd.R_below (rr_ HO18.1) hb)
     have n4_:=a0_ (Kd.R_lower (Kd.R_new' (Kd.R_new' ho0 (Kd.R_lt (rr_ HO7.1))) (Kd.R_lt (rr_ HO14.1))) (below_size hb_))
     have n5_:=a0_ (blk_below (bb_ BK1.1) hb)
     have n6_:=a0_ (blk_below (bb_ BK2.1) hb)
     have n7_:=a0_ (blk_below (bb_ BK15.1) hb)
     have n8_:=a0_ (blk_below (bb_ BK19.1) hb)
     have n9_:=a0_ (below_step hb_ hb)
     clear HO7
     clear HO10
     clear HO14
     clear HO18
     clear BK1
     clear BK2
     clear BK15
     clear BK19
     clear HB
     have HO7:=n0_
     have HO10:=n1_
     have HO14:=n2_
     have HO18:=n3_
     have HO23:=n4_
     have BK1:=n5_
     have BK2:=n6_
     have BK15:=n7_
     have BK19:=n8_
     have HB:=n9_
     clear n0_ n1_ n2_ n3_ n4_ n5_ n6_ n7_ n8_ n9_
     (try clear hb)
     (try clear hb2)
     (try clear hk)
     (try clear hi)
     (try clear ho0)
     obtain ⟨Ao141,co141,eo141⟩:=Kd.R_slice HO23.1
     (first | subst eo141 | (injection eo141 with f1_ f2_ f3_;have f4_:=f1_.symm;have f5_:=f3_.symm;clear f1_ f2_ f3_;subst f4_;subst f5_))
     refine hK.out _ _ ⟨(blk_cell BK15.1 0).trans rfl,(blk_cell BK1.1 0).trans rfl⟩ (fun hHeld=>?_)
     clear hK K
     refine norm_ (a':=?_) ?_ ?_
     rotate_left
     ·show Act.put _ (some 41) _ = _
      simp only [Act.put,s1_,s2_,s3_,i64_w,i32_w]
      rfl
     refine one_ (i:=3) (N:=some 42) #[true,true,true,true,false] rfl rfl (by kernel_rfl) (by decide) (fun K hK=>?_)
     refine goes_ Try.func20 (by kernel_rfl) rfl #[.agg #[.slice Ao125 t12.length co125],.agg #[.slice Ao141 t21.length co141]] (by rfl) rfl rfl lm_ ?_
     with_reducible refine (laws_eqTree.calls k _ _ t12 _ _ t21 false _ ?side1 ?side2 ?side3 ?side4 A28.1).mono ?_
     (case side1=>repeat (first | exact (Kd.R_reads' HO14.1).2.2 | (with_reducible refine Kd.C_alloc ?_ _) | (with_reducible refine Kd.C_drewN ?_ _) | (with_reducible refine Kd.C_drew ?_)))
     (case side2=>exact (Kd.R_reads' HO14.1).2.1)
     (case side3=>repeat (first | exact (Kd.R_reads' HO23.1).2.2 | (with_reducible refine Kd.C_alloc ?_ _) | (with_reducible refine Kd.C_drewN ?_ _) | (with_reducible refine Kd.C_drew ?_)))
     (case side4=>exact (Kd.R_reads' HO23.1).2.1)
     rintro e w142 ⟨rfl,hb⟩
     refine ⟨_,rfl,?_⟩
     have n0_:=a0_ (Kd.R_below (rr_ HO7.1) hb)
     have n1_:=a0_ (Kd.R_below (rr_ HO10.1) hb)
     have n2_:=a0_ (Kd.R_below (rr_ HO14.1) hb)
     have n3_:=a0_ (Kd.R_below (rr_ HO18.1) hb)
     have n4_:=a0_ (Kd.R_below (rr_ HO23.1) hb)
     have n5_:=a0_ (blk_below (bb_ BK1.1) hb)
     have n6_:=a0_ (blk_below (bb_ BK2.1) hb)
     have n7_:=a0_ (blk_below (bb_ BK15.1) hb)
     have n8_:=a0_ (blk_below (bb_ BK19.1) hb)
     have n9_:=a0_ (below_step hb_ hb)
     clear HO7
     clear HO10
     clear HO14
     clear HO18
     clear HO23
     clear BK1
     clear BK2
     clear BK15
     clear BK19
     clear HB
     have HO7:=n0_
     have HO10:=n1_
     have HO14:=n2_
     have HO18:=n3_
     have HO23:=n4_
     have BK1:=n5_
     have BK2:=n6_
     have BK15:=n7_
     have BK19:=n8_
     have HB:=n9_
     clear n0_ n1_ n2_ n3_ n4_ n5_ n6_ n7_ n8_ n9_
     (try clear hb)
     (try clear hb2)
     (try clear hk)
     (try clear hi)
     refine hK.out _ _ ⟨(blk_cell BK15.1 0).trans rfl,(blk_cell BK1.1 0).trans rfl⟩ (fun hHeld=>?_)
     clear hK K
     refine norm_ (a':=?_) ?_ ?_
     rotate_left
     ·show Act.put _ (some 42) _ = _
      simp only [Act.put,s1_,s2_,s3_,i64_w,i32_w]
      rfl
     refine pure_ (i:=4) (N:=some 43) (v:=?_) (a':=?_) #[true,true,true,true,true] rfl rfl (by kernel_rfl) (fun _ _ _ h=>h) (Or.inl ⟨by rfl,?_⟩) ?_ ?_
     rotate_left
     ·intro w'
      go_simp
      with_reducible rfl
     rotate_left
     ·simp only [Act.put,s1_,s2_,s3_,i64_w,i32_w]
      rfl
     refine done_ (by kernel_rfl) ?_
     try go_wp2
     go_ret
     exact ⟨by first | rfl | (simp [errW_none,errW_some] <;> rfl) | (simp [*,errW_none,errW_some] <;> rfl),hb_⟩
   ·rw [if_neg c26] at H
    have c26b0 : (t20 == t11) = false:=beq_eq_false_iff_ne.mpr c26
    have c26b1 : (t20 != t11) = true:=bne_iff_ne.mpr c26
    obtain rfl:=Option.some.inj H
    go_enter Try.func5,Try.ntmps5
    try go_wp2_with (first | ((with_reducible refine gate_dst (N:=3) rfl ?_);refine box_event ?hg (N:=3) ?hd (cs:=#[.slice A0_0 l0_0.length c0_0]) (t:=24) ?hr ?_;(case hd=>rfl);(case hg=>rfl);(case hr=>first | (go_simp;done) | (go_simp;rfl));intro gb1 hg w143 hbox hb;have n0_:=a0_ (below_step hb_ hb);have n1_:=a0_ (hbox);have n2_:=a0_ ((by rw [hg];exact (below_size hb_) : w.heap.size ≤ gb1));have n3_:=a0_ ((by rw [hg];exact (below_size hb_) : w.heap.size ≤ gb1));clear HB;have HB:=n0_;have BK1:=n1_;have GW1:=n2_;have GE1:=n3_;clear n0_ n1_ n2_ n3_;clear hb hbox hg) | ((with_reducible refine gate_dst (N:=4) rfl ?_);refine box_event ?hg (N:=4) ?hd (cs:=#[.slice A1_0 l1_0.length c1_0]) (t:=27) ?hr ?_;(case hd=>rfl);(case hg=>rfl);(case hr=>first | (go_simp;done) | (go_simp;rfl));intro gb2 hg w144 hbox hb;have n0_:=a0_ (blk_below (bb_ BK1.1) hb);have n1_:=a0_ (below_step hb_ hb);have n2_:=a0_ (hbox);have n3_:=a0_ ((by rw [hg];exact (below_size hb_) : w.heap.size ≤ gb2));have n4_:=a0_ ((by rw [hg];exact (below_size hb_) : w.heap.size ≤ gb2));have n5_:=a0_ ((by rw [hg];exact Nat.ne_of_lt (blk_lt (bb_ BK1.1)) : gb1 ≠ gb2));have n6_:=a0_ ((by rw [hg];exact Nat.ne_of_gt (blk_lt (bb_ BK1.1)) : gb2 ≠ gb1));clear BK1 HB;have BK1:=n0_;have HB:=n1_;have BK2:=n2_;have GW2:=n3_;have GE2:=n4_;have NB1_2:=n5_;have NB2_1:=n6_;clear n0_ n1_ n2_ n3_ n4_ n5_ n6_;clear hb hbox hg;have hnb145:=NB1_2.1;have hnc145:=NB2_1.1;have hcz146_0 : w144.cell? ⟨gb1,0,none⟩ = some (.slice A0_0 l0_0.length c0_0):=(blk_cell BK1.1 0).trans rfl;have hfz146_0:=blk_frozen BK1.1 0) | ((with_reducible refine gate_callee (f:=14) rfl ?_);refine goesL_ (some 14) rfl rfl Try.func14 (by kernel_rfl) rfl #[.agg #[.slice A0_0 l0_0.length c0_0],.int .i64 1048576] rfl lm_ ?_;(with_reducible refine (laws_szTree.calls k _ _ l0_0 1048576 t3 _ ?side1 ?side2 A4.1).mono ?_);(case side1=>exact cc_ (Kd.C_below HR0_0.1 HB.1));(case side2=>exact HC0_0.1);rintro e w147 ⟨rfl,hb⟩;refine ⟨_,rfl,?_⟩;have n0_:=a0_ (blk_below (bb_ BK1.1) hb);have n1_:=a0_ (blk_below (bb_ BK2.1) hb);have n2_:=a0_ (below_step hb_ hb);clear BK1 BK2 HB;have BK1:=n0_;have BK2:=n1_;have HB:=n2_;clear n0_ n1_ n2_;(try clear hb);(try clear hb2);(try clear hk);(try clear hi);have hcz148_0 : w147.cell? ⟨gb2,0,none⟩ = some (.slice A1_0 l1_0.length c1_0):=(blk_cell BK2.1 0).trans rfl;have hfz148_0:=blk_frozen BK2.1 0) | ((with_reducible refine gate_callee (f:=15) rfl ?_);refine goesL_ (some 19) rfl rfl Try.func15 (by kernel_rfl) rfl #[.agg #[.slice A1_0 l1_0.length c1_0],.int .i64 t3] rfl lm_ ?_;(with_reducible refine (laws_szHeap.calls _ _ l1_0 t3 t4 _ ?side1 ?side2 A11.1).mono ?_);(case side1=>exact cc_ (Kd.C_below HR1_0.1 HB.1));(case side2=>exact HC1_0.1);rintro e w149 ⟨rfl,hb⟩;refine ⟨_,rfl,?_⟩;have n0_:=a0_ (blk_below (bb_ BK1.1) hb);have n1_:=a0_ (blk_below (bb_ BK2.1) hb);have n2_:=a0_ (below_step hb_ hb);clear BK1 BK2 HB;have BK1:=n0_;have BK2:=n1_;have HB:=n2_;clear n0_ n1_ n2_;(try clear hb);(try clear hb2);(try clear hk);(try clear hi)))
    have n0_:=a0_ (blk_drew BK1.1)
    have n1_:=a0_ (blk_drew BK2.1)
    have n2_:=a0_ (below_drew1 HB.1)
    clear BK1
    clear BK2
    clear HB
    have BK1:=n0_
    have BK2:=n1_
    have HB:=n2_
    clear n0_ n1_ n2_
    refine start_ (n:=7) (S:=fun w'=>w'.cell? ⟨gb1,0,none⟩ = some (.slice A0_0 l0_0.length c0_0) ∧ w'.cell? ⟨gb2,0,none⟩ = some (.slice A1_0 l1_0.length c1_0)) (ds:=[]) #[false,false,false,false,false,false,false] (by kernel_rfl) rfl rfl ⟨(blk_cell BK1.1 0).trans rfl,(blk_cell BK2.1 0).trans rfl⟩ (fun hHeld=>?_)
    generalize w149.drew = w150 at BK1 BK2 HB hHeld ⊢
    refine pure_ (i:=4) (N:=some 26) (v:=?_) (a':=?_) #[false,false,false,false,true,false,false] rfl rfl (by kernel_rfl) (fun _ _ _ h=>h) (Or.inl ⟨by rfl,?_⟩) ?_ ?_
    rotate_left
    ·intro w'
     go_simp
     with_reducible rfl
    rotate_left
    ·simp only [Act.put,s1_,s2_,s3_,i64_w,i32_w]
     rfl
    refine take_ (i:=0) (N:=some 22) (v:=?_) (a':=?_) #[true,false,false,false,true,false,false] rfl rfl (by kernel_rfl) (fun _ _ _ h=>h) (Or.inl ⟨by rfl,?_⟩) hHeld ?_ ?_
    rotate_left
    ·rintro w' ⟨s0,s1⟩
     go_simp
     with_reducible rfl
    rotate_left
    ·simp only [Act.put,s1_,s2_,s3_,i64_w,i32_w]
     rfl
    refine take_ (i:=2) (N:=some 24) (v:=?_) (a':=?_) #[true,false,true,false,true,false,false] rfl rfl (by kernel_rfl) (fun _ _ _ h=>h) (Or.inl ⟨by rfl,?_⟩) hHeld ?_ ?_
    rotate_left
    ·rintro w' ⟨s0,s1⟩
     go_simp
     with_reducible rfl
    rotate_left
    ·simp only [Act.put,s1_,s2_,s3_,i64_w,i32_w]
     rfl
    refine one_ (i:=1) (N:=some 23) #[true,true,true,false,true,false,false] rfl rfl (by kernel_rfl) (by decide) (fun K hK=>?_)
    refine goes_ Try.func17 (by kernel_rfl) rfl #[.agg #[.slice A0_0 l0_0.length c0_0]] (by rfl) rfl rfl lm_ ?_
    with_reducible refine (laws_toTree.calls k _ _ l0_0 t5 _ ?side1 ?side2 A20.1).mono ?_
    (case side1=>exact cc_ (Kd.C_below HR0_0.1 HB.1))
    (case side2=>exact HC0_0.1)
    rintro e w151 ⟨v6,rfl,ho0,hb⟩
    refine ⟨_,rfl,?_⟩
    have n0_:=a0_ (Kd.R_lower ho0 (below_size hb_))
    have n1_:=a0_ (blk_below (bb_ BK1.1) hb)
    have n2_:=a0_ (blk_below (bb_ BK2.1) hb)
    have n3_:=a0_ (below_step hb_ hb)
    clear BK1
    clear BK2
    clear HB
    have HO7:=n0_
    have BK1:=n1_
    have BK2:=n2_
    have HB:=n3_
    clear n0_ n1_ n2_ n3_
    (try clear hb)
    (try clear hb2)
    (try clear hk)
    (try clear hi)
    (try clear ho0)
    refine hK.out _ _ ⟨(blk_cell BK1.1 0).trans rfl,(blk_cell BK2.1 0).trans rfl⟩ (fun hHeld=>?_)
    clear hK K
    refine norm_ (a':=?_) ?_ ?_
    rotate_left
    ·show Act.put _ (some 23) _ = _
     simp only [Act.put,s1_,s2_,s3_,i64_w,i32_w]
     rfl
    refine one_ (i:=3) (N:=some 25) #[true,true,true,true,true,false,false] rfl rfl (by kernel_rfl) (by decide) (fun K hK=>?_)
    refine goes_ Try.func18 (by kernel_rfl) rfl #[.agg #[.slice A1_0 l1_0.length c1_0]] (by rfl) rfl rfl lm_ ?_
    with_reducible refine (laws_toHeap.calls k _ _ l1_0 t8 _ ?side1 ?side2 A21.1).mono ?_
    (case side1=>exact cc_ (Kd.C_below HR1_0.1 HB.1))
    (case side2=>exact HC1_0.1)
    rintro e w152 ⟨v9,rfl,ho0,hb⟩
    refine ⟨_,rfl,?_⟩
    have n0_:=a0_ (Kd.R_below (rr_ HO7.1) hb)
    have n1_:=a0_ (Kd.R_lower ho0 (below_size hb_))
    have n2_:=a0_ (blk_below (bb_ BK1.1) hb)
    have n3_:=a0_ (blk_below (bb_ BK2.1) hb)
    have n4_:=a0_ (below_step hb_ hb)
    clear HO7
    clear BK1
    clear BK2
    clear HB
    have HO7:=n0_
    have HO10:=n1_
    have BK1:=n2_
    have BK2:=n3_
    have HB:=n4_
    clear n0_ n1_ n2_ n3_ n4_
    (try clear hb)
    (try clear hb2)
    (try clear hk)
    (try clear hi)
    (try clear ho0)
    obtain ⟨Ao153,co153,eo153⟩:=Kd.R_slice HO7.1
    (first | subst eo153 | (injection eo153 with f1_ f2_ f3_;have f4_:=f1_.symm;have f5_:=f3_.symm;clear f1_ f2_ f3_;subst f4_;subst f5_))
    obtain ⟨Ao154,co154,eo154⟩:=Kd.R_slice HO10.1
    (first | subst eo154 | (injection eo154 with f1_ f2_ f3_;have f4_:=f1_.symm;have f5_:=f3_.symm;clear f1_ f2_ f3_;subst f4_;subst f5_))
    refine hK.out _ _ ⟨(blk_cell BK1.1 0).trans rfl,(blk_cell BK2.1 0).trans rfl⟩ (fun hHeld=>?_)
    clear hK K
    refine norm_ (a':=?_) ?_ ?_
    rotate_left
    ·show Act.put _ (some 25) _ = _
     simp only [Act.put,s1_,s2_,s3_,i64_w,i32_w]
     rfl
    refine one_ (i:=5) (N:=some 27) #[true,true,true,true,true,true,false] rfl rfl (by kernel_rfl) (by decide) (fun K hK=>?_)
    refine goes_ Try.func24 (by kernel_rfl) rfl #[.agg #[.slice Ao153 t5.length co153],.agg #[.slice Ao154 t8.length co154],.int .i64 a2] (by rfl) rfl rfl lm_ ?_
    with_reducible refine (spec_OldestShown.calls k _ _ t5 _ _ t8 a2 t11 _ ?side1 ?side2 ?side3 ?side4 A22.1).mono ?_
    (case side1=>repeat (first | exact (Kd.R_reads' HO7.1).2.2 | (with_reducible refine Kd.C_alloc ?_ _) | (with_reducible refine Kd.C_drewN ?_ _) | (with_reducible refine Kd.C_drew ?_)))
    (case side2=>exact (Kd.R_reads' HO7.1).2.1)
    (case side3=>repeat (first | exact (Kd.R_reads' HO10.1).2.2 | (with_reducible refine Kd.C_alloc ?_ _) | (with_reducible refine Kd.C_drewN ?_ _) | (with_reducible refine Kd.C_drew ?_)))
    (case side4=>exact (Kd.R_reads' HO10.1).2.1)
    rintro e w155 ⟨rfl,hb⟩
    refine ⟨_,rfl,?_⟩
    have n0_:=a0_ (Kd.R_below (rr_ HO7.1) hb)
    have n1_:=a0_ (Kd.R_below (rr_ HO10.1) hb)
    have n2_:=a0_ (blk_below (bb_ BK1.1) hb)
    have n3_:=a0_ (blk_below (bb_ BK2.1) hb)
    have n4_:=a0_ (below_step hb_ hb)
    clear HO7
    clear HO10
    clear BK1
    clear BK2
    clear HB
    have HO7:=n0_
    have HO10:=n1_
    have BK1:=n2_
    have BK2:=n3_
    have HB:=n4_
    clear n0_ n1_ n2_ n3_ n4_
    (try clear hb)
    (try clear hb2)
    (try clear hk)
    (try clear hi)
    refine hK.out _ _ ⟨(blk_cell BK1.1 0).trans rfl,(blk_cell BK2.1 0).trans rfl⟩ (fun hHeld=>?_)
    clear hK K
    refine norm_ (a':=?_) ?_ ?_
    rotate_left
    ·show Act.put _ (some 27) _ = _
     simp only [Act.put,s1_,s2_,s3_,i64_w,i32_w]
     rfl
    refine pure_ (i:=6) (N:=some 8) (v:=?_) (a':=?_) #[true,true,true,true,true,true,true] rfl rfl (by kernel_rfl) (fun _ _ _ h=>h) (Or.inl ⟨by rfl,?_⟩) ?_ ?_
    rotate_left
    ·intro w'
     go_simp
     with_reducible rfl
    rotate_left
    ·simp only [Act.put,s1_,s2_,s3_,i64_w,i32_w]
     rfl
    refine done_ (by kernel_rfl) ?_
    have hcz156_0 : w155.cell? ⟨gb1,0,none⟩ = some (.slice A0_0 l0_0.length c0_0):=(blk_cell BK1.1 0).trans rfl
    have hfz156_0:=blk_frozen BK1.1 0
    try go_wp2_with (first | ((with_reducible refine gate_callee (f:=17) rfl ?_);refine goesL_ (some 29) rfl rfl Try.func17 (by kernel_rfl) rfl #[.agg #[.slice A0_0 l0_0.length c0_0]] rfl lm_ ?_;(with_reducible refine (laws_toTree.calls k _ _ l0_0 t12 _ ?side1 ?side2 A23.1).mono ?_);(case side1=>exact cc_ (Kd.C_below HR0_0.1 HB.1));(case side2=>exact HC0_0.1);rintro e w157 ⟨v13,rfl,ho0,hb⟩;refine ⟨_,rfl,?_⟩;have n0_:=a0_ (Kd.R_elder' (rr_ HO7.1) (Kd.R_base ho0) hb);have n1_:=a0_ (Kd.R_below (rr_ HO10.1) hb);have n2_:=a0_ (Kd.R_lower (Kd.R_new' ho0 (Kd.R_lt (rr_ HO7.1))) (below_size hb_));have n3_:=a0_ (blk_below (bb_ BK1.1) hb);have n4_:=a0_ (blk_below (bb_ BK2.1) hb);have n5_:=a0_ (below_step hb_ hb);clear HO7 HO10;clear BK1 BK2 HB;have HO7:=n0_;have HO10:=n1_;have HO14:=n2_;have BK1:=n3_;have BK2:=n4_;have HB:=n5_;clear n0_ n1_ n2_ n3_ n4_ n5_;(try clear hb);(try clear hb2);(try clear hk);(try clear hi);(try clear ho0)) | ((with_reducible refine gate_dst (N:=9) rfl ?_);refine box_event ?hg (N:=9) ?hd (cs:=#[.slice none 0 0]) (t:=33) ?hr ?_;(case hd=>rfl);(case hg=>rfl);(case hr=>first | (go_simp;done) | (go_simp;rfl));intro gb15 hg w158 hbox hb;have n0_:=a0_ (Kd.R_below (rr_ HO7.1) hb);have n1_:=a0_ (Kd.R_below (rr_ HO10.1) hb);have n2_:=a0_ (Kd.R_below (rr_ HO14.1) hb);have n3_:=a0_ (blk_below (bb_ BK1.1) hb);have n4_:=a0_ (blk_below (bb_ BK2.1) hb);have n5_:=a0_ (below_step hb_ hb);have n6_:=a0_ (hbox);have n7_:=a0_ ((by rw [hg];exact (below_size hb_) : w.heap.size ≤ gb15));have n8_:=a0_ ((by rw [hg];exact (below_size hb_) : w.heap.size ≤ gb15));have n9_:=a0_ ((by rw [hg];exact Nat.ne_of_lt (blk_lt (bb_ BK1.1)) : gb1 ≠ gb15));have n10_:=a0_ ((by rw [hg];exact Nat.ne_of_gt (blk_lt (bb_ BK1.1)) : gb15 ≠ gb1));have n11_:=a0_ ((by rw [hg];exact Nat.ne_of_lt (blk_lt (bb_ BK2.1)) : gb2 ≠ gb15));have n12_:=a0_ ((by rw [hg];exact Nat.ne_of_gt (blk_lt (bb_ BK2.1)) : gb15 ≠ gb2));clear HO7 HO10;clear HO14 BK1;clear BK2 HB;have HO7:=n0_;have HO10:=n1_;have HO14:=n2_;have BK1:=n3_;have BK2:=n4_;have HB:=n5_;have BK15:=n6_;have GW15:=n7_;have GE15:=n8_;have NB1_15:=n9_;have NB15_1:=n10_;have NB2_15:=n11_;have NB15_2:=n12_;clear n0_ n1_ n2_ n3_ n4_ n5_ n6_ n7_ n8_ n9_ n10_ n11_ n12_;clear hb hbox hg;obtain ⟨Ao159,co159,eo159⟩:=Kd.R_slice HO14.1;subst eo159;have hnb160:=NB15_1.1;have hnc160:=NB1_15.1;have hnb161:=NB15_2.1;have hnc161:=NB2_15.1;have hcz162_0 : w158.cell? ⟨gb15,0,none⟩ = some (.slice none 0 0):=(blk_cell BK15.1 0).trans rfl;have hfz162_0:=blk_frozen BK15.1 0;have hcz163_0 : w158.cell? ⟨gb2,0,none⟩ = some (.slice A1_0 l1_0.length c1_0):=(blk_cell BK2.1 0).trans rfl;have hfz163_0:=blk_frozen BK2.1 0) | ((with_reducible refine gate_callee (f:=18) rfl ?_);refine goesL_ (some 31) rfl rfl Try.func18 (by kernel_rfl) rfl #[.agg #[.slice A1_0 l1_0.length c1_0]] rfl lm_ ?_;(with_reducible refine (laws_toHeap.calls k _ _ l1_0 t16 _ ?side1 ?side2 A24.1).mono ?_);(case side1=>exact Kd.C_below HR1_0.1 hb_);(case side2=>exact HC1_0.1);rintro e w164 ⟨v17,rfl,ho0,hb⟩;refine ⟨_,rfl,?_⟩;have n0_:=a0_ (Kd.R_below (by (with_reducible repeat (first | apply Kd.R_alloc | apply Kd.R_drewN | apply Kd.R_drew));exact (Kd.R_mono (Kd.R_far (p:=⟨gb15,0,none⟩) (Kd.R_types HO7.1 BK15.1 (by decide)) (fun _ hk=>hk.2) (.slice Ao159 t12.length co159)) (fun _ h_=>h_.1))) hb);have n1_:=a0_ (Kd.R_elder' (by (with_reducible repeat (first | apply Kd.R_alloc | apply Kd.R_drewN | apply Kd.R_drew));exact (Kd.R_mono (Kd.R_far (p:=⟨gb15,0,none⟩) (Kd.R_types HO10.1 BK15.1 (by decide)) (fun _ hk=>hk.2) (.slice Ao159 t12.length co159)) (fun _ h_=>h_.1))) (Kd.R_base ho0) hb);have n2_:=a0_ (Kd.R_below (by (with_reducible repeat (first | apply Kd.R_alloc | apply Kd.R_drewN | apply Kd.R_drew));exact (Kd.R_mono (Kd.R_far (p:=⟨gb15,0,none⟩) (Kd.R_types HO14.1 BK15.1 (by decide)) (fun _ hk=>hk.2) (.slice Ao159 t12.length co159)) (fun _ h_=>h_.1))) hb);have n3_:=a0_ (Kd.R_lower (Kd.R_new' ho0 (Kd.R_lt (by (with_reducible repeat (first | apply Kd.R_alloc | apply Kd.R_drewN | apply Kd.R_drew));exact (Kd.R_mono (Kd.R_far (p:=⟨gb15,0,none⟩) (Kd.R_types HO10.1 BK15.1 (by decide)) (fun _ hk=>hk.2) (.slice Ao159 t12.length co159)) (fun _ h_=>h_.1))))) (below_size hb_));have n4_:=a0_ (blk_below (g:=gb1) (o:=.cells #[.slice A0_0 l0_0.length c0_0] 24 (0,0)) (by (with_reducible repeat (first | refine blk_drewN ?_ _ | refine blk_drew ?_ | refine blk_alloc ?_ _));refine blk_far ?_ NB1_15.1 _;(with_reducible repeat (first | refine blk_drewN ?_ _ | refine blk_drew ?_ | refine blk_alloc ?_ _));exact BK1.1) hb);have n5_:=a0_ (blk_below (g:=gb2) (o:=.cells #[.slice A1_0 l1_0.length c1_0] 27 (0,0)) (by (with_reducible repeat (first | refine blk_drewN ?_ _ | refine blk_drew ?_ | refine blk_alloc ?_ _));refine blk_far ?_ NB2_15.1 _;(with_reducible repeat (first | refine blk_drewN ?_ _ | refine blk_drew ?_ | refine blk_alloc ?_ _));exact BK2.1) hb);have n6_:=a0_ (blk_below (g:=gb15) (o:=.cells #[.slice Ao159 t12.length co159] 33 (0,0)) (by (with_reducible repeat (first | refine blk_drewN ?_ _ | refine blk_drew ?_ | refine blk_alloc ?_ _));refine blk_put (cs:=#[.slice none 0 0]) ?_ 0 _ rfl;(with_reducible repeat (first | refine blk_drewN ?_ _ | refine blk_drew ?_ | refine blk_alloc ?_ _));exact BK15.1) hb);have n7_:=a0_ (below_step hb_ hb);clear HO7 HO10;clear HO14 BK1;clear BK2 BK15 HB;have HO7:=n0_;have HO10:=n1_;have HO14:=n2_;have HO18:=n3_;have BK1:=n4_;have BK2:=n5_;have BK15:=n6_;have HB:=n7_;clear n0_ n1_ n2_ n3_ n4_ n5_ n6_ n7_;(try clear hb);(try clear hb2);(try clear hk);(try clear hi);(try clear ho0)) | ((with_reducible refine gate_dst (N:=10) rfl ?_);refine box_event ?hg (N:=10) ?hd (cs:=#[.slice none 0 0]) (t:=37) ?hr ?_;(case hd=>rfl);(case hg=>rfl);(case hr=>first | (go_simp;done) | (go_simp;rfl));intro gb19 hg w165 hbox hb;have n0_:=a0_ (Kd.R_below (rr_ HO7.1) hb);have n1_:=a0_ (Kd.R_below (rr_ HO10.1) hb);have n2_:=a0_ (Kd.R_below (rr_ HO14.1) hb);have n3_:=a0_ (Kd.R_below (rr_ HO18.1) hb);have n4_:=a0_ (blk_below (bb_ BK1.1) hb);have n5_:=a0_ (blk_below (bb_ BK2.1) hb);have n6_:=a0_ (blk_below (bb_ BK15.1) hb);have n7_:=a0_ (below_step hb_ hb);have n8_:=a0_ (hbox);have n9_:=a0_ ((by rw [hg];exact (below_size hb_) : w.heap.size ≤ gb19));have n10_:=a0_ ((by rw [hg];exact (below_size hb_) : w.heap.size ≤ gb19));have n11_:=a0_ ((by rw [hg];exact Nat.ne_of_lt (blk_lt (bb_ BK1.1)) : gb1 ≠ gb19));have n12_:=a0_ ((by rw [hg];exact Nat.ne_of_gt (blk_lt (bb_ BK1.1)) : gb19 ≠ gb1));have n13_:=a0_ ((by rw [hg];exact Nat.ne_of_lt (blk_lt (bb_ BK2.1)) : gb2 ≠ gb19));have n14_:=a0_ ((by rw [hg];exact Nat.ne_of_gt (blk_lt (bb_ BK2.1)) : gb19 ≠ gb2));have n15_:=a0_ ((by rw [hg];exact Nat.ne_of_lt (blk_lt (bb_ BK15.1)) : gb15 ≠ gb19));have n16_:=a0_ ((by rw [hg];exact Nat.ne_of_gt (blk_lt (bb_ BK15.1)) : gb19 ≠ gb15));clear HO7 HO10;clear HO14 HO18;clear BK1 BK2;clear BK15 HB;have HO7:=n0_;have HO10:=n1_;have HO14:=n2_;have HO18:=n3_;have BK1:=n4_;have BK2:=n5_;have BK15:=n6_;have HB:=n7_;have BK19:=n8_;have GW19:=n9_;have GE19:=n10_;have NB1_19:=n11_;have NB19_1:=n12_;have NB2_19:=n13_;have NB19_2:=n14_;have NB15_19:=n15_;have NB19_15:=n16_;clear n0_ n1_ n2_ n3_ n4_ n5_ n6_ n7_ n8_ n9_ n10_ n11_ n12_ n13_ n14_ n15_ n16_;clear hb hbox hg;obtain ⟨Ao166,co166,eo166⟩:=Kd.R_slice HO18.1;subst eo166;have hnb167:=NB19_1.1;have hnc167:=NB1_19.1;have hnb168:=NB19_2.1;have hnc168:=NB2_19.1;have hnb169:=NB19_15.1;have hnc169:=NB15_19.1;have hcz170_0 : w165.cell? ⟨gb19,0,none⟩ = some (.slice none 0 0):=(blk_cell BK19.1 0).trans rfl;have hfz170_0:=blk_frozen BK19.1 0;have hcz171_0 : w165.cell? ⟨gb15,0,none⟩ = some (.slice Ao159 t12.length co159):=(blk_cell BK15.1 0).trans rfl;have hfz171_0:=blk_frozen BK15.1 0) | ((with_reducible refine gate_callee (f:=25) rfl ?_);refine goesL_ (some 35) rfl rfl Try.func25 (by kernel_rfl) rfl #[.agg #[.slice Ao159 t12.length co159],.agg #[.slice Ao166 t16.length co166],.int .i64 a2] rfl lm_ ?_;(with_reducible refine (impl_OldestShown.calls _ _ t12 _ _ t16 a2 t20 _ ?side1 ?side2 ?side3 ?side4 A25.1).mono ?_);(case side1=>refine (Kd.R_reads' (e:=106) (base:=w.heap.size) (ok:=fun k_=>(True ∧ some k_ ≠ (.slice Ao153 t5.length co153 : Value).ownBlock)) (n:=t12.length) (c:=co159) ?_).2.2;exact (by (with_reducible repeat (first | apply Kd.R_alloc | apply Kd.R_drewN | apply Kd.R_drew));exact (Kd.R_mono (Kd.R_far (p:=⟨gb19,0,none⟩) (Kd.R_types HO14.1 BK19.1 (by decide)) (fun _ hk=>hk.2) (.slice Ao166 t16.length co166)) (fun _ h_=>h_.1))));(case side2=>exact (Kd.R_reads' HO14.1).2.1);(case side3=>refine (Kd.R_reads' (e:=79) (base:=w.heap.size) (ok:=fun k_=>(True ∧ some k_ ≠ (.slice Ao154 t8.length co154 : Value).ownBlock)) (n:=t16.length) (c:=co166) ?_).2.2;exact (by (with_reducible repeat (first | apply Kd.R_alloc | apply Kd.R_drewN | apply Kd.R_drew));exact (Kd.R_mono (Kd.R_far (p:=⟨gb19,0,none⟩) (Kd.R_types HO18.1 BK19.1 (by decide)) (fun _ hk=>hk.2) (.slice Ao166 t16.length co166)) (fun _ h_=>h_.1))));(case side4=>exact (Kd.R_reads' HO18.1).2.1);rintro e w172 ⟨rfl,hb⟩;refine ⟨_,rfl,?_⟩;have n0_:=a0_ (Kd.R_below (by (with_reducible repeat (first | apply Kd.R_alloc | apply Kd.R_drewN | apply Kd.R_drew));exact (Kd.R_mono (Kd.R_far (p:=⟨gb19,0,none⟩) (Kd.R_types HO7.1 BK19.1 (by decide)) (fun _ hk=>hk.2) (.slice Ao166 t16.length co166)) (fun _ h_=>h_.1))) hb);have n1_:=a0_ (Kd.R_below (by (with_reducible repeat (first | apply Kd.R_alloc | apply Kd.R_drewN | apply Kd.R_drew));exact (Kd.R_mono (Kd.R_far (p:=⟨gb19,0,none⟩) (Kd.R_types HO10.1 BK19.1 (by decide)) (fun _ hk=>hk.2) (.slice Ao166 t16.length co166)) (fun _ h_=>h_.1))) hb);have n2_:=a0_ (Kd.R_below (by (with_reducible repeat (first | apply Kd.R_alloc | apply Kd.R_drewN | apply Kd.R_drew));exact (Kd.R_mono (Kd.R_far (p:=⟨gb19,0,none⟩) (Kd.R_types HO14.1 BK19.1 (by decide)) (fun _ hk=>hk.2) (.slice Ao166 t16.length co166)) (fun _ h_=>h_.1))) hb);have n3_:=a0_ (Kd.R_below (by (with_reducible repeat (first | apply Kd.R_alloc | apply Kd.R_drewN | apply Kd.R_drew));exact (Kd.R_mono (Kd.R_far (p:=⟨gb19,0,none⟩) (Kd.R_types HO18.1 BK19.1 (by decide)) (fun _ hk=>hk.2) (.slice Ao166 t16.length co166)) (fun _ h_=>h_.1))) hb);have n4_:=a0_ (blk_below (g:=gb1) (o:=.cells #[.slice A0_0 l0_0.length c0_0] 24 (0,0)) (by (with_reducible repeat (first | refine blk_drewN ?_ _ | refine blk_drew ?_ | refine blk_alloc ?_ _));refine blk_far ?_ NB1_19.1 _;(with_reducible repeat (first | refine blk_drewN ?_ _ | refine blk_drew ?_ | refine blk_alloc ?_ _));exact BK1.1) hb);have n5_:=a0_ (blk_below (g:=gb2) (o:=.cells #[.slice A1_0 l1_0.length c1_0] 27 (0,0)) (by (with_reducible repeat (first | refine blk_drewN ?_ _ | refine blk_drew ?_ | refine blk_alloc ?_ _));refine blk_far ?_ NB2_19.1 _;(with_reducible repeat (first | refine blk_drewN ?_ _ | refine blk_drew ?_ | refine blk_alloc ?_ _));exact BK2.1) hb);have n6_:=a0_ (blk_below (g:=gb15) (o:=.cells #[.slice Ao159 t12.length co159] 33 (0,0)) (by (with_reducible repeat (first | refine blk_drewN ?_ _ | refine blk_drew ?_ | refine blk_alloc ?_ _));refine blk_far ?_ NB15_19.1 _;(with_reducible repeat (first | refine blk_drewN ?_ _ | refine blk_drew ?_ | refine blk_alloc ?_ _));exact BK15.1) hb);have n7_:=a0_ (blk_below (g:=gb19) (o:=.cells #[.slice Ao166 t16.length co166] 37 (0,0)) (by (with_reducible repeat (first | refine blk_drewN ?_ _ | refine blk_drew ?_ | refine blk_alloc ?_ _));refine blk_put (cs:=#[.slice none 0 0]) ?_ 0 _ rfl;(with_reducible repeat (first | refine blk_drewN ?_ _ | refine blk_drew ?_ | refine blk_alloc ?_ _));exact BK19.1) hb);have n8_:=a0_ (below_step hb_ hb);clear HO7 HO10;clear HO14 HO18;clear BK1 BK2;clear BK15 BK19 HB;have HO7:=n0_;have HO10:=n1_;have HO14:=n2_;have HO18:=n3_;have BK1:=n4_;have BK2:=n5_;have BK15:=n6_;have BK19:=n7_;have HB:=n8_;clear n0_ n1_ n2_ n3_ n4_ n5_ n6_ n7_ n8_;(try clear hb);(try clear hb2);(try clear hk);(try clear hi)))
    go_ret
    exact ⟨by first | rfl | (simp [errW_none,errW_some] <;> rfl) | (simp [*,errW_none,errW_some] <;> rfl),hb_⟩
end Go.Proofs.Ytfhcfhffmblacaa.P
namespace Go.Proofs.Ytfhcfhffmblacaa.Pure
open Go.RowKit Go.Proofs.Ytfhcfhffmblacaa.P
set_option linter.unusedVariables false
theorem FnExactOldestShown (l0_0 : List S103) (l1_0 : List S109) (a2 : Int) (G0_0 : (l0_0.length ≤ maxLen ∧ ∀ x ∈ l0_0,(x.f0.size ≤ maxLen ∧ (Lit.int .i64 x.f1).wf = true))) (G1_0 : (l1_0.length ≤ maxLen ∧ ∀ x ∈ l1_0,((Lit.int .i64 x.f0).wf = true ∧ (Lit.int .i64 x.f1).wf = true ∧ (Lit.int .i64 x.f2).wf = true ∧ (Lit.int .i64 x.f3).wf = true ∧ True))) (w2 : (Lit.int .i64 a2).wf = true) : ∃ k,laws_FnExactOldestShown.f k l0_0 l1_0 a2 = some true:=by
 have hmax : maxLen = 9223372036854775807:=by decide
 rw [hmax] at G0_0 G1_0
 refine Ev.out (F:=fun k=>laws_FnExactOldestShown.f k l0_0 l1_0 a2) ?_
 unfold laws_FnExactOldestShown.f
 obtain ⟨v0,hv0,hg0⟩:=laws_szTree_ev l0_0 1048576 (by omega) (by omega) G0_0.1 (fun x hx=>(G0_0.2 x hx).1)
 refine Ev.bind hv0 ?_
 by_cases hn0 : v0 < 0
 ·exact Ev.pos hn0 (Ev.const rfl)
 refine Ev.neg hn0 ?_
 obtain ⟨hva0,hl0,hs⟩:=hg0 (by omega)
 obtain ⟨v1,hv1,hg1⟩:=laws_szHeap_ev l1_0 v0 (by omega) (by omega) G1_0.1
 refine Ev.bind hv1 ?_
 by_cases hn1 : v1 < 0
 ·exact Ev.pos hn1 (Ev.const rfl)
 refine Ev.neg hn1 ?_
 obtain ⟨hva1,hl1⟩:=hg1 (by omega)
 have hT0:=laws_toTree_ev l0_0 (by omega)
 have hm0 : (l0_0.map toC).length ≤ 1048576:=by rw [List.length_map];omega
 have hT1:=laws_toHeap_ev l1_0 (by omega)
 have hm1 : (l1_0.map toFault).length ≤ 1048576:=by rw [List.length_map];omega
 have hsm:=smT_of hs
 have hS : Ev (fun k=>spec_OldestShown.f k (l0_0.map toC) (l1_0.map toFault) a2) (oldP (l0_0.map toC) (l1_0.map toFault) a2):=spec_OldestShown_ev (l0_0.map toC) (l1_0.map toFault) a2 hsm (by omega) (by omega)
 have hG : Ev (fun k=>impl_OldestShown.f (l0_0.map toC) (l1_0.map toFault) a2) (oldP (l0_0.map toC) (l1_0.map toFault) a2):=Ev.const (impl_OldestShown_ev (l0_0.map toC) (l1_0.map toFault) a2 hsm (by omega))
 generalize oldP (l0_0.map toC) (l1_0.map toFault) a2 = r at hS hG
 refine Ev.bind hT0 (Ev.bind hT1 (Ev.bind hS (Ev.bind hT0 (Ev.bind hT1 (Ev.bind hG (Ev.pos rfl ?_))))))
 exact Ev.bind hT0 (Ev.bind (laws_eqTree_ev _ (by omega)) (Ev.pos rfl (Ev.bind hT1 (Ev.bind (laws_eqHeap_ev _ (by omega)) (Ev.pos rfl (Ev.const rfl))))))
end Go.Proofs.Ytfhcfhffmblacaa.Pure
