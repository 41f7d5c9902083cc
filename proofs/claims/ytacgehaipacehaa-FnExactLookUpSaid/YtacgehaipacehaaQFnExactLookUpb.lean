/- Texts under the proof of FnExactLookUp: helper words, the functions' contracts and the plain laws. No condition. -/
import Derived.Test.YtacgehaipacehaaQFnExactLookUpa
import Derived.LoopIn
import Derived.LoopNIn
import Derived.OwnWalkIn
import Derived.RangeFuncBound
import Derived.RangeFuncBox
import Derived.RangeFuncCalls
import Derived.RangeFuncLeaves
import Derived.RangeFuncNested
import Derived.Shelf.RegionOpen
import Derived.TacticsInMore
import Derived.WalkKit
namespace Go.Proofs.Ytacgehaipacehaa.P
open Go.RowKit Go.Proofs.YtacgehaipacehaaW.PrintWords Go.Proofs.YtacgehaipacehaaW.PrintLast Go.Proofs.YtacgehaipacehaaW.PrintMore
attribute [local go_sem] max2_int min2_int max_two min_two max_three min_three max_four min_four
set_option linter.unusedVariables false
set_option linter.unusedSimpArgs false
def laws_toRangeS.l0 : Nat → List (S99) → List (S95) → Int → Option ((List (S95)))
 | 0,_,_,_=>none
 | k + 1,x0,x3,x4=>if x4 < (x0.length : Int) then (if 0 ≤ x4 then ((laws_toRange.f ((rd_T99 x0 x4).f0) ((rd_T99 x0 x4).f1) ((rd_T99 x0 x4).f2) ((rd_T99 x0 x4).f3)).bind fun bt5=>(if x4 < (x3.length : Int) then (laws_toRangeS.l0 k x0 (x3.set (x4 : Int).toNat (⟨bt5.1,bt5.2.1,bt5.2.2.1,bt5.2.2.2⟩ : S95)) (wrap64 (x4 + 1))) else (none))) else (none)) else (some x3)
def laws_toRangeS.f (k : Nat) (l0 : List (S99)) : Option ((List (S95))):=if 0 ≤ (l0.length : Int) then (if ((l0.length : Int) : Int).toNat ≤ 8796093022208 then (laws_toRangeS.l0 k l0 (List.replicate ((l0.length : Int) : Int).toNat z95) 0) else (none)) else (none)
theorem laws_toRangeS.mono_l : ∀ k,(∀ y0 y1 y2,LeO (laws_toRangeS.l0 k y0 y1 y2) (laws_toRangeS.l0 (k + 1) y0 y1 y2))
 | 0=>fun _ _ _ r h=>by simp [laws_toRangeS.l0] at h
 | k + 1=>by
  have ih0:=laws_toRangeS.mono_l k
  ·intro y0 y1 y2
   unfold laws_toRangeS.l0
   repeat' first
   | (with_reducible exact ih0 _ _ _)
   | (with_reducible exact LeO.refl _)
   | (with_reducible exact LeO.none _)
   | (with_reducible refine LeO.ite ?_ ?_)
   | (with_reducible refine LeO.bind ?_ (fun _=>?_))
   | exact ih0 _ _ _
   | exact LeO.none _
   | refine LeO.ite ?_ ?_
   | refine LeO.bind ?_ (fun _=>?_)
theorem laws_toRangeS.mono : ∀ a0 k,LeO (laws_toRangeS.f k a0) (laws_toRangeS.f (k + 1) a0):=by
 intro a0 k
 have ih0:=laws_toRangeS.mono_l k
 unfold laws_toRangeS.f
 repeat' first
   | (with_reducible exact ih0 _ _ _)
   | (with_reducible exact LeO.refl _)
   | (with_reducible exact LeO.none _)
   | (with_reducible refine LeO.ite ?_ ?_)
   | (with_reducible refine LeO.bind ?_ (fun _=>?_))
   | exact ih0 _ _ _
   | exact LeO.none _
   | refine LeO.ite ?_ ?_
   | refine LeO.bind ?_ (fun _=>?_)
set_option maxHeartbeats 8000000 in
set_option maxRecDepth 100000 in
theorem laws_toRangeS.calls (k : Nat) (A0 : Option Addr) (c0 : Nat) (l0 : List (S99)) (r : List (S95)) (w : World) (hr0 : Kd.C k99 w A0 l0.length l0) (hc0 : l0.length ≤ c0) (h : laws_toRangeS.f k l0 = some r) :
  Calls Try.prog 25 #[.slice A0 l0.length c0] w fun e w'=>∃ v0_ : Value,e = .returned (v0_) ∧ Kd.R k95 95 w' w.heap.size (fun _=>True) v0_ r ∧ Below w.heap.size w w':=by
 have hu99:=Try.underlying99
 have hu95:=Try.underlying95
 have HR0:=a0_ hr0
 have HC0:=a0_ hc0
 clear hr0 hc0
 have HB:=a0_ (Below.refl w.heap.size w)
 have H : (if 0 ≤ (l0.length : Int) then (if ((l0.length : Int) : Int).toNat ≤ 8796093022208 then (laws_toRangeS.l0 k l0 (List.replicate ((l0.length : Int) : Int).toNat z95) 0) else (none)) else (none)) = some r:=h
 clear h
 by_cases c2 : 0 ≤ (l0.length : Int)
 ·rw [if_pos c2] at H
  have c2b0:=eq_true c2
  have c2b1 : decide (0 ≤ (l0.length : Int)) = true:=decide_eq_true c2
  clear c2
  by_cases c3 : ((l0.length : Int) : Int).toNat ≤ 8796093022208
  ·rw [if_pos c3] at H
   have c3b0:=eq_true c3
   have c3b1 : decide (((l0.length : Int) : Int).toNat ≤ 8796093022208) = true:=decide_eq_true c3
   clear c3
   obtain ⟨y1,hy1⟩ : ∃ y_ : List (S95),y_ = (List.replicate ((l0.length : Int) : Int).toNat z95):=⟨_,rfl⟩
   replace H : (laws_toRangeS.l0 k l0 y1 0) = some r:=by first | (rw [hy1];with_reducible exact H) | (have H2_:=(Option.bind_some _ _).symm.trans H;rw [hy1];with_reducible exact H2_) | (have H2_:=(Option.bind_some _ _).symm.trans H;with_reducible exact H2_) | with_reducible exact H | (rw [hy1];exact H) | exact H
   have Ny1:=a0_ hy1
   clear hy1
   have H':=a0_ H
   clear H
   go_enter Try.func25,Try.ntmps25
   go_wp2_with (first | ((with_reducible refine gate_dst (N:=7) rfl ?_);refine Kd.R_make k95 _ 95 rfl (N:=7) rfl 44 _ _ rfl (l0.length : Int) rfl rfl Try.underlying44 (.agg #[(.int .i64 0),(.int .i64 0),(.int .i64 0),(.int .i64 0)]) 32 info95 rfl (by decide) (by omega) z95 (ok:=fun _=>True) (okp:=fun _=>True) (k95_mkM _ _ _ z95 ) (fun _ hk=>hk) trivial (of_decide_eq_true (by first | (with_reducible assumption) | assumption)) (Nat.le_trans (Nat.mul_le_mul_right _ (of_decide_eq_true (by first | (with_reducible assumption) | assumption) : (l0.length : Int).toNat ≤ 8796093022208)) (by omega)) (Below.refl _ _) (Nat.le_refl _) ?_;intro v2 w4 ho5 hb hg_ hnew_;clear hg_ hnew_;(first | rw [← Ny1.out] at ho5 | (simp only [Int.reduceToNat] at ho5;rw [← Ny1.out] at ho5));have HO3:=a0_ (Kd.R_lower ho5 (below_size hbw_));replace HB:=a0_ (below_step hbw_ hb);clear hb ho5))
   go_loopg [4] k (fun kq v4 w'=>∃ (x3_1 : List (S95)) (x4_1 : Int),v4 = .int .i64 x4_1 ∧ Aside0 (laws_toRangeS.l0 kq l0 x3_1 x4_1 = some r) ∧ Aside0 (kq ≤ k) ∧ Aside0 (Kd.R k95 95 w' w.heap.size (fun _=>True) v2 x3_1) ∧ Aside0 (Below w.heap.size w w'))
   case atStart=>exact ⟨(y1),(0),(by first | rfl | (simp;done) | (simp [*];done)),H',⟨Nat.le_refl _⟩,⟨by (with_reducible repeat (first | apply Kd.R_alloc | apply Kd.R_drewN | apply Kd.R_drew));exact HO3.out⟩,⟨hbw_⟩⟩
   case round =>
    clear H'
    try clear c2
    try clear c2b0
    try clear c2b1
    try clear p2
    try clear c3
    try clear c3b0
    try clear c3b1
    obtain ⟨x3_1,x4_1,rfl,HA,HK1,HO_3,HB⟩:=hrel
    cases gk with
    | zero=>exact absurd HA.out (by simp [laws_toRangeS.l0])
    | succ k1 =>
     have H:=HA.out
     clear HA
     simp only [laws_toRangeS.l0] at H
     by_cases c6 : x4_1 < (l0.length : Int)
     ·rw [if_pos c6] at H
      have c6b0 : decide (x4_1 < (l0.length : Int)) = true:=decide_eq_true c6
      clear c6
      by_cases c7 : 0 ≤ x4_1
      ·rw [if_pos c7] at H
       have c7b0 : decide (0 ≤ x4_1) = true:=decide_eq_true c7
       clear c7
       replace H:=Option.bind_eq_some_iff.mp H
       obtain ⟨⟨t5,t6,t7,t8⟩,A80,H⟩:=H
       try dsimp only at H
       have A8:=a0_ A80
       clear A80
       by_cases c9 : x4_1 < (x3_1.length : Int)
       ·rw [if_pos c9] at H
        have c9b0 : decide (x4_1 < (x3_1.length : Int)) = true:=decide_eq_true c9
        clear c9
        obtain ⟨y9,hy9⟩ : ∃ y_ : List (S95),y_ = (x3_1.set (x4_1 : Int).toNat (⟨t5,t6,t7,t8⟩ : S95)):=⟨_,rfl⟩
        replace H : (laws_toRangeS.l0 k1 l0 y9 (wrap64 (x4_1 + 1))) = some r:=by first | (rw [hy9];with_reducible exact H) | (have H2_:=(Option.bind_some _ _).symm.trans H;rw [hy9];with_reducible exact H2_) | (have H2_:=(Option.bind_some _ _).symm.trans H;with_reducible exact H2_) | with_reducible exact H | (rw [hy9];exact H) | exact H
        have Ny9:=a0_ hy9
        clear hy9
        have H':=a0_ H
        clear H
        have p4 : 0 ≤ (x4_1 : Int):=of_decide_eq_true (by first | (with_reducible assumption) | assumption)
        have q4 : x4_1 < (l0.length : Int):=of_decide_eq_true (by first | (with_reducible assumption) | assumption)
        obtain ⟨ad4,e4,hx4_0,hx4_1,hx4_2,hx4_3⟩:=at_T99 HR0.out x4_1 p4 q4
        cases e4
        replace hx4_0:=(HB.out.cell (World.block_lt_of_cell? w _ hx4_0)).trans hx4_0
        replace hx4_1:=(HB.out.cell (World.block_lt_of_cell? w _ hx4_1)).trans hx4_1
        replace hx4_2:=(HB.out.cell (World.block_lt_of_cell? w _ hx4_2)).trans hx4_2
        replace hx4_3:=(HB.out.cell (World.block_lt_of_cell? w _ hx4_3)).trans hx4_3
        replace p4:=eq_true p4
        replace q4:=eq_true q4
        go_wp2_with (first | ((with_reducible refine gate_callee (f:=73) rfl ?_);refine goesL_ (some 20) rfl rfl Try.func73 (by kernel_rfl) rfl #[.agg #[.int .i64 ((rd_T99 l0 x4_1).f0),.int .i64 ((rd_T99 l0 x4_1).f1),.int .i64 ((rd_T99 l0 x4_1).f2),.int .i64 ((rd_T99 l0 x4_1).f3)]] rfl lm_ ?_;(with_reducible refine (laws_toRange.calls ((rd_T99 l0 x4_1).f0) ((rd_T99 l0 x4_1).f1) ((rd_T99 l0 x4_1).f2) ((rd_T99 l0 x4_1).f3) t5 t6 t7 t8 _ A8.out).mono ?_);rintro e w11 ⟨rfl,hb⟩;refine ⟨_,rfl,?_⟩;replace HO_3:=rb_ HO_3 hb;replace HB:=a0_ (below_step hbw_ hb);(try clear hb);have p10 : 0 ≤ (x4_1 : Int):=of_decide_eq_true (by first | (with_reducible assumption) | assumption);have q10 : (x4_1 : Int) < ((x3_1.length : Int) : Int):=of_decide_eq_true (by first | (with_reducible assumption) | assumption);obtain ⟨go10,co10,eo10,gb10,gl10,cl10,HG10⟩:=Kd.R_form HO_3.out (by omega);(first | cases eo10 | (injection eo10 with ea_ en_ ec_;(first | subst ea_ | (injection ea_ with ea_;subst ea_));subst ec_;clear en_));have GB10:=a0_ gb10;have GG10:=a0_ HG10;clear gb10 gl10 HG10;obtain ⟨ce10,hcl10,hM10,hcc10,hfr10⟩:=Kd.R_elem HO_3.out z95 (x4_1 : Int) p10 q10;obtain rfl:=k95_openM hM10;have hx10_0 : w11.cell? ⟨go10,(x4_1 : Int).toNat * 4,none⟩ = some (.int .i64 ((rd_T95 x3_1 x4_1).f0)):=hcc10 0 _ rfl;have hx10_1 : w11.cell? ⟨go10,(x4_1 : Int).toNat * 4 + 1,none⟩ = some (.int .i64 ((rd_T95 x3_1 x4_1).f1)):=hcc10 1 _ rfl;have hx10_2 : w11.cell? ⟨go10,(x4_1 : Int).toNat * 4 + 2,none⟩ = some (.int .i64 ((rd_T95 x3_1 x4_1).f2)):=hcc10 2 _ rfl;have hx10_3 : w11.cell? ⟨go10,(x4_1 : Int).toNat * 4 + 3,none⟩ = some (.int .i64 ((rd_T95 x3_1 x4_1).f3)):=hcc10 3 _ rfl;have hf10_0 : w11.frozen? ⟨go10,(x4_1 : Int).toNat * 4,none⟩ = false:=hfr10 0;have hf10_1 : w11.frozen? ⟨go10,(x4_1 : Int).toNat * 4 + 1,none⟩ = false:=hfr10 1;have hf10_2 : w11.frozen? ⟨go10,(x4_1 : Int).toNat * 4 + 2,none⟩ = false:=hfr10 2;have hf10_3 : w11.frozen? ⟨go10,(x4_1 : Int).toNat * 4 + 3,none⟩ = false:=hfr10 3;clear hcl10 hcc10 hfr10 hM10;replace p10:=eq_true p10;replace q10:=eq_true q10;have HX12:=a0_ (show Kd.R k95 95 w11 w.heap.size (fun _=>True) (.slice (some ⟨go10,0,none⟩) x3_1.length co10) x3_1 from (rr_ HO_3.out));obtain ⟨ce12,hcl12,hM12,hcc12,hfr12⟩:=Kd.R_elem HX12.out z95 (x4_1 : Int) (of_decide_eq_true (by first | (with_reducible assumption) | assumption)) (by have h_ : (x4_1 : Int) < ((x3_1.length : Int) : Int):=of_decide_eq_true (by first | (with_reducible assumption) | assumption);first | exact h_ | (have e_:=(Kd.R_reads' HO_3.out).1;omega) | simpa using h_);obtain rfl:=k95_openM hM12;have HP12:=Kd.R_seg HX12.out (x4_1 : Int) (of_decide_eq_true (by first | (with_reducible assumption) | assumption)) (by have h_ : (x4_1 : Int) < ((x3_1.length : Int) : Int):=of_decide_eq_true (by first | (with_reducible assumption) | assumption);first | exact h_ | (have e_:=(Kd.R_reads' HO_3.out).1;omega) | simpa using h_) (seg:=[.int .i64 t5,.int .i64 t6,.int .i64 t7,.int .i64 t8]) (j:=0) hcl12 hcc12 (show 4 ≤ 4 from by decide) (x':=(⟨t5,t6,t7,t8⟩ : S95)) (k95_mkM _ _ _ (⟨t5,t6,t7,t8⟩ : S95) ) (fun _ hk=>hk);have hx12_0:=hcc12 0 _ rfl;(try simp only [show (k95).sz = 4 from rfl,Nat.mul_one,Nat.add_zero] at hx12_0);have hf12_0:=hfr12 0;(try simp only [show (k95).sz = 4 from rfl,Nat.mul_one,Nat.add_zero] at hf12_0);have hx12_1:=hcc12 1 _ rfl;(try simp only [show (k95).sz = 4 from rfl,Nat.mul_one,Nat.add_zero] at hx12_1);have hf12_1:=hfr12 1;(try simp only [show (k95).sz = 4 from rfl,Nat.mul_one,Nat.add_zero] at hf12_1);have hx12_2:=hcc12 2 _ rfl;(try simp only [show (k95).sz = 4 from rfl,Nat.mul_one,Nat.add_zero] at hx12_2);have hf12_2:=hfr12 2;(try simp only [show (k95).sz = 4 from rfl,Nat.mul_one,Nat.add_zero] at hf12_2);have hx12_3:=hcc12 3 _ rfl;(try simp only [show (k95).sz = 4 from rfl,Nat.mul_one,Nat.add_zero] at hx12_3);have hf12_3:=hfr12 3;(try simp only [show (k95).sz = 4 from rfl,Nat.mul_one,Nat.add_zero] at hf12_3);clear hcl12 hcc12 hfr12 hM12) | ((with_reducible refine gate_store (t:=95) (p:=21) rfl ?_);refine store_event (t:=95) (p:=21) (v:=?vo_w13) (w1:=((((w11.setCell ⟨go10,(x4_1 : Int).toNat * 4,none⟩ (.int .i64 t5)).setCell ⟨go10,(x4_1 : Int).toNat * 4 + 1,none⟩ (.int .i64 t6)).setCell ⟨go10,(x4_1 : Int).toNat * 4 + 2,none⟩ (.int .i64 t7)).setCell ⟨go10,(x4_1 : Int).toNat * 4 + 3,none⟩ (.int .i64 t8))) ?hg ?ho ?hn ?hr ?_;(case ho=>rfl);(case hg=>rfl);(case hn=>rfl);(case hr=>first | (go_simp;done) | (go_simp;rfl));intro w13 hw;have hg : w11.grownBy w13 (some go10):=(by rw [hw];exact HP12.2);have hp_ : Kd.R k95 95 w13 w.heap.size (fun _=>True) (.slice (some ⟨go10,0,none⟩) x3_1.length co10) y9:=(by rw [hw,Ny9.out];exact HP12.1);clear HP12;replace HO_3:=a0_ (hp_);replace HB:=a0_ ((by rw [hw];exact below_set (below_set (below_set (below_set (HB.out) GB10.out) GB10.out) GB10.out) GB10.out : Below w.heap.size w w13));clear hg hw hp_))
        go_roundg k1
        case measure=>have:=HK1.out;omega
        case rel=>exact ⟨(y9),(wrap64 (x4_1 + 1)),(by first | rfl | (simp;done) | (simp [*];done)),H',⟨by have:=HK1.out;omega⟩,⟨by (with_reducible repeat (first | apply Kd.R_alloc | apply Kd.R_drewN | apply Kd.R_drew));exact HO_3.out⟩,⟨hbw_⟩⟩
       ·rw [if_neg c9] at H
        exact absurd H (by simp)
      ·rw [if_neg c7] at H
       exact absurd H (by simp)
     ·rw [if_neg c6] at H
      have c6b0 : decide (x4_1 < (l0.length : Int)) = false:=decide_eq_false c6
      clear c6
      obtain rfl:=Option.some.inj H
      go_wp2
      go_ret
      exact ⟨_,by first | rfl | (simp [errW_none,errW_some] <;> rfl) | (simp [*,errW_none,errW_some] <;> rfl),by (with_reducible repeat (first | apply Kd.R_alloc | apply Kd.R_drewN | apply Kd.R_drew));exact HO_3.out,hbw_⟩
  ·rw [if_neg c3] at H
   exact absurd H (by simp)
 ·rw [if_neg c2] at H
  exact absurd H (by simp)
theorem laws_toRangeS_ev (t : List S99) (ht : t.length ≤ 1048576) : Ev (fun k=>laws_toRangeS.f k t) (t.map toRange):=by
 have h:=st_loop (fun k acc i=>laws_toRangeS.l0 k t acc i) t.length (fun i=>((t.take i).map toRange) ++ List.replicate (t.length - i) z95) (t.map toRange) (by
  intro k i hi
  simp only [laws_toRangeS.l0,laws_toRange.f,Option.bind_some]
  rw [if_pos (by omega),if_pos (by omega),if_pos (by rw [fill_len _ _ _ _ (by omega)];omega),wrap_succ (i:=(i : Int)) (n:=t.length) (by omega) (by omega) (by omega)]
  have:=fill_at t toRange z99 z95 i hi
  rw [show ((i : Int) : Int).toNat = i by omega]
  rw [show (⟨(rd_T99 t (i : Int)).f0,(rd_T99 t (i : Int)).f1,(rd_T99 t (i : Int)).f2,(rd_T99 t (i : Int)).f3⟩ : S95) = toRange (t.getD i z99) from by simp [toRange,rd_T99],this]
  rfl) (by
  intro k
  simp only [laws_toRangeS.l0]
  rw [if_neg (by omega)]
  simp)
 refine Ev.of_mono (laws_toRangeS.mono t) (K:=t.length + 1) ?_
 unfold laws_toRangeS.f
 rw [if_pos (by omega),if_pos (by omega)]
 simpa using h
end Go.Proofs.Ytacgehaipacehaa.P
namespace Go.Proofs.Ytacgehaipacehaa.P
open Go.RowKit Go.Proofs.YtacgehaipacehaaW.PrintWords Go.Proofs.YtacgehaipacehaaW.PrintLast Go.Proofs.YtacgehaipacehaaW.PrintMore
attribute [local go_sem] max2_int min2_int max_two min_two max_three min_three max_four min_four
set_option linter.unusedVariables false
set_option linter.unusedSimpArgs false
def impl_within.f (a0 : Int) (a1 : Int) (a2 : Int) : Option (Bool):=if a0 ≥ a1 then (some (decide (a0 ≤ a2))) else (some false)
set_option maxHeartbeats 8000000 in
set_option maxRecDepth 100000 in
theorem impl_within.calls (a0 : Int) (a1 : Int) (a2 : Int) (r : Bool) (w : World) (h : impl_within.f a0 a1 a2 = some r) :
  Calls Try.prog 75 #[.int .i64 a0,.int .i64 a1,.int .i64 a2] w fun e w'=>e = .returned (.bool r) ∧ Drawn0 w w':=by
 have H : (if a0 ≥ a1 then (some (decide (a0 ≤ a2))) else (some false)) = some r:=h
 clear h
 by_cases c4 : a0 ≥ a1
 ·rw [if_pos c4] at H
  have c4b0 : decide (a1 ≤ a0) = true:=decide_eq_true c4
  clear c4
  obtain rfl:=Option.some.inj H
  go_enter Try.func75,Try.ntmps75
  go_wp2
  go_ret
  exact ⟨by first | rfl | (simp;done) | (simp [*];done),by repeat (first | exact Drawn0.refl _ | apply Drawn0.step)⟩
 ·rw [if_neg c4] at H
  have c4b0 : decide (a1 ≤ a0) = false:=decide_eq_false c4
  clear c4
  obtain rfl:=Option.some.inj H
  go_enter Try.func75,Try.ntmps75
  go_wp2
  go_ret
  exact ⟨by first | rfl | (simp;done) | (simp [*];done),by repeat (first | exact Drawn0.refl _ | apply Drawn0.step)⟩
theorem impl_within_ev (a b c : Int) : impl_within.f a b c = some (decide (b ≤ a) && decide (a ≤ c)):=by
 unfold impl_within.f
 by_cases h : a ≥ b
 ·rw [if_pos h,decide_eq_true (show b ≤ a from h),Bool.true_and]
 ·rw [if_neg h,decide_eq_false (show ¬ b ≤ a from h),Bool.false_and]
end Go.Proofs.Ytacgehaipacehaa.P
namespace Go.Proofs.Ytacgehaipacehaa.P
open Go.RowKit Go.Proofs.YtacgehaipacehaaW.PrintWords Go.Proofs.YtacgehaipacehaaW.PrintLast Go.Proofs.YtacgehaipacehaaW.PrintMore
attribute [local go_sem] max2_int min2_int max_two min_two max_three min_three max_four min_four
set_option linter.unusedVariables false
set_option linter.unusedSimpArgs false
def impl_Tree_has.f (l0_0 : List (S125)) (a1 : Int) : Option (Bool):=(impl_within.f a1 0 (wrap64 ((l0_0.length : Int) - 1))).bind fun t2=>(some t2)
set_option maxHeartbeats 8000000 in
set_option maxRecDepth 100000 in
theorem impl_Tree_has.calls (A0_0 : Option Addr) (c0_0 : Nat) (l0_0 : List (S125)) (a1 : Int) (r : Bool) (w : World) (hr0_0 : Kd.C k125 w A0_0 l0_0.length l0_0) (hc0_0 : l0_0.length ≤ c0_0) (h : impl_Tree_has.f l0_0 a1 = some r) :
  Calls Try.prog 63 #[.agg #[.slice A0_0 l0_0.length c0_0],.int .i64 a1] w fun e w'=>e = .returned (.bool r) ∧ Below w.heap.size w w':=by
 have hu25:=Try.underlying25
 have HR0_0:=a0_ hr0_0
 have HC0_0:=a0_ hc0_0
 clear hr0_0 hc0_0
 have HB:=a0_ (Below.refl w.heap.size w)
 have H : ((impl_within.f a1 0 (wrap64 ((l0_0.length : Int) - 1))).bind fun t2=>(some t2)) = some r:=h
 clear h
 replace H:=Option.bind_eq_some_iff.mp H
 obtain ⟨t2,A30,H⟩:=H
 replace H : (some t2) = some r:=H
 have A3:=a0_ A30
 clear A30
 obtain rfl:=Option.some.inj H
 go_enter Try.func63,Try.ntmps63
 go_wp2_with (first | ((with_reducible refine gate_dst (N:=2) rfl ?_);refine box_event ?hg (N:=2) ?hd (cs:=#[.slice A0_0 l0_0.length c0_0]) (t:=25) ?hr ?_;(case hd=>rfl);(case hg=>rfl);(case hr=>first | (go_simp;done) | (go_simp;rfl));intro gb1 hg w4 hbox hb;have BK1:=a0_ (hbox);have GW1:=a0_ ((by rw [hg];exact (below_size hbw_) : w.heap.size ≤ gb1));have GE1:=a0_ ((by rw [hg];exact (below_size hbw_) : w.heap.size ≤ gb1));replace HB:=a0_ (below_step hbw_ hb);clear hb hbox hg;have hcz5_0 : w4.cell? ⟨gb1,0,none⟩ = some (.slice A0_0 l0_0.length c0_0):=(blk_cell BK1.out 0).trans rfl;have hfz5_0:=blk_frozen BK1.out 0) | ((with_reducible refine gate_callee (f:=75) rfl ?_);refine goesL_ (some 10) rfl rfl Try.func75 (by kernel_rfl) rfl #[.int .i64 a1,.int .i64 0,.int .i64 (wrap64 ((l0_0.length : Int) - 1))] rfl lm_ ?_;(with_reducible refine (impl_within.calls a1 0 (wrap64 ((l0_0.length : Int) - 1)) t2 _ A3.out).mono ?_);rintro e w' ⟨rfl,⟨nd,rfl⟩⟩;refine ⟨_,rfl,?_⟩))
 go_ret
 exact ⟨by first | rfl | (simp [errW_none,errW_some] <;> rfl) | (simp [*,errW_none,errW_some] <;> rfl),hbw_⟩
theorem impl_Tree_has_ev (t : List Cls) (a : Int) (hl : t.length ≤ 9223372036854775807) : impl_Tree_has.f t a = some (hasC t a):=by
 unfold impl_Tree_has.f impl_within.f hasC
 rw [wrap_pred (by omega) (by omega)]
 by_cases h0 : a ≥ 0
 ·rw [if_pos h0]
  have h0' : 0 ≤ a:=h0
  simp only [Option.bind_some,Option.some.injEq,decide_eq_true h0',Bool.true_and]
  by_cases h1 : a < (t.length : Int)
  ·rw [decide_eq_true h1,decide_eq_true (by omega)]
  ·rw [decide_eq_false h1,decide_eq_false (by omega)]
 ·rw [if_neg h0]
  have h0' : ¬ 0 ≤ a:=h0
  simp [decide_eq_false h0']
end Go.Proofs.Ytacgehaipacehaa.P
namespace Go.Proofs.Ytacgehaipacehaa.P
open Go.RowKit Go.Proofs.YtacgehaipacehaaW.PrintWords Go.Proofs.YtacgehaipacehaaW.PrintLast Go.Proofs.YtacgehaipacehaaW.PrintMore
attribute [local go_sem] max2_int min2_int max_two min_two max_three min_three max_four min_four
set_option linter.unusedVariables false
set_option linter.unusedSimpArgs false
set_option maxHeartbeats 2000000 in
theorem slices_IndexFunc_Class.callsF (A : Option Addr) (c : Nat) (l : List S125) (g : Nat) (lb : Array Value) (p : S125 → Bool) (w : World) (eg : ∀ args w,(callFunc g args).run Try.prog w = .ok (.enter g args) w)
  (hr : Kd.C k125 w A l.length l) (hc : l.length ≤ c) (hp : ∀ x,x ∈ l → ∀ W,Below w.heap.size w W → Calls Try.prog g (#[.agg #[.string x.f0,.int .i64 x.f1]] ++ lb) W fun e w'=>e = .returned (.bool (p x)) ∧ Below W.heap.size W w') :
  Calls Try.prog 137 #[.slice A l.length c,.func (.func g) #[] lb] w fun e w'=>e = .returned (.int .i64 (idxP p l)) ∧ Below w.heap.size w w':=by
 have HR:=a0_ hr
 have HP:=a0_ hp
 have hmax : l.length ≤ 9223372036854775807:=hr.2.1
 clear hr hp hc
 go_enter Try.func137,Try.ntmps137
 go_wp2
 go_loopg [5,8] l.length (fun gg _ s8 wr=>∃ kk : Nat,kk ≤ l.length ∧ l.length - kk ≤ gg ∧ s8 = .int .i64 kk ∧ Aside0 (Below w.heap.size w wr) ∧ Aside0 (∀ j (hj : j < l.length),j < kk → p l[j] = false))
 case atStart=>exact ⟨0,Nat.zero_le _,by omega,rfl,⟨Below.refl _ w⟩,⟨fun j _ hj=>absurd hj (Nat.not_lt_zero _)⟩⟩
 case round =>
  obtain ⟨kk,hkk,hg,rfl,BW,HA⟩:=hrel
  by_cases hlt : kk < l.length
  ·have hltz : (kk : Int) < (l.length : Int):=by omega
   obtain ⟨ad,ea,hx0,hx1⟩:=at_T125 HR.out (kk : Int) (by omega) (by omega)
   cases ea
   have hrd : rd_T125 l (kk : Int) = l[kk]:=by simp [rd_T125,hlt]
   rw [hrd] at hx0 hx1
   rw [Int.toNat_natCast] at hx0 hx1
   replace hx0:=(BW.out.cell (World.block_lt_of_cell? w _ hx0)).trans hx0
   replace hx1:=(BW.out.cell (World.block_lt_of_cell? w _ hx1)).trans hx1
   have hcall:=HP.out l[kk] (List.getElem_mem hlt) wr BW.out
   clear hrd
   generalize hy : l[kk] = y at hx0 hx1 hcall
   have B:=a0_ hy
   clear hy
   cases hq : p y with
   | true =>
    rw [hq] at hcall
    go_wp2_with (go_at_fn g;refine hcall.mono ?_;rintro e w' ⟨rfl,hb'⟩)
    go_ret
    refine ⟨?_,below_step BW.out hb'⟩
    rw [idxP_hit p l kk hlt (by rw [B.out];exact hq) HA.out];rfl
   | false =>
    rw [hq] at hcall
    go_wp2_with (go_at_fn g;refine hcall.mono ?_;rintro e w' ⟨rfl,hb'⟩)
    go_roundg (l.length - (kk + 1))
    case measure=>omega
    case rel =>
     refine ⟨kk + 1,by omega,by omega,by go_num,⟨below_step BW.out hb'⟩,⟨fun j hj hjk=>?_⟩⟩
     by_cases e : j = kk
     ·subst e
      rw [B.out];exact hq
     ·exact HA.out j hj (by omega)
  ·have hltz : ¬ (kk : Int) < (l.length : Int):=by omega
   have : kk = l.length:=by omega
   subst this
   go_wp2
   go_ret
   refine ⟨?_,BW.out⟩
   rw [idxP_miss p l (fun j hj=>HA.out j hj hj)];rfl
end Go.Proofs.Ytacgehaipacehaa.P
namespace Go.Proofs.Ytacgehaipacehaa.P
open Go.RowKit Go.Proofs.YtacgehaipacehaaW.PrintWords Go.Proofs.YtacgehaipacehaaW.PrintLast Go.Proofs.YtacgehaipacehaaW.PrintMore
attribute [local go_sem] max2_int min2_int max_two min_two max_three min_three max_four min_four
set_option linter.unusedVariables false
set_option linter.unusedSimpArgs false
theorem impl_Tree_named_1.callsF (B : Nat) (nm : ByteArray) (x : S125) (w : World) (hB : w.heap[B]? = some (.cells #[.string nm] 9 (0,0))) :
  Calls Try.prog 138 #[.agg #[.string x.f0,.int .i64 x.f1],.pointer (some ⟨B,0,none⟩)] w fun e w'=>e = .returned (.bool (x.f0.toList == nm.toList)) ∧ Below w.heap.size w w':=by
 have hc : w.cell? ⟨B,0,none⟩ = some (.string nm):=(blk_cell hB 0).trans rfl
 have hlt : B < w.heap.size:=(Array.getElem?_eq_some_iff.1 hB).1
 have hne : B ≠ w.heap.size:=by omega
 clear hB
 go_enter Try.func138,Try.ntmps138
 go_wp2
 all_goals (go_ret;exact ⟨by simp_all,(Below.refl _ w).alloc (Nat.le_refl _) _⟩)
end Go.Proofs.Ytacgehaipacehaa.P
namespace Go.Proofs.Ytacgehaipacehaa.P
open Go.RowKit Go.Proofs.YtacgehaipacehaaW.PrintWords Go.Proofs.YtacgehaipacehaaW.PrintLast Go.Proofs.YtacgehaipacehaaW.PrintMore
attribute [local go_sem] max2_int min2_int max_two min_two max_three min_three max_four min_four
set_option linter.unusedVariables false
set_option linter.unusedSimpArgs false
def impl_Tree_named.f (l0_0 : List (S125)) (a1 : ByteArray) : Option Int:=some (idxP (fun x : S125=>x.f0.toList == a1.toList) l0_0)
set_option maxHeartbeats 2000000 in
theorem impl_Tree_named.calls (A0_0 : Option Addr) (c0_0 : Nat) (l0_0 : List (S125)) (a1 : ByteArray) (r : Int) (w : World) (hr0_0 : Kd.C k125 w A0_0 l0_0.length l0_0) (hc0_0 : l0_0.length ≤ c0_0) (h : impl_Tree_named.f l0_0 a1 = some r) :
  Calls Try.prog 92 #[.agg #[.slice A0_0 l0_0.length c0_0],.string a1] w fun e w'=>e = .returned (.int .i64 r) ∧ Below w.heap.size w w':=by
 obtain rfl:=Option.some.inj h
 clear h
 have hu31:=Try.underlying25
 have eg : ∀ args w,(callFunc 138 args).run Try.prog w = .ok (.enter 138 args) w:=enters_of Try.func138 (by kernel_rfl) rfl
 have hcon:=fun (W : World) (hb : Below w.heap.size w W) (hB : W.heap[w.heap.size + 1]? = some (.cells #[.string a1] 9 (0,0)))=>slices_IndexFunc_Class.callsF A0_0 c0_0 l0_0 138 #[.pointer (some ⟨w.heap.size + 1,0,none⟩)] (fun x=>x.f0.toList == a1.toList) W eg (Kd.C_below hr0_0 hb) hc0_0 (fun x _ W' hW=>by
  have:=impl_Tree_named_1.callsF (w.heap.size + 1) a1 x W' (blk_keptB hB hW)
  simpa using this)
 clear hr0_0 hc0_0
 generalize idxP (fun x : S125=>x.f0.toList == a1.toList) l0_0 = r at hcon ⊢
 have HC:=a0_ hcon
 clear hcon
 go_enter Try.func92,Try.ntmps92
 go_wp2_with (go_at_call 137;refine (HC.out _ ?hb ?hB).mono ?_;(case hb=>exact below2 w _ _);(case hB=>exact heap_new2 w _ _);rintro e w' ⟨rfl,hb'⟩)
 go_ret
 exact ⟨rfl,(below2 w _ _).trans (hb'.mono (by simp;omega))⟩
end Go.Proofs.Ytacgehaipacehaa.P
namespace Go.Proofs.Ytacgehaipacehaa.P
open Go.RowKit Go.Proofs.YtacgehaipacehaaW.PrintWords Go.Proofs.YtacgehaipacehaaW.PrintLast Go.Proofs.YtacgehaipacehaaW.PrintMore
attribute [local go_sem] max2_int min2_int max_two min_two max_three min_three max_four min_four
set_option linter.unusedVariables false
set_option linter.unusedSimpArgs false
def impl_nameOk.l0 : Nat → ByteArray → Int → Int → Option (Bool)
 | 0,_,_,_=>none
 | k + 1,x0,x5,x6=>if x6 < x5 then (if 0 ≤ x6 then (if x6 < (x0.size : Int) then (if (bt x0 x6) < 97 then (some false) else (if (bt x0 x6) > 122 then (some false) else (impl_nameOk.l0 k x0 x5 (wrap64 (x6 + 1))))) else (none)) else (none)) else ((impl_within.f (x0.size : Int) 1 6).bind fun t1=>(some t1))
def impl_nameOk.f (k : Nat) (a0 : ByteArray) : Option (Bool):=impl_nameOk.l0 k a0 (a0.size : Int) 0
theorem impl_nameOk.mono_l : ∀ k,(∀ y0 y1 y2,LeO (impl_nameOk.l0 k y0 y1 y2) (impl_nameOk.l0 (k + 1) y0 y1 y2))
 | 0=>fun _ _ _ r h=>by simp [impl_nameOk.l0] at h
 | k + 1=>by
  have ih0:=impl_nameOk.mono_l k
  ·intro y0 y1 y2
   unfold impl_nameOk.l0
   repeat' first
   | (with_reducible exact ih0 _ _ _)
   | (with_reducible exact LeO.refl _)
   | (with_reducible exact LeO.none _)
   | (with_reducible refine LeO.ite ?_ ?_)
   | (with_reducible refine LeO.bind ?_ (fun _=>?_))
   | exact ih0 _ _ _
   | exact LeO.none _
   | refine LeO.ite ?_ ?_
   | refine LeO.bind ?_ (fun _=>?_)
theorem impl_nameOk.mono : ∀ a0 k,LeO (impl_nameOk.f k a0) (impl_nameOk.f (k + 1) a0):=by
 intro a0 k
 have ih0:=impl_nameOk.mono_l k
 unfold impl_nameOk.f
 repeat' first
   | (with_reducible exact ih0 _ _ _)
   | (with_reducible exact LeO.refl _)
   | (with_reducible exact LeO.none _)
   | (with_reducible refine LeO.ite ?_ ?_)
   | (with_reducible refine LeO.bind ?_ (fun _=>?_))
   | exact ih0 _ _ _
   | exact LeO.none _
   | refine LeO.ite ?_ ?_
   | refine LeO.bind ?_ (fun _=>?_)
set_option maxHeartbeats 8000000 in
set_option maxRecDepth 100000 in
theorem impl_nameOk.calls (k : Nat) (a0 : ByteArray) (r : Bool) (w : World) (h : impl_nameOk.f k a0 = some r) :
  Calls Try.prog 112 #[.string a0] w fun e w'=>e = .returned (.bool r) ∧ Drawn0 w w':=by
 have H : (impl_nameOk.l0 k a0 (a0.size : Int) 0) = some r:=h
 clear h
 have H':=a0_ H
 clear H
 go_enter Try.func112,Try.ntmps112
 go_wp2
 go_loopg [6] k (fun kq v6 w'=>∃ (x6_1 : Int),v6 = .int .i64 x6_1 ∧ Aside0 (impl_nameOk.l0 kq a0 (a0.size : Int) x6_1 = some r) ∧ Aside0 (kq ≤ k) ∧ Drawn0 w w')
 case atStart=>exact ⟨(0),(by first | rfl | (simp;done) | (simp [*];done)),H',⟨Nat.le_refl _⟩,by repeat (first | exact Drawn0.refl _ | apply Drawn0.step)⟩
 case round =>
  clear H'
  try clear c1
  obtain ⟨x6_1,rfl,HA,HK1,⟨m1,rfl⟩⟩:=hrel
  cases gk with
  | zero=>exact absurd HA.out (by simp [impl_nameOk.l0])
  | succ k1 =>
   have H:=HA.out
   clear HA
   simp only [impl_nameOk.l0] at H
   by_cases c2 : x6_1 < (a0.size : Int)
   ·rw [if_pos c2] at H
    have c2b0 : decide (x6_1 < (a0.size : Int)) = true:=decide_eq_true c2
    clear c2
    by_cases c3 : 0 ≤ x6_1
    ·rw [if_pos c3] at H
     have c3b0 : decide (0 ≤ x6_1) = true:=decide_eq_true c3
     clear c3
     by_cases c4 : x6_1 < (a0.size : Int)
     ·rw [if_pos c4] at H
      have c4b0 : decide (x6_1 < (a0.size : Int)) = true:=decide_eq_true c4
      clear c4
      by_cases c6 : (bt a0 x6_1) < 97
      ·rw [if_pos c6] at H
       have c6b0 : decide ((bt a0 x6_1) < 97) = true:=decide_eq_true c6
       clear c6
       obtain rfl:=Option.some.inj H
       have p5 : 0 ≤ (x6_1 : Int):=of_decide_eq_true (by first | (with_reducible assumption) | assumption)
       have q5 : x6_1 < (a0.size : Int):=of_decide_eq_true (by first | (with_reducible assumption) | assumption)
       have hx5:=bt_at a0 x6_1
       replace p5:=eq_true p5
       replace q5:=eq_true q5
       go_wp2
       go_ret
       exact ⟨by first | rfl | (simp;done) | (simp [*];done),by repeat (first | exact Drawn0.refl _ | apply Drawn0.step)⟩
      ·rw [if_neg c6] at H
       have c6b0 : decide ((bt a0 x6_1) < 97) = false:=decide_eq_false c6
       clear c6
       by_cases c8 : (bt a0 x6_1) > 122
       ·rw [if_pos c8] at H
        have c8b0 : decide (122 < (bt a0 x6_1)) = true:=decide_eq_true c8
        clear c8
        obtain rfl:=Option.some.inj H
        have p5 : 0 ≤ (x6_1 : Int):=of_decide_eq_true (by first | (with_reducible assumption) | assumption)
        have q5 : x6_1 < (a0.size : Int):=of_decide_eq_true (by first | (with_reducible assumption) | assumption)
        have hx5:=bt_at a0 x6_1
        replace p5:=eq_true p5
        replace q5:=eq_true q5
        have p7 : 0 ≤ (x6_1 : Int):=of_decide_eq_true (by first | (with_reducible assumption) | assumption)
        have q7 : x6_1 < (a0.size : Int):=of_decide_eq_true (by first | (with_reducible assumption) | assumption)
        have hx7:=bt_at a0 x6_1
        replace p7:=eq_true p7
        replace q7:=eq_true q7
        go_wp2
        go_ret
        exact ⟨by first | rfl | (simp;done) | (simp [*];done),by repeat (first | exact Drawn0.refl _ | apply Drawn0.step)⟩
       ·rw [if_neg c8] at H
        have c8b0 : decide (122 < (bt a0 x6_1)) = false:=decide_eq_false c8
        clear c8
        have H':=a0_ H
        clear H
        have p5 : 0 ≤ (x6_1 : Int):=of_decide_eq_true (by first | (with_reducible assumption) | assumption)
        have q5 : x6_1 < (a0.size : Int):=of_decide_eq_true (by first | (with_reducible assumption) | assumption)
        have hx5:=bt_at a0 x6_1
        replace p5:=eq_true p5
        replace q5:=eq_true q5
        have p7 : 0 ≤ (x6_1 : Int):=of_decide_eq_true (by first | (with_reducible assumption) | assumption)
        have q7 : x6_1 < (a0.size : Int):=of_decide_eq_true (by first | (with_reducible assumption) | assumption)
        have hx7:=bt_at a0 x6_1
        replace p7:=eq_true p7
        replace q7:=eq_true q7
        go_wp2
        go_roundg k1
        case measure=>have:=HK1.out;omega
        case rel=>exact ⟨(wrap64 (x6_1 + 1)),(by first | rfl | (simp;done) | (simp [*];done)),H',⟨by have:=HK1.out;omega⟩,by repeat (first | exact Drawn0.refl _ | apply Drawn0.step)⟩
     ·rw [if_neg c4] at H
      exact absurd H (by simp)
    ·rw [if_neg c3] at H
     exact absurd H (by simp)
   ·rw [if_neg c2] at H
    have c2b0 : decide (x6_1 < (a0.size : Int)) = false:=decide_eq_false c2
    clear c2
    replace H:=Option.bind_eq_some_iff.mp H
    obtain ⟨t1,A90,H⟩:=H
    replace H : (some t1) = some r:=H
    have A9:=a0_ A90
    clear A90
    obtain rfl:=Option.some.inj H
    go_wp2_with (first | ((with_reducible refine gate_callee (f:=75) rfl ?_);refine goesL_ (some 22) rfl rfl Try.func75 (by kernel_rfl) rfl #[.int .i64 (a0.size : Int),.int .i64 1,.int .i64 6] rfl lm_ ?_;(with_reducible refine (impl_within.calls (a0.size : Int) 1 6 t1 _ A9.out).mono ?_);rintro e w' ⟨rfl,⟨nd,rfl⟩⟩;refine ⟨_,rfl,?_⟩))
    go_ret
    exact ⟨by first | rfl | (simp;done) | (simp [*];done),by repeat (first | exact Drawn0.refl _ | apply Drawn0.step)⟩
theorem impl_nameOk_l0 (s : ByteArray) (hs : s.size ≤ 9223372036854775807) (d : Nat) : ∀ (k : Nat) (i : Nat),i ≤ s.size → s.size - i = d → d < k → impl_nameOk.l0 k s (s.size : Int) (i : Int) = some ((s.data.toList.drop i).all (fun c=>decide (97 ≤ c.toNat) && decide (c.toNat ≤ 122)) && (decide (1 ≤ s.size) && decide (s.size ≤ 6))):=by
 induction d with
 | zero =>
  intro k i hi hd hk
  obtain ⟨k,rfl⟩ : ∃ m,k = m + 1:=⟨k - 1,by omega⟩
  simp only [impl_nameOk.l0]
  rw [if_neg (by omega)]
  have : s.data.toList.drop i = []:=by
   apply List.drop_eq_nil_of_le
   have : s.data.toList.length = s.size:=toL_len s
   omega
  rw [this]
  simp only [impl_within.f,List.all_nil,Bool.true_and]
  by_cases h1 : 1 ≤ s.size
  ·rw [if_pos (show (s.size : Int) ≥ 1 by omega)]
   by_cases h2 : s.size ≤ 6
   ·simp [h1,h2];omega
   ·simp [h2];omega
  ·rw [if_neg (show ¬ (s.size : Int) ≥ 1 by omega)];simp [h1]
 | succ d ih =>
  intro k i hi hd hk
  obtain ⟨k,rfl⟩ : ∃ m,k = m + 1:=⟨k - 1,by omega⟩
  have hlt : i < s.size:=by omega
  have hl : s.data.toList.length = s.size:=toL_len s
  simp only [impl_nameOk.l0]
  rw [if_pos (show (i : Int) < (s.size : Int) by omega),if_pos (show (0 : Int) ≤ (i : Int) by omega),if_pos (show (i : Int) < (s.size : Int) by omega),bt_getElem s i hlt]
  have hd2 : s.data.toList.drop i = s[i] :: s.data.toList.drop (i + 1):=by
   rw [List.drop_eq_getElem_cons (by omega)]
   congr 1
  rw [hd2,List.all_cons]
  by_cases h1 : (s[i].toNat : Int) < 97
  ·rw [if_pos h1];have : ¬ 97 ≤ s[i].toNat:=by omega
   simp [this]
  ·rw [if_neg h1]
   by_cases h2 : (s[i].toNat : Int) > 122
   ·rw [if_pos h2];have : ¬ s[i].toNat ≤ 122:=by omega
    simp [this]
   ·rw [if_neg h2,wrap_succ (n:=s.size) (by omega) (by omega) (by omega)]
    have:=ih k (i + 1) (by omega) (by omega) (by omega)
    rw [show ((i : Int) + 1) = ((i + 1 : Nat) : Int) by omega,this]
    have a : 97 ≤ s[i].toNat:=by omega
    have b : s[i].toNat ≤ 122:=by omega
    simp [a,b]
theorem impl_nameOk_ev (s : ByteArray) (hs : s.size ≤ 9223372036854775807) : impl_nameOk.f (s.size + 1) s = some (okName s):=by
 unfold impl_nameOk.f okName
 have:=impl_nameOk_l0 s hs s.size (s.size + 1) 0 (by omega) (by omega) (by omega)
 simpa using this
end Go.Proofs.Ytacgehaipacehaa.P
namespace Go.Proofs.Ytacgehaipacehaa.P
open Go.RowKit Go.Proofs.YtacgehaipacehaaW.PrintWords Go.Proofs.YtacgehaipacehaaW.PrintLast Go.Proofs.YtacgehaipacehaaW.PrintMore
attribute [local go_sem] max2_int min2_int max_two min_two max_three min_three max_four min_four
set_option linter.unusedVariables false
set_option linter.unusedSimpArgs false
def impl_ValidTree.f (l0_0 : List (S125)) : Option Bool:=if smT l0_0 = true then some (vT l0_0) else none
set_option maxHeartbeats 4000000 in
set_option maxRecDepth 100000 in
theorem impl_ValidTree.calls (A0_0 : Option Addr) (c0_0 : Nat) (l0_0 : List (S125)) (r : Bool) (w : World) (hr0_0 : Kd.C k125 w A0_0 l0_0.length l0_0) (hc0_0 : l0_0.length ≤ c0_0) (h : impl_ValidTree.f l0_0 = some r) :
  Calls Try.prog 54 #[.agg #[.slice A0_0 l0_0.length c0_0]] w fun e w'=>e = .returned (.bool r) ∧ Below w.heap.size w w':=by
 have hu31:=Try.underlying25
 have hsm : smT l0_0 = true:=by
  apply Classical.byContradiction
  intro hn
  rw [impl_ValidTree.f,if_neg hn] at h
  cases h
 rw [impl_ValidTree.f,if_pos hsm] at h
 have HRr:=a0_ (Option.some.inj h)
 have HSM:=a0_ hsm
 have HR:=a0_ hr0_0
 have hmax : l0_0.length ≤ 9223372036854775807:=hr0_0.2.1
 clear h hsm hr0_0
 go_enter Try.func54,Try.ntmps54
 go_wp2
 go_loopg [8] l0_0.length (fun gg s8 wr=>∃ kk : Nat,kk ≤ l0_0.length ∧ l0_0.length - kk ≤ gg ∧ s8 = .int .i64 kk ∧ Aside0 (Below w.heap.size w wr) ∧ Aside0 (wr.heap[w.heap.size]? = some (.cells #[.slice A0_0 l0_0.length c0_0] 25 (0,0))) ∧ Aside0 (∀ j,j < kk → okCls l0_0 j (l0_0.getD j z125) = true))
 case atStart=>exact ⟨0,Nat.zero_le _,by omega,rfl,⟨below1 w _⟩,⟨heap_new1 w _⟩,⟨fun j hj=>absurd hj (Nat.not_lt_zero _)⟩⟩
 case round =>
  obtain ⟨kk,hkk,hg,rfl,BW,BK,HA⟩:=hrel
  have hcz : wr.cell? ⟨w.heap.size,0,none⟩ = some (.slice A0_0 l0_0.length c0_0):=(blk_cell BK.out 0).trans rfl
  by_cases hlt : kk < l0_0.length
  ·have hltz : (kk : Int) < (l0_0.length : Int):=by omega
   obtain ⟨ad,ea,hx0,hx1⟩:=at_T125 HR.out (kk : Int) (by omega) (by omega)
   cases ea
   have hrd : rd_T125 l0_0 (kk : Int) = l0_0[kk]:=by simp [rd_T125,hlt]
   rw [hrd] at hx0 hx1
   rw [Int.toNat_natCast] at hx0 hx1
   replace hx0:=(BW.out.cell (World.block_lt_of_cell? w _ hx0)).trans hx0
   replace hx1:=(BW.out.cell (World.block_lt_of_cell? w _ hx1)).trans hx1
   clear hrd
   generalize hy : l0_0[kk] = y at hx0 hx1
   have B:=a0_ hy
   clear hy
   go_upto_region 4 with (fail)
   have hW1:=a0_ (below_alloc BW.out (.cells #[.string y.f0,.int .i64 y.f1] 125))
   have hW2:=a0_ (blk_alloc BK.out (.cells #[.string y.f0,.int .i64 y.f1] 125))
   have hW3:=(blk_cell hW2.out 0).trans rfl
   have hW4:=(blk_cell (heap_new1 wr (.cells #[.string y.f0,.int .i64 y.f1] 125)) 0).trans rfl
   have hW5:=(blk_cell (heap_new1 wr (.cells #[.string y.f0,.int .i64 y.f1] 125)) 1).trans rfl
   clear hcz hx0 hx1 BW BK
   generalize wr.alloc (.cells #[.string y.f0,.int .i64 y.f1] 125) = W1 at hW1 hW2 hW3 hW4 hW5 ⊢
   generalize wr.heap.size = gb at hW4 hW5 ⊢
   have hy1 : y.f0.size ≤ 9223372036854775806:=by rw [← B.out];exact smT_at HSM.out kk hlt
   have A1:=a0_ (impl_nameOk_ev y.f0 (by omega))
   have hcn0:=fun (W : World) (hW : Below w.heap.size w W)=>impl_Tree_named.calls (some ad) c0_0 l0_0 y.f0 (named l0_0 y.f0) W (Kd.C_below HR.out hW) hc0_0 rfl
   have hok : okCls l0_0 kk (l0_0.getD kk z125) = okCls l0_0 kk y:=by
    rw [← B.out];simp [List.getD,hlt]
   have hdef : okCls l0_0 kk y = (okName y.f0 && (decide (named l0_0 y.f0 = (kk : Int)) && (if kk = 0 then decide (y.f1 = -1) else decide (0 ≤ y.f1) && decide (y.f1 ≤ (kk : Int) - 1)))):=rfl
   generalize named l0_0 y.f0 = nn at hcn0 hdef
   have HCN:=a0_ hcn0
   have HOK:=a0_ hok
   have HDF:=a0_ hdef
   clear hcn0 hok hdef hy1
   go_cut [45] (fun v45 wc=>v45 = .bool (!okCls l0_0 kk y) ∧ Aside0 (Below w.heap.size w wc) ∧ Aside0 (wc.heap[w.heap.size]? = some (.cells #[.slice (some ad) l0_0.length c0_0] 25 (0,0))))
   case first =>
    have hw1 : IntKind.i64.wrap ((kk : Int) - 1) = (kk : Int) - 1:=by rw [IntKind.wrap_i64];omega
    have A2:=a0_ (show impl_within.f y.f1 0 ((kk : Int) - 1) = some (decide (0 ≤ y.f1) && decide (y.f1 ≤ (kk : Int) - 1)) by
     unfold impl_within.f
     by_cases h0 : 0 ≤ y.f1
     ·rw [if_pos h0];simp [h0]
     ·rw [if_neg h0];simp [h0])
    cases hb1 : okName y.f0 with
    | false =>
     rw [hb1] at A1
     have BV : okCls l0_0 kk y = false:=by rw [HDF.out,hb1];rfl
     clear HDF HOK
     go_wp2_with (first
     | (go_at_call 112;(with_reducible refine (impl_nameOk.calls _ y.f0 _ _ A1.out).mono ?_);rintro e w' ⟨rfl,hd⟩;have hb:=drawn_below hd;replace hW3:=pw_cell_below hb hW3;replace hW4:=pw_cell_below hb hW4;replace hW5:=pw_cell_below hb hW5;replace hW1:=a0_ (below_step hW1.out hb);replace hW2:=a0_ (blk_keptB hW2.out hb);clear hb hd)
     | (go_at_call 92;(with_reducible refine (HCN.out _ hW1.out).mono ?_);rintro e w' ⟨rfl,hb⟩;replace hW3:=pw_cell_below hb hW3;replace hW4:=pw_cell_below hb hW4;replace hW5:=pw_cell_below hb hW5;replace hW1:=a0_ (below_step hW1.out hb);replace hW2:=a0_ (blk_keptB hW2.out hb);clear hb)
     | (go_at_call 75;(with_reducible refine (impl_within.calls y.f1 0 ((kk : Int) - 1) _ _ A2.out).mono ?_);rintro e w' ⟨rfl,hd⟩;have hb:=drawn_below hd;replace hW3:=pw_cell_below hb hW3;replace hW4:=pw_cell_below hb hW4;replace hW5:=pw_cell_below hb hW5;replace hW1:=a0_ (below_step hW1.out hb);replace hW2:=a0_ (blk_keptB hW2.out hb);clear hb hd))
     go_meet
     case rel=>exact ⟨by (rw [BV]);first | rfl | (simp [*];done),⟨hW1.out⟩,⟨hW2.out⟩⟩
    | true =>
     rw [hb1] at A1
     by_cases hb2 : nn ≠ (kk : Int)
     ·have BV : okCls l0_0 kk y = false:=by rw [HDF.out,hb1,decide_eq_false hb2];rfl
      have d2 : (nn != (kk : Int)) = true:=bne_iff_ne.2 hb2
      have d2' : (nn == (kk : Int)) = false:=beq_eq_false_iff_ne.2 hb2
      clear HDF HOK hb2
      go_wp2_with (first
     | (go_at_call 112;(with_reducible refine (impl_nameOk.calls _ y.f0 _ _ A1.out).mono ?_);rintro e w' ⟨rfl,hd⟩;have hb:=drawn_below hd;replace hW3:=pw_cell_below hb hW3;replace hW4:=pw_cell_below hb hW4;replace hW5:=pw_cell_below hb hW5;replace hW1:=a0_ (below_step hW1.out hb);replace hW2:=a0_ (blk_keptB hW2.out hb);clear hb hd)
     | (go_at_call 92;(with_reducible refine (HCN.out _ hW1.out).mono ?_);rintro e w' ⟨rfl,hb⟩;replace hW3:=pw_cell_below hb hW3;replace hW4:=pw_cell_below hb hW4;replace hW5:=pw_cell_below hb hW5;replace hW1:=a0_ (below_step hW1.out hb);replace hW2:=a0_ (blk_keptB hW2.out hb);clear hb)
     | (go_at_call 75;(with_reducible refine (impl_within.calls y.f1 0 ((kk : Int) - 1) _ _ A2.out).mono ?_);rintro e w' ⟨rfl,hd⟩;have hb:=drawn_below hd;replace hW3:=pw_cell_below hb hW3;replace hW4:=pw_cell_below hb hW4;replace hW5:=pw_cell_below hb hW5;replace hW1:=a0_ (below_step hW1.out hb);replace hW2:=a0_ (blk_keptB hW2.out hb);clear hb hd))
      go_meet
      case rel=>exact ⟨by (rw [BV]);first | rfl | (simp [*];done),⟨hW1.out⟩,⟨hW2.out⟩⟩
     ·have hnm : nn = (kk : Int):=Classical.byContradiction fun hn=>hb2 hn
      have d2 : (nn != (kk : Int)) = false:=bne_eq_false_iff_eq.2 hnm
      have d2' : (nn == (kk : Int)) = true:=beq_iff_eq.2 hnm
      have BV0 : okCls l0_0 kk y = (if kk = 0 then decide (y.f1 = -1) else decide (0 ≤ y.f1) && decide (y.f1 ≤ (kk : Int) - 1)):=by rw [HDF.out,hb1,decide_eq_true hnm];rfl
      clear HDF HOK hb2 hnm
      by_cases hk0 : kk = 0
      ·have BV : okCls l0_0 kk y = decide (y.f1 = -1):=by rw [BV0,if_pos hk0]
       have e0 : ((kk : Int) == 0) = true:=beq_iff_eq.2 (by omega)
       have e1 : decide (0 < (kk : Int)) = false:=decide_eq_false (by omega)
       have e1n : decide (0 < kk) = false:=decide_eq_false (by omega)
       clear BV0
       by_cases hp : y.f1 = -1
       ·have e2 : (y.f1 != -1) = false:=by rw [hp];rfl
        have e3 : (y.f1 == -1) = true:=by rw [hp];rfl
        rw [decide_eq_true hp] at BV
        clear hp hk0
        go_wp2_with (first
     | (go_at_call 112;(with_reducible refine (impl_nameOk.calls _ y.f0 _ _ A1.out).mono ?_);rintro e w' ⟨rfl,hd⟩;have hb:=drawn_below hd;replace hW3:=pw_cell_below hb hW3;replace hW4:=pw_cell_below hb hW4;replace hW5:=pw_cell_below hb hW5;replace hW1:=a0_ (below_step hW1.out hb);replace hW2:=a0_ (blk_keptB hW2.out hb);clear hb hd)
     | (go_at_call 92;(with_reducible refine (HCN.out _ hW1.out).mono ?_);rintro e w' ⟨rfl,hb⟩;replace hW3:=pw_cell_below hb hW3;replace hW4:=pw_cell_below hb hW4;replace hW5:=pw_cell_below hb hW5;replace hW1:=a0_ (below_step hW1.out hb);replace hW2:=a0_ (blk_keptB hW2.out hb);clear hb)
     | (go_at_call 75;(with_reducible refine (impl_within.calls y.f1 0 ((kk : Int) - 1) _ _ A2.out).mono ?_);rintro e w' ⟨rfl,hd⟩;have hb:=drawn_below hd;replace hW3:=pw_cell_below hb hW3;replace hW4:=pw_cell_below hb hW4;replace hW5:=pw_cell_below hb hW5;replace hW1:=a0_ (below_step hW1.out hb);replace hW2:=a0_ (blk_keptB hW2.out hb);clear hb hd))
        go_meet
        case rel=>exact ⟨by (rw [BV]);first | rfl | (simp [*];done),⟨hW1.out⟩,⟨hW2.out⟩⟩
       ·have e2 : (y.f1 != -1) = true:=bne_iff_ne.2 hp
        have e3 : (y.f1 == -1) = false:=beq_eq_false_iff_ne.2 hp
        rw [decide_eq_false hp] at BV
        clear hp hk0
        go_wp2_with (first
     | (go_at_call 112;(with_reducible refine (impl_nameOk.calls _ y.f0 _ _ A1.out).mono ?_);rintro e w' ⟨rfl,hd⟩;have hb:=drawn_below hd;replace hW3:=pw_cell_below hb hW3;replace hW4:=pw_cell_below hb hW4;replace hW5:=pw_cell_below hb hW5;replace hW1:=a0_ (below_step hW1.out hb);replace hW2:=a0_ (blk_keptB hW2.out hb);clear hb hd)
     | (go_at_call 92;(with_reducible refine (HCN.out _ hW1.out).mono ?_);rintro e w' ⟨rfl,hb⟩;replace hW3:=pw_cell_below hb hW3;replace hW4:=pw_cell_below hb hW4;replace hW5:=pw_cell_below hb hW5;replace hW1:=a0_ (below_step hW1.out hb);replace hW2:=a0_ (blk_keptB hW2.out hb);clear hb)
     | (go_at_call 75;(with_reducible refine (impl_within.calls y.f1 0 ((kk : Int) - 1) _ _ A2.out).mono ?_);rintro e w' ⟨rfl,hd⟩;have hb:=drawn_below hd;replace hW3:=pw_cell_below hb hW3;replace hW4:=pw_cell_below hb hW4;replace hW5:=pw_cell_below hb hW5;replace hW1:=a0_ (below_step hW1.out hb);replace hW2:=a0_ (blk_keptB hW2.out hb);clear hb hd))
        go_meet
        case rel=>exact ⟨by (rw [BV]);first | rfl | (simp [*];done),⟨hW1.out⟩,⟨hW2.out⟩⟩
      ·have BV : okCls l0_0 kk y = (decide (0 ≤ y.f1) && decide (y.f1 ≤ (kk : Int) - 1)):=by rw [BV0,if_neg hk0]
       have e0 : ((kk : Int) == 0) = false:=beq_eq_false_iff_ne.2 (by omega)
       have e1 : decide (0 < (kk : Int)) = true:=decide_eq_true (by omega)
       have e1n : decide (0 < kk) = true:=decide_eq_true (by omega)
       rw [← BV] at A2
       clear BV BV0 hk0
       cases BV : okCls l0_0 kk y with
       | false =>
        rw [BV] at A2
        go_wp2_with (first
     | (go_at_call 112;(with_reducible refine (impl_nameOk.calls _ y.f0 _ _ A1.out).mono ?_);rintro e w' ⟨rfl,hd⟩;have hb:=drawn_below hd;replace hW3:=pw_cell_below hb hW3;replace hW4:=pw_cell_below hb hW4;replace hW5:=pw_cell_below hb hW5;replace hW1:=a0_ (below_step hW1.out hb);replace hW2:=a0_ (blk_keptB hW2.out hb);clear hb hd)
     | (go_at_call 92;(with_reducible refine (HCN.out _ hW1.out).mono ?_);rintro e w' ⟨rfl,hb⟩;replace hW3:=pw_cell_below hb hW3;replace hW4:=pw_cell_below hb hW4;replace hW5:=pw_cell_below hb hW5;replace hW1:=a0_ (below_step hW1.out hb);replace hW2:=a0_ (blk_keptB hW2.out hb);clear hb)
     | (go_at_call 75;(with_reducible refine (impl_within.calls y.f1 0 ((kk : Int) - 1) _ _ A2.out).mono ?_);rintro e w' ⟨rfl,hd⟩;have hb:=drawn_below hd;replace hW3:=pw_cell_below hb hW3;replace hW4:=pw_cell_below hb hW4;replace hW5:=pw_cell_below hb hW5;replace hW1:=a0_ (below_step hW1.out hb);replace hW2:=a0_ (blk_keptB hW2.out hb);clear hb hd))
        go_meet
        case rel=>exact ⟨by (rw [BV]);first | rfl | (simp [*];done),⟨hW1.out⟩,⟨hW2.out⟩⟩
       | true =>
        rw [BV] at A2
        go_wp2_with (first
     | (go_at_call 112;(with_reducible refine (impl_nameOk.calls _ y.f0 _ _ A1.out).mono ?_);rintro e w' ⟨rfl,hd⟩;have hb:=drawn_below hd;replace hW3:=pw_cell_below hb hW3;replace hW4:=pw_cell_below hb hW4;replace hW5:=pw_cell_below hb hW5;replace hW1:=a0_ (below_step hW1.out hb);replace hW2:=a0_ (blk_keptB hW2.out hb);clear hb hd)
     | (go_at_call 92;(with_reducible refine (HCN.out _ hW1.out).mono ?_);rintro e w' ⟨rfl,hb⟩;replace hW3:=pw_cell_below hb hW3;replace hW4:=pw_cell_below hb hW4;replace hW5:=pw_cell_below hb hW5;replace hW1:=a0_ (below_step hW1.out hb);replace hW2:=a0_ (blk_keptB hW2.out hb);clear hb)
     | (go_at_call 75;(with_reducible refine (impl_within.calls y.f1 0 ((kk : Int) - 1) _ _ A2.out).mono ?_);rintro e w' ⟨rfl,hd⟩;have hb:=drawn_below hd;replace hW3:=pw_cell_below hb hW3;replace hW4:=pw_cell_below hb hW4;replace hW5:=pw_cell_below hb hW5;replace hW1:=a0_ (below_step hW1.out hb);replace hW2:=a0_ (blk_keptB hW2.out hb);clear hb hd))
        go_meet
        case rel=>exact ⟨by (rw [BV]);first | rfl | (simp [*];done),⟨hW1.out⟩,⟨hW2.out⟩⟩
   case rest =>
    obtain ⟨rfl,hW,hK⟩:=hcut
    have hb:=HOK.out
    cases BV : okCls l0_0 kk y with
    | false =>
     go_wp2
     go_ret
     refine ⟨?_,hW.out⟩
     rw [← HRr.out]
     have : vT l0_0 = false:=by
      cases hv : vT l0_0 with
      | false=>rfl
      | true=>have:=vT_at hv kk hlt;rw [HOK.out,BV] at this;cases this
     rw [this];rfl
    | true =>
     go_wp2
     go_roundg (l0_0.length - (kk + 1))
     case measure=>omega
     case rel =>
      refine ⟨kk + 1,by omega,by omega,by go_num,⟨hW.out⟩,⟨hK.out⟩,⟨fun j hj=>?_⟩⟩
      by_cases e : j = kk
      ·subst e;rw [HOK.out,BV]
      ·exact HA.out j (by omega)
  ·have hltz : ¬ (kk : Int) < (l0_0.length : Int):=by omega
   have : kk = l0_0.length:=by omega
   subst this
   have A3:=a0_ (show impl_within.f (l0_0.length : Int) 1 8 = some (vT l0_0) by
    have hall : (List.range l0_0.length).all (fun i=>okCls l0_0 i (l0_0.getD i z125)) = true:=by
     rw [List.all_eq_true];intro i hi;exact HA.out i (by simpa using hi)
    unfold impl_within.f vT
    rw [hall]
    by_cases h1 : (1 : Int) ≤ l0_0.length
    ·rw [if_pos h1]
     have h1' : 1 ≤ l0_0.length:=by omega
     by_cases h8 : l0_0.length ≤ 8
     ·simp [h1',h8];omega
     ·simp [h8];omega
    ·rw [if_neg h1]
     have h1' : ¬ 1 ≤ l0_0.length:=by omega
     simp [h1'])
   rw [HRr.out] at A3
   go_wp2_with (go_at_call 75;(with_reducible refine (impl_within.calls (l0_0.length : Int) 1 8 _ _ A3.out).mono ?_);rintro e w' ⟨rfl,⟨nd,rfl⟩⟩)
   go_ret
   exact ⟨rfl,pw_below_drewN BW.out _⟩
end Go.Proofs.Ytacgehaipacehaa.P
namespace Go.Proofs.Ytacgehaipacehaa.P
open Go.RowKit Go.Proofs.YtacgehaipacehaaW.PrintWords Go.Proofs.YtacgehaipacehaaW.PrintLast Go.Proofs.YtacgehaipacehaaW.PrintMore
attribute [local go_sem] max2_int min2_int max_two min_two max_three min_three max_four min_four
set_option linter.unusedVariables false
set_option linter.unusedSimpArgs false
set_option maxHeartbeats 2000000 in
theorem slices_IndexFunc_int.callsF (A : Option Addr) (c : Nat) (l : List Int) (g : Nat) (lb : Array Value) (p : Int → Bool) (w : World) (eg : ∀ args w,(callFunc g args).run Try.prog w = .ok (.enter g args) w)
  (hr : Kd.C (Kd.int .i64) w A l.length l) (hc : l.length ≤ c) (hp : ∀ x,x ∈ l → ∀ W,Below w.heap.size w W → Calls Try.prog g (#[.int .i64 x] ++ lb) W fun e w'=>e = .returned (.bool (p x)) ∧ Below W.heap.size W w') :
  Calls Try.prog 114 #[.slice A l.length c,.func (.func g) #[] lb] w fun e w'=>e = .returned (.int .i64 (idxP p l)) ∧ Below w.heap.size w w':=by
 have HR:=a0_ hr
 have HP:=a0_ hp
 have hmax : l.length ≤ 9223372036854775807:=hr.2.1
 clear hr hp hc
 go_enter Try.func114,Try.ntmps114
 go_wp2
 go_loopg [5,8] l.length (fun gg _ s8 wr=>∃ kk : Nat,kk ≤ l.length ∧ l.length - kk ≤ gg ∧ s8 = .int .i64 kk ∧ Aside0 (Below w.heap.size w wr) ∧ Aside0 (∀ j (hj : j < l.length),j < kk → p l[j] = false))
 case atStart=>exact ⟨0,Nat.zero_le _,by omega,rfl,⟨Below.refl _ w⟩,⟨fun j _ hj=>absurd hj (Nat.not_lt_zero _)⟩⟩
 case round =>
  obtain ⟨kk,hkk,hg,rfl,BW,HA⟩:=hrel
  by_cases hlt : kk < l.length
  ·have hltz : (kk : Int) < (l.length : Int):=by omega
   obtain ⟨ad,ea,hx0⟩:=Kd.at_int HR.out (kk : Int) (by omega) (by omega)
   cases ea
   have hrd : rd l (kk : Int) = l[kk]:=by simp [rd,hlt]
   rw [hrd] at hx0
   rw [Int.toNat_natCast] at hx0
   replace hx0:=(BW.out.cell (World.block_lt_of_cell? w _ hx0)).trans hx0
   have hcall:=HP.out l[kk] (List.getElem_mem hlt) wr BW.out
   clear hrd
   generalize hy : l[kk] = y at hx0 hcall
   have B:=a0_ hy
   clear hy
   cases hq : p y with
   | true =>
    rw [hq] at hcall
    go_wp2_with (go_at_fn g;refine hcall.mono ?_;rintro e w' ⟨rfl,hb'⟩)
    go_ret
    refine ⟨?_,below_step BW.out hb'⟩
    rw [idxP_hit p l kk hlt (by rw [B.out];exact hq) HA.out];rfl
   | false =>
    rw [hq] at hcall
    go_wp2_with (go_at_fn g;refine hcall.mono ?_;rintro e w' ⟨rfl,hb'⟩)
    go_roundg (l.length - (kk + 1))
    case measure=>omega
    case rel =>
     refine ⟨kk + 1,by omega,by omega,by go_num,⟨below_step BW.out hb'⟩,⟨fun j hj hjk=>?_⟩⟩
     by_cases e : j = kk
     ·subst e
      rw [B.out];exact hq
     ·exact HA.out j hj (by omega)
  ·have hltz : ¬ (kk : Int) < (l.length : Int):=by omega
   have : kk = l.length:=by omega
   subst this
   go_wp2
   go_ret
   refine ⟨?_,BW.out⟩
   rw [idxP_miss p l (fun j hj=>HA.out j hj hj)];rfl
end Go.Proofs.Ytacgehaipacehaa.P
namespace Go.Proofs.Ytacgehaipacehaa.P
open Go.RowKit Go.Proofs.YtacgehaipacehaaW.PrintWords Go.Proofs.YtacgehaipacehaaW.PrintLast Go.Proofs.YtacgehaipacehaaW.PrintMore
attribute [local go_sem] max2_int min2_int max_two min_two max_three min_three max_four min_four
set_option linter.unusedVariables false
set_option linter.unusedSimpArgs false
set_option maxHeartbeats 2000000 in
theorem slices_ContainsFunc_int.callsF (A : Option Addr) (c : Nat) (l : List Int) (g : Nat) (lb : Array Value) (p : Int → Bool) (w : World) (eg : ∀ args w,(callFunc g args).run Try.prog w = .ok (.enter g args) w)
  (hr : Kd.C (Kd.int .i64) w A l.length l) (hc : l.length ≤ c) (hp : ∀ x,x ∈ l → ∀ W,Below w.heap.size w W → Calls Try.prog g (#[.int .i64 x] ++ lb) W fun e w'=>e = .returned (.bool (p x)) ∧ Below W.heap.size W w') :
  Calls Try.prog 116 #[.slice A l.length c,.func (.func g) #[] lb] w fun e w'=>e = .returned (.bool (l.any p)) ∧ Below w.heap.size w w':=by
 have hcon:=slices_IndexFunc_int.callsF A c l g lb p w eg hr hc hp
 rw [← idxP_nonneg]
 clear eg hr hc hp
 generalize idxP p l = r at hcon ⊢
 go_enter Try.func116,Try.ntmps116
 go_wp2_with (go_at_call 114;refine hcon.mono ?_;rintro e w' ⟨rfl,hb'⟩)
 go_ret
 exact ⟨rfl,hb'⟩
end Go.Proofs.Ytacgehaipacehaa.P
namespace Go.Proofs.Ytacgehaipacehaa.P
open Go.RowKit Go.Proofs.YtacgehaipacehaaW.PrintWords Go.Proofs.YtacgehaipacehaaW.PrintLast Go.Proofs.YtacgehaipacehaaW.PrintMore
attribute [local go_sem] max2_int min2_int max_two min_two max_three min_three max_four min_four
set_option linter.unusedVariables false
set_option linter.unusedSimpArgs false
theorem impl_classesIn_1.callsF (B : Nat) (A : Option Addr) (c : Nat) (t : List Cls) (a : Int) (w : World) (hB : w.heap[B]? = some (.cells #[.slice A t.length c] 25 (0,0))) (hr : Kd.C k125 w A t.length t) (hc : t.length ≤ c) :
  Calls Try.prog 117 #[.int .i64 a,.pointer (some ⟨B,0,none⟩)] w fun e w'=>e = .returned (.bool (!hasC t a)) ∧ Below w.heap.size w w':=by
 have hu31:=Try.underlying25
 have hcell : w.cell? ⟨B,0,none⟩ = some (.slice A t.length c):=(blk_cell hB 0).trans rfl
 have hcon:=impl_Tree_has.calls A c t a (hasC t a) w hr hc (impl_Tree_has_ev t a hr.2.1)
 clear hB hr
 generalize hasC t a = b at hcon ⊢
 go_enter Try.func117,Try.ntmps117
 go_wp2_with (go_at_call 63;refine hcon.mono ?_;rintro e w' ⟨rfl,hb'⟩)
 go_ret
 exact ⟨rfl,hb'⟩
end Go.Proofs.Ytacgehaipacehaa.P
namespace Go.Proofs.Ytacgehaipacehaa.P
open Go.RowKit Go.Proofs.YtacgehaipacehaaW.PrintWords Go.Proofs.YtacgehaipacehaaW.PrintLast Go.Proofs.YtacgehaipacehaaW.PrintMore
attribute [local go_sem] max2_int min2_int max_two min_two max_three min_three max_four min_four
set_option linter.unusedVariables false
set_option linter.unusedSimpArgs false
def impl_classesIn.f (l0_0 : List Cls) (l1 : List Int) : Option Bool:=if smT l0_0 = true then some (vT l0_0 && l1.all (hasC l0_0)) else none
set_option maxHeartbeats 2000000 in
theorem impl_classesIn.calls (A0_0 : Option Addr) (c0_0 : Nat) (l0_0 : List (S125)) (A1 : Option Addr) (c1 : Nat) (l1 : List Int) (r : Bool) (w : World) (hr0_0 : Kd.C k125 w A0_0 l0_0.length l0_0) (hc0_0 : l0_0.length ≤ c0_0) (hr1 : Kd.C (Kd.int .i64) w A1 l1.length l1) (hc1 : l1.length ≤ c1) (h : impl_classesIn.f l0_0 l1 = some r) :
  Calls Try.prog 64 #[.agg #[.slice A0_0 l0_0.length c0_0],.slice A1 l1.length c1] w fun e w'=>e = .returned (.bool r) ∧ Below w.heap.size w w':=by
 have hu31:=Try.underlying25
 have hsm : smT l0_0 = true:=by
  apply Classical.byContradiction
  intro hn
  rw [impl_classesIn.f,if_neg hn] at h
  cases h
 rw [impl_classesIn.f,if_pos hsm] at h
 obtain rfl:=Option.some.inj h
 have HV:=a0_ (fun (W : World) (hb : Below w.heap.size w W)=>impl_ValidTree.calls A0_0 c0_0 l0_0 (vT l0_0) W (Kd.C_below hr0_0 hb) hc0_0 (by rw [impl_ValidTree.f,if_pos hsm]))
 have eg : ∀ args w,(callFunc 117 args).run Try.prog w = .ok (.enter 117 args) w:=enters_of Try.func117 (by kernel_rfl) rfl
 have HC:=a0_ (fun (W : World) (hb : Below w.heap.size w W) (hB : W.heap[w.heap.size]? = some (.cells #[.slice A0_0 l0_0.length c0_0] 25 (0,0)))=>slices_ContainsFunc_int.callsF A1 c1 l1 117 #[.pointer (some ⟨w.heap.size,0,none⟩)] (fun a=>!hasC l0_0 a) W eg (Kd.C_below hr1 hb) hc1 (fun x _ W' hW=>impl_classesIn_1.callsF w.heap.size A0_0 c0_0 l0_0 x W' (blk_keptB hB hW) (Kd.C_below (Kd.C_below hr0_0 hb) hW) hc0_0))
 have hall : l1.all (hasC l0_0) = !(l1.any fun a=>!hasC l0_0 a):=by
  rw [List.not_any_eq_all_not];simp
 rw [hall]
 clear hall h hr0_0 hr1 hsm eg
 generalize (l1.any fun a=>!hasC l0_0 a) = b2 at HC ⊢
 generalize vT l0_0 = b1 at HV ⊢
 have hcell:=(blk_cell (heap_new1 w (.cells #[.slice A0_0 l0_0.length c0_0] 25)) 0).trans rfl
 cases b1 with
 | false =>
  go_enter Try.func64,Try.ntmps64
  go_wp2_with (go_at_call 54;refine (HV.out _ (below1 w _)).mono ?_;rintro e w' ⟨rfl,hb'⟩)
  go_ret
  exact ⟨rfl,(below1 w _).trans (hb'.mono (by simp))⟩
 | true =>
  go_enter Try.func64,Try.ntmps64
  go_wp2_with (first
   | (go_at_call 54;refine (HV.out _ (below1 w _)).mono ?_;rintro e w1 ⟨rfl,hb1⟩)
   | (go_at_call 116;refine (HC.out _ ((below1 w _).trans (hb1.mono (by simp))) (blk_keptB (heap_new1 w _) hb1)).mono ?_;rintro e w2 ⟨rfl,hb2⟩))
  go_ret
  exact ⟨rfl,below_step ((below1 w _).trans (hb1.mono (by simp))) hb2⟩
end Go.Proofs.Ytacgehaipacehaa.P
namespace Go.Proofs.Ytacgehaipacehaa.P
open Go.RowKit Go.Proofs.YtacgehaipacehaaW.PrintWords Go.Proofs.YtacgehaipacehaaW.PrintLast Go.Proofs.YtacgehaipacehaaW.PrintMore
attribute [local go_sem] max2_int min2_int max_two min_two max_three min_three max_four min_four
set_option linter.unusedVariables false
set_option linter.unusedSimpArgs false
def slices_Index_int.l0 : Nat → List Int → Int → Int → Int → Option (Int)
 | 0,_,_,_,_=>none
 | k + 1,x0,x1,x7,x8=>if x8 < x7 then (if 0 ≤ x8 then (if x8 < (x0.length : Int) then (if x1 = (rd x0 x8) then (some x8) else (slices_Index_int.l0 k x0 x1 x7 (wrap64 (x8 + 1)))) else (none)) else (none)) else (some (-1))
def slices_Index_int.f (k : Nat) (l0 : List Int) (a1 : Int) : Option (Int):=slices_Index_int.l0 k l0 a1 (l0.length : Int) 0
theorem slices_Index_int.mono_l : ∀ k,(∀ y0 y1 y2 y3,LeO (slices_Index_int.l0 k y0 y1 y2 y3) (slices_Index_int.l0 (k + 1) y0 y1 y2 y3))
 | 0=>fun _ _ _ _ r h=>by simp [slices_Index_int.l0] at h
 | k + 1=>by
  have ih0:=slices_Index_int.mono_l k
  ·intro y0 y1 y2 y3
   unfold slices_Index_int.l0
   repeat' first
   | (with_reducible exact ih0 _ _ _ _)
   | (with_reducible exact LeO.refl _)
   | (with_reducible exact LeO.none _)
   | (with_reducible refine LeO.ite ?_ ?_)
   | (with_reducible refine LeO.bind ?_ (fun _=>?_))
   | exact ih0 _ _ _ _
   | exact LeO.none _
   | refine LeO.ite ?_ ?_
   | refine LeO.bind ?_ (fun _=>?_)
theorem slices_Index_int.mono : ∀ a0 a1 k,LeO (slices_Index_int.f k a0 a1) (slices_Index_int.f (k + 1) a0 a1):=by
 intro a0 a1 k
 have ih0:=slices_Index_int.mono_l k
 unfold slices_Index_int.f
 repeat' first
   | (with_reducible exact ih0 _ _ _ _)
   | (with_reducible exact LeO.refl _)
   | (with_reducible exact LeO.none _)
   | (with_reducible refine LeO.ite ?_ ?_)
   | (with_reducible refine LeO.bind ?_ (fun _=>?_))
   | exact ih0 _ _ _ _
   | exact LeO.none _
   | refine LeO.ite ?_ ?_
   | refine LeO.bind ?_ (fun _=>?_)
set_option maxHeartbeats 8000000 in
set_option maxRecDepth 100000 in
theorem slices_Index_int.calls (k : Nat) (A0 : Option Addr) (c0 : Nat) (l0 : List Int) (a1 : Int) (r : Int) (w : World) (hr0 : Kd.C (Kd.int .i64) w A0 l0.length l0) (hc0 : l0.length ≤ c0) (h : slices_Index_int.f k l0 a1 = some r) :
  Calls Try.prog 151 #[.slice A0 l0.length c0,.int .i64 a1] w fun e w'=>e = .returned (.int .i64 r) ∧ Drawn0 w w':=by
 have HR0:=a0_ hr0
 have HC0:=a0_ hc0
 clear hr0 hc0
 have H : (slices_Index_int.l0 k l0 a1 (l0.length : Int) 0) = some r:=h
 clear h
 have H':=a0_ H
 clear H
 go_enter Try.func151,Try.ntmps151
 go_wp2
 go_loopg [8] k (fun kq v8 w'=>∃ (x8_1 : Int),v8 = .int .i64 x8_1 ∧ Aside0 (slices_Index_int.l0 kq l0 a1 (l0.length : Int) x8_1 = some r) ∧ Aside0 (kq ≤ k) ∧ Drawn0 w w')
 case atStart=>exact ⟨(0),(by first | rfl | (simp;done) | (simp [*];done)),H',⟨Nat.le_refl _⟩,by repeat (first | exact Drawn0.refl _ | apply Drawn0.step)⟩
 case round =>
  clear H'
  try clear c1
  try clear p2
  obtain ⟨x8_1,rfl,HA,HK1,⟨m1,rfl⟩⟩:=hrel
  cases gk with
  | zero=>exact absurd HA.out (by simp [slices_Index_int.l0])
  | succ k1 =>
   have H:=HA.out
   clear HA
   simp only [slices_Index_int.l0] at H
   by_cases c3 : x8_1 < (l0.length : Int)
   ·rw [if_pos c3] at H
    have c3b0 : decide (x8_1 < (l0.length : Int)) = true:=decide_eq_true c3
    clear c3
    by_cases c4 : 0 ≤ x8_1
    ·rw [if_pos c4] at H
     have c4b0 : decide (0 ≤ x8_1) = true:=decide_eq_true c4
     clear c4
     by_cases c5 : x8_1 < (l0.length : Int)
     ·rw [if_pos c5] at H
      have c5b0 : decide (x8_1 < (l0.length : Int)) = true:=decide_eq_true c5
      clear c5
      by_cases c6 : a1 = (rd l0 x8_1)
      ·rw [if_pos c6] at H
       have c6b0 : (a1 == (rd l0 x8_1)) = true:=beq_iff_eq.mpr c6
       have c6b1 : (a1 != (rd l0 x8_1)) = false:=bne_eq_false_iff_eq.mpr c6
       clear c6
       obtain rfl:=Option.some.inj H
       have p1 : 0 ≤ (x8_1 : Int):=of_decide_eq_true (by first | (with_reducible assumption) | assumption)
       have q1 : x8_1 < (l0.length : Int):=of_decide_eq_true (by first | (with_reducible assumption) | assumption)
       obtain ⟨ad1,e1,hx1_0⟩:=Kd.at_int HR0.out x8_1 p1 q1
       cases e1
       replace p1:=eq_true p1
       replace q1:=eq_true q1
       go_wp2
       go_ret
       exact ⟨by first | rfl | (simp;done) | (simp [*];done),by repeat (first | exact Drawn0.refl _ | apply Drawn0.step)⟩
      ·rw [if_neg c6] at H
       have c6b0 : (a1 == (rd l0 x8_1)) = false:=beq_eq_false_iff_ne.mpr c6
       have c6b1 : (a1 != (rd l0 x8_1)) = true:=bne_iff_ne.mpr c6
       have H':=a0_ H
       clear H
       have p1 : 0 ≤ (x8_1 : Int):=of_decide_eq_true (by first | (with_reducible assumption) | assumption)
       have q1 : x8_1 < (l0.length : Int):=of_decide_eq_true (by first | (with_reducible assumption) | assumption)
       obtain ⟨ad1,e1,hx1_0⟩:=Kd.at_int HR0.out x8_1 p1 q1
       cases e1
       replace p1:=eq_true p1
       replace q1:=eq_true q1
       go_wp2
       go_roundg k1
       case measure=>have:=HK1.out;omega
       case rel=>exact ⟨(wrap64 (x8_1 + 1)),(by first | rfl | (simp;done) | (simp [*];done)),H',⟨by have:=HK1.out;omega⟩,by repeat (first | exact Drawn0.refl _ | apply Drawn0.step)⟩
     ·rw [if_neg c5] at H
      exact absurd H (by simp)
    ·rw [if_neg c4] at H
     exact absurd H (by simp)
   ·rw [if_neg c3] at H
    have c3b0 : decide (x8_1 < (l0.length : Int)) = false:=decide_eq_false c3
    clear c3
    obtain rfl:=Option.some.inj H
    go_wp2
    go_ret
    exact ⟨by first | rfl | (simp;done) | (simp [*];done),by repeat (first | exact Drawn0.refl _ | apply Drawn0.step)⟩
theorem slices_Index_int_l0 (l : List Int) (x : Int) (hs : l.length ≤ 9223372036854775807) (d : Nat) : ∀ (k : Nat) (i : Nat),i ≤ l.length → l.length - i = d → d < k → (∀ j (hj : j < l.length),j < i → decide (x = l[j]) = false) → slices_Index_int.l0 k l x (l.length : Int) (i : Int) = some (idxP (fun y=>decide (x = y)) l):=by
 induction d with
 | zero =>
  intro k i hi hd hk hA
  obtain ⟨k,rfl⟩ : ∃ m,k = m + 1:=⟨k - 1,by omega⟩
  simp only [slices_Index_int.l0]
  rw [if_neg (show ¬ (i : Int) < (l.length : Int) by omega),idxP_miss _ l (fun j hj=>hA j hj (by omega))]
 | succ d ih =>
  intro k i hi hd hk hA
  obtain ⟨k,rfl⟩ : ∃ m,k = m + 1:=⟨k - 1,by omega⟩
  have hlt : i < l.length:=by omega
  simp only [slices_Index_int.l0]
  have hrd : rd l (i : Int) = l[i]:=by simp [rd,hlt]
  rw [if_pos (show (i : Int) < (l.length : Int) by omega),if_pos (show (0 : Int) ≤ (i : Int) by omega),if_pos (show (i : Int) < (l.length : Int) by omega),hrd]
  by_cases h1 : x = l[i]
  ·rw [if_pos h1,idxP_hit (fun y=>decide (x = y)) l i hlt (decide_eq_true h1) hA]
  ·rw [if_neg h1,wrap_succ (n:=l.length) (by omega) (by omega) (by omega)]
   rw [show ((i : Int) + 1) = ((i + 1 : Nat) : Int) by omega]
   refine ih k (i + 1) (by omega) (by omega) (by omega) (fun j hj hji=>?_)
   by_cases e : j = i
   ·subst e;exact decide_eq_false h1
   ·exact hA j hj (by omega)
end Go.Proofs.Ytacgehaipacehaa.P
namespace Go.Proofs.Ytacgehaipacehaa.P
open Go.RowKit Go.Proofs.YtacgehaipacehaaW.PrintWords Go.Proofs.YtacgehaipacehaaW.PrintLast Go.Proofs.YtacgehaipacehaaW.PrintMore
attribute [local go_sem] max2_int min2_int max_two min_two max_three min_three max_four min_four
set_option linter.unusedVariables false
set_option linter.unusedSimpArgs false
def slices_Contains_int.f (k : Nat) (l0 : List Int) (a1 : Int) : Option (Bool):=(slices_Index_int.f k l0 a1).bind fun t1=>(some (decide (t1 ≥ 0)))
theorem slices_Contains_int.mono : ∀ a0 a1 k,LeO (slices_Contains_int.f k a0 a1) (slices_Contains_int.f (k + 1) a0 a1):=by
 intro a0 a1 k
 unfold slices_Contains_int.f
 repeat' first
   | (with_reducible exact slices_Index_int.mono _ _ _)
   | (with_reducible exact LeO.refl _)
   | (with_reducible exact LeO.none _)
   | (with_reducible refine LeO.ite ?_ ?_)
   | (with_reducible refine LeO.bind ?_ (fun _=>?_))
   | exact slices_Index_int.mono _ _ _
   | exact LeO.none _
   | refine LeO.ite ?_ ?_
   | refine LeO.bind ?_ (fun _=>?_)
set_option maxHeartbeats 8000000 in
set_option maxRecDepth 100000 in
theorem slices_Contains_int.calls (k : Nat) (A0 : Option Addr) (c0 : Nat) (l0 : List Int) (a1 : Int) (r : Bool) (w : World) (hr0 : Kd.C (Kd.int .i64) w A0 l0.length l0) (hc0 : l0.length ≤ c0) (h : slices_Contains_int.f k l0 a1 = some r) :
  Calls Try.prog 118 #[.slice A0 l0.length c0,.int .i64 a1] w fun e w'=>e = .returned (.bool r) ∧ Drawn0 w w':=by
 have HR0:=a0_ hr0
 have HC0:=a0_ hc0
 clear hr0 hc0
 have H : ((slices_Index_int.f k l0 a1).bind fun t1=>(some (decide (t1 ≥ 0)))) = some r:=h
 clear h
 replace H:=Option.bind_eq_some_iff.mp H
 obtain ⟨t1,A30,H⟩:=H
 replace H : (some (decide (t1 ≥ 0))) = some r:=H
 have A3:=a0_ A30
 clear A30
 obtain rfl:=Option.some.inj H
 go_enter Try.func118,Try.ntmps118
 go_wp2_with (first | ((with_reducible refine gate_callee (f:=151) rfl ?_);refine goesL_ (some 7) rfl rfl Try.func151 (by kernel_rfl) rfl #[.slice A0 l0.length c0,.int .i64 a1] rfl lm_ ?_;(with_reducible refine (slices_Index_int.calls k _ _ l0 a1 t1 _ ?side1 ?side2 A3.out).mono ?_);(case side1=>repeat (first | exact HR0.out | (with_reducible refine Kd.C_alloc ?_ _) | (with_reducible refine Kd.C_drewN ?_ _) | (with_reducible refine Kd.C_drew ?_)));(case side2=>exact HC0.out);rintro e w' ⟨rfl,⟨nd,rfl⟩⟩;refine ⟨_,rfl,?_⟩))
 go_ret
 exact ⟨by first | rfl | (simp;done) | (simp [*];done),by repeat (first | exact Drawn0.refl _ | apply Drawn0.step)⟩
theorem slices_Contains_int_ev (l : List Int) (x : Int) (hs : l.length ≤ 9223372036854775807) (k : Nat) (hk : l.length < k) : slices_Contains_int.f k l x = some (l.contains x):=by
 unfold slices_Contains_int.f slices_Index_int.f
 have h0:=slices_Index_int_l0 l x hs l.length k 0 (by omega) (by omega) hk (fun j _ hj=>absurd hj (Nat.not_lt_zero _))
 rw [show ((0 : Nat) : Int) = 0 from rfl] at h0
 rw [h0]
 simp only [Option.bind_some,Option.some.injEq]
 rw [idxP_nonneg]
 rw [Bool.eq_iff_iff,List.any_eq_true,List.contains_iff_mem]
 constructor
 ·rintro ⟨y,hy,e⟩
  have : x = y:=of_decide_eq_true e
  rw [this];exact hy
 ·intro hm;exact ⟨x,hm,decide_eq_true rfl⟩
end Go.Proofs.Ytacgehaipacehaa.P
namespace Go.Proofs.Ytacgehaipacehaa.P
open Go.RowKit Go.Proofs.YtacgehaipacehaaW.PrintWords Go.Proofs.YtacgehaipacehaaW.PrintLast Go.Proofs.YtacgehaipacehaaW.PrintMore
attribute [local go_sem] max2_int min2_int max_two min_two max_three min_three max_four min_four
set_option linter.unusedVariables false
set_option linter.unusedSimpArgs false
def impl_Tree_above.l0 : Nat → Int → List Int → List (S125) → Option (List Int)
 | 0,_,_,_=>none
 | k + 1,x1,x5,x2000=>if x1 ≥ 0 then (if x5.length < 17592186044416 then (if 0 ≤ x1 then (if x1 < (x2000.length : Int) then (impl_Tree_above.l0 k ((rd_T125 x2000 x1).f1) (x5 ++ [x1]) x2000) else (none)) else (none)) else (none)) else (if 0 ≤ (x5.length : Int) then (if (x5.length : Int) ≤ (x5.length : Int) then (some (x5.take ((x5.length : Int) : Int).toNat)) else (none)) else (none))
def impl_Tree_above.f (k : Nat) (l0_0 : List (S125)) (a1 : Int) : Option (List Int):=if 0 ≤ (l0_0.length : Int) then (if ((l0_0.length : Int) : Int).toNat ≤ 35184372088832 then (impl_Tree_above.l0 k a1 (([] : List Int)) l0_0) else (none)) else (none)
theorem impl_Tree_above.mono_l : ∀ k,(∀ y0 y1 y2,LeO (impl_Tree_above.l0 k y0 y1 y2) (impl_Tree_above.l0 (k + 1) y0 y1 y2))
 | 0=>fun _ _ _ r h=>by simp [impl_Tree_above.l0] at h
 | k + 1=>by
  have ih0:=impl_Tree_above.mono_l k
  ·intro y0 y1 y2
   unfold impl_Tree_above.l0
   repeat' first
   | (with_reducible exact ih0 _ _ _)
   | (with_reducible exact LeO.refl _)
   | (with_reducible exact LeO.none _)
   | (with_reducible refine LeO.ite ?_ ?_)
   | (with_reducible refine LeO.bind ?_ (fun _=>?_))
   | exact ih0 _ _ _
   | exact LeO.none _
   | refine LeO.ite ?_ ?_
   | refine LeO.bind ?_ (fun _=>?_)
theorem impl_Tree_above.mono : ∀ a0 a1 k,LeO (impl_Tree_above.f k a0 a1) (impl_Tree_above.f (k + 1) a0 a1):=by
 intro a0 a1 k
 have ih0:=impl_Tree_above.mono_l k
 unfold impl_Tree_above.f
 repeat' first
   | (with_reducible exact ih0 _ _ _)
   | (with_reducible exact LeO.refl _)
   | (with_reducible exact LeO.none _)
   | (with_reducible refine LeO.ite ?_ ?_)
   | (with_reducible refine LeO.bind ?_ (fun _=>?_))
   | exact ih0 _ _ _
   | exact LeO.none _
   | refine LeO.ite ?_ ?_
   | refine LeO.bind ?_ (fun _=>?_)
set_option maxHeartbeats 8000000 in
set_option maxRecDepth 100000 in
theorem impl_Tree_above.calls (k : Nat) (A0_0 : Option Addr) (c0_0 : Nat) (l0_0 : List (S125)) (a1 : Int) (r : List Int) (w : World) (hr0_0 : Kd.C k125 w A0_0 l0_0.length l0_0) (hc0_0 : l0_0.length ≤ c0_0) (h : impl_Tree_above.f k l0_0 a1 = some r) :
  Calls Try.prog 119 #[.agg #[.slice A0_0 l0_0.length c0_0],.int .i64 a1] w fun e w'=>∃ v0_ : Value,e = .returned (v0_) ∧ Kd.R (Kd.int .i64) 3 w' w.heap.size (fun _=>True) v0_ r ∧ Below w.heap.size w w':=by
 have hu25:=Try.underlying25
 have HR0_0:=a0_ hr0_0
 have HC0_0:=a0_ hc0_0
 clear hr0_0 hc0_0
 have HB:=a0_ (Below.refl w.heap.size w)
 have H : (if 0 ≤ (l0_0.length : Int) then (if ((l0_0.length : Int) : Int).toNat ≤ 35184372088832 then (impl_Tree_above.l0 k a1 (([] : List Int)) l0_0) else (none)) else (none)) = some r:=h
 clear h
 by_cases c3 : 0 ≤ (l0_0.length : Int)
 ·rw [if_pos c3] at H
  have c3b0:=eq_true c3
  have c3b1 : decide (0 ≤ (l0_0.length : Int)) = true:=decide_eq_true c3
  clear c3
  by_cases c4 : ((l0_0.length : Int) : Int).toNat ≤ 35184372088832
  ·rw [if_pos c4] at H
   have c4b0:=eq_true c4
   have c4b1 : decide (((l0_0.length : Int) : Int).toNat ≤ 35184372088832) = true:=decide_eq_true c4
   clear c4
   obtain ⟨y2,hy2⟩ : ∃ y_ : List Int,y_ = (([] : List Int)):=⟨_,rfl⟩
   replace H : (impl_Tree_above.l0 k a1 y2 l0_0) = some r:=by first | (rw [hy2];with_reducible exact H) | (have H2_:=(Option.bind_some _ _).symm.trans H;rw [hy2];with_reducible exact H2_) | (have H2_:=(Option.bind_some _ _).symm.trans H;with_reducible exact H2_) | with_reducible exact H | (rw [hy2];exact H) | exact H
   have Ny2:=a0_ hy2
   clear hy2
   have H':=a0_ H
   clear H
   go_enter Try.func119,Try.ntmps119
   go_wp2_with (first | ((with_reducible refine gate_dst (N:=2) rfl ?_);refine box_event ?hg (N:=2) ?hd (cs:=#[.slice A0_0 l0_0.length c0_0]) (t:=25) ?hr ?_;(case hd=>rfl);(case hg=>rfl);(case hr=>first | (go_simp;done) | (go_simp;rfl));intro gb1 hg w5 hbox hb;have BK1:=a0_ (hbox);have GW1:=a0_ ((by rw [hg];exact (below_size hbw_) : w.heap.size ≤ gb1));have GE1:=a0_ ((by rw [hg];exact (below_size hbw_) : w.heap.size ≤ gb1));replace HB:=a0_ (below_step hbw_ hb);clear hb hbox hg;have hcz6_0 : w5.cell? ⟨gb1,0,none⟩ = some (.slice A0_0 l0_0.length c0_0):=(blk_cell BK1.out 0).trans rfl;have hfz6_0:=blk_frozen BK1.out 0) | ((with_reducible refine gate_dst (N:=9) rfl ?_);refine Kd.R_make0 (Kd.int .i64) _ 3 rfl (N:=9) rfl 26 _ _ rfl (l0_0.length : Int) rfl rfl Try.underlying26 (.int .i64 0) 8 info3 rfl (by decide) (by omega) 0 (ok:=fun _=>True) (okp:=fun _=>True) rfl (fun _ hk=>hk) trivial (of_decide_eq_true (by first | (with_reducible assumption) | assumption)) (Nat.le_trans (Nat.mul_le_mul_right _ (of_decide_eq_true (by first | (with_reducible assumption) | assumption) : (l0_0.length : Int).toNat ≤ 35184372088832)) (by omega)) (Below.refl _ _) (Nat.le_refl _) ?_;intro v3 w7 ho8 hb hg_ hnew_;clear hg_ hnew_;(first | rw [← Ny2.out] at ho8 | (simp only [Int.reduceToNat] at ho8;rw [← Ny2.out] at ho8));have HO4:=a0_ (Kd.R_lower ho8 (below_size hbw_));replace BK1:=kb_ BK1 hb;replace HB:=a0_ (below_step hbw_ hb);clear hb ho8))
   go_loopg [1,5] k (fun kq v1 v5 w'=>∃ (x1_1 : Int) (x5_1 : List Int),v1 = .int .i64 x1_1 ∧ Aside0 (impl_Tree_above.l0 kq x1_1 x5_1 l0_0 = some r) ∧ Aside0 (kq ≤ k) ∧ Aside0 (Kd.R (Kd.int .i64) 3 w' w.heap.size (fun _=>True) v5 x5_1) ∧ Aside0 (w'.heap[gb1]? = some (.cells #[(.slice A0_0 l0_0.length c0_0)] 25 (0,0))) ∧ Aside0 (Below w.heap.size w w'))
   case atStart=>exact ⟨(a1),(y2),(by first | rfl | (simp;done) | (simp [*];done)),H',⟨Nat.le_refl _⟩,⟨by (with_reducible repeat (first | apply Kd.R_alloc | apply Kd.R_drewN | apply Kd.R_drew));exact HO4.out⟩,⟨by (with_reducible repeat (first | refine blk_drewN ?_ _ | refine blk_drew ?_ | refine blk_alloc ?_ _));exact BK1.out⟩,⟨hbw_⟩⟩
   case round =>
    clear H'
    try clear c1
    try clear p2
    try clear c3
    try clear c3b0
    try clear c3b1
    try clear c4
    try clear c4b0
    try clear c4b1
    try clear hcz6_0
    try clear hfz6_0
    obtain ⟨x1_1,x5_1,rfl,HA,HK1,HO_5,BK1,HB⟩:=hrel
    cases gk with
    | zero=>exact absurd HA.out (by simp [impl_Tree_above.l0])
    | succ k1 =>
     have H:=HA.out
     clear HA
     simp only [impl_Tree_above.l0] at H
     by_cases c9 : x1_1 ≥ 0
     ·rw [if_pos c9] at H
      have c9b0 : decide (0 ≤ x1_1) = true:=decide_eq_true c9
      clear c9
      by_cases c10 : x5_1.length < 17592186044416
      ·rw [if_pos c10] at H
       have LMc10:=a0_ c10
       clear c10
       obtain ⟨y5,hy5⟩ : ∃ y_ : List Int,y_ = (x5_1 ++ [x1_1]):=⟨_,rfl⟩
       replace H : (if 0 ≤ x1_1 then (if x1_1 < (l0_0.length : Int) then (impl_Tree_above.l0 k1 ((rd_T125 l0_0 x1_1).f1) y5 l0_0) else (none)) else (none)) = some r:=by first | (rw [hy5];with_reducible exact H) | (have H2_:=(Option.bind_some _ _).symm.trans H;rw [hy5];with_reducible exact H2_) | (have H2_:=(Option.bind_some _ _).symm.trans H;with_reducible exact H2_) | with_reducible exact H | (rw [hy5];exact H) | exact H
       have Ny5:=a0_ hy5
       clear hy5
       by_cases c11 : 0 ≤ x1_1
       ·rw [if_pos c11] at H
        have c11b0 : decide (0 ≤ x1_1) = true:=decide_eq_true c11
        clear c11
        by_cases c12 : x1_1 < (l0_0.length : Int)
        ·rw [if_pos c12] at H
         have c12b0 : decide (x1_1 < (l0_0.length : Int)) = true:=decide_eq_true c12
         clear c12
         have H':=a0_ H
         clear H
         go_wp2_with (first | ((with_reducible refine gate_builtin (b:=.append) (xs:=#[.tmp 18,.tmp 20]) rfl ?_);at_builtin;refine Kd.R_append (Kd.int .i64) (w0:=w) w.heap.size rfl (.tmp 18) (.tmp 20) 26 3 (.int .i64 0) 8 rfl Try.underlying26 info3 rfl (by decide) (by omega) u5 x5_1 x1_1 [.int .i64 x1_1] (fun _=>True) (fun _=>False) rfl rfl ?aP (fun _ hk=>hk.elim) ?aF ?aO ?aB ?aS ?aL ?_;(case aP=>exact rfl);(case aB=>exact hbw_);(case aF=>exact (fun _ _=>trivial));(case aO=>exact (rr_ HO_5.out));(case aS=>exact (below_size hbw_));(case aL=>have:=LMc10.out;omega);intro v6 w13 ho hb hg hat;rw [← Ny5.out] at ho;replace BK1:=a0_ (blk_grown (bb_ BK1.out) hg (Kd.R_ne HO_5.out BK1.out (by decide)));have HO7:=a0_ (ho);replace HB:=a0_ (hb);clear HO_5;clear ho hb hg hat;have hcz14_0 : w13.cell? ⟨gb1,0,none⟩ = some (.slice A0_0 l0_0.length c0_0):=(blk_cell BK1.out 0).trans rfl;have hfz14_0:=blk_frozen BK1.out 0;have p8 : 0 ≤ (x1_1 : Int):=of_decide_eq_true (by first | (with_reducible assumption) | assumption);have q8 : x1_1 < (l0_0.length : Int):=of_decide_eq_true (by first | (with_reducible assumption) | assumption);obtain ⟨ad8,e8,hx8_0,hx8_1⟩:=at_T125 HR0_0.out x1_1 p8 q8;cases e8;replace hx8_0:=(HB.out.cell (World.block_lt_of_cell? w _ hx8_0)).trans hx8_0;replace hx8_1:=(HB.out.cell (World.block_lt_of_cell? w _ hx8_1)).trans hx8_1;replace p8:=eq_true p8;replace q8:=eq_true q8))
         go_roundg k1
         case measure=>have:=HK1.out;omega
         case rel=>exact ⟨((rd_T125 l0_0 x1_1).f1),(y5),(by first | rfl | (simp;done) | (simp [*];done)),H',⟨by have:=HK1.out;omega⟩,⟨by (with_reducible repeat (first | apply Kd.R_alloc | apply Kd.R_drewN | apply Kd.R_drew));exact HO7.out⟩,⟨by (with_reducible repeat (first | refine blk_drewN ?_ _ | refine blk_drew ?_ | refine blk_alloc ?_ _));exact BK1.out⟩,⟨hbw_⟩⟩
        ·rw [if_neg c12] at H
         exact absurd H (by simp)
       ·rw [if_neg c11] at H
        exact absurd H (by simp)
      ·rw [if_neg c10] at H
       exact absurd H (by simp)
     ·rw [if_neg c9] at H
      have c9b0 : decide (0 ≤ x1_1) = false:=decide_eq_false c9
      clear c9
      by_cases c15 : 0 ≤ (x5_1.length : Int)
      ·rw [if_pos c15] at H
       have c15b0:=eq_true c15
       have c15b1 : decide (0 ≤ (x5_1.length : Int)) = true:=decide_eq_true c15
       clear c15
       by_cases c16 : (x5_1.length : Int) ≤ (x5_1.length : Int)
       ·rw [if_pos c16] at H
        have c16b0:=eq_true c16
        have c16b1 : decide ((x5_1.length : Int) ≤ (x5_1.length : Int)) = true:=decide_eq_true c16
        clear c16
        obtain ⟨y9,hy9⟩ : ∃ y_ : List Int,y_ = (x5_1.take ((x5_1.length : Int) : Int).toNat):=⟨_,rfl⟩
        replace H : (some y9) = some r:=by first | (rw [hy9];with_reducible exact H) | (have H2_:=(Option.bind_some _ _).symm.trans H;rw [hy9];with_reducible exact H2_) | (have H2_:=(Option.bind_some _ _).symm.trans H;with_reducible exact H2_) | with_reducible exact H | (rw [hy9];exact H) | exact H
        have Ny9:=a0_ hy9
        clear hy9
        obtain rfl:=Option.some.inj H
        obtain ⟨Ao17,co17,eo17⟩:=Kd.R_slice HO_5.out
        subst eo17
        have q18 : x5_1.length ≤ co17:=(Kd.R_reads' HO_5.out).2.1
        have hr18:=Kd.R_clip2 HO_5.out (((x5_1.length : Int) : Int).toNat) (by omega)
        rw [← Ny9.out] at hr18
        clear HO_5
        have HO11:=a0_ hr18
        clear hr18
        go_wp2
        go_ret
        exact ⟨_,by first | rfl | (simp [errW_none,errW_some] <;> rfl) | (simp [*,errW_none,errW_some] <;> rfl),by (with_reducible repeat (first | apply Kd.R_alloc | apply Kd.R_drewN | apply Kd.R_drew));exact HO11.out,hbw_⟩
       ·rw [if_neg c16] at H
        exact absurd H (by simp)
      ·rw [if_neg c15] at H
       exact absurd H (by simp)
  ·rw [if_neg c4] at H
   exact absurd H (by simp)
 ·rw [if_neg c3] at H
  exact absurd H (by simp)
theorem impl_Tree_above_l0 {t : List Cls} (h : vT t = true) : ∀ (k : Nat) (a : Int) (acc : List Int),a < (t.length : Int) → a + 1 < (k : Int) → 0 < k → acc.length + k ≤ 1000000 → impl_Tree_above.l0 k a acc t = some (acc ++ abv t a):=by
 intro k
 induction k with
 | zero=>intro a acc _ _ h0;exact absurd h0 (Nat.lt_irrefl 0)
 | succ k ih =>
  intro a acc ha hk _ hl
  simp only [impl_Tree_above.l0]
  by_cases h0 : a ≥ 0
  ·have hp:=vT_par' h a h0 ha
   rw [if_pos h0,if_pos (show acc.length < 17592186044416 by omega),if_pos (show 0 ≤ a from h0),if_pos ha,abv_step h a h0 ha,ih _ _ (by omega) (by omega) (by omega) (by simp;omega)]
   simp
  ·rw [if_neg h0,abv_neg t a (by omega),List.append_nil]
   rw [if_pos (show (0 : Int) ≤ (acc.length : Int) by omega),if_pos (Int.le_refl _)]
   rw [List.take_of_length_le (by simp)]
theorem impl_Tree_above_ev {t : List Cls} (h : vT t = true) (a : Int) (ha : a < (t.length : Int)) (k : Nat) (hk : 10 ≤ k) (hk2 : k ≤ 1000000) : impl_Tree_above.f k t a = some (abv t a):=by
 have h2:=vT_len h
 unfold impl_Tree_above.f
 rw [if_pos (show (0 : Int) ≤ (t.length : Int) by omega),if_pos (show ((t.length : Int) : Int).toNat ≤ 35184372088832 by omega),impl_Tree_above_l0 h k a [] ha (by omega) (by omega) (by simp;omega)]
 simp
end Go.Proofs.Ytacgehaipacehaa.P
namespace Go.Proofs.Ytacgehaipacehaa.P
open Go.RowKit Go.Proofs.YtacgehaipacehaaW.PrintWords Go.Proofs.YtacgehaipacehaaW.PrintLast Go.Proofs.YtacgehaipacehaaW.PrintMore
attribute [local go_sem] max2_int min2_int max_two min_two max_three min_three max_four min_four
set_option linter.unusedVariables false
set_option linter.unusedSimpArgs false
def impl_Tree_is.f (k : Nat) (l0_0 : List (S125)) (a1 : Int) (a2 : Int) : Option (Bool):=(impl_Tree_above.f k l0_0 a1).bind fun t2=>((slices_Contains_int.f k t2 a2).bind fun t5=>(some t5))
theorem impl_Tree_is.mono : ∀ a0 a1 a2 k,LeO (impl_Tree_is.f k a0 a1 a2) (impl_Tree_is.f (k + 1) a0 a1 a2):=by
 intro a0 a1 a2 k
 unfold impl_Tree_is.f
 repeat' first
   | (with_reducible exact impl_Tree_above.mono _ _ _)
   | (with_reducible exact slices_Contains_int.mono _ _ _)
   | (with_reducible exact LeO.refl _)
   | (with_reducible exact LeO.none _)
   | (with_reducible refine LeO.ite ?_ ?_)
   | (with_reducible refine LeO.bind ?_ (fun _=>?_))
   | exact impl_Tree_above.mono _ _ _
   | exact slices_Contains_int.mono _ _ _
   | exact LeO.none _
   | refine LeO.ite ?_ ?_
   | refine LeO.bind ?_ (fun _=>?_)
set_option maxHeartbeats 8000000 in
set_option maxRecDepth 100000 in
theorem impl_Tree_is.calls (k : Nat) (A0_0 : Option Addr) (c0_0 : Nat) (l0_0 : List (S125)) (a1 : Int) (a2 : Int) (r : Bool) (w : World) (hr0_0 : Kd.C k125 w A0_0 l0_0.length l0_0) (hc0_0 : l0_0.length ≤ c0_0) (h : impl_Tree_is.f k l0_0 a1 a2 = some r) :
  Calls Try.prog 66 #[.agg #[.slice A0_0 l0_0.length c0_0],.int .i64 a1,.int .i64 a2] w fun e w'=>e = .returned (.bool r) ∧ Below w.heap.size w w':=by
 have hu25:=Try.underlying25
 have HR0_0:=a0_ hr0_0
 have HC0_0:=a0_ hc0_0
 clear hr0_0 hc0_0
 have HB:=a0_ (Below.refl w.heap.size w)
 have H : ((impl_Tree_above.f k l0_0 a1).bind fun t2=>((slices_Contains_int.f k t2 a2).bind fun t5=>(some t5))) = some r:=h
 clear h
 replace H:=Option.bind_eq_some_iff.mp H
 obtain ⟨t2,A40,H⟩:=H
 try dsimp only at H
 have A4:=a0_ A40
 clear A40
 replace H:=Option.bind_eq_some_iff.mp H
 obtain ⟨t5,A50,H⟩:=H
 replace H : (some t5) = some r:=H
 have A5:=a0_ A50
 clear A50
 obtain rfl:=Option.some.inj H
 go_enter Try.func66,Try.ntmps66
 go_wp2_with (first | ((with_reducible refine gate_dst (N:=3) rfl ?_);refine box_event ?hg (N:=3) ?hd (cs:=#[.slice A0_0 l0_0.length c0_0]) (t:=25) ?hr ?_;(case hd=>rfl);(case hg=>rfl);(case hr=>first | (go_simp;done) | (go_simp;rfl));intro gb1 hg w6 hbox hb;have BK1:=a0_ (hbox);have GW1:=a0_ ((by rw [hg];exact (below_size hbw_) : w.heap.size ≤ gb1));have GE1:=a0_ ((by rw [hg];exact (below_size hbw_) : w.heap.size ≤ gb1));replace HB:=a0_ (below_step hbw_ hb);clear hb hbox hg;have hcz7_0 : w6.cell? ⟨gb1,0,none⟩ = some (.slice A0_0 l0_0.length c0_0):=(blk_cell BK1.out 0).trans rfl;have hfz7_0:=blk_frozen BK1.out 0) | ((with_reducible refine gate_callee (f:=119) rfl ?_);refine goesL_ (some 9) rfl rfl Try.func119 (by kernel_rfl) rfl #[.agg #[.slice A0_0 l0_0.length c0_0],.int .i64 a1] rfl lm_ ?_;(with_reducible refine (impl_Tree_above.calls k _ _ l0_0 a1 t2 _ ?side1 ?side2 A4.out).mono ?_);(case side1=>exact cc_ (Kd.C_below HR0_0.out HB.out));(case side2=>exact HC0_0.out);rintro e w8 ⟨v3,rfl,ho0,hb⟩;refine ⟨_,rfl,?_⟩;have HO4:=a0_ (Kd.R_lower ho0 (below_size hbw_));replace BK1:=kb_ BK1 hb;replace HB:=a0_ (below_step hbw_ hb);(try clear hb);(try clear ho0);obtain ⟨Ao9,co9,eo9⟩:=Kd.R_slice HO4.out;subst eo9) | ((with_reducible refine gate_callee (f:=118) rfl ?_);refine goesL_ (some 11) rfl rfl Try.func118 (by kernel_rfl) rfl #[.slice Ao9 t2.length co9,.int .i64 a2] rfl lm_ ?_;(with_reducible refine (slices_Contains_int.calls k _ _ t2 a2 t5 _ ?side1 ?side2 A5.out).mono ?_);(case side1=>exact cc_ (Kd.R_reads' HO4.out).2.2);(case side2=>exact (Kd.R_reads' HO4.out).2.1);rintro e w' ⟨rfl,⟨nd,rfl⟩⟩;refine ⟨_,rfl,?_⟩))
 go_ret
 exact ⟨by first | rfl | (simp [errW_none,errW_some] <;> rfl) | (simp [*,errW_none,errW_some] <;> rfl),hbw_⟩
theorem impl_Tree_is_ev {t : List Cls} (h : vT t = true) (a b : Int) (ha : a < (t.length : Int)) (k : Nat) (hk : 10 ≤ k) (hk2 : k ≤ 1000000) : impl_Tree_is.f k t a b = some (isA t a b):=by
 have hl:=abv_len h a ha
 unfold impl_Tree_is.f
 rw [impl_Tree_above_ev h a ha k hk hk2]
 simp only [Option.bind_some]
 rw [slices_Contains_int_ev _ _ (by omega) k (by omega)]
 rfl
end Go.Proofs.Ytacgehaipacehaa.P
namespace Go.Proofs.Ytacgehaipacehaa.P
open Go.RowKit Go.Proofs.YtacgehaipacehaaW.PrintWords Go.Proofs.YtacgehaipacehaaW.PrintLast Go.Proofs.YtacgehaipacehaaW.PrintMore
attribute [local go_sem] max2_int min2_int max_two min_two max_three min_three max_four min_four
set_option linter.unusedVariables false
set_option linter.unusedSimpArgs false
open Go.Shelf
attribute [local go_sem] Oper.semAt_some
def bwUpto {α : Type} (f : Nat → α) (k : Nat) : List α:=(List.range k).map f
theorem bwUpto_succ {α : Type} (f : Nat → α) (k : Nat) : bwUpto f (k + 1) = bwUpto f k ++ [f k]:=by simp [bwUpto,List.range_succ]
theorem bwUpto_length {α : Type} (f : Nat → α) (k : Nat) : (bwUpto f k).length = k:=by simp [bwUpto]
def bwAt {α : Type} (z : α) (l : List α) (k : Nat) : Nat × α:=(l.length - 1 - k,l[l.length - 1 - k]?.getD z)
def bwKp (n₀ Bs : Nat) (W W' : World) : Prop:=Below n₀ W W' ∧ W'.heap[Bs]? = W.heap[Bs]?
theorem bwKp_refl (n₀ Bs : Nat) (W : World) : bwKp n₀ Bs W W:=⟨Below.refl _ _,rfl⟩
theorem bwKp_t {n₀ Bs : Nat} {A B C : World} (h1 : bwKp n₀ Bs A B) (h2 : bwKp n₀ Bs B C) : bwKp n₀ Bs A C:=⟨h1.1.trans h2.1,h2.2.trans h1.2⟩
set_option maxRecDepth 100000 in
set_option maxHeartbeats 2000000 in
theorem slices_Backward_Range_1.callsI (F : Fence) (n : Nat) (h7 : F.fn 124) (hro : F.round = none) (hn : 1 ≤ n) (l Bs : Nat) (A : Option Addr) (c : Nat) (zs : List S95) (hreach : zs.length ≤ 1099511627776) (w0 : World) (hr : Kd.C k95 w0 A zs.length zs) (J Jx : List (Nat × S95) → World → Prop)
  (hY : ∀ pre x W,J pre W → pre.length < zs.length → YieldAt F (n - 1) Try.prog l #[.int .i64 (x.1 : Int),.agg #[.int .i64 x.2.f0,.int .i64 x.2.f1,.int .i64 x.2.f2,.int .i64 x.2.f3]] W fun e W' =>
   (e = .returned (.bool true) ∧ J (pre ++ [x]) W' ∧ bwKp w0.heap.size Bs W W') ∨ (e = .returned (.bool false) ∧ Jx (pre ++ [x]) W'))
  (W : World) (hW : Below w0.heap.size w0 W) (hBs : W.heap[Bs]? = some (.cells #[.slice A zs.length c] 44 (0,0))) (h0 : J [] W) :
  CallsIn F n Try.prog 124 #[.func (.yield l) #[] #[],.pointer (some ⟨Bs,0,none⟩)] W fun e W'=>(∃ v,e = .returned v) ∧
   ((∃ ys,ys = bwUpto (bwAt z95 zs) zs.length ∧ J ys W') ∨ (∃ pre,(∃ k,k ≤ zs.length ∧ pre = bwUpto (bwAt z95 zs) k) ∧ Jx pre W')):=by
 have HR:=a0_ hr
 have HBS:=a0_ hBs
 have HW:=a0_ hW
 clear hr hBs hW
 have hcb : W.cell? ⟨Bs,0,none⟩ = some (.slice A zs.length c):=(blk_cell HBS.out 0).trans rfl
 refine callsIn_of_wp Try.func124 rfl h7 ?_ hro
 simp only [Try.ntmps124,List.size_toArray,List.length_cons,List.length_nil,Nat.reduceAdd,Nat.reduceSub,Array.replicate_succ,Array.replicate_zero,List.push_toArray,List.append_toArray,List.nil_append,List.cons_append]
 have hs_ : wrap64 ((zs.length : Int) - 1) = (zs.length : Int) - 1:=wrap_in (by omega) (by omega)
 gi_wp2
 clear hcb
 gi_loopw [3] (fun i wr=>∃ m : Nat,m ≤ zs.length ∧ i = .int .i64 ((m : Int) - 1) ∧ Aside0 (J (bwUpto (bwAt z95 zs) (zs.length - m)) wr) ∧ Aside0 (bwKp w0.heap.size Bs W wr))
  (fun i _=>(intOf i + 1).toNat)
 case atStart=>exact ⟨zs.length,Nat.le_refl _,by first | rfl | (rw [hs_]),⟨by rw [Nat.sub_self];exact h0⟩,⟨bwKp_refl _ _ _⟩⟩
 case round =>
  obtain ⟨m,hm,rfl,HJ,HK⟩:=hrel
  have hcb : wr.cell? ⟨Bs,0,none⟩ = some (.slice A zs.length c):=(blk_cell (HK.out.2.trans HBS.out) 0).trans rfl
  cases m with
  | succ m =>
   have e1 : ((m + 1 : Nat) : Int) - 1 = (m : Int):=by omega
   rw [e1]
   have hge : (0 : Int) ≤ (m : Int):=by omega
   have hlt : (m : Int) < (zs.length : Int):=by omega
   obtain ⟨ad,ea,hx0,hx1,hx2,hx3⟩:=at_T95 (Kd.C_below HR.out (HW.out.trans HK.out.1)) (m : Int) (by omega) hlt
   have hrd : rd_T95 zs (m : Int) = zs[m]?.getD z95:=by simp [rd_T95]
   rw [hrd] at hx0 hx1 hx2 hx3
   rw [Int.toNat_natCast] at hx0 hx1 hx2 hx3
   cases ea
   have hat : bwAt z95 zs (zs.length - (m + 1)) = (m,zs[m]?.getD z95):=by unfold bwAt;rw [show zs.length - 1 - (zs.length - (m + 1)) = m by omega]
   obtain ⟨fn,tmps,assign,body,hy,hR⟩:=hY _ (m,zs[m]?.getD z95) wr HJ.out (by rw [bwUpto_length];omega)
   dsimp only at hy
   have HRND:=a0_ hR
   clear hR
   gi_wp2
   refine HRND.out.mono ?_
   rintro e W3 (⟨rfl,hJ3,hk3⟩ | ⟨rfl,hJx3⟩)
   ·gi_wp2
    go_roundw
    case rel=>exact ⟨m,by omega,by first | rfl | (rw [wrap_in (by omega) (by omega)]),⟨by rw [show zs.length - m = (zs.length - (m + 1)) + 1 by omega,bwUpto_succ,hat];exact hJ3⟩,⟨bwKp_t HK.out hk3⟩⟩
    case measure=>simp [intOf]
   ·gi_wp2
    refine bodyPost_ret (results_none rfl _ _ _) rfl ?_
    exact ⟨⟨_,rfl⟩,.inr ⟨_,⟨zs.length - (m + 1) + 1,by omega,by rw [bwUpto_succ,hat]⟩,hJx3⟩⟩
  | zero =>
   gi_wp2
   go_end0
   exact ⟨⟨_,rfl⟩,.inl ⟨_,rfl,by have:=HJ.out;rw [Nat.sub_zero] at this;exact this⟩⟩
theorem slices_Backward_Range_1.stops (F : Fence) (n : Nat) (h7 : F.fn 124) (hro : F.round = none) (hn : 1 ≤ n) (Bs : Nat) (A : Option Addr) (c : Nat) (zs : List S95) (hreach : zs.length ≤ 1099511627776) (w0 : World) (hr : Kd.C k95 w0 A zs.length zs) (w : World) (hw : Below w0.heap.size w0 w) (hBs : w.heap[Bs]? = some (.cells #[.slice A zs.length c] 44 (0,0))) :
  SeqStopsK F n Try.prog 124 #[.pointer (some ⟨Bs,0,none⟩)] (fun x : Nat × S95=>#[.int .i64 (x.1 : Int),.agg #[.int .i64 x.2.f0,.int .i64 x.2.f1,.int .i64 x.2.f2,.int .i64 x.2.f3]]) (bwKp w0.heap.size Bs) (fun ys=>ys = bwUpto (bwAt z95 zs) zs.length) (fun pre=>∃ k,k ≤ zs.length ∧ pre = bwUpto (bwAt z95 zs) k) zs.length w:=fun l J Jx W hW _ _ hY h0 =>
 slices_Backward_Range_1.callsI F n h7 hro hn l Bs A c zs hreach w0 hr J Jx hY W (hw.trans (hW.mono hw.size)) (blk_keptB hBs hW) h0
theorem bwKp_b {n₀ Bs : Nat} {w : World} (hn : n₀ ≤ w.heap.size) (hB : Bs < w.heap.size) (W : World) (l : Nat) (o o' : Obj) (hl : w.heap.size ≤ l) (h : W.heap[l]? = some o) (h1 : o.isCells = false) (h2 : o.isWalk = false) : bwKp n₀ Bs W (W.putObj l o') :=
 ⟨belowK_b hn W l o o' hl h h1 h2,World.putObj_heap_other (fun e=>by omega)⟩
end Go.Proofs.Ytacgehaipacehaa.P
namespace Go.Proofs.Ytacgehaipacehaa.P
open Go.RowKit Go.Proofs.YtacgehaipacehaaW.PrintWords Go.Proofs.YtacgehaipacehaaW.PrintLast Go.Proofs.YtacgehaipacehaaW.PrintMore
attribute [local go_sem] max2_int min2_int max_two min_two max_three min_three max_four min_four
set_option linter.unusedVariables false
set_option linter.unusedSimpArgs false
set_option maxHeartbeats 1000000 in
theorem slices_Backward_Range.callsI (F : Fence) (n : Nat) (h5 : F.fn 74) (hro : F.round = none) (a : Option Addr) (len cap : Nat) (w : World) :
  CallsIn F n Try.prog 74 #[.slice a len cap] w fun e w'=>e = .returned (.func (.func 124) #[] #[.pointer (some ⟨w.heap.size,0,none⟩)]) ∧ w' = w.alloc (.cells #[.slice a len cap] 44):=by
 refine callsIn_of_wp Try.func74 rfl h5 ?_ hro
 simp only [Try.ntmps74,List.size_toArray,List.length_cons,List.length_nil,Nat.reduceAdd,Nat.reduceSub,Array.replicate_succ,Array.replicate_zero,List.push_toArray,List.append_toArray,List.nil_append,List.cons_append]
 gi_wp2
 go_ret
 exact ⟨rfl,rfl⟩
end Go.Proofs.Ytacgehaipacehaa.P
namespace Go.Proofs.Ytacgehaipacehaa.P
open Go.RowKit Go.Proofs.YtacgehaipacehaaW.PrintWords Go.Proofs.YtacgehaipacehaaW.PrintLast Go.Proofs.YtacgehaipacehaaW.PrintMore
attribute [local go_sem] max2_int min2_int max_two min_two max_three min_three max_four min_four
set_option linter.unusedVariables false
set_option linter.unusedSimpArgs false
open Go.Shelf
attribute [local go_sem] Oper.semAt_some
def impl_LookUp.f (l0_0 : List Cls) (l1 : List S95) (a2 a3 : Int) : Option Int:=if smT l0_0 = true ∧ l1.length ≤ 1099511627776 then some (lkP l0_0 l1 a2 a3) else none
theorem C_int1 {w : World} {g t : Nat} {a : Int} (h : w.heap[g]? = some (.cells #[.int .i64 a] t (0,0))) : Kd.C (Kd.int .i64) w (some ⟨g,0,none⟩) [a].length [a]:=by
 refine ⟨rfl,(by simp : [a].length ≤ 9223372036854775807),fun _=>⟨_,rfl,fun j p hj=>?_⟩⟩
 cases j with
 | zero =>
  obtain rfl : a = p:=Option.some.inj hj
  refine ⟨[.int .i64 a],rfl,rfl,fun i u hi=>?_⟩
  cases i with
  | zero=>exact (blk_cell h 0).trans hi
  | succ i=>cases hi
 | succ j=>cases hj
theorem bw_snd {α : Type} (z : α) (l : List α) : (bwUpto (bwAt z l) l.length).map Prod.snd = l.reverse:=by
 apply List.ext_getElem
 ·simp [bwUpto]
 ·intro i h1 h2
  have h3 : i < l.length:=by simpa using h2
  have h4 : l.length - 1 - i < l.length:=by omega
  simp [bwUpto,bwAt,h4]
theorem bw_mem {α : Type} (z : α) (l : List α) (k : Nat) (hk : k ≤ l.length) (x : Nat × α) (hx : x ∈ bwUpto (bwAt z l) k) : x.2 ∈ l:=by
 obtain ⟨j,hj,rfl⟩:=List.mem_map.1 hx
 rw [List.mem_range] at hj
 have h4 : l.length - 1 - j < l.length:=by omega
 simp [bwAt,h4]
theorem bw_all {α : Type} (z : α) (l : List α) (p : α → Bool) (h : ∀ x ∈ bwUpto (bwAt z l) l.length,p x.2 = true) : l.all p = true:=by
 rw [List.all_eq_true]
 intro y hy
 have hy2 : y ∈ (bwUpto (bwAt z l) l.length).map Prod.snd:=by rw [bw_snd];exact List.mem_reverse.2 hy
 obtain ⟨x,hx,rfl⟩:=List.mem_map.1 hy2
 exact h x hx
theorem lk_fold (t : List Cls) (i a : Int) (l : List S95) : l.reverse.foldl (fun s x=>if rgIn t i a x = true then x.f2 else s) (-1) = lkF t i a l:=by
 rw [List.foldl_reverse]
 induction l with
 | nil=>rfl
 | cons x l ih =>
  rw [List.foldr_cons,ih]
  unfold lkF
  rw [List.find?_cons]
  cases rgIn t i a x <;> rfl
theorem lkB_all (t : List Cls) (i a : Int) (l : List S95) : lkB t i a (bwUpto (bwAt z95 l) l.length) = lkF t i a l:=by
 rw [← lk_fold,← bw_snd z95 l,List.foldl_map]
 rfl
theorem own_blk {β : Type} (B : Nat) (g : β → Nat) (o : β → Obj) (ho : ∀ s,(o s).isCells = true) : OwnFrom B (fun (s : β) W=>W.heap[g s]? = some (o s)):=fun s W W' row hs hg hr=>(hg.block _ (blk_lt hs) (fun e=>by
 obtain ⟨_,o',h1,h2⟩:=hr _ e.symm
 rw [hs] at h1
 cases h1
 rw [ho] at h2
 cases h2)).trans hs
theorem ko_below {W W' : World} (h : Below W.heap.size W W') : KeepsOthers W W':=⟨h.size,fun k o hk _=>blk_keptB hk h⟩
set_option maxRecDepth 100000 in
set_option maxHeartbeats 4000000 in
theorem impl_LookUp.calls (A0_0 : Option Addr) (c0_0 : Nat) (l0_0 : List (S125)) (A1 : Option Addr) (c1 : Nat) (l1 : List (S95)) (a2 a3 : Int) (r : Int) (w : World) (hr0_0 : Kd.C k125 w A0_0 l0_0.length l0_0) (hc0_0 : l0_0.length ≤ c0_0) (hr1 : Kd.C k95 w A1 l1.length l1) (hc1 : l1.length ≤ c1) (h : impl_LookUp.f l0_0 l1 a2 a3 = some r) :
  Calls Try.prog 26 #[.agg #[.slice A0_0 l0_0.length c0_0],.slice A1 l1.length c1,.int .i64 a2,.int .i64 a3] w fun e w'=>e = .returned (.int .i64 r) ∧ Below w.heap.size w w':=by
 have hu_:=Try.underlying25
 have hsm : smT l0_0 = true ∧ l1.length ≤ 1099511627776:=by
  apply Classical.byContradiction
  intro hn
  rw [impl_LookUp.f,if_neg hn] at h
  cases h
 rw [impl_LookUp.f,if_pos hsm] at h
 have HL:=a0_ (Option.some.inj h)
 have HCI:=a0_ (fun (q : Bool) (hq : (vT l0_0 && hasC l0_0 a3) = q) (W : World) (g t : Nat) (hb : Below w.heap.size w W) (hg : W.heap[g]? = some (.cells #[.int .i64 a3] t (0,0)))=>impl_classesIn.calls A0_0 c0_0 l0_0 (some ⟨g,0,none⟩) 1 [a3] q W (Kd.C_below hr0_0 hb) hc0_0 (C_int1 hg) (Nat.le_refl _) (by rw [impl_classesIn.f,if_pos hsm.1,← hq];simp))
 have HHAS:=a0_ (fun (a : Int) (q : Bool) (hq : hasC l0_0 a = q) (W : World) (hb : Below w.heap.size w W)=>impl_Tree_has.calls A0_0 c0_0 l0_0 a q W (Kd.C_below hr0_0 hb) hc0_0 (by rw [impl_Tree_has_ev l0_0 a hr0_0.2.1,hq]))
 have HIS:=a0_ (fun (hv : vT l0_0 = true) (ha : a3 < (l0_0.length : Int)) (b : Int) (q : Bool) (hq : isA l0_0 a3 b = q) (W : World) (hb : Below w.heap.size w W)=>impl_Tree_is.calls 10 A0_0 c0_0 l0_0 a3 b q W (Kd.C_below hr0_0 hb) hc0_0 (by rw [impl_Tree_is_ev hv a3 b ha 10 (by omega) (by omega),hq]))
 have HR1:=a0_ hr1
 clear h hr0_0 hr1 hc0_0 hc1
 have b1:=heap_new1 w (.cells #[.slice A0_0 l0_0.length c0_0] 25)
 have b2:=heap_new1 (w.alloc (.cells #[.slice A0_0 l0_0.length c0_0] 25)) (.cells #[.int .i64 a2] 3)
 have b3:=heap_new1 ((w.alloc (.cells #[.slice A0_0 l0_0.length c0_0] 25)).alloc (.cells #[.int .i64 a2] 3)) (.cells #[.int .i64 a3] 3)
 have b4:=heap_new1 (((w.alloc (.cells #[.slice A0_0 l0_0.length c0_0] 25)).alloc (.cells #[.int .i64 a2] 3)).alloc (.cells #[.int .i64 a3] 3)) (.cells #[.int .i64 0] 3)
 have b5:=heap_new1 ((((w.alloc (.cells #[.slice A0_0 l0_0.length c0_0] 25)).alloc (.cells #[.int .i64 a2] 3)).alloc (.cells #[.int .i64 a3] 3)).alloc (.cells #[.int .i64 0] 3)) (.cells #[.int .i64 a3] 3)
 simp only [World.size_alloc] at b2 b3 b4 b5
 have B1:=a0_ (blk_alloc (blk_alloc (blk_alloc (blk_alloc b1 (.cells #[.int .i64 a2] 3)) (.cells #[.int .i64 a3] 3)) (.cells #[.int .i64 0] 3)) (.cells #[.int .i64 a3] 3))
 have B2:=a0_ (blk_alloc (blk_alloc (blk_alloc b2 (.cells #[.int .i64 a3] 3)) (.cells #[.int .i64 0] 3)) (.cells #[.int .i64 a3] 3))
 have B3:=a0_ (blk_alloc (blk_alloc b3 (.cells #[.int .i64 0] 3)) (.cells #[.int .i64 a3] 3))
 have B4:=a0_ (blk_alloc b4 (.cells #[.int .i64 a3] 3))
 have B5:=a0_ b5
 have HB:=a0_ (below_alloc (below_alloc (below_alloc (below_alloc (below1 w (.cells #[.slice A0_0 l0_0.length c0_0] 25)) (.cells #[.int .i64 a2] 3)) (.cells #[.int .i64 a3] 3)) (.cells #[.int .i64 0] 3)) (.cells #[.int .i64 a3] 3))
 clear b1 b2 b3 b4 b5
 have hcT:=(blk_cell B1.out 0).trans rfl
 refine (callsIn_wide (n:=3)).1 ?_
 refine callsIn_of_wp_marks Try.func26 rfl trivial ?_ rfl
 simp only [Try.ntmps26,List.size_toArray,List.length_cons,List.length_nil,Nat.reduceAdd,Nat.reduceSub,Array.replicate_succ,Array.replicate_zero,List.push_toArray,List.append_toArray,List.nil_append,List.cons_append]
 gi_wp2_with (fail)
 generalize ((((w.alloc (.cells #[.slice A0_0 l0_0.length c0_0] 25)).alloc (.cells #[.int .i64 a2] 3)).alloc (.cells #[.int .i64 a3] 3)).alloc (.cells #[.int .i64 0] 3)).alloc (.cells #[.int .i64 a3] 3) = W1 at B1 B2 B3 B4 B5 HB ⊢
 clear hcT
 cases hq : (vT l0_0 && hasC l0_0 a3) with
 | false =>
  have hr_ : r = -1:=by rw [← HL.out,lkP,if_neg (fun hh=>by rw [hq] at hh;exact Bool.noConfusion hh.1)]
  subst hr_
  refine ⟨trivial,?_⟩
  refine (callsIn_wide.2 (HCI.out false hq _ _ _ HB.out B5.out)).mono ?_
  rintro e W2 ⟨rfl,hb⟩
  replace B4:=a0_ (blk_keptB B4.out hb)
  replace HB:=a0_ (below_step HB.out hb)
  clear hb
  have hc4:=(blk_cell B4.out 0).trans rfl
  have hf4:=blk_frozen B4.out 0
  gi_wp2
  refine ⟨.int .i64 (-1),?_,rfl,below_set HB.out (by omega)⟩
  have hc5:=(blk_cell (blk_put B4.out 0 (.int .i64 (-1)) rfl) 0).trans rfl
  simp [results,Try.f26,go_sem,hc5]
 | true =>
  refine ⟨trivial,?_⟩
  refine (callsIn_wide.2 (HCI.out true hq _ _ _ HB.out B5.out)).mono ?_
  rintro e W2 ⟨rfl,hb⟩
  replace B1:=a0_ (blk_keptB B1.out hb)
  replace B2:=a0_ (blk_keptB B2.out hb)
  replace B3:=a0_ (blk_keptB B3.out hb)
  replace B4:=a0_ (blk_keptB B4.out hb)
  replace HB:=a0_ (below_step HB.out hb)
  clear hb B5
  by_cases hlen : (l1.length : Int) > 24
  ·have hlen2:=eq_true hlen
   have hc4:=(blk_cell B4.out 0).trans rfl
   have hf4:=blk_frozen B4.out 0
   have hr_ : r = -1:=by rw [← HL.out,lkP,if_neg (fun hh=>by rw [hq,Bool.true_and,decide_eq_true_eq] at hh;omega)]
   subst hr_
   gi_wp2
   refine ⟨.int .i64 (-1),?_,rfl,below_set HB.out (by omega)⟩
   have hc5:=(blk_cell (blk_put B4.out 0 (.int .i64 (-1)) rfl) 0).trans rfl
   simp [results,Try.f26,go_sem,hc5]
  ·have hlen2:=eq_false hlen
   gi_wp2_with (fail)
   refine ⟨trivial,?_⟩
   refine (slices_Backward_Range.callsI Fence.wide 2 trivial rfl _ _ _ _).mono ?_
   rintro e w' ⟨rfl,rfl⟩
   have h49:=blk_lt B4.out
   have b9:=heap_new1 W2 (.cells #[.int .i64 (-1)] 3)
   have bS:=heap_new1 (W2.alloc (.cells #[.int .i64 (-1)] 3)) (.cells #[.slice A1 l1.length c1] 44)
   rw [World.size_alloc] at bS
   have B9:=a0_ (blk_alloc b9 (.cells #[.slice A1 l1.length c1] 44))
   have BS:=a0_ bS
   replace B1:=a0_ (blk_alloc (blk_alloc B1.out (.cells #[.int .i64 (-1)] 3)) (.cells #[.slice A1 l1.length c1] 44))
   replace B2:=a0_ (blk_alloc (blk_alloc B2.out (.cells #[.int .i64 (-1)] 3)) (.cells #[.slice A1 l1.length c1] 44))
   replace B3:=a0_ (blk_alloc (blk_alloc B3.out (.cells #[.int .i64 (-1)] 3)) (.cells #[.slice A1 l1.length c1] 44))
   replace B4:=a0_ (blk_alloc (blk_alloc B4.out (.cells #[.int .i64 (-1)] 3)) (.cells #[.slice A1 l1.length c1] 44))
   replace HB:=a0_ (below_alloc (below_alloc HB.out (.cells #[.int .i64 (-1)] 3)) (.cells #[.slice A1 l1.length c1] 44))
   have hs4 : ((W2.alloc (.cells #[.int .i64 (-1)] 3)).alloc (.cells #[.slice A1 l1.length c1] 44)).heap.size = W2.heap.size + 2:=by rw [World.size_alloc,World.size_alloc]
   simp only [World.size_alloc]
   clear b9 bS
   gi_wp2
   generalize (W2.alloc (.cells #[.int .i64 (-1)] 3)).alloc (.cells #[.slice A1 l1.length c1] 44) = W4 at B1 B2 B3 B4 B9 BS HB hs4 ⊢
   generalize W2.heap.size = g9 at B9 BS hs4 h49 ⊢
   have hz0:=HB.out.size
   refine wpIn_rangeFunc_ownH (F:=Fence.wide) (n:=3) rfl (by omega) (gf:=124) (lb:=#[.pointer (some ⟨g9 + 1,0,none⟩)]) rfl trivial (enters_of Try.func124 (by kernel_rfl) rfl)
    (slices_Backward_Range_1.stops Fence.wide 2 trivial rfl (by omega) (g9 + 1) A1 c1 l1 hsm.2 w HR1.out W4 HB.out BS.out) bwKp_t (bwKp_b hz0 (by omega)) (Below.refl _ _) (fun _=>rfl)
    (fun pre W=>(((((((∀ x ∈ pre,rgOk l0_0 x.2 = true) ∧ W.heap[w.heap.size]? = some (.cells #[.slice A0_0 l0_0.length c0_0] 25 (0,0))) ∧ W.heap[w.heap.size + 1]? = some (.cells #[.int .i64 a2] 3 (0,0))) ∧ W.heap[w.heap.size + 1 + 1]? = some (.cells #[.int .i64 a3] 3 (0,0))) ∧ W.heap[w.heap.size + 1 + 1 + 1]? = some (.cells #[.int .i64 0] 3 (0,0))) ∧ W.heap[g9]? = some (.cells #[.int .i64 (lkB l0_0 a2 a3 pre)] 3 (0,0))) ∧ W.heap[g9 + 1]? = some (.cells #[.slice A1 l1.length c1] 44 (0,0))) ∧ Below w.heap.size w W)
    (fun c pre W=>((c = .ret ∧ ∃ x ∈ pre,rgOk l0_0 x.2 = false) ∧ W.heap[w.heap.size + 1 + 1 + 1]? = some (.cells #[.int .i64 (-1)] 3 (0,0))) ∧ Below w.heap.size w W)
    (OwnFrom.and (OwnFrom.and (OwnFrom.and (OwnFrom.and (OwnFrom.and (OwnFrom.and (OwnFrom.and (ownFrom_pure _ _) (own_blk _ (fun _=>_) (fun _=>_) (fun _=>rfl))) (own_blk _ (fun _=>_) (fun _=>_) (fun _=>rfl))) (own_blk _ (fun _=>_) (fun _=>_) (fun _=>rfl))) (own_blk _ (fun _=>_) (fun _=>_) (fun _=>rfl))) (own_blk _ (fun _=>g9) (fun (pre : List (Nat × S95))=>Obj.cells #[.int .i64 (lkB l0_0 a2 a3 pre)] 3 (0,0)) (fun _=>rfl))) (own_blk _ (fun _=>_) (fun _=>_) (fun _=>rfl))) (ownFrom_below (Nat.le_refl _) (by omega)))
    (fun c=>OwnFrom.and (OwnFrom.and (ownFrom_pure _ _) (own_blk _ (fun _=>_) (fun _=>_) (fun _=>rfl))) (ownFrom_below (Nat.le_refl _) (by omega)))
    ⟨⟨⟨⟨⟨⟨⟨by simp,B1.out⟩,B2.out⟩,B3.out⟩,B4.out⟩,B9.out⟩,BS.out⟩,HB.out⟩
    (fun x a' W=>∃ Bx,W.heap[Bx]? = some (.cells #[.int .i64 x.2.f0,.int .i64 x.2.f1,.int .i64 x.2.f2,.int .i64 x.2.f3] 95 (0,0)) ∧ a' = { tmps:=#[.agg #[.slice A0_0 l0_0.length c0_0],.slice A1 l1.length c1,.int .i64 a2,.int .i64 a3,.pointer (some ⟨w.heap.size,0,none⟩),undef,.pointer (some ⟨w.heap.size + 1,0,none⟩),.pointer (some ⟨w.heap.size + 1 + 1,0,none⟩),.pointer (some ⟨w.heap.size + 1 + 1 + 1,0,none⟩),.pointer (some ⟨g9,0,none⟩),undef,.pointer (some ⟨Bx,0,none⟩),.agg #[.slice A0_0 l0_0.length c0_0],.int .i64 a3,.slice (some ⟨w.heap.size + 1 + 1 + 1 + 1,0,none⟩) 1 1,.bool true,.bool false,.bool false,.slice A1 l1.length c1,.int .i64 (l1.length : Int),.bool false,.bool false,.slice A1 l1.length c1,.func (.func 124) #[] #[.pointer (some ⟨g9 + 1,0,none⟩)],.int .i64 (x.1 : Int),.agg #[.int .i64 x.2.f0,.int .i64 x.2.f1,.int .i64 x.2.f2,.int .i64 x.2.f3],undef,undef,undef,undef,undef,undef,undef,undef,undef,undef,undef,undef,undef,undef,undef,undef,undef,undef,undef,undef,undef,undef,undef,undef,undef,undef,undef,undef,undef,undef,undef,undef,undef,undef,undef,undef,undef,undef,undef,undef,undef,undef,undef,undef,undef],defers:=[] })
    (fun x a' _ X Y row hs hg hr=>by obtain ⟨Bx,e2,e3⟩:=hs;exact ⟨Bx,own_blk (β:=Unit) _ (fun _=>Bx) (fun _=>Obj.cells #[.int .i64 x.2.f0,.int .i64 x.2.f1,.int .i64 x.2.f2,.int .i64 x.2.f3] 95 (0,0)) (fun _=>rfl) () X Y row e2 hg hr,e3⟩)
    ?assign ?body ?done ?stop
   case assign =>
    rintro l pre x W K ⟨⟨⟨⟨⟨⟨⟨hp,d1⟩,d2⟩,d3⟩,d4⟩,d9⟩,dS⟩,hBW⟩ hK
    gi_wp2
    exact hK _ _ ((KeepsOthers.alloc _ _).from _) ⟨(Below.refl _ W).alloc hBW.size _,Below.heap_alloc W _ _ (blk_lt dS)⟩ ⟨⟨⟨⟨⟨⟨⟨hp,blk_alloc d1 _⟩,blk_alloc d2 _⟩,blk_alloc d3 _⟩,blk_alloc d4 _⟩,blk_alloc d9 _⟩,blk_alloc dS _⟩,below_alloc hBW _⟩ ⟨W.heap.size,heap_new1 W _,rfl⟩
   case body =>
    rintro l pre x a' W hl ⟨rec_,hrec⟩ ⟨⟨⟨⟨⟨⟨⟨hp,d1⟩,d2⟩,d3⟩,d4⟩,d9⟩,dS⟩,hBW⟩ ⟨Bx,dX,rfl⟩ hlt
    have HP:=a0_ hp
    have D1:=a0_ d1
    have D2:=a0_ d2
    have D3:=a0_ d3
    have D4:=a0_ d4
    have D9:=a0_ d9
    have DS:=a0_ dS
    have DX:=a0_ dX
    have HBW:=a0_ hBW
    have HZ:=a0_ (HBW.out.size)
    have HA:=a0_ (Below.refl W.heap.size W)
    have HK:=a0_ dS
    clear hp d1 d2 d3 d4 d9 dS dX hBW hlt hrec
    have HWI:=a0_ (fun (a lo hi : Int) (q : Bool) (hq : (decide (lo ≤ a) && decide (a ≤ hi)) = q) (W : World)=>impl_within.calls a lo hi q W (by rw [impl_within_ev,hq]))
    obtain ⟨xi,y0,y1,y2,y3⟩:=x
    obtain ⟨hv,ha⟩ : vT l0_0 = true ∧ a3 < (l0_0.length : Int):=by
     rw [Bool.and_eq_true] at hq
     refine ⟨hq.1,?_⟩
     have:=hq.2
     unfold hasC at this
     rw [Bool.and_eq_true,decide_eq_true_eq,decide_eq_true_eq] at this
     exact this.2
    replace HIS:=a0_ (HIS.out hv ha)
    have hok : ∀ q1 q2 q3 q4 : Bool,(decide (0 ≤ y0) && decide (y0 ≤ 24)) = q1 → (decide (y0 ≤ y1) && decide (y1 ≤ 24)) = q2 → (decide (0 ≤ y2) && decide (y2 ≤ 23)) = q3 → hasC l0_0 y3 = q4 → rgOk l0_0 (⟨y0,y1,y2,y3⟩ : S95) = ((q1 && q2) && (q3 && q4)):=by
     intro q1 q2 q3 q4 h1 h2 h3 h4
     unfold rgOk
     simp only
     rw [h1,h2,h3,h4]
    have HOK:=a0_ hok
    clear hv ha hok
    dsimp only at DX ⊢
    have hT:=(blk_cell D1.out 0).trans rfl
    have hI_:=(blk_cell D2.out 0).trans rfl
    have hA_:=(blk_cell D3.out 0).trans rfl
    have hx0:=(blk_cell DX.out 0).trans rfl
    have hx1:=(blk_cell DX.out 1).trans rfl
    have hx2:=(blk_cell DX.out 2).trans rfl
    have hx3:=(blk_cell DX.out 3).trans rfl
    cases e1_ : (decide (0 ≤ y0) && decide (y0 ≤ 24)) with
    | false =>
     gi_wp2_with (fail)
     clear hT hI_ hA_ hx0 hx1 hx2 hx3
     refine ⟨trivial,?_⟩
     refine (CallsIn.inRound l (callsIn_wide.2 (HWI.out y0 0 24 false e1_ _))).mono ?_
     rintro e W1_ ⟨rfl,hd⟩
     have hb:=hd.below
     clear hd
     replace D1:=a0_ (blk_keptB D1.out hb)
     replace D2:=a0_ (blk_keptB D2.out hb)
     replace D3:=a0_ (blk_keptB D3.out hb)
     replace D4:=a0_ (blk_keptB D4.out hb)
     replace D9:=a0_ (blk_keptB D9.out hb)
     replace DS:=a0_ (blk_keptB DS.out hb)
     replace DX:=a0_ (blk_keptB DX.out hb)
     replace HBW:=a0_ (below_step HBW.out hb)
     replace HA:=a0_ (below_step HA.out hb)
     clear hb
     have hT:=(blk_cell D1.out 0).trans rfl
     have hI_:=(blk_cell D2.out 0).trans rfl
     have hA_:=(blk_cell D3.out 0).trans rfl
     have hx0:=(blk_cell DX.out 0).trans rfl
     have hx1:=(blk_cell DX.out 1).trans rfl
     have hx2:=(blk_cell DX.out 2).trans rfl
     have hx3:=(blk_cell DX.out 3).trans rfl
     have hf4:=blk_frozen D4.out 0
     have hc4:=(blk_cell D4.out 0).trans rfl
     gi_wp2
     refine ⟨trivial,?_⟩
     gi_wp2
     refine ⟨trivial,?_⟩
     gi_wp2
     refine ⟨trivial,?_⟩
     gi_wp2
     exact ⟨((ko_below HA.out).trans (KeepsOthers.setCell _ _ _)).from _,⟨⟨rfl,_,List.mem_append.2 (.inr (List.mem_singleton.2 rfl)),by rw [HOK.out _ _ _ _ e1_ rfl rfl rfl];rfl⟩,blk_put D4.out 0 _ rfl⟩,below_set HBW.out (by omega)⟩
    | true =>
     gi_wp2_with (fail)
     clear hT hI_ hA_ hx0 hx1 hx2 hx3
     refine ⟨trivial,?_⟩
     refine (CallsIn.inRound l (callsIn_wide.2 (HWI.out y0 0 24 true e1_ _))).mono ?_
     rintro e W2_ ⟨rfl,hd⟩
     have hb:=hd.below
     clear hd
     replace D1:=a0_ (blk_keptB D1.out hb)
     replace D2:=a0_ (blk_keptB D2.out hb)
     replace D3:=a0_ (blk_keptB D3.out hb)
     replace D4:=a0_ (blk_keptB D4.out hb)
     replace D9:=a0_ (blk_keptB D9.out hb)
     replace DS:=a0_ (blk_keptB DS.out hb)
     replace DX:=a0_ (blk_keptB DX.out hb)
     replace HBW:=a0_ (below_step HBW.out hb)
     replace HA:=a0_ (below_step HA.out hb)
     clear hb
     have hT:=(blk_cell D1.out 0).trans rfl
     have hI_:=(blk_cell D2.out 0).trans rfl
     have hA_:=(blk_cell D3.out 0).trans rfl
     have hx0:=(blk_cell DX.out 0).trans rfl
     have hx1:=(blk_cell DX.out 1).trans rfl
     have hx2:=(blk_cell DX.out 2).trans rfl
     have hx3:=(blk_cell DX.out 3).trans rfl
     cases e2_ : (decide (y0 ≤ y1) && decide (y1 ≤ 24)) with
     | false =>
      gi_wp2_with (fail)
      clear hT hI_ hA_ hx0 hx1 hx2 hx3
      refine ⟨trivial,?_⟩
      refine (CallsIn.inRound l (callsIn_wide.2 (HWI.out y1 y0 24 false e2_ _))).mono ?_
      rintro e W3_ ⟨rfl,hd⟩
      have hb:=hd.below
      clear hd
      replace D1:=a0_ (blk_keptB D1.out hb)
      replace D2:=a0_ (blk_keptB D2.out hb)
      replace D3:=a0_ (blk_keptB D3.out hb)
      replace D4:=a0_ (blk_keptB D4.out hb)
      replace D9:=a0_ (blk_keptB D9.out hb)
      replace DS:=a0_ (blk_keptB DS.out hb)
      replace DX:=a0_ (blk_keptB DX.out hb)
      replace HBW:=a0_ (below_step HBW.out hb)
      replace HA:=a0_ (below_step HA.out hb)
      clear hb
      have hT:=(blk_cell D1.out 0).trans rfl
      have hI_:=(blk_cell D2.out 0).trans rfl
      have hA_:=(blk_cell D3.out 0).trans rfl
      have hx0:=(blk_cell DX.out 0).trans rfl
      have hx1:=(blk_cell DX.out 1).trans rfl
      have hx2:=(blk_cell DX.out 2).trans rfl
      have hx3:=(blk_cell DX.out 3).trans rfl
      have hf4:=blk_frozen D4.out 0
      have hc4:=(blk_cell D4.out 0).trans rfl
      gi_wp2
      refine ⟨trivial,?_⟩
      gi_wp2
      refine ⟨trivial,?_⟩
      gi_wp2
      exact ⟨((ko_below HA.out).trans (KeepsOthers.setCell _ _ _)).from _,⟨⟨rfl,_,List.mem_append.2 (.inr (List.mem_singleton.2 rfl)),by rw [HOK.out _ _ _ _ e1_ e2_ rfl rfl];simp⟩,blk_put D4.out 0 _ rfl⟩,below_set HBW.out (by omega)⟩
     | true =>
      gi_wp2_with (fail)
      clear hT hI_ hA_ hx0 hx1 hx2 hx3
      refine ⟨trivial,?_⟩
      refine (CallsIn.inRound l (callsIn_wide.2 (HWI.out y1 y0 24 true e2_ _))).mono ?_
      rintro e W4_ ⟨rfl,hd⟩
      have hb:=hd.below
      clear hd
      replace D1:=a0_ (blk_keptB D1.out hb)
      replace D2:=a0_ (blk_keptB D2.out hb)
      replace D3:=a0_ (blk_keptB D3.out hb)
      replace D4:=a0_ (blk_keptB D4.out hb)
      replace D9:=a0_ (blk_keptB D9.out hb)
      replace DS:=a0_ (blk_keptB DS.out hb)
      replace DX:=a0_ (blk_keptB DX.out hb)
      replace HBW:=a0_ (below_step HBW.out hb)
      replace HA:=a0_ (below_step HA.out hb)
      clear hb
      have hT:=(blk_cell D1.out 0).trans rfl
      have hI_:=(blk_cell D2.out 0).trans rfl
      have hA_:=(blk_cell D3.out 0).trans rfl
      have hx0:=(blk_cell DX.out 0).trans rfl
      have hx1:=(blk_cell DX.out 1).trans rfl
      have hx2:=(blk_cell DX.out 2).trans rfl
      have hx3:=(blk_cell DX.out 3).trans rfl
      cases e3_ : (decide (0 ≤ y2) && decide (y2 ≤ 23)) with
      | false =>
       gi_wp2_with (fail)
       clear hT hI_ hA_ hx0 hx1 hx2 hx3
       refine ⟨trivial,?_⟩
       refine (CallsIn.inRound l (callsIn_wide.2 (HWI.out y2 0 23 false e3_ _))).mono ?_
       rintro e W5_ ⟨rfl,hd⟩
       have hb:=hd.below
       clear hd
       replace D1:=a0_ (blk_keptB D1.out hb)
       replace D2:=a0_ (blk_keptB D2.out hb)
       replace D3:=a0_ (blk_keptB D3.out hb)
       replace D4:=a0_ (blk_keptB D4.out hb)
       replace D9:=a0_ (blk_keptB D9.out hb)
       replace DS:=a0_ (blk_keptB DS.out hb)
       replace DX:=a0_ (blk_keptB DX.out hb)
       replace HBW:=a0_ (below_step HBW.out hb)
       replace HA:=a0_ (below_step HA.out hb)
       clear hb
       have hT:=(blk_cell D1.out 0).trans rfl
       have hI_:=(blk_cell D2.out 0).trans rfl
       have hA_:=(blk_cell D3.out 0).trans rfl
       have hx0:=(blk_cell DX.out 0).trans rfl
       have hx1:=(blk_cell DX.out 1).trans rfl
       have hx2:=(blk_cell DX.out 2).trans rfl
       have hx3:=(blk_cell DX.out 3).trans rfl
       have hf4:=blk_frozen D4.out 0
       have hc4:=(blk_cell D4.out 0).trans rfl
       gi_wp2
       refine ⟨trivial,?_⟩
       gi_wp2
       exact ⟨((ko_below HA.out).trans (KeepsOthers.setCell _ _ _)).from _,⟨⟨rfl,_,List.mem_append.2 (.inr (List.mem_singleton.2 rfl)),by rw [HOK.out _ _ _ _ e1_ e2_ e3_ rfl];simp⟩,blk_put D4.out 0 _ rfl⟩,below_set HBW.out (by omega)⟩
      | true =>
       gi_wp2_with (fail)
       clear hT hI_ hA_ hx0 hx1 hx2 hx3
       refine ⟨trivial,?_⟩
       refine (CallsIn.inRound l (callsIn_wide.2 (HWI.out y2 0 23 true e3_ _))).mono ?_
       rintro e W6_ ⟨rfl,hd⟩
       have hb:=hd.below
       clear hd
       replace D1:=a0_ (blk_keptB D1.out hb)
       replace D2:=a0_ (blk_keptB D2.out hb)
       replace D3:=a0_ (blk_keptB D3.out hb)
       replace D4:=a0_ (blk_keptB D4.out hb)
       replace D9:=a0_ (blk_keptB D9.out hb)
       replace DS:=a0_ (blk_keptB DS.out hb)
       replace DX:=a0_ (blk_keptB DX.out hb)
       replace HBW:=a0_ (below_step HBW.out hb)
       replace HA:=a0_ (below_step HA.out hb)
       clear hb
       have hT:=(blk_cell D1.out 0).trans rfl
       have hI_:=(blk_cell D2.out 0).trans rfl
       have hA_:=(blk_cell D3.out 0).trans rfl
       have hx0:=(blk_cell DX.out 0).trans rfl
       have hx1:=(blk_cell DX.out 1).trans rfl
       have hx2:=(blk_cell DX.out 2).trans rfl
       have hx3:=(blk_cell DX.out 3).trans rfl
       cases e4_ : hasC l0_0 y3 with
       | false =>
        gi_wp2_with (fail)
        clear hT hI_ hA_ hx0 hx1 hx2 hx3
        refine ⟨trivial,?_⟩
        refine (CallsIn.inRound l (callsIn_wide.2 (HHAS.out y3 false e4_ _ HBW.out))).mono ?_
        rintro e W7_ ⟨rfl,hb⟩
        replace D1:=a0_ (blk_keptB D1.out hb)
        replace D2:=a0_ (blk_keptB D2.out hb)
        replace D3:=a0_ (blk_keptB D3.out hb)
        replace D4:=a0_ (blk_keptB D4.out hb)
        replace D9:=a0_ (blk_keptB D9.out hb)
        replace DS:=a0_ (blk_keptB DS.out hb)
        replace DX:=a0_ (blk_keptB DX.out hb)
        replace HBW:=a0_ (below_step HBW.out hb)
        replace HA:=a0_ (below_step HA.out hb)
        clear hb
        have hT:=(blk_cell D1.out 0).trans rfl
        have hI_:=(blk_cell D2.out 0).trans rfl
        have hA_:=(blk_cell D3.out 0).trans rfl
        have hx0:=(blk_cell DX.out 0).trans rfl
        have hx1:=(blk_cell DX.out 1).trans rfl
        have hx2:=(blk_cell DX.out 2).trans rfl
        have hx3:=(blk_cell DX.out 3).trans rfl
        have hf4:=blk_frozen D4.out 0
        have hc4:=(blk_cell D4.out 0).trans rfl
        gi_wp2
        exact ⟨((ko_below HA.out).trans (KeepsOthers.setCell _ _ _)).from _,⟨⟨rfl,_,List.mem_append.2 (.inr (List.mem_singleton.2 rfl)),by rw [HOK.out _ _ _ _ e1_ e2_ e3_ e4_];simp⟩,blk_put D4.out 0 _ rfl⟩,below_set HBW.out (by omega)⟩
       | true =>
        gi_wp2_with (fail)
        clear hT hI_ hA_ hx0 hx1 hx2 hx3
        refine ⟨trivial,?_⟩
        refine (CallsIn.inRound l (callsIn_wide.2 (HHAS.out y3 true e4_ _ HBW.out))).mono ?_
        rintro e W8_ ⟨rfl,hb⟩
        replace D1:=a0_ (blk_keptB D1.out hb)
        replace D2:=a0_ (blk_keptB D2.out hb)
        replace D3:=a0_ (blk_keptB D3.out hb)
        replace D4:=a0_ (blk_keptB D4.out hb)
        replace D9:=a0_ (blk_keptB D9.out hb)
        replace DS:=a0_ (blk_keptB DS.out hb)
        replace DX:=a0_ (blk_keptB DX.out hb)
        replace HBW:=a0_ (below_step HBW.out hb)
        replace HA:=a0_ (below_step HA.out hb)
        clear hb
        have hT:=(blk_cell D1.out 0).trans rfl
        have hI_:=(blk_cell D2.out 0).trans rfl
        have hA_:=(blk_cell D3.out 0).trans rfl
        have hx0:=(blk_cell DX.out 0).trans rfl
        have hx1:=(blk_cell DX.out 1).trans rfl
        have hx2:=(blk_cell DX.out 2).trans rfl
        have hx3:=(blk_cell DX.out 3).trans rfl
        have hgood : ∀ x ∈ pre ++ [(xi,(⟨y0,y1,y2,y3⟩ : S95))],rgOk l0_0 x.2 = true:=by
         intro x hx
         rcases List.mem_append.1 hx with hx | hx
         ·exact HP.out x hx
         ·rw [List.mem_singleton.1 hx]
          exact HOK.out _ _ _ _ e1_ e2_ e3_ e4_
        have hindef : rgIn l0_0 a2 a3 (⟨y0,y1,y2,y3⟩ : S95) = ((decide (y0 ≤ a2) && decide (a2 < y1)) && isA l0_0 a3 y3):=rfl
        by_cases k1 : y0 ≤ a2
        ·have k1b:=eq_true k1
         have k1c : decide (y0 ≤ a2) = true:=decide_eq_true k1
         by_cases k2 : a2 < y1
         ·have k2b:=eq_true k2
          have k2c : decide (a2 < y1) = true:=decide_eq_true k2
          cases k3 : isA l0_0 a3 y3 with
          | false =>
           have hin : ¬ rgIn l0_0 a2 a3 (⟨y0,y1,y2,y3⟩ : S95) = true:=by rw [hindef,k3];simp
           gi_wp2_with (fail)
           clear hT hI_ hA_ hx0 hx1 hx2 hx3
           refine ⟨trivial,?_⟩
           refine (CallsIn.inRound l (callsIn_wide.2 (HIS.out y3 false k3 _ HBW.out))).mono ?_
           rintro e W9_ ⟨rfl,hb⟩
           replace D1:=a0_ (blk_keptB D1.out hb)
           replace D2:=a0_ (blk_keptB D2.out hb)
           replace D3:=a0_ (blk_keptB D3.out hb)
           replace D4:=a0_ (blk_keptB D4.out hb)
           replace D9:=a0_ (blk_keptB D9.out hb)
           replace DS:=a0_ (blk_keptB DS.out hb)
           replace DX:=a0_ (blk_keptB DX.out hb)
           replace HBW:=a0_ (below_step HBW.out hb)
           replace HA:=a0_ (below_step HA.out hb)
           clear hb
           have hT:=(blk_cell D1.out 0).trans rfl
           have hI_:=(blk_cell D2.out 0).trans rfl
           have hA_:=(blk_cell D3.out 0).trans rfl
           have hx0:=(blk_cell DX.out 0).trans rfl
           have hx1:=(blk_cell DX.out 1).trans rfl
           have hx2:=(blk_cell DX.out 2).trans rfl
           have hx3:=(blk_cell DX.out 3).trans rfl
           gi_wp2
           refine ⟨(ko_below HA.out).from _,⟨HA.out.mono HZ.out,DS.out.trans HK.out.symm⟩,⟨⟨⟨⟨⟨⟨⟨hgood,D1.out⟩,D2.out⟩,D3.out⟩,D4.out⟩,?_⟩,DS.out⟩,HBW.out⟩⟩
           rw [lkB_snoc,if_neg hin]
           exact D9.out
          | true =>
           have hin : rgIn l0_0 a2 a3 (⟨y0,y1,y2,y3⟩ : S95) = true:=by rw [hindef,k1c,k2c,k3];rfl
           gi_wp2_with (fail)
           clear hT hI_ hA_ hx0 hx1 hx2 hx3
           refine ⟨trivial,?_⟩
           refine (CallsIn.inRound l (callsIn_wide.2 (HIS.out y3 true k3 _ HBW.out))).mono ?_
           rintro e W10_ ⟨rfl,hb⟩
           replace D1:=a0_ (blk_keptB D1.out hb)
           replace D2:=a0_ (blk_keptB D2.out hb)
           replace D3:=a0_ (blk_keptB D3.out hb)
           replace D4:=a0_ (blk_keptB D4.out hb)
           replace D9:=a0_ (blk_keptB D9.out hb)
           replace DS:=a0_ (blk_keptB DS.out hb)
           replace DX:=a0_ (blk_keptB DX.out hb)
           replace HBW:=a0_ (below_step HBW.out hb)
           replace HA:=a0_ (below_step HA.out hb)
           clear hb
           have hT:=(blk_cell D1.out 0).trans rfl
           have hI_:=(blk_cell D2.out 0).trans rfl
           have hA_:=(blk_cell D3.out 0).trans rfl
           have hx0:=(blk_cell DX.out 0).trans rfl
           have hx1:=(blk_cell DX.out 1).trans rfl
           have hx2:=(blk_cell DX.out 2).trans rfl
           have hx3:=(blk_cell DX.out 3).trans rfl
           have hf9:=blk_frozen D9.out 0
           have hc9:=(blk_cell D9.out 0).trans rfl
           gi_wp2
           refine ⟨((ko_below HA.out).trans (KeepsOthers.setCell _ _ _)).from _,⟨(HA.out.mono HZ.out).setCell (p:=⟨g9,0,none⟩) (show w.heap.size ≤ g9 by omega) _,?_⟩,⟨⟨⟨⟨⟨⟨⟨hgood,?_⟩,?_⟩,?_⟩,?_⟩,?_⟩,?_⟩,below_set HBW.out (by omega)⟩⟩
           ·exact (Below.heap_setCell _ ⟨g9,0,none⟩ _ (g9 + 1) (by simp)).trans (DS.out.trans HK.out.symm)
           ·exact blk_far D1.out (show w.heap.size ≠ g9 by omega) _
           ·exact blk_far D2.out (show w.heap.size + 1 ≠ g9 by omega) _
           ·exact blk_far D3.out (show w.heap.size + 1 + 1 ≠ g9 by omega) _
           ·exact blk_far D4.out (show w.heap.size + 1 + 1 + 1 ≠ g9 by omega) _
           ·rw [lkB_snoc,if_pos hin]
            exact blk_put D9.out 0 _ rfl
           ·exact blk_far DS.out (show g9 + 1 ≠ g9 by omega) _
         ·have k2b:=eq_false k2
          have k2c : decide (a2 < y1) = false:=decide_eq_false k2
          have hin : ¬ rgIn l0_0 a2 a3 (⟨y0,y1,y2,y3⟩ : S95) = true:=by rw [hindef,k2c];simp
          gi_wp2
          refine ⟨trivial,?_⟩
          gi_wp2
          refine ⟨(ko_below HA.out).from _,⟨HA.out.mono HZ.out,DS.out.trans HK.out.symm⟩,⟨⟨⟨⟨⟨⟨⟨hgood,D1.out⟩,D2.out⟩,D3.out⟩,D4.out⟩,?_⟩,DS.out⟩,HBW.out⟩⟩
          rw [lkB_snoc,if_neg hin]
          exact D9.out
        ·have k1b:=eq_false k1
         have k1c : decide (y0 ≤ a2) = false:=decide_eq_false k1
         have hin : ¬ rgIn l0_0 a2 a3 (⟨y0,y1,y2,y3⟩ : S95) = true:=by rw [hindef,k1c];simp
         gi_wp2
         refine ⟨trivial,?_⟩
         gi_wp2
         refine ⟨(ko_below HA.out).from _,⟨HA.out.mono HZ.out,DS.out.trans HK.out.symm⟩,⟨⟨⟨⟨⟨⟨⟨hgood,D1.out⟩,D2.out⟩,D3.out⟩,D4.out⟩,?_⟩,DS.out⟩,HBW.out⟩⟩
         rw [lkB_snoc,if_neg hin]
         exact D9.out
   case done =>
    rintro D ys W hD rfl ⟨⟨⟨⟨⟨⟨⟨hp,d1⟩,d2⟩,d3⟩,d4⟩,d9⟩,dS⟩,hBW⟩ hK
    have hr_ : lkB l0_0 a2 a3 (bwUpto (bwAt z95 l1) l1.length) = r:=by
     rw [lkB_all,← HL.out,lkP,if_pos ⟨by rw [hq,Bool.true_and,decide_eq_true_eq];omega,bw_all z95 l1 _ hp⟩]
    rw [hr_] at d9
    have D4:=a0_ d4
    have HBW:=a0_ hBW
    have hc9:=(blk_cell d9 0).trans rfl
    have hf4:=blk_frozen d4 0
    have hc4:=(blk_cell d4 0).trans rfl
    clear d1 d2 d3 d4 d9 dS hp hBW
    gi_wp2
    have hK':=(KeepsOthers.setCell W ⟨w.heap.size + 1 + 1 + 1,0,none⟩ (.int .i64 r)).same D _ hK rfl
    refine ⟨by simp,.inl ⟨_,_,rfl,run_takeDeferred hK',?_⟩⟩
    have hc5 : ((W.setCell ⟨w.heap.size + 1 + 1 + 1,0,none⟩ (.int .i64 r)).putObj D (.deferred none)).cell? ⟨w.heap.size + 1 + 1 + 1,0,none⟩ = some (.int .i64 r):=(blk_cell ((World.putObj_heap_other (fun e=>by omega)).trans (blk_put D4.out 0 (.int .i64 r) rfl)) 0).trans rfl
    refine ⟨.int .i64 r,?_,rfl,(below_set HBW.out (by omega)).trans (belowK_b (w:=w) (Nat.le_refl _) _ D _ _ (by omega) hK' rfl rfl)⟩
    simp [results,Try.f26,go_sem,hc5]
   case stop =>
    rintro D c pre W hD ⟨k,hk,rfl⟩ ⟨⟨⟨rfl,x,hx,hbad⟩,d4⟩,hBW⟩ hK
    have hr_ : r = -1:=by
     rw [← HL.out,lkP,if_neg (fun hh=>by
      have h1:=List.all_eq_true.1 hh.2 x.2 (bw_mem z95 l1 k hk x hx)
      rw [hbad] at h1
      cases h1)]
    subst hr_
    have D4:=a0_ d4
    have HBW:=a0_ hBW
    clear d4 hBW
    gi_wp2
    refine ⟨by simp,.inl ⟨_,_,rfl,run_takeDeferred hK,?_⟩⟩
    have hc5 : (W.putObj D (.deferred none)).cell? ⟨w.heap.size + 1 + 1 + 1,0,none⟩ = some (.int .i64 (-1)):=(blk_cell ((World.putObj_heap_other (fun e=>by omega)).trans D4.out) 0).trans rfl
    refine ⟨.int .i64 (-1),?_,rfl,HBW.out.trans (belowK_b (w:=w) (Nat.le_refl _) W D _ _ (by omega) hK rfl rfl)⟩
    simp [results,Try.f26,go_sem,hc5]
theorem impl_LookUp_ev (t : List Cls) (l : List S95) (i a : Int) (hs : smT t = true) (hl : l.length ≤ 1099511627776) : impl_LookUp.f t l i a = some (lkP t l i a):=by rw [impl_LookUp.f,if_pos ⟨hs,hl⟩]
end Go.Proofs.Ytacgehaipacehaa.P
namespace Go.Proofs.Ytacgehaipacehaa.P
open Go.RowKit Go.Proofs.YtacgehaipacehaaW.PrintWords Go.Proofs.YtacgehaipacehaaW.PrintLast Go.Proofs.YtacgehaipacehaaW.PrintMore
attribute [local go_sem] max2_int min2_int max_two min_two max_three min_three max_four min_four
set_option linter.unusedVariables false
set_option linter.unusedSimpArgs false
def laws_eqClass.f (a0_0 : ByteArray) (a0_1 : Int) (a1_0 : ByteArray) (a1_1 : Int) : Option (Bool):=if a0_0.toList = a1_0.toList then (if a0_1 = a1_1 then (some true) else (some false)) else (some false)
set_option maxHeartbeats 8000000 in
set_option maxRecDepth 100000 in
theorem laws_eqClass.calls (a0_0 : ByteArray) (a0_1 : Int) (a1_0 : ByteArray) (a1_1 : Int) (r : Bool) (w : World) (h : laws_eqClass.f a0_0 a0_1 a1_0 a1_1 = some r) :
  Calls Try.prog 125 #[.agg #[.string a0_0,.int .i64 a0_1],.agg #[.string a1_0,.int .i64 a1_1]] w fun e w'=>e = .returned (.bool r) ∧ Below w.heap.size w w':=by
 have hu125:=Try.underlying125
 have HB:=a0_ (Below.refl w.heap.size w)
 have H : (if a0_0.toList = a1_0.toList then (if a0_1 = a1_1 then (some true) else (some false)) else (some false)) = some r:=h
 clear h
 by_cases c3 : a0_0.toList = a1_0.toList
 ·rw [if_pos c3] at H
  have c3b0 : (a0_0.toList == a1_0.toList) = true:=beq_iff_eq.mpr c3
  have c3b1 : (a0_0.toList != a1_0.toList) = false:=bne_eq_false_iff_eq.mpr c3
  clear c3
  by_cases c4 : a0_1 = a1_1
  ·rw [if_pos c4] at H
   have c4b0 : (a0_1 == a1_1) = true:=beq_iff_eq.mpr c4
   have c4b1 : (a0_1 != a1_1) = false:=bne_eq_false_iff_eq.mpr c4
   clear c4
   obtain rfl:=Option.some.inj H
   go_enter Try.func125,Try.ntmps125
   go_wp2_with (first | ((with_reducible refine gate_dst (N:=2) rfl ?_);refine box_event ?hg (N:=2) ?hd (cs:=#[.string a0_0,.int .i64 a0_1]) (t:=125) ?hr ?_;(case hd=>rfl);(case hg=>rfl);(case hr=>first | (go_simp;done) | (go_simp;rfl));intro gb1 hg w5 hbox hb;have BK1:=a0_ (hbox);have GW1:=a0_ ((by rw [hg];exact (below_size hbw_) : w.heap.size ≤ gb1));have GE1:=a0_ ((by rw [hg];exact (below_size hbw_) : w.heap.size ≤ gb1));replace HB:=a0_ (below_step hbw_ hb);clear hb hbox hg) | ((with_reducible refine gate_dst (N:=3) rfl ?_);refine box_event ?hg (N:=3) ?hd (cs:=#[.string a1_0,.int .i64 a1_1]) (t:=125) ?hr ?_;(case hd=>rfl);(case hg=>rfl);(case hr=>first | (go_simp;done) | (go_simp;rfl));intro gb2 hg w6 hbox hb;have n0_:=kb_ BK1 hb;have n1_:=a0_ (below_step hbw_ hb);have n2_:=a0_ (hbox);have n3_:=a0_ ((by rw [hg];exact (below_size hbw_) : w.heap.size ≤ gb2));have n4_:=a0_ ((by rw [hg];exact (below_size hbw_) : w.heap.size ≤ gb2));have n5_:=a0_ ((by rw [hg];exact Nat.ne_of_lt (blk_lt (bb_ BK1.out)) : gb1 ≠ gb2));have n6_:=a0_ ((by rw [hg];exact Nat.ne_of_gt (blk_lt (bb_ BK1.out)) : gb2 ≠ gb1));clear BK1 HB;have BK1:=n0_;have HB:=n1_;have BK2:=n2_;have GW2:=n3_;have GE2:=n4_;have NB1_2:=n5_;have NB2_1:=n6_;clear n0_ n1_ n2_ n3_ n4_ n5_ n6_;clear hb hbox hg;have hnb7:=NB1_2.out;have hnc7:=NB2_1.out;have hcz8_0 : w6.cell? ⟨gb1,0,none⟩ = some (.string a0_0):=(blk_cell BK1.out 0).trans rfl;have hcz8_1 : w6.cell? ⟨gb1,1,none⟩ = some (.int .i64 a0_1):=(blk_cell BK1.out 1).trans rfl;have hfz8_0:=blk_frozen BK1.out 0;have hfz8_1:=blk_frozen BK1.out 1;have hcz9_0 : w6.cell? ⟨gb2,0,none⟩ = some (.string a1_0):=(blk_cell BK2.out 0).trans rfl;have hcz9_1 : w6.cell? ⟨gb2,1,none⟩ = some (.int .i64 a1_1):=(blk_cell BK2.out 1).trans rfl;have hfz9_0:=blk_frozen BK2.out 0;have hfz9_1:=blk_frozen BK2.out 1))
   go_ret
   exact ⟨by first | rfl | (simp [errW_none,errW_some] <;> rfl) | (simp [*,errW_none,errW_some] <;> rfl),hbw_⟩
  ·rw [if_neg c4] at H
   have c4b0 : (a0_1 == a1_1) = false:=beq_eq_false_iff_ne.mpr c4
   have c4b1 : (a0_1 != a1_1) = true:=bne_iff_ne.mpr c4
   obtain rfl:=Option.some.inj H
   go_enter Try.func125,Try.ntmps125
   go_wp2_with (first | ((with_reducible refine gate_dst (N:=2) rfl ?_);refine box_event ?hg (N:=2) ?hd (cs:=#[.string a0_0,.int .i64 a0_1]) (t:=125) ?hr ?_;(case hd=>rfl);(case hg=>rfl);(case hr=>first | (go_simp;done) | (go_simp;rfl));intro gb1 hg w10 hbox hb;have BK1:=a0_ (hbox);have GW1:=a0_ ((by rw [hg];exact (below_size hbw_) : w.heap.size ≤ gb1));have GE1:=a0_ ((by rw [hg];exact (below_size hbw_) : w.heap.size ≤ gb1));replace HB:=a0_ (below_step hbw_ hb);clear hb hbox hg) | ((with_reducible refine gate_dst (N:=3) rfl ?_);refine box_event ?hg (N:=3) ?hd (cs:=#[.string a1_0,.int .i64 a1_1]) (t:=125) ?hr ?_;(case hd=>rfl);(case hg=>rfl);(case hr=>first | (go_simp;done) | (go_simp;rfl));intro gb2 hg w11 hbox hb;have n0_:=kb_ BK1 hb;have n1_:=a0_ (below_step hbw_ hb);have n2_:=a0_ (hbox);have n3_:=a0_ ((by rw [hg];exact (below_size hbw_) : w.heap.size ≤ gb2));have n4_:=a0_ ((by rw [hg];exact (below_size hbw_) : w.heap.size ≤ gb2));have n5_:=a0_ ((by rw [hg];exact Nat.ne_of_lt (blk_lt (bb_ BK1.out)) : gb1 ≠ gb2));have n6_:=a0_ ((by rw [hg];exact Nat.ne_of_gt (blk_lt (bb_ BK1.out)) : gb2 ≠ gb1));clear BK1 HB;have BK1:=n0_;have HB:=n1_;have BK2:=n2_;have GW2:=n3_;have GE2:=n4_;have NB1_2:=n5_;have NB2_1:=n6_;clear n0_ n1_ n2_ n3_ n4_ n5_ n6_;clear hb hbox hg;have hnb12:=NB1_2.out;have hnc12:=NB2_1.out;have hcz13_0 : w11.cell? ⟨gb1,0,none⟩ = some (.string a0_0):=(blk_cell BK1.out 0).trans rfl;have hcz13_1 : w11.cell? ⟨gb1,1,none⟩ = some (.int .i64 a0_1):=(blk_cell BK1.out 1).trans rfl;have hfz13_0:=blk_frozen BK1.out 0;have hfz13_1:=blk_frozen BK1.out 1;have hcz14_0 : w11.cell? ⟨gb2,0,none⟩ = some (.string a1_0):=(blk_cell BK2.out 0).trans rfl;have hcz14_1 : w11.cell? ⟨gb2,1,none⟩ = some (.int .i64 a1_1):=(blk_cell BK2.out 1).trans rfl;have hfz14_0:=blk_frozen BK2.out 0;have hfz14_1:=blk_frozen BK2.out 1))
   go_ret
   exact ⟨by first | rfl | (simp [errW_none,errW_some] <;> rfl) | (simp [*,errW_none,errW_some] <;> rfl),hbw_⟩
 ·rw [if_neg c3] at H
  have c3b0 : (a0_0.toList == a1_0.toList) = false:=beq_eq_false_iff_ne.mpr c3
  have c3b1 : (a0_0.toList != a1_0.toList) = true:=bne_iff_ne.mpr c3
  obtain rfl:=Option.some.inj H
  go_enter Try.func125,Try.ntmps125
  go_wp2_with (first | ((with_reducible refine gate_dst (N:=2) rfl ?_);refine box_event ?hg (N:=2) ?hd (cs:=#[.string a0_0,.int .i64 a0_1]) (t:=125) ?hr ?_;(case hd=>rfl);(case hg=>rfl);(case hr=>first | (go_simp;done) | (go_simp;rfl));intro gb1 hg w15 hbox hb;have BK1:=a0_ (hbox);have GW1:=a0_ ((by rw [hg];exact (below_size hbw_) : w.heap.size ≤ gb1));have GE1:=a0_ ((by rw [hg];exact (below_size hbw_) : w.heap.size ≤ gb1));replace HB:=a0_ (below_step hbw_ hb);clear hb hbox hg) | ((with_reducible refine gate_dst (N:=3) rfl ?_);refine box_event ?hg (N:=3) ?hd (cs:=#[.string a1_0,.int .i64 a1_1]) (t:=125) ?hr ?_;(case hd=>rfl);(case hg=>rfl);(case hr=>first | (go_simp;done) | (go_simp;rfl));intro gb2 hg w16 hbox hb;have n0_:=kb_ BK1 hb;have n1_:=a0_ (below_step hbw_ hb);have n2_:=a0_ (hbox);have n3_:=a0_ ((by rw [hg];exact (below_size hbw_) : w.heap.size ≤ gb2));have n4_:=a0_ ((by rw [hg];exact (below_size hbw_) : w.heap.size ≤ gb2));have n5_:=a0_ ((by rw [hg];exact Nat.ne_of_lt (blk_lt (bb_ BK1.out)) : gb1 ≠ gb2));have n6_:=a0_ ((by rw [hg];exact Nat.ne_of_gt (blk_lt (bb_ BK1.out)) : gb2 ≠ gb1));clear BK1 HB;have BK1:=n0_;have HB:=n1_;have BK2:=n2_;have GW2:=n3_;have GE2:=n4_;have NB1_2:=n5_;have NB2_1:=n6_;clear n0_ n1_ n2_ n3_ n4_ n5_ n6_;clear hb hbox hg;have hnb17:=NB1_2.out;have hnc17:=NB2_1.out;have hcz18_0 : w16.cell? ⟨gb1,0,none⟩ = some (.string a0_0):=(blk_cell BK1.out 0).trans rfl;have hcz18_1 : w16.cell? ⟨gb1,1,none⟩ = some (.int .i64 a0_1):=(blk_cell BK1.out 1).trans rfl;have hfz18_0:=blk_frozen BK1.out 0;have hfz18_1:=blk_frozen BK1.out 1;have hcz19_0 : w16.cell? ⟨gb2,0,none⟩ = some (.string a1_0):=(blk_cell BK2.out 0).trans rfl;have hcz19_1 : w16.cell? ⟨gb2,1,none⟩ = some (.int .i64 a1_1):=(blk_cell BK2.out 1).trans rfl;have hfz19_0:=blk_frozen BK2.out 0;have hfz19_1:=blk_frozen BK2.out 1))
  go_ret
  exact ⟨by first | rfl | (simp [errW_none,errW_some] <;> rfl) | (simp [*,errW_none,errW_some] <;> rfl),hbw_⟩
end Go.Proofs.Ytacgehaipacehaa.P
namespace Go.Proofs.Ytacgehaipacehaa.P
open Go.RowKit Go.Proofs.YtacgehaipacehaaW.PrintWords Go.Proofs.YtacgehaipacehaaW.PrintLast Go.Proofs.YtacgehaipacehaaW.PrintMore
attribute [local go_sem] max2_int min2_int max_two min_two max_three min_three max_four min_four
set_option linter.unusedVariables false
set_option linter.unusedSimpArgs false
def laws_eqClassS.l0 : Nat → List (S125) → List (S125) → Int → Option (Bool)
 | 0,_,_,_=>none
 | k + 1,x0,x1,x5=>if x5 < (x0.length : Int) then (if 0 ≤ x5 then (if x5 < (x1.length : Int) then ((laws_eqClass.f ((rd_T125 x0 x5).f0) ((rd_T125 x0 x5).f1) ((rd_T125 x1 x5).f0) ((rd_T125 x1 x5).f1)).bind fun t3=>(if t3 = true then (laws_eqClassS.l0 k x0 x1 (wrap64 (x5 + 1))) else (some false))) else (none)) else (none)) else (some true)
def laws_eqClassS.f (k : Nat) (l0 : List (S125)) (l1 : List (S125)) : Option (Bool):=if (l0.length : Int) = (l1.length : Int) then (laws_eqClassS.l0 k l0 l1 0) else (some false)
theorem laws_eqClassS.mono_l : ∀ k,(∀ y0 y1 y2,LeO (laws_eqClassS.l0 k y0 y1 y2) (laws_eqClassS.l0 (k + 1) y0 y1 y2))
 | 0=>fun _ _ _ r h=>by simp [laws_eqClassS.l0] at h
 | k + 1=>by
  have ih0:=laws_eqClassS.mono_l k
  ·intro y0 y1 y2
   unfold laws_eqClassS.l0
   repeat' first
   | (with_reducible exact ih0 _ _ _)
   | (with_reducible exact LeO.refl _)
   | (with_reducible exact LeO.none _)
   | (with_reducible refine LeO.ite ?_ ?_)
   | (with_reducible refine LeO.bind ?_ (fun _=>?_))
   | exact ih0 _ _ _
   | exact LeO.none _
   | refine LeO.ite ?_ ?_
   | refine LeO.bind ?_ (fun _=>?_)
theorem laws_eqClassS.mono : ∀ a0 a1 k,LeO (laws_eqClassS.f k a0 a1) (laws_eqClassS.f (k + 1) a0 a1):=by
 intro a0 a1 k
 have ih0:=laws_eqClassS.mono_l k
 unfold laws_eqClassS.f
 repeat' first
   | (with_reducible exact ih0 _ _ _)
   | (with_reducible exact LeO.refl _)
   | (with_reducible exact LeO.none _)
   | (with_reducible refine LeO.ite ?_ ?_)
   | (with_reducible refine LeO.bind ?_ (fun _=>?_))
   | exact ih0 _ _ _
   | exact LeO.none _
   | refine LeO.ite ?_ ?_
   | refine LeO.bind ?_ (fun _=>?_)
def laws_eqClassS.T6 : Bool × List (List Nat × List Nat):=(true,[([],[]),([],[]),([0,1],[0,1]),([2],[2]),([],[]),([],[]),([4,5],[4,5]),([6],[6]),([3,7],[3,7]),([8],[8])])
def laws_eqClassS.B6 : List Nat:=[0,0,3,7,0,0,48,112,255,511]
theorem laws_eqClassS.tab6 : rtab .any (opsOf Try.f76 6) = laws_eqClassS.T6:=by kernel_rfl
theorem laws_eqClassS.bits6 : waitsOk laws_eqClassS.T6.2 laws_eqClassS.B6 = true:=by kernel_rfl
set_option maxHeartbeats 8000000 in
set_option maxRecDepth 100000 in
theorem laws_eqClassS.calls (k : Nat) (A0 : Option Addr) (c0 : Nat) (l0 : List (S125)) (A1 : Option Addr) (c1 : Nat) (l1 : List (S125)) (r : Bool) (w : World) (hr0 : Kd.C k125 w A0 l0.length l0) (hc0 : l0.length ≤ c0) (hr1 : Kd.C k125 w A1 l1.length l1) (hc1 : l1.length ≤ c1) (h : laws_eqClassS.f k l0 l1 = some r) :
  Calls Try.prog 76 #[.slice A0 l0.length c0,.slice A1 l1.length c1] w fun e w'=>e = .returned (.bool r) ∧ Below w.heap.size w w':=by
 have hu125:=Try.underlying125
 have HR0:=a0_ hr0
 have HC0:=a0_ hc0
 clear hr0 hc0
 have HR1:=a0_ hr1
 have HC1:=a0_ hc1
 clear hr1 hc1
 have HB:=a0_ (Below.refl w.heap.size w)
 have H : (if (l0.length : Int) = (l1.length : Int) then (laws_eqClassS.l0 k l0 l1 0) else (some false)) = some r:=h
 clear h
 by_cases c3 : (l0.length : Int) = (l1.length : Int)
 ·rw [if_pos c3] at H
  have c3b0 : ((l0.length : Int) == (l1.length : Int)) = true:=beq_iff_eq.mpr c3
  have c3b1 : ((l0.length : Int) != (l1.length : Int)) = false:=bne_eq_false_iff_eq.mpr c3
  have c3b2 : (l0.length == l1.length) = true:=by first | simpa using c3 | (simp at c3 ⊢;omega)
  clear c3
  have H':=a0_ H
  clear H
  go_enter Try.func76,Try.ntmps76
  go_wp2
  go_loopg [5] k (fun kq v5 w'=>∃ (x5_1 : Int),v5 = .int .i64 x5_1 ∧ Aside0 (laws_eqClassS.l0 kq l0 l1 x5_1 = some r) ∧ Aside0 (kq ≤ k) ∧ Aside0 (Below w.heap.size w w'))
  case atStart=>exact ⟨(0),(by first | rfl | (simp;done) | (simp [*];done)),H',⟨Nat.le_refl _⟩,⟨hbw_⟩⟩
  case round =>
   clear H'
   try clear c1
   try clear p2
   try clear c3
   try clear c3b0
   try clear c3b1
   try clear c3b2
   obtain ⟨x5_1,rfl,HA,HK1,HB⟩:=hrel
   cases gk with
   | zero=>exact absurd HA.out (by simp [laws_eqClassS.l0])
   | succ k1 =>
    have H:=HA.out
    clear HA
    simp only [laws_eqClassS.l0] at H
    by_cases c4 : x5_1 < (l0.length : Int)
    ·rw [if_pos c4] at H
     have c4b0 : decide (x5_1 < (l0.length : Int)) = true:=decide_eq_true c4
     clear c4
     by_cases c5 : 0 ≤ x5_1
     ·rw [if_pos c5] at H
      have c5b0 : decide (0 ≤ x5_1) = true:=decide_eq_true c5
      clear c5
      by_cases c6 : x5_1 < (l1.length : Int)
      ·rw [if_pos c6] at H
       have c6b0 : decide (x5_1 < (l1.length : Int)) = true:=decide_eq_true c6
       clear c6
       replace H:=Option.bind_eq_some_iff.mp H
       obtain ⟨t3,A70,H⟩:=H
       try dsimp only at H
       have A7:=a0_ A70
       clear A70
       by_cases c8 : t3 = true
       ·subst c8
        have H1 : (laws_eqClassS.l0 k1 l0 l1 (wrap64 (x5_1 + 1))) = some r:=by rw [if_pos rfl] at H;exact H
        clear H
        have H:=H1
        clear H1
        have H':=a0_ H
        clear H
        try go_wp2
        have n0_:=a0_ (below_drew1 HB.out)
        clear HB
        have HB:=n0_
        clear n0_
        have p1 : 0 ≤ (x5_1 : Int):=of_decide_eq_true (by first | (with_reducible assumption) | assumption)
        have q1 : x5_1 < (l0.length : Int):=of_decide_eq_true (by first | (with_reducible assumption) | assumption)
        obtain ⟨ad1,e1,hx1_0,hx1_1⟩:=at_T125 HR0.out x5_1 p1 q1
        have hw1_1:=hx1_1
        have hw1_0:=hx1_0
        cases e1
        replace hx1_0:=(HB.out.cell (World.block_lt_of_cell? w _ hx1_0)).trans hx1_0
        replace hx1_1:=(HB.out.cell (World.block_lt_of_cell? w _ hx1_1)).trans hx1_1
        replace p1:=eq_true p1
        replace q1:=eq_true q1
        have p2 : 0 ≤ (x5_1 : Int):=of_decide_eq_true (by first | (with_reducible assumption) | assumption)
        have q2 : x5_1 < (l1.length : Int):=of_decide_eq_true (by first | (with_reducible assumption) | assumption)
        obtain ⟨ad2,e2,hx2_0,hx2_1⟩:=at_T125 HR1.out x5_1 p2 q2
        have hw2_1:=hx2_1
        have hw2_0:=hx2_0
        cases e2
        replace hx2_0:=(HB.out.cell (World.block_lt_of_cell? w _ hx2_0)).trans hx2_0
        replace hx2_1:=(HB.out.cell (World.block_lt_of_cell? w _ hx2_1)).trans hx2_1
        replace p2:=eq_true p2
        replace q2:=eq_true q2
        refine start_ (n:=10) (S:=fun w'=>w'.cell? (ad1.add ((x5_1).toNat * 2)) = some (.string ((rd_T125 l0 x5_1).f0)) ∧ w'.cell? ⟨(ad1.add ((x5_1).toNat * 2)).block,(ad1.add ((x5_1).toNat * 2)).off + 1,none⟩ = some (.int .i64 ((rd_T125 l0 x5_1).f1)) ∧ w'.cell? (ad2.add ((x5_1).toNat * 2)) = some (.string ((rd_T125 l1 x5_1).f0)) ∧ w'.cell? ⟨(ad2.add ((x5_1).toNat * 2)).block,(ad2.add ((x5_1).toNat * 2)).off + 1,none⟩ = some (.int .i64 ((rd_T125 l1 x5_1).f1))) (ds:=[]) #[false,false,false,false,false,false,false,false,false,false] (by kernel_rfl) rfl rfl ⟨((HB.out.cell (World.block_lt_of_cell? w _ hw1_0)).trans hw1_0),((HB.out.cell (World.block_lt_of_cell? w _ hw1_1)).trans hw1_1),((HB.out.cell (World.block_lt_of_cell? w _ hw2_0)).trans hw2_0),((HB.out.cell (World.block_lt_of_cell? w _ hw2_1)).trans hw2_1)⟩ (fun hHeld=>?_);refine with_tabW laws_eqClassS.tab6 laws_eqClassS.bits6 (fun HT_ HW_=>?_)
        generalize wr.drew = w9 at HB hx1_0 hx1_1 hx2_0 hx2_1 hHeld ⊢
        refine pure_ (i:=0) (N:=some 17) (v:=?_) (a':=?_) #[true,false,false,false,false,false,false,false,false,false] rfl rfl (any_of HT_.out (by kernel_rfl)) (fun _ _ _ h=>h) (Or.inl ⟨by rfl,?_⟩) ?_ ?_
        rotate_left
        ·intro w'
         go_simp
         with_reducible rfl
        rotate_left
        ·simp only [Act.put,s1_,s2_,s3_,i64_w,i32_w]
         rfl
        refine pure_ (i:=1) (N:=some 18) (v:=?_) (a':=?_) #[true,true,false,false,false,false,false,false,false,false] rfl rfl (any_of HT_.out (by kernel_rfl)) (fun _ _ _ h=>h) (Or.inl ⟨by rfl,?_⟩) ?_ ?_
        rotate_left
        ·intro w'
         go_simp
         with_reducible rfl
        rotate_left
        ·simp only [Act.put,s1_,s2_,s3_,i64_w,i32_w]
         rfl
        refine pure_ (i:=2) (N:=some 19) (v:=?_) (a':=?_) #[true,true,true,false,false,false,false,false,false,false] rfl rfl (any_of HT_.out (by kernel_rfl)) (fun _ _ _ h=>h) (Or.inl ⟨by rfl,?_⟩) ?_ ?_
        rotate_left
        ·intro w'
         go_simp
         with_reducible rfl
        rotate_left
        ·simp only [Act.put,s1_,s2_,s3_,i64_w,i32_w]
         rfl
        refine pure_ (i:=4) (N:=some 21) (v:=?_) (a':=?_) #[true,true,true,false,true,false,false,false,false,false] rfl rfl (any_of HT_.out (by kernel_rfl)) (fun _ _ _ h=>h) (Or.inl ⟨by rfl,?_⟩) ?_ ?_
        rotate_left
        ·intro w'
         go_simp
         with_reducible rfl
        rotate_left
        ·simp only [Act.put,s1_,s2_,s3_,i64_w,i32_w]
         rfl
        refine pure_ (i:=5) (N:=some 22) (v:=?_) (a':=?_) #[true,true,true,false,true,true,false,false,false,false] rfl rfl (any_of HT_.out (by kernel_rfl)) (fun _ _ _ h=>h) (Or.inl ⟨by rfl,?_⟩) ?_ ?_
        rotate_left
        ·intro w'
         go_simp
         with_reducible rfl
        rotate_left
        ·simp only [Act.put,s1_,s2_,s3_,i64_w,i32_w]
         rfl
        refine pure_ (i:=6) (N:=some 23) (v:=?_) (a':=?_) #[true,true,true,false,true,true,true,false,false,false] rfl rfl (any_of HT_.out (by kernel_rfl)) (fun _ _ _ h=>h) (Or.inl ⟨by rfl,?_⟩) ?_ ?_
        rotate_left
        ·intro w'
         go_simp
         with_reducible rfl
        rotate_left
        ·simp only [Act.put,s1_,s2_,s3_,i64_w,i32_w]
         rfl
        refine take_ (i:=3) (N:=some 20) (v:=?_) (a':=?_) #[true,true,true,true,true,true,true,false,false,false] rfl rfl (take_ofW HT_.out HW_.out (by kernel_rfl)) (fun _ _ _ h=>h) (Or.inl ⟨by rfl,?_⟩) hHeld ?_ ?_
        rotate_left
        ·rintro w' ⟨s0,s1,s2,s3⟩
         go_simp
         with_reducible rfl
        rotate_left
        ·simp only [Act.put,s1_,s2_,s3_,i64_w,i32_w]
         rfl
        refine take_ (i:=7) (N:=some 24) (v:=?_) (a':=?_) #[true,true,true,true,true,true,true,true,false,false] rfl rfl (take_ofW HT_.out HW_.out (by kernel_rfl)) (fun _ _ _ h=>h) (Or.inl ⟨by rfl,?_⟩) hHeld ?_ ?_
        rotate_left
        ·rintro w' ⟨s0,s1,s2,s3⟩
         go_simp
         with_reducible rfl
        rotate_left
        ·simp only [Act.put,s1_,s2_,s3_,i64_w,i32_w]
         rfl
        refine one_ (i:=8) (N:=some 25) #[true,true,true,true,true,true,true,true,true,false] rfl rfl (one_of HT_.out (by kernel_rfl)) (by decide) (fun K hK=>?_)
        refine goes_ Try.func125 (by kernel_rfl) rfl #[.agg #[.string ((rd_T125 l0 x5_1).f0),.int .i64 ((rd_T125 l0 x5_1).f1)],.agg #[.string ((rd_T125 l1 x5_1).f0),.int .i64 ((rd_T125 l1 x5_1).f1)]] (by rfl) rfl rfl lm_ ?_
        with_reducible refine (laws_eqClass.calls ((rd_T125 l0 x5_1).f0) ((rd_T125 l0 x5_1).f1) ((rd_T125 l1 x5_1).f0) ((rd_T125 l1 x5_1).f1) true _ A7.out).mono ?_
        rintro e w10 ⟨rfl,hb⟩
        refine ⟨_,rfl,?_⟩
        have n0_:=a0_ (below_step hbw_ hb)
        clear HB
        have HB:=n0_
        clear n0_
        (try clear hb)
        (try clear hb2)
        (try clear hk)
        (try clear hi)
        refine hK.out _ _ ⟨((HB.out.cell (World.block_lt_of_cell? w _ hw1_0)).trans hw1_0),((HB.out.cell (World.block_lt_of_cell? w _ hw1_1)).trans hw1_1),((HB.out.cell (World.block_lt_of_cell? w _ hw2_0)).trans hw2_0),((HB.out.cell (World.block_lt_of_cell? w _ hw2_1)).trans hw2_1)⟩ (fun hHeld=>?_)
        clear hK K
        refine norm_ (a':=?_) ?_ ?_
        rotate_left
        ·show Act.put _ (some 25) _ = _
         simp only [Act.put,s1_,s2_,s3_,i64_w,i32_w]
         rfl
        refine pure_ (i:=9) (N:=some 26) (v:=?_) (a':=?_) #[true,true,true,true,true,true,true,true,true,true] rfl rfl (any_of HT_.out (by kernel_rfl)) (fun _ _ _ h=>h) (Or.inl ⟨by rfl,?_⟩) ?_ ?_
        rotate_left
        ·intro w'
         go_simp
         with_reducible rfl
        rotate_left
        ·simp only [Act.put,s1_,s2_,s3_,i64_w,i32_w]
         rfl
        refine done_ (done_of HT_.out (by kernel_rfl)) ?_
        try go_wp2
        go_roundg k1
        case measure=>have:=HK1.out;omega
        case rel=>exact ⟨(wrap64 (x5_1 + 1)),(by first | rfl | (simp;done) | (simp [*];done)),H',⟨by have:=HK1.out;omega⟩,⟨hbw_⟩⟩
       ·replace c8:=Bool.eq_false_iff.mpr c8
        subst c8
        have H1 : (some false) = some r:=by rw [if_neg (show ¬ (false = true) by decide)] at H;exact H
        clear H
        have H:=H1
        clear H1
        obtain rfl:=Option.some.inj H
        try go_wp2
        have n0_:=a0_ (below_drew1 HB.out)
        clear HB
        have HB:=n0_
        clear n0_
        have p1 : 0 ≤ (x5_1 : Int):=of_decide_eq_true (by first | (with_reducible assumption) | assumption)
        have q1 : x5_1 < (l0.length : Int):=of_decide_eq_true (by first | (with_reducible assumption) | assumption)
        obtain ⟨ad1,e1,hx1_0,hx1_1⟩:=at_T125 HR0.out x5_1 p1 q1
        have hw1_1:=hx1_1
        have hw1_0:=hx1_0
        cases e1
        replace hx1_0:=(HB.out.cell (World.block_lt_of_cell? w _ hx1_0)).trans hx1_0
        replace hx1_1:=(HB.out.cell (World.block_lt_of_cell? w _ hx1_1)).trans hx1_1
        replace p1:=eq_true p1
        replace q1:=eq_true q1
        have p2 : 0 ≤ (x5_1 : Int):=of_decide_eq_true (by first | (with_reducible assumption) | assumption)
        have q2 : x5_1 < (l1.length : Int):=of_decide_eq_true (by first | (with_reducible assumption) | assumption)
        obtain ⟨ad2,e2,hx2_0,hx2_1⟩:=at_T125 HR1.out x5_1 p2 q2
        have hw2_1:=hx2_1
        have hw2_0:=hx2_0
        cases e2
        replace hx2_0:=(HB.out.cell (World.block_lt_of_cell? w _ hx2_0)).trans hx2_0
        replace hx2_1:=(HB.out.cell (World.block_lt_of_cell? w _ hx2_1)).trans hx2_1
        replace p2:=eq_true p2
        replace q2:=eq_true q2
        refine start_ (n:=10) (S:=fun w'=>w'.cell? (ad1.add ((x5_1).toNat * 2)) = some (.string ((rd_T125 l0 x5_1).f0)) ∧ w'.cell? ⟨(ad1.add ((x5_1).toNat * 2)).block,(ad1.add ((x5_1).toNat * 2)).off + 1,none⟩ = some (.int .i64 ((rd_T125 l0 x5_1).f1)) ∧ w'.cell? (ad2.add ((x5_1).toNat * 2)) = some (.string ((rd_T125 l1 x5_1).f0)) ∧ w'.cell? ⟨(ad2.add ((x5_1).toNat * 2)).block,(ad2.add ((x5_1).toNat * 2)).off + 1,none⟩ = some (.int .i64 ((rd_T125 l1 x5_1).f1))) (ds:=[]) #[false,false,false,false,false,false,false,false,false,false] (by kernel_rfl) rfl rfl ⟨((HB.out.cell (World.block_lt_of_cell? w _ hw1_0)).trans hw1_0),((HB.out.cell (World.block_lt_of_cell? w _ hw1_1)).trans hw1_1),((HB.out.cell (World.block_lt_of_cell? w _ hw2_0)).trans hw2_0),((HB.out.cell (World.block_lt_of_cell? w _ hw2_1)).trans hw2_1)⟩ (fun hHeld=>?_);refine with_tabW laws_eqClassS.tab6 laws_eqClassS.bits6 (fun HT_ HW_=>?_)
        generalize wr.drew = w11 at HB hx1_0 hx1_1 hx2_0 hx2_1 hHeld ⊢
        refine pure_ (i:=0) (N:=some 17) (v:=?_) (a':=?_) #[true,false,false,false,false,false,false,false,false,false] rfl rfl (any_of HT_.out (by kernel_rfl)) (fun _ _ _ h=>h) (Or.inl ⟨by rfl,?_⟩) ?_ ?_
        rotate_left
        ·intro w'
         go_simp
         with_reducible rfl
        rotate_left
        ·simp only [Act.put,s1_,s2_,s3_,i64_w,i32_w]
         rfl
        refine pure_ (i:=1) (N:=some 18) (v:=?_) (a':=?_) #[true,true,false,false,false,false,false,false,false,false] rfl rfl (any_of HT_.out (by kernel_rfl)) (fun _ _ _ h=>h) (Or.inl ⟨by rfl,?_⟩) ?_ ?_
        rotate_left
        ·intro w'
         go_simp
         with_reducible rfl
        rotate_left
        ·simp only [Act.put,s1_,s2_,s3_,i64_w,i32_w]
         rfl
        refine pure_ (i:=2) (N:=some 19) (v:=?_) (a':=?_) #[true,true,true,false,false,false,false,false,false,false] rfl rfl (any_of HT_.out (by kernel_rfl)) (fun _ _ _ h=>h) (Or.inl ⟨by rfl,?_⟩) ?_ ?_
        rotate_left
        ·intro w'
         go_simp
         with_reducible rfl
        rotate_left
        ·simp only [Act.put,s1_,s2_,s3_,i64_w,i32_w]
         rfl
        refine pure_ (i:=4) (N:=some 21) (v:=?_) (a':=?_) #[true,true,true,false,true,false,false,false,false,false] rfl rfl (any_of HT_.out (by kernel_rfl)) (fun _ _ _ h=>h) (Or.inl ⟨by rfl,?_⟩) ?_ ?_
        rotate_left
        ·intro w'
         go_simp
         with_reducible rfl
        rotate_left
        ·simp only [Act.put,s1_,s2_,s3_,i64_w,i32_w]
         rfl
        refine pure_ (i:=5) (N:=some 22) (v:=?_) (a':=?_) #[true,true,true,false,true,true,false,false,false,false] rfl rfl (any_of HT_.out (by kernel_rfl)) (fun _ _ _ h=>h) (Or.inl ⟨by rfl,?_⟩) ?_ ?_
        rotate_left
        ·intro w'
         go_simp
         with_reducible rfl
        rotate_left
        ·simp only [Act.put,s1_,s2_,s3_,i64_w,i32_w]
         rfl
        refine pure_ (i:=6) (N:=some 23) (v:=?_) (a':=?_) #[true,true,true,false,true,true,true,false,false,false] rfl rfl (any_of HT_.out (by kernel_rfl)) (fun _ _ _ h=>h) (Or.inl ⟨by rfl,?_⟩) ?_ ?_
        rotate_left
        ·intro w'
         go_simp
         with_reducible rfl
        rotate_left
        ·simp only [Act.put,s1_,s2_,s3_,i64_w,i32_w]
         rfl
        refine take_ (i:=3) (N:=some 20) (v:=?_) (a':=?_) #[true,true,true,true,true,true,true,false,false,false] rfl rfl (take_ofW HT_.out HW_.out (by kernel_rfl)) (fun _ _ _ h=>h) (Or.inl ⟨by rfl,?_⟩) hHeld ?_ ?_
        rotate_left
        ·rintro w' ⟨s0,s1,s2,s3⟩
         go_simp
         with_reducible rfl
        rotate_left
        ·simp only [Act.put,s1_,s2_,s3_,i64_w,i32_w]
         rfl
        refine take_ (i:=7) (N:=some 24) (v:=?_) (a':=?_) #[true,true,true,true,true,true,true,true,false,false] rfl rfl (take_ofW HT_.out HW_.out (by kernel_rfl)) (fun _ _ _ h=>h) (Or.inl ⟨by rfl,?_⟩) hHeld ?_ ?_
        rotate_left
        ·rintro w' ⟨s0,s1,s2,s3⟩
         go_simp
         with_reducible rfl
        rotate_left
        ·simp only [Act.put,s1_,s2_,s3_,i64_w,i32_w]
         rfl
        refine one_ (i:=8) (N:=some 25) #[true,true,true,true,true,true,true,true,true,false] rfl rfl (one_of HT_.out (by kernel_rfl)) (by decide) (fun K hK=>?_)
        refine goes_ Try.func125 (by kernel_rfl) rfl #[.agg #[.string ((rd_T125 l0 x5_1).f0),.int .i64 ((rd_T125 l0 x5_1).f1)],.agg #[.string ((rd_T125 l1 x5_1).f0),.int .i64 ((rd_T125 l1 x5_1).f1)]] (by rfl) rfl rfl lm_ ?_
        with_reducible refine (laws_eqClass.calls ((rd_T125 l0 x5_1).f0) ((rd_T125 l0 x5_1).f1) ((rd_T125 l1 x5_1).f0) ((rd_T125 l1 x5_1).f1) false _ A7.out).mono ?_
        rintro e w12 ⟨rfl,hb⟩
        refine ⟨_,rfl,?_⟩
        have n0_:=a0_ (below_step hbw_ hb)
        clear HB
        have HB:=n0_
        clear n0_
        (try clear hb)
        (try clear hb2)
        (try clear hk)
        (try clear hi)
        refine hK.out _ _ ⟨((HB.out.cell (World.block_lt_of_cell? w _ hw1_0)).trans hw1_0),((HB.out.cell (World.block_lt_of_cell? w _ hw1_1)).trans hw1_1),((HB.out.cell (World.block_lt_of_cell? w _ hw2_0)).trans hw2_0),((HB.out.cell (World.block_lt_of_cell? w _ hw2_1)).trans hw2_1)⟩ (fun hHeld=>?_)
        clear hK K
        refine norm_ (a':=?_) ?_ ?_
        rotate_left
        ·show Act.put _ (some 25) _ = _
         simp only [Act.put,s1_,s2_,s3_,i64_w,i32_w]
         rfl
        refine pure_ (i:=9) (N:=some 26) (v:=?_) (a':=?_) #[true,true,true,true,true,true,true,true,true,true] rfl rfl (any_of HT_.out (by kernel_rfl)) (fun _ _ _ h=>h) (Or.inl ⟨by rfl,?_⟩) ?_ ?_
        rotate_left
        ·intro w'
         go_simp
         with_reducible rfl
        rotate_left
        ·simp only [Act.put,s1_,s2_,s3_,i64_w,i32_w]
         rfl
        refine done_ (done_of HT_.out (by kernel_rfl)) ?_
        try go_wp2
        go_ret
        exact ⟨by first | rfl | (simp [errW_none,errW_some] <;> rfl) | (simp [*,errW_none,errW_some] <;> rfl),hbw_⟩
      ·rw [if_neg c6] at H
       exact absurd H (by simp)
     ·rw [if_neg c5] at H
      exact absurd H (by simp)
    ·rw [if_neg c4] at H
     have c4b0 : decide (x5_1 < (l0.length : Int)) = false:=decide_eq_false c4
     clear c4
     obtain rfl:=Option.some.inj H
     go_wp2
     go_ret
     exact ⟨by first | rfl | (simp [errW_none,errW_some] <;> rfl) | (simp [*,errW_none,errW_some] <;> rfl),hbw_⟩
 ·rw [if_neg c3] at H
  have c3b0 : ((l0.length : Int) == (l1.length : Int)) = false:=beq_eq_false_iff_ne.mpr c3
  have c3b1 : ((l0.length : Int) != (l1.length : Int)) = true:=bne_iff_ne.mpr c3
  have c3b2 : (l0.length == l1.length) = false:=by first | simpa using c3 | (simp at c3 ⊢;omega)
  obtain rfl:=Option.some.inj H
  go_enter Try.func76,Try.ntmps76
  go_wp2
  go_ret
  exact ⟨by first | rfl | (simp [errW_none,errW_some] <;> rfl) | (simp [*,errW_none,errW_some] <;> rfl),hbw_⟩
theorem laws_eqClassS_ev (l : List Cls) (hl : l.length ≤ 9223372036854775807) : Ev (fun k=>laws_eqClassS.f k l l) true:=by
 have h:=st_loop (fun k (_ : Unit) i=>laws_eqClassS.l0 k l l i) l.length (fun _=>()) true (by
  intro k i hi
  simp only [laws_eqClassS.l0,laws_eqClass.f,if_pos,Option.bind_some]
  rw [if_pos (by omega),if_pos (by omega),if_pos (by omega),wrap_succ (i:=(i : Int)) (n:=l.length) (by omega) (by omega) (by omega)]
  rfl) (by
  intro k
  simp only [laws_eqClassS.l0]
  rw [if_neg (by omega)])
 refine Ev.of_mono (laws_eqClassS.mono l l) (K:=l.length + 1) ?_
 unfold laws_eqClassS.f
 rw [if_pos rfl]
 exact h
end Go.Proofs.Ytacgehaipacehaa.P
namespace Go.Proofs.Ytacgehaipacehaa.P
open Go.RowKit Go.Proofs.YtacgehaipacehaaW.PrintWords Go.Proofs.YtacgehaipacehaaW.PrintLast Go.Proofs.YtacgehaipacehaaW.PrintMore
attribute [local go_sem] max2_int min2_int max_two min_two max_three min_three max_four min_four
set_option linter.unusedVariables false
set_option linter.unusedSimpArgs false
def laws_eqTree.f (k : Nat) (l0_0 : List (S125)) (l1_0 : List (S125)) : Option (Bool):=(laws_eqClassS.f k l0_0 l1_0).bind fun t3=>(if t3 = true then (some true) else (some false))
theorem laws_eqTree.mono : ∀ a0 a1 k,LeO (laws_eqTree.f k a0 a1) (laws_eqTree.f (k + 1) a0 a1):=by
 intro a0 a1 k
 unfold laws_eqTree.f
 repeat' first
   | (with_reducible exact laws_eqClassS.mono _ _ _)
   | (with_reducible exact LeO.refl _)
   | (with_reducible exact LeO.none _)
   | (with_reducible refine LeO.ite ?_ ?_)
   | (with_reducible refine LeO.bind ?_ (fun _=>?_))
   | exact laws_eqClassS.mono _ _ _
   | exact LeO.none _
   | refine LeO.ite ?_ ?_
   | refine LeO.bind ?_ (fun _=>?_)
set_option maxHeartbeats 8000000 in
set_option maxRecDepth 100000 in
theorem laws_eqTree.calls (k : Nat) (A0_0 : Option Addr) (c0_0 : Nat) (l0_0 : List (S125)) (A1_0 : Option Addr) (c1_0 : Nat) (l1_0 : List (S125)) (r : Bool) (w : World) (hr0_0 : Kd.C k125 w A0_0 l0_0.length l0_0) (hc0_0 : l0_0.length ≤ c0_0) (hr1_0 : Kd.C k125 w A1_0 l1_0.length l1_0) (hc1_0 : l1_0.length ≤ c1_0) (h : laws_eqTree.f k l0_0 l1_0 = some r) :
  Calls Try.prog 27 #[.agg #[.slice A0_0 l0_0.length c0_0],.agg #[.slice A1_0 l1_0.length c1_0]] w fun e w'=>e = .returned (.bool r) ∧ Below w.heap.size w w':=by
 have hu25:=Try.underlying25
 have HR0_0:=a0_ hr0_0
 have HC0_0:=a0_ hc0_0
 clear hr0_0 hc0_0
 have HR1_0:=a0_ hr1_0
 have HC1_0:=a0_ hc1_0
 clear hr1_0 hc1_0
 have HB:=a0_ (Below.refl w.heap.size w)
 have H : ((laws_eqClassS.f k l0_0 l1_0).bind fun t3=>(if t3 = true then (some true) else (some false))) = some r:=h
 clear h
 replace H:=Option.bind_eq_some_iff.mp H
 obtain ⟨t3,A30,H⟩:=H
 replace H : (if t3 = true then (some true) else (some false)) = some r:=H
 have A3:=a0_ A30
 clear A30
 by_cases c4 : t3 = true
 ·subst c4
  have H1 : (some true) = some r:=by rw [if_pos rfl] at H;exact H
  clear H
  have H:=H1
  clear H1
  obtain rfl:=Option.some.inj H
  go_enter Try.func27,Try.ntmps27
  go_wp2_with (first | ((with_reducible refine gate_dst (N:=2) rfl ?_);refine box_event ?hg (N:=2) ?hd (cs:=#[.slice A0_0 l0_0.length c0_0]) (t:=25) ?hr ?_;(case hd=>rfl);(case hg=>rfl);(case hr=>first | (go_simp;done) | (go_simp;rfl));intro gb1 hg w5 hbox hb;have BK1:=a0_ (hbox);have GW1:=a0_ ((by rw [hg];exact (below_size hbw_) : w.heap.size ≤ gb1));have GE1:=a0_ ((by rw [hg];exact (below_size hbw_) : w.heap.size ≤ gb1));replace HB:=a0_ (below_step hbw_ hb);clear hb hbox hg) | ((with_reducible refine gate_dst (N:=3) rfl ?_);refine box_event ?hg (N:=3) ?hd (cs:=#[.slice A1_0 l1_0.length c1_0]) (t:=25) ?hr ?_;(case hd=>rfl);(case hg=>rfl);(case hr=>first | (go_simp;done) | (go_simp;rfl));intro gb2 hg w6 hbox hb;have n0_:=kb_ BK1 hb;have n1_:=a0_ (below_step hbw_ hb);have n2_:=a0_ (hbox);have n3_:=a0_ ((by rw [hg];exact (below_size hbw_) : w.heap.size ≤ gb2));have n4_:=a0_ ((by rw [hg];exact (below_size hbw_) : w.heap.size ≤ gb2));have n5_:=a0_ ((by rw [hg];exact Nat.ne_of_lt (blk_lt (bb_ BK1.out)) : gb1 ≠ gb2));have n6_:=a0_ ((by rw [hg];exact Nat.ne_of_gt (blk_lt (bb_ BK1.out)) : gb2 ≠ gb1));clear BK1 HB;have BK1:=n0_;have HB:=n1_;have BK2:=n2_;have GW2:=n3_;have GE2:=n4_;have NB1_2:=n5_;have NB2_1:=n6_;clear n0_ n1_ n2_ n3_ n4_ n5_ n6_;clear hb hbox hg;have hnb7:=NB1_2.out;have hnc7:=NB2_1.out;have hcz8_0 : w6.cell? ⟨gb1,0,none⟩ = some (.slice A0_0 l0_0.length c0_0):=(blk_cell BK1.out 0).trans rfl;have hfz8_0:=blk_frozen BK1.out 0;have hcz9_0 : w6.cell? ⟨gb2,0,none⟩ = some (.slice A1_0 l1_0.length c1_0):=(blk_cell BK2.out 0).trans rfl;have hfz9_0:=blk_frozen BK2.out 0) | ((with_reducible refine gate_callee (f:=76) rfl ?_);refine goesL_ (some 9) rfl rfl Try.func76 (by kernel_rfl) rfl #[.slice A0_0 l0_0.length c0_0,.slice A1_0 l1_0.length c1_0] rfl lm_ ?_;(with_reducible refine (laws_eqClassS.calls k _ _ l0_0 _ _ l1_0 true _ ?side1 ?side2 ?side3 ?side4 A3.out).mono ?_);(case side1=>exact cc_ (Kd.C_below HR0_0.out HB.out));(case side2=>exact HC0_0.out);(case side3=>exact cc_ (Kd.C_below HR1_0.out HB.out));(case side4=>exact HC1_0.out);rintro e w10 ⟨rfl,hb⟩;refine ⟨_,rfl,?_⟩;replace BK1:=kb_ BK1 hb;replace BK2:=kb_ BK2 hb;replace HB:=a0_ (below_step hbw_ hb);(try clear hb);(try clear hb2);(try clear hk);(try clear hi)))
  go_ret
  exact ⟨by first | rfl | (simp [errW_none,errW_some] <;> rfl) | (simp [*,errW_none,errW_some] <;> rfl),hbw_⟩
 ·replace c4:=Bool.eq_false_iff.mpr c4
  subst c4
  have H1 : (some false) = some r:=by rw [if_neg (show ¬ (false = true) by decide)] at H;exact H
  clear H
  have H:=H1
  clear H1
  obtain rfl:=Option.some.inj H
  go_enter Try.func27,Try.ntmps27
  go_wp2_with (first | ((with_reducible refine gate_dst (N:=2) rfl ?_);refine box_event ?hg (N:=2) ?hd (cs:=#[.slice A0_0 l0_0.length c0_0]) (t:=25) ?hr ?_;(case hd=>rfl);(case hg=>rfl);(case hr=>first | (go_simp;done) | (go_simp;rfl));intro gb1 hg w11 hbox hb;have BK1:=a0_ (hbox);have GW1:=a0_ ((by rw [hg];exact (below_size hbw_) : w.heap.size ≤ gb1));have GE1:=a0_ ((by rw [hg];exact (below_size hbw_) : w.heap.size ≤ gb1));replace HB:=a0_ (below_step hbw_ hb);clear hb hbox hg) | ((with_reducible refine gate_dst (N:=3) rfl ?_);refine box_event ?hg (N:=3) ?hd (cs:=#[.slice A1_0 l1_0.length c1_0]) (t:=25) ?hr ?_;(case hd=>rfl);(case hg=>rfl);(case hr=>first | (go_simp;done) | (go_simp;rfl));intro gb2 hg w12 hbox hb;have n0_:=kb_ BK1 hb;have n1_:=a0_ (below_step hbw_ hb);have n2_:=a0_ (hbox);have n3_:=a0_ ((by rw [hg];exact (below_size hbw_) : w.heap.size ≤ gb2));have n4_:=a0_ ((by rw [hg];exact (below_size hbw_) : w.heap.size ≤ gb2));have n5_:=a0_ ((by rw [hg];exact Nat.ne_of_lt (blk_lt (bb_ BK1.out)) : gb1 ≠ gb2));have n6_:=a0_ ((by rw [hg];exact Nat.ne_of_gt (blk_lt (bb_ BK1.out)) : gb2 ≠ gb1));clear BK1 HB;have BK1:=n0_;have HB:=n1_;have BK2:=n2_;have GW2:=n3_;have GE2:=n4_;have NB1_2:=n5_;have NB2_1:=n6_;clear n0_ n1_ n2_ n3_ n4_ n5_ n6_;clear hb hbox hg;have hnb13:=NB1_2.out;have hnc13:=NB2_1.out;have hcz14_0 : w12.cell? ⟨gb1,0,none⟩ = some (.slice A0_0 l0_0.length c0_0):=(blk_cell BK1.out 0).trans rfl;have hfz14_0:=blk_frozen BK1.out 0;have hcz15_0 : w12.cell? ⟨gb2,0,none⟩ = some (.slice A1_0 l1_0.length c1_0):=(blk_cell BK2.out 0).trans rfl;have hfz15_0:=blk_frozen BK2.out 0) | ((with_reducible refine gate_callee (f:=76) rfl ?_);refine goesL_ (some 9) rfl rfl Try.func76 (by kernel_rfl) rfl #[.slice A0_0 l0_0.length c0_0,.slice A1_0 l1_0.length c1_0] rfl lm_ ?_;(with_reducible refine (laws_eqClassS.calls k _ _ l0_0 _ _ l1_0 false _ ?side1 ?side2 ?side3 ?side4 A3.out).mono ?_);(case side1=>exact cc_ (Kd.C_below HR0_0.out HB.out));(case side2=>exact HC0_0.out);(case side3=>exact cc_ (Kd.C_below HR1_0.out HB.out));(case side4=>exact HC1_0.out);rintro e w16 ⟨rfl,hb⟩;refine ⟨_,rfl,?_⟩;replace BK1:=kb_ BK1 hb;replace BK2:=kb_ BK2 hb;replace HB:=a0_ (below_step hbw_ hb);(try clear hb);(try clear hb2);(try clear hk);(try clear hi)))
  go_ret
  exact ⟨by first | rfl | (simp [errW_none,errW_some] <;> rfl) | (simp [*,errW_none,errW_some] <;> rfl),hbw_⟩
theorem laws_eqTree_ev (l : List Cls) (hl : l.length ≤ 9223372036854775807) : Ev (fun k=>laws_eqTree.f k l l) true :=
 Ev.bind (laws_eqClassS_ev l hl) (Ev.pos rfl (Ev.const rfl))
end Go.Proofs.Ytacgehaipacehaa.P
namespace Go.Proofs.Ytacgehaipacehaa.P
open Go.RowKit Go.Proofs.YtacgehaipacehaaW.PrintWords Go.Proofs.YtacgehaipacehaaW.PrintLast Go.Proofs.YtacgehaipacehaaW.PrintMore
attribute [local go_sem] max2_int min2_int max_two min_two max_three min_three max_four min_four
set_option linter.unusedVariables false
set_option linter.unusedSimpArgs false
def laws_eqRange.f (a0_0 : Int) (a0_1 : Int) (a0_2 : Int) (a0_3 : Int) (a1_0 : Int) (a1_1 : Int) (a1_2 : Int) (a1_3 : Int) : Option (Bool):=if a0_0 = a1_0 then (if a0_1 = a1_1 then (if a0_2 = a1_2 then (if a0_3 = a1_3 then (some true) else (some false)) else (some false)) else (some false)) else (some false)
set_option maxHeartbeats 8000000 in
set_option maxRecDepth 100000 in
theorem laws_eqRange.calls (a0_0 : Int) (a0_1 : Int) (a0_2 : Int) (a0_3 : Int) (a1_0 : Int) (a1_1 : Int) (a1_2 : Int) (a1_3 : Int) (r : Bool) (w : World) (h : laws_eqRange.f a0_0 a0_1 a0_2 a0_3 a1_0 a1_1 a1_2 a1_3 = some r) :
  Calls Try.prog 77 #[.agg #[.int .i64 a0_0,.int .i64 a0_1,.int .i64 a0_2,.int .i64 a0_3],.agg #[.int .i64 a1_0,.int .i64 a1_1,.int .i64 a1_2,.int .i64 a1_3]] w fun e w'=>e = .returned (.bool r) ∧ Below w.heap.size w w':=by
 have hu95:=Try.underlying95
 have HB:=a0_ (Below.refl w.heap.size w)
 have H : (if a0_0 = a1_0 then (if a0_1 = a1_1 then (if a0_2 = a1_2 then (if a0_3 = a1_3 then (some true) else (some false)) else (some false)) else (some false)) else (some false)) = some r:=h
 clear h
 by_cases c3 : a0_0 = a1_0
 ·rw [if_pos c3] at H
  have c3b0 : (a0_0 == a1_0) = true:=beq_iff_eq.mpr c3
  have c3b1 : (a0_0 != a1_0) = false:=bne_eq_false_iff_eq.mpr c3
  clear c3
  by_cases c4 : a0_1 = a1_1
  ·rw [if_pos c4] at H
   have c4b0 : (a0_1 == a1_1) = true:=beq_iff_eq.mpr c4
   have c4b1 : (a0_1 != a1_1) = false:=bne_eq_false_iff_eq.mpr c4
   clear c4
   by_cases c5 : a0_2 = a1_2
   ·rw [if_pos c5] at H
    have c5b0 : (a0_2 == a1_2) = true:=beq_iff_eq.mpr c5
    have c5b1 : (a0_2 != a1_2) = false:=bne_eq_false_iff_eq.mpr c5
    clear c5
    by_cases c6 : a0_3 = a1_3
    ·rw [if_pos c6] at H
     have c6b0 : (a0_3 == a1_3) = true:=beq_iff_eq.mpr c6
     have c6b1 : (a0_3 != a1_3) = false:=bne_eq_false_iff_eq.mpr c6
     clear c6
     obtain rfl:=Option.some.inj H
     go_enter Try.func77,Try.ntmps77
     go_wp2_with (first | ((with_reducible refine gate_dst (N:=2) rfl ?_);refine box_event ?hg (N:=2) ?hd (cs:=#[.int .i64 a0_0,.int .i64 a0_1,.int .i64 a0_2,.int .i64 a0_3]) (t:=95) ?hr ?_;(case hd=>rfl);(case hg=>rfl);(case hr=>first | (go_simp;done) | (go_simp;rfl));intro gb1 hg w7 hbox hb;have BK1:=a0_ (hbox);have GW1:=a0_ ((by rw [hg];exact (below_size hbw_) : w.heap.size ≤ gb1));have GE1:=a0_ ((by rw [hg];exact (below_size hbw_) : w.heap.size ≤ gb1));replace HB:=a0_ (below_step hbw_ hb);clear hb hbox hg) | ((with_reducible refine gate_dst (N:=3) rfl ?_);refine box_event ?hg (N:=3) ?hd (cs:=#[.int .i64 a1_0,.int .i64 a1_1,.int .i64 a1_2,.int .i64 a1_3]) (t:=95) ?hr ?_;(case hd=>rfl);(case hg=>rfl);(case hr=>first | (go_simp;done) | (go_simp;rfl));intro gb2 hg w8 hbox hb;have n0_:=kb_ BK1 hb;have n1_:=a0_ (below_step hbw_ hb);have n2_:=a0_ (hbox);have n3_:=a0_ ((by rw [hg];exact (below_size hbw_) : w.heap.size ≤ gb2));have n4_:=a0_ ((by rw [hg];exact (below_size hbw_) : w.heap.size ≤ gb2));have n5_:=a0_ ((by rw [hg];exact Nat.ne_of_lt (blk_lt (bb_ BK1.out)) : gb1 ≠ gb2));have n6_:=a0_ ((by rw [hg];exact Nat.ne_of_gt (blk_lt (bb_ BK1.out)) : gb2 ≠ gb1));clear BK1 HB;have BK1:=n0_;have HB:=n1_;have BK2:=n2_;have GW2:=n3_;have GE2:=n4_;have NB1_2:=n5_;have NB2_1:=n6_;clear n0_ n1_ n2_ n3_ n4_ n5_ n6_;clear hb hbox hg;have hnb9:=NB1_2.out;have hnc9:=NB2_1.out;have hcz10_0 : w8.cell? ⟨gb1,0,none⟩ = some (.int .i64 a0_0):=(blk_cell BK1.out 0).trans rfl;have hcz10_1 : w8.cell? ⟨gb1,1,none⟩ = some (.int .i64 a0_1):=(blk_cell BK1.out 1).trans rfl;have hcz10_2 : w8.cell? ⟨gb1,2,none⟩ = some (.int .i64 a0_2):=(blk_cell BK1.out 2).trans rfl;have hcz10_3 : w8.cell? ⟨gb1,3,none⟩ = some (.int .i64 a0_3):=(blk_cell BK1.out 3).trans rfl;have hfz10_0:=blk_frozen BK1.out 0;have hfz10_1:=blk_frozen BK1.out 1;have hfz10_2:=blk_frozen BK1.out 2;have hfz10_3:=blk_frozen BK1.out 3;have hcz11_0 : w8.cell? ⟨gb2,0,none⟩ = some (.int .i64 a1_0):=(blk_cell BK2.out 0).trans rfl;have hcz11_1 : w8.cell? ⟨gb2,1,none⟩ = some (.int .i64 a1_1):=(blk_cell BK2.out 1).trans rfl;have hcz11_2 : w8.cell? ⟨gb2,2,none⟩ = some (.int .i64 a1_2):=(blk_cell BK2.out 2).trans rfl;have hcz11_3 : w8.cell? ⟨gb2,3,none⟩ = some (.int .i64 a1_3):=(blk_cell BK2.out 3).trans rfl;have hfz11_0:=blk_frozen BK2.out 0;have hfz11_1:=blk_frozen BK2.out 1;have hfz11_2:=blk_frozen BK2.out 2;have hfz11_3:=blk_frozen BK2.out 3))
     go_ret
     exact ⟨by first | rfl | (simp [errW_none,errW_some] <;> rfl) | (simp [*,errW_none,errW_some] <;> rfl),hbw_⟩
    ·rw [if_neg c6] at H
     have c6b0 : (a0_3 == a1_3) = false:=beq_eq_false_iff_ne.mpr c6
     have c6b1 : (a0_3 != a1_3) = true:=bne_iff_ne.mpr c6
     obtain rfl:=Option.some.inj H
     go_enter Try.func77,Try.ntmps77
     go_wp2_with (first | ((with_reducible refine gate_dst (N:=2) rfl ?_);refine box_event ?hg (N:=2) ?hd (cs:=#[.int .i64 a0_0,.int .i64 a0_1,.int .i64 a0_2,.int .i64 a0_3]) (t:=95) ?hr ?_;(case hd=>rfl);(case hg=>rfl);(case hr=>first | (go_simp;done) | (go_simp;rfl));intro gb1 hg w12 hbox hb;have BK1:=a0_ (hbox);have GW1:=a0_ ((by rw [hg];exact (below_size hbw_) : w.heap.size ≤ gb1));have GE1:=a0_ ((by rw [hg];exact (below_size hbw_) : w.heap.size ≤ gb1));replace HB:=a0_ (below_step hbw_ hb);clear hb hbox hg) | ((with_reducible refine gate_dst (N:=3) rfl ?_);refine box_event ?hg (N:=3) ?hd (cs:=#[.int .i64 a1_0,.int .i64 a1_1,.int .i64 a1_2,.int .i64 a1_3]) (t:=95) ?hr ?_;(case hd=>rfl);(case hg=>rfl);(case hr=>first | (go_simp;done) | (go_simp;rfl));intro gb2 hg w13 hbox hb;have n0_:=kb_ BK1 hb;have n1_:=a0_ (below_step hbw_ hb);have n2_:=a0_ (hbox);have n3_:=a0_ ((by rw [hg];exact (below_size hbw_) : w.heap.size ≤ gb2));have n4_:=a0_ ((by rw [hg];exact (below_size hbw_) : w.heap.size ≤ gb2));have n5_:=a0_ ((by rw [hg];exact Nat.ne_of_lt (blk_lt (bb_ BK1.out)) : gb1 ≠ gb2));have n6_:=a0_ ((by rw [hg];exact Nat.ne_of_gt (blk_lt (bb_ BK1.out)) : gb2 ≠ gb1));clear BK1 HB;have BK1:=n0_;have HB:=n1_;have BK2:=n2_;have GW2:=n3_;have GE2:=n4_;have NB1_2:=n5_;have NB2_1:=n6_;clear n0_ n1_ n2_ n3_ n4_ n5_ n6_;clear hb hbox hg;have hnb14:=NB1_2.out;have hnc14:=NB2_1.out;have hcz15_0 : w13.cell? ⟨gb1,0,none⟩ = some (.int .i64 a0_0):=(blk_cell BK1.out 0).trans rfl;have hcz15_1 : w13.cell? ⟨gb1,1,none⟩ = some (.int .i64 a0_1):=(blk_cell BK1.out 1).trans rfl;have hcz15_2 : w13.cell? ⟨gb1,2,none⟩ = some (.int .i64 a0_2):=(blk_cell BK1.out 2).trans rfl;have hcz15_3 : w13.cell? ⟨gb1,3,none⟩ = some (.int .i64 a0_3):=(blk_cell BK1.out 3).trans rfl;have hfz15_0:=blk_frozen BK1.out 0;have hfz15_1:=blk_frozen BK1.out 1;have hfz15_2:=blk_frozen BK1.out 2;have hfz15_3:=blk_frozen BK1.out 3;have hcz16_0 : w13.cell? ⟨gb2,0,none⟩ = some (.int .i64 a1_0):=(blk_cell BK2.out 0).trans rfl;have hcz16_1 : w13.cell? ⟨gb2,1,none⟩ = some (.int .i64 a1_1):=(blk_cell BK2.out 1).trans rfl;have hcz16_2 : w13.cell? ⟨gb2,2,none⟩ = some (.int .i64 a1_2):=(blk_cell BK2.out 2).trans rfl;have hcz16_3 : w13.cell? ⟨gb2,3,none⟩ = some (.int .i64 a1_3):=(blk_cell BK2.out 3).trans rfl;have hfz16_0:=blk_frozen BK2.out 0;have hfz16_1:=blk_frozen BK2.out 1;have hfz16_2:=blk_frozen BK2.out 2;have hfz16_3:=blk_frozen BK2.out 3))
     go_ret
     exact ⟨by first | rfl | (simp [errW_none,errW_some] <;> rfl) | (simp [*,errW_none,errW_some] <;> rfl),hbw_⟩
   ·rw [if_neg c5] at H
    have c5b0 : (a0_2 == a1_2) = false:=beq_eq_false_iff_ne.mpr c5
    have c5b1 : (a0_2 != a1_2) = true:=bne_iff_ne.mpr c5
    obtain rfl:=Option.some.inj H
    go_enter Try.func77,Try.ntmps77
    go_wp2_with (first | ((with_reducible refine gate_dst (N:=2) rfl ?_);refine box_event ?hg (N:=2) ?hd (cs:=#[.int .i64 a0_0,.int .i64 a0_1,.int .i64 a0_2,.int .i64 a0_3]) (t:=95) ?hr ?_;(case hd=>rfl);(case hg=>rfl);(case hr=>first | (go_simp;done) | (go_simp;rfl));intro gb1 hg w17 hbox hb;have BK1:=a0_ (hbox);have GW1:=a0_ ((by rw [hg];exact (below_size hbw_) : w.heap.size ≤ gb1));have GE1:=a0_ ((by rw [hg];exact (below_size hbw_) : w.heap.size ≤ gb1));replace HB:=a0_ (below_step hbw_ hb);clear hb hbox hg) | ((with_reducible refine gate_dst (N:=3) rfl ?_);refine box_event ?hg (N:=3) ?hd (cs:=#[.int .i64 a1_0,.int .i64 a1_1,.int .i64 a1_2,.int .i64 a1_3]) (t:=95) ?hr ?_;(case hd=>rfl);(case hg=>rfl);(case hr=>first | (go_simp;done) | (go_simp;rfl));intro gb2 hg w18 hbox hb;have n0_:=kb_ BK1 hb;have n1_:=a0_ (below_step hbw_ hb);have n2_:=a0_ (hbox);have n3_:=a0_ ((by rw [hg];exact (below_size hbw_) : w.heap.size ≤ gb2));have n4_:=a0_ ((by rw [hg];exact (below_size hbw_) : w.heap.size ≤ gb2));have n5_:=a0_ ((by rw [hg];exact Nat.ne_of_lt (blk_lt (bb_ BK1.out)) : gb1 ≠ gb2));have n6_:=a0_ ((by rw [hg];exact Nat.ne_of_gt (blk_lt (bb_ BK1.out)) : gb2 ≠ gb1));clear BK1 HB;have BK1:=n0_;have HB:=n1_;have BK2:=n2_;have GW2:=n3_;have GE2:=n4_;have NB1_2:=n5_;have NB2_1:=n6_;clear n0_ n1_ n2_ n3_ n4_ n5_ n6_;clear hb hbox hg;have hnb19:=NB1_2.out;have hnc19:=NB2_1.out;have hcz20_0 : w18.cell? ⟨gb1,0,none⟩ = some (.int .i64 a0_0):=(blk_cell BK1.out 0).trans rfl;have hcz20_1 : w18.cell? ⟨gb1,1,none⟩ = some (.int .i64 a0_1):=(blk_cell BK1.out 1).trans rfl;have hcz20_2 : w18.cell? ⟨gb1,2,none⟩ = some (.int .i64 a0_2):=(blk_cell BK1.out 2).trans rfl;have hcz20_3 : w18.cell? ⟨gb1,3,none⟩ = some (.int .i64 a0_3):=(blk_cell BK1.out 3).trans rfl;have hfz20_0:=blk_frozen BK1.out 0;have hfz20_1:=blk_frozen BK1.out 1;have hfz20_2:=blk_frozen BK1.out 2;have hfz20_3:=blk_frozen BK1.out 3;have hcz21_0 : w18.cell? ⟨gb2,0,none⟩ = some (.int .i64 a1_0):=(blk_cell BK2.out 0).trans rfl;have hcz21_1 : w18.cell? ⟨gb2,1,none⟩ = some (.int .i64 a1_1):=(blk_cell BK2.out 1).trans rfl;have hcz21_2 : w18.cell? ⟨gb2,2,none⟩ = some (.int .i64 a1_2):=(blk_cell BK2.out 2).trans rfl;have hcz21_3 : w18.cell? ⟨gb2,3,none⟩ = some (.int .i64 a1_3):=(blk_cell BK2.out 3).trans rfl;have hfz21_0:=blk_frozen BK2.out 0;have hfz21_1:=blk_frozen BK2.out 1;have hfz21_2:=blk_frozen BK2.out 2;have hfz21_3:=blk_frozen BK2.out 3))
    go_ret
    exact ⟨by first | rfl | (simp [errW_none,errW_some] <;> rfl) | (simp [*,errW_none,errW_some] <;> rfl),hbw_⟩
  ·rw [if_neg c4] at H
   have c4b0 : (a0_1 == a1_1) = false:=beq_eq_false_iff_ne.mpr c4
   have c4b1 : (a0_1 != a1_1) = true:=bne_iff_ne.mpr c4
   obtain rfl:=Option.some.inj H
   go_enter Try.func77,Try.ntmps77
   go_wp2_with (first | ((with_reducible refine gate_dst (N:=2) rfl ?_);refine box_event ?hg (N:=2) ?hd (cs:=#[.int .i64 a0_0,.int .i64 a0_1,.int .i64 a0_2,.int .i64 a0_3]) (t:=95) ?hr ?_;(case hd=>rfl);(case hg=>rfl);(case hr=>first | (go_simp;done) | (go_simp;rfl));intro gb1 hg w22 hbox hb;have BK1:=a0_ (hbox);have GW1:=a0_ ((by rw [hg];exact (below_size hbw_) : w.heap.size ≤ gb1));have GE1:=a0_ ((by rw [hg];exact (below_size hbw_) : w.heap.size ≤ gb1));replace HB:=a0_ (below_step hbw_ hb);clear hb hbox hg) | ((with_reducible refine gate_dst (N:=3) rfl ?_);refine box_event ?hg (N:=3) ?hd (cs:=#[.int .i64 a1_0,.int .i64 a1_1,.int .i64 a1_2,.int .i64 a1_3]) (t:=95) ?hr ?_;(case hd=>rfl);(case hg=>rfl);(case hr=>first | (go_simp;done) | (go_simp;rfl));intro gb2 hg w23 hbox hb;have n0_:=kb_ BK1 hb;have n1_:=a0_ (below_step hbw_ hb);have n2_:=a0_ (hbox);have n3_:=a0_ ((by rw [hg];exact (below_size hbw_) : w.heap.size ≤ gb2));have n4_:=a0_ ((by rw [hg];exact (below_size hbw_) : w.heap.size ≤ gb2));have n5_:=a0_ ((by rw [hg];exact Nat.ne_of_lt (blk_lt (bb_ BK1.out)) : gb1 ≠ gb2));have n6_:=a0_ ((by rw [hg];exact Nat.ne_of_gt (blk_lt (bb_ BK1.out)) : gb2 ≠ gb1));clear BK1 HB;have BK1:=n0_;have HB:=n1_;have BK2:=n2_;have GW2:=n3_;have GE2:=n4_;have NB1_2:=n5_;have NB2_1:=n6_;clear n0_ n1_ n2_ n3_ n4_ n5_ n6_;clear hb hbox hg;have hnb24:=NB1_2.out;have hnc24:=NB2_1.out;have hcz25_0 : w23.cell? ⟨gb1,0,none⟩ = some (.int .i64 a0_0):=(blk_cell BK1.out 0).trans rfl;have hcz25_1 : w23.cell? ⟨gb1,1,none⟩ = some (.int .i64 a0_1):=(blk_cell BK1.out 1).trans rfl;have hcz25_2 : w23.cell? ⟨gb1,2,none⟩ = some (.int .i64 a0_2):=(blk_cell BK1.out 2).trans rfl;have hcz25_3 : w23.cell? ⟨gb1,3,none⟩ = some (.int .i64 a0_3):=(blk_cell BK1.out 3).trans rfl;have hfz25_0:=blk_frozen BK1.out 0;have hfz25_1:=blk_frozen BK1.out 1;have hfz25_2:=blk_frozen BK1.out 2;have hfz25_3:=blk_frozen BK1.out 3;have hcz26_0 : w23.cell? ⟨gb2,0,none⟩ = some (.int .i64 a1_0):=(blk_cell BK2.out 0).trans rfl;have hcz26_1 : w23.cell? ⟨gb2,1,none⟩ = some (.int .i64 a1_1):=(blk_cell BK2.out 1).trans rfl;have hcz26_2 : w23.cell? ⟨gb2,2,none⟩ = some (.int .i64 a1_2):=(blk_cell BK2.out 2).trans rfl;have hcz26_3 : w23.cell? ⟨gb2,3,none⟩ = some (.int .i64 a1_3):=(blk_cell BK2.out 3).trans rfl;have hfz26_0:=blk_frozen BK2.out 0;have hfz26_1:=blk_frozen BK2.out 1;have hfz26_2:=blk_frozen BK2.out 2;have hfz26_3:=blk_frozen BK2.out 3))
   go_ret
   exact ⟨by first | rfl | (simp [errW_none,errW_some] <;> rfl) | (simp [*,errW_none,errW_some] <;> rfl),hbw_⟩
 ·rw [if_neg c3] at H
  have c3b0 : (a0_0 == a1_0) = false:=beq_eq_false_iff_ne.mpr c3
  have c3b1 : (a0_0 != a1_0) = true:=bne_iff_ne.mpr c3
  obtain rfl:=Option.some.inj H
  go_enter Try.func77,Try.ntmps77
  go_wp2_with (first | ((with_reducible refine gate_dst (N:=2) rfl ?_);refine box_event ?hg (N:=2) ?hd (cs:=#[.int .i64 a0_0,.int .i64 a0_1,.int .i64 a0_2,.int .i64 a0_3]) (t:=95) ?hr ?_;(case hd=>rfl);(case hg=>rfl);(case hr=>first | (go_simp;done) | (go_simp;rfl));intro gb1 hg w27 hbox hb;have BK1:=a0_ (hbox);have GW1:=a0_ ((by rw [hg];exact (below_size hbw_) : w.heap.size ≤ gb1));have GE1:=a0_ ((by rw [hg];exact (below_size hbw_) : w.heap.size ≤ gb1));replace HB:=a0_ (below_step hbw_ hb);clear hb hbox hg) | ((with_reducible refine gate_dst (N:=3) rfl ?_);refine box_event ?hg (N:=3) ?hd (cs:=#[.int .i64 a1_0,.int .i64 a1_1,.int .i64 a1_2,.int .i64 a1_3]) (t:=95) ?hr ?_;(case hd=>rfl);(case hg=>rfl);(case hr=>first | (go_simp;done) | (go_simp;rfl));intro gb2 hg w28 hbox hb;have n0_:=kb_ BK1 hb;have n1_:=a0_ (below_step hbw_ hb);have n2_:=a0_ (hbox);have n3_:=a0_ ((by rw [hg];exact (below_size hbw_) : w.heap.size ≤ gb2));have n4_:=a0_ ((by rw [hg];exact (below_size hbw_) : w.heap.size ≤ gb2));have n5_:=a0_ ((by rw [hg];exact Nat.ne_of_lt (blk_lt (bb_ BK1.out)) : gb1 ≠ gb2));have n6_:=a0_ ((by rw [hg];exact Nat.ne_of_gt (blk_lt (bb_ BK1.out)) : gb2 ≠ gb1));clear BK1 HB;have BK1:=n0_;have HB:=n1_;have BK2:=n2_;have GW2:=n3_;have GE2:=n4_;have NB1_2:=n5_;have NB2_1:=n6_;clear n0_ n1_ n2_ n3_ n4_ n5_ n6_;clear hb hbox hg;have hnb29:=NB1_2.out;have hnc29:=NB2_1.out;have hcz30_0 : w28.cell? ⟨gb1,0,none⟩ = some (.int .i64 a0_0):=(blk_cell BK1.out 0).trans rfl;have hcz30_1 : w28.cell? ⟨gb1,1,none⟩ = some (.int .i64 a0_1):=(blk_cell BK1.out 1).trans rfl;have hcz30_2 : w28.cell? ⟨gb1,2,none⟩ = some (.int .i64 a0_2):=(blk_cell BK1.out 2).trans rfl;have hcz30_3 : w28.cell? ⟨gb1,3,none⟩ = some (.int .i64 a0_3):=(blk_cell BK1.out 3).trans rfl;have hfz30_0:=blk_frozen BK1.out 0;have hfz30_1:=blk_frozen BK1.out 1;have hfz30_2:=blk_frozen BK1.out 2;have hfz30_3:=blk_frozen BK1.out 3;have hcz31_0 : w28.cell? ⟨gb2,0,none⟩ = some (.int .i64 a1_0):=(blk_cell BK2.out 0).trans rfl;have hcz31_1 : w28.cell? ⟨gb2,1,none⟩ = some (.int .i64 a1_1):=(blk_cell BK2.out 1).trans rfl;have hcz31_2 : w28.cell? ⟨gb2,2,none⟩ = some (.int .i64 a1_2):=(blk_cell BK2.out 2).trans rfl;have hcz31_3 : w28.cell? ⟨gb2,3,none⟩ = some (.int .i64 a1_3):=(blk_cell BK2.out 3).trans rfl;have hfz31_0:=blk_frozen BK2.out 0;have hfz31_1:=blk_frozen BK2.out 1;have hfz31_2:=blk_frozen BK2.out 2;have hfz31_3:=blk_frozen BK2.out 3))
  go_ret
  exact ⟨by first | rfl | (simp [errW_none,errW_some] <;> rfl) | (simp [*,errW_none,errW_some] <;> rfl),hbw_⟩
end Go.Proofs.Ytacgehaipacehaa.P
namespace Go.Proofs.Ytacgehaipacehaa.P
open Go.RowKit Go.Proofs.YtacgehaipacehaaW.PrintWords Go.Proofs.YtacgehaipacehaaW.PrintLast Go.Proofs.YtacgehaipacehaaW.PrintMore
attribute [local go_sem] max2_int min2_int max_two min_two max_three min_three max_four min_four
set_option linter.unusedVariables false
set_option linter.unusedSimpArgs false
def laws_eqRangeS.l0 : Nat → List (S95) → List (S95) → Int → Option (Bool)
 | 0,_,_,_=>none
 | k + 1,x0,x1,x5=>if x5 < (x0.length : Int) then (if 0 ≤ x5 then (if x5 < (x1.length : Int) then ((laws_eqRange.f ((rd_T95 x0 x5).f0) ((rd_T95 x0 x5).f1) ((rd_T95 x0 x5).f2) ((rd_T95 x0 x5).f3) ((rd_T95 x1 x5).f0) ((rd_T95 x1 x5).f1) ((rd_T95 x1 x5).f2) ((rd_T95 x1 x5).f3)).bind fun t3=>(if t3 = true then (laws_eqRangeS.l0 k x0 x1 (wrap64 (x5 + 1))) else (some false))) else (none)) else (none)) else (some true)
def laws_eqRangeS.f (k : Nat) (l0 : List (S95)) (l1 : List (S95)) : Option (Bool):=if (l0.length : Int) = (l1.length : Int) then (laws_eqRangeS.l0 k l0 l1 0) else (some false)
theorem laws_eqRangeS.mono_l : ∀ k,(∀ y0 y1 y2,LeO (laws_eqRangeS.l0 k y0 y1 y2) (laws_eqRangeS.l0 (k + 1) y0 y1 y2))
 | 0=>fun _ _ _ r h=>by simp [laws_eqRangeS.l0] at h
 | k + 1=>by
  have ih0:=laws_eqRangeS.mono_l k
  ·intro y0 y1 y2
   unfold laws_eqRangeS.l0
   repeat' first
   | (with_reducible exact ih0 _ _ _)
   | (with_reducible exact LeO.refl _)
   | (with_reducible exact LeO.none _)
   | (with_reducible refine LeO.ite ?_ ?_)
   | (with_reducible refine LeO.bind ?_ (fun _=>?_))
   | exact ih0 _ _ _
   | exact LeO.none _
   | refine LeO.ite ?_ ?_
   | refine LeO.bind ?_ (fun _=>?_)
theorem laws_eqRangeS.mono : ∀ a0 a1 k,LeO (laws_eqRangeS.f k a0 a1) (laws_eqRangeS.f (k + 1) a0 a1):=by
 intro a0 a1 k
 have ih0:=laws_eqRangeS.mono_l k
 unfold laws_eqRangeS.f
 repeat' first
   | (with_reducible exact ih0 _ _ _)
   | (with_reducible exact LeO.refl _)
   | (with_reducible exact LeO.none _)
   | (with_reducible refine LeO.ite ?_ ?_)
   | (with_reducible refine LeO.bind ?_ (fun _=>?_))
   | exact ih0 _ _ _
   | exact LeO.none _
   | refine LeO.ite ?_ ?_
   | refine LeO.bind ?_ (fun _=>?_)
def laws_eqRangeS.T6 : Bool × List (List Nat × List Nat):=(true,[([],[]),([],[]),([0,1],[0,1]),([2],[2]),([],[]),([],[]),([4,5],[4,5]),([6],[6]),([3,7],[3,7]),([8],[8])])
def laws_eqRangeS.B6 : List Nat:=[0,0,3,7,0,0,48,112,255,511]
theorem laws_eqRangeS.tab6 : rtab .any (opsOf Try.f28 6) = laws_eqRangeS.T6:=by kernel_rfl
theorem laws_eqRangeS.bits6 : waitsOk laws_eqRangeS.T6.2 laws_eqRangeS.B6 = true:=by kernel_rfl
set_option maxHeartbeats 8000000 in
set_option maxRecDepth 100000 in
theorem laws_eqRangeS.calls (k : Nat) (A0 : Option Addr) (c0 : Nat) (l0 : List (S95)) (A1 : Option Addr) (c1 : Nat) (l1 : List (S95)) (r : Bool) (w : World) (hr0 : Kd.C k95 w A0 l0.length l0) (hc0 : l0.length ≤ c0) (hr1 : Kd.C k95 w A1 l1.length l1) (hc1 : l1.length ≤ c1) (h : laws_eqRangeS.f k l0 l1 = some r) :
  Calls Try.prog 28 #[.slice A0 l0.length c0,.slice A1 l1.length c1] w fun e w'=>e = .returned (.bool r) ∧ Below w.heap.size w w':=by
 have hu95:=Try.underlying95
 have HR0:=a0_ hr0
 have HC0:=a0_ hc0
 clear hr0 hc0
 have HR1:=a0_ hr1
 have HC1:=a0_ hc1
 clear hr1 hc1
 have HB:=a0_ (Below.refl w.heap.size w)
 have H : (if (l0.length : Int) = (l1.length : Int) then (laws_eqRangeS.l0 k l0 l1 0) else (some false)) = some r:=h
 clear h
 by_cases c3 : (l0.length : Int) = (l1.length : Int)
 ·rw [if_pos c3] at H
  have c3b0 : ((l0.length : Int) == (l1.length : Int)) = true:=beq_iff_eq.mpr c3
  have c3b1 : ((l0.length : Int) != (l1.length : Int)) = false:=bne_eq_false_iff_eq.mpr c3
  have c3b2 : (l0.length == l1.length) = true:=by first | simpa using c3 | (simp at c3 ⊢;omega)
  clear c3
  have H':=a0_ H
  clear H
  go_enter Try.func28,Try.ntmps28
  go_wp2
  go_loopg [5] k (fun kq v5 w'=>∃ (x5_1 : Int),v5 = .int .i64 x5_1 ∧ Aside0 (laws_eqRangeS.l0 kq l0 l1 x5_1 = some r) ∧ Aside0 (kq ≤ k) ∧ Aside0 (Below w.heap.size w w'))
  case atStart=>exact ⟨(0),(by first | rfl | (simp;done) | (simp [*];done)),H',⟨Nat.le_refl _⟩,⟨hbw_⟩⟩
  case round =>
   clear H'
   try clear c1
   try clear c2
   try clear p2
   try clear c3
   try clear c3b0
   try clear c3b1
   try clear c3b2
   obtain ⟨x5_1,rfl,HA,HK1,HB⟩:=hrel
   cases gk with
   | zero=>exact absurd HA.out (by simp [laws_eqRangeS.l0])
   | succ k1 =>
    have H:=HA.out
    clear HA
    simp only [laws_eqRangeS.l0] at H
    by_cases c4 : x5_1 < (l0.length : Int)
    ·rw [if_pos c4] at H
     have c4b0 : decide (x5_1 < (l0.length : Int)) = true:=decide_eq_true c4
     clear c4
     by_cases c5 : 0 ≤ x5_1
     ·rw [if_pos c5] at H
      have c5b0 : decide (0 ≤ x5_1) = true:=decide_eq_true c5
      clear c5
      by_cases c6 : x5_1 < (l1.length : Int)
      ·rw [if_pos c6] at H
       have c6b0 : decide (x5_1 < (l1.length : Int)) = true:=decide_eq_true c6
       clear c6
       replace H:=Option.bind_eq_some_iff.mp H
       obtain ⟨t3,A70,H⟩:=H
       try dsimp only at H
       have A7:=a0_ A70
       clear A70
       by_cases c8 : t3 = true
       ·subst c8
        have H1 : (laws_eqRangeS.l0 k1 l0 l1 (wrap64 (x5_1 + 1))) = some r:=by rw [if_pos rfl] at H;exact H
        clear H
        have H:=H1
        clear H1
        have H':=a0_ H
        clear H
        try go_wp2
        have n0_:=a0_ (below_drew1 HB.out)
        clear HB
        have HB:=n0_
        clear n0_
        have p1 : 0 ≤ (x5_1 : Int):=of_decide_eq_true (by first | (with_reducible assumption) | assumption)
        have q1 : x5_1 < (l0.length : Int):=of_decide_eq_true (by first | (with_reducible assumption) | assumption)
        obtain ⟨ad1,e1,hx1_0,hx1_1,hx1_2,hx1_3⟩:=at_T95 HR0.out x5_1 p1 q1
        have hw1_3:=hx1_3
        have hw1_2:=hx1_2
        have hw1_1:=hx1_1
        have hw1_0:=hx1_0
        cases e1
        replace hx1_0:=(HB.out.cell (World.block_lt_of_cell? w _ hx1_0)).trans hx1_0
        replace hx1_1:=(HB.out.cell (World.block_lt_of_cell? w _ hx1_1)).trans hx1_1
        replace hx1_2:=(HB.out.cell (World.block_lt_of_cell? w _ hx1_2)).trans hx1_2
        replace hx1_3:=(HB.out.cell (World.block_lt_of_cell? w _ hx1_3)).trans hx1_3
        replace p1:=eq_true p1
        replace q1:=eq_true q1
        have p2 : 0 ≤ (x5_1 : Int):=of_decide_eq_true (by first | (with_reducible assumption) | assumption)
        have q2 : x5_1 < (l1.length : Int):=of_decide_eq_true (by first | (with_reducible assumption) | assumption)
        obtain ⟨ad2,e2,hx2_0,hx2_1,hx2_2,hx2_3⟩:=at_T95 HR1.out x5_1 p2 q2
        have hw2_3:=hx2_3
        have hw2_2:=hx2_2
        have hw2_1:=hx2_1
        have hw2_0:=hx2_0
        cases e2
        replace hx2_0:=(HB.out.cell (World.block_lt_of_cell? w _ hx2_0)).trans hx2_0
        replace hx2_1:=(HB.out.cell (World.block_lt_of_cell? w _ hx2_1)).trans hx2_1
        replace hx2_2:=(HB.out.cell (World.block_lt_of_cell? w _ hx2_2)).trans hx2_2
        replace hx2_3:=(HB.out.cell (World.block_lt_of_cell? w _ hx2_3)).trans hx2_3
        replace p2:=eq_true p2
        replace q2:=eq_true q2
        refine start_ (n:=10) (S:=fun w'=>w'.cell? (ad1.add ((x5_1).toNat * 4)) = some (.int .i64 ((rd_T95 l0 x5_1).f0)) ∧ w'.cell? ⟨(ad1.add ((x5_1).toNat * 4)).block,(ad1.add ((x5_1).toNat * 4)).off + 1,none⟩ = some (.int .i64 ((rd_T95 l0 x5_1).f1)) ∧ w'.cell? ⟨(ad1.add ((x5_1).toNat * 4)).block,(ad1.add ((x5_1).toNat * 4)).off + 2,none⟩ = some (.int .i64 ((rd_T95 l0 x5_1).f2)) ∧ w'.cell? ⟨(ad1.add ((x5_1).toNat * 4)).block,(ad1.add ((x5_1).toNat * 4)).off + 3,none⟩ = some (.int .i64 ((rd_T95 l0 x5_1).f3)) ∧ w'.cell? (ad2.add ((x5_1).toNat * 4)) = some (.int .i64 ((rd_T95 l1 x5_1).f0)) ∧ w'.cell? ⟨(ad2.add ((x5_1).toNat * 4)).block,(ad2.add ((x5_1).toNat * 4)).off + 1,none⟩ = some (.int .i64 ((rd_T95 l1 x5_1).f1)) ∧ w'.cell? ⟨(ad2.add ((x5_1).toNat * 4)).block,(ad2.add ((x5_1).toNat * 4)).off + 2,none⟩ = some (.int .i64 ((rd_T95 l1 x5_1).f2)) ∧ w'.cell? ⟨(ad2.add ((x5_1).toNat * 4)).block,(ad2.add ((x5_1).toNat * 4)).off + 3,none⟩ = some (.int .i64 ((rd_T95 l1 x5_1).f3))) (ds:=[]) #[false,false,false,false,false,false,false,false,false,false] (by kernel_rfl) rfl rfl ⟨((HB.out.cell (World.block_lt_of_cell? w _ hw1_0)).trans hw1_0),((HB.out.cell (World.block_lt_of_cell? w _ hw1_1)).trans hw1_1),((HB.out.cell (World.block_lt_of_cell? w _ hw1_2)).trans hw1_2),((HB.out.cell (World.block_lt_of_cell? w _ hw1_3)).trans hw1_3),((HB.out.cell (World.block_lt_of_cell? w _ hw2_0)).trans hw2_0),((HB.out.cell (World.block_lt_of_cell? w _ hw2_1)).trans hw2_1),((HB.out.cell (World.block_lt_of_cell? w _ hw2_2)).trans hw2_2),((HB.out.cell (World.block_lt_of_cell? w _ hw2_3)).trans hw2_3)⟩ (fun hHeld=>?_);refine with_tabW laws_eqRangeS.tab6 laws_eqRangeS.bits6 (fun HT_ HW_=>?_)
        generalize wr.drew = w9 at HB hx1_0 hx1_1 hx1_2 hx1_3 hx2_0 hx2_1 hx2_2 hx2_3 hHeld ⊢
        refine pure_ (i:=0) (N:=some 17) (v:=?_) (a':=?_) #[true,false,false,false,false,false,false,false,false,false] rfl rfl (any_of HT_.out (by kernel_rfl)) (fun _ _ _ h=>h) (Or.inl ⟨by rfl,?_⟩) ?_ ?_
        rotate_left
        ·intro w'
         go_simp
         with_reducible rfl
        rotate_left
        ·simp only [Act.put,s1_,s2_,s3_,i64_w,i32_w]
         rfl
        refine pure_ (i:=1) (N:=some 18) (v:=?_) (a':=?_) #[true,true,false,false,false,false,false,false,false,false] rfl rfl (any_of HT_.out (by kernel_rfl)) (fun _ _ _ h=>h) (Or.inl ⟨by rfl,?_⟩) ?_ ?_
        rotate_left
        ·intro w'
         go_simp
         with_reducible rfl
        rotate_left
        ·simp only [Act.put,s1_,s2_,s3_,i64_w,i32_w]
         rfl
        refine pure_ (i:=2) (N:=some 19) (v:=?_) (a':=?_) #[true,true,true,false,false,false,false,false,false,false] rfl rfl (any_of HT_.out (by kernel_rfl)) (fun _ _ _ h=>h) (Or.inl ⟨by rfl,?_⟩) ?_ ?_
        rotate_left
        ·intro w'
         go_simp
         with_reducible rfl
        rotate_left
        ·simp only [Act.put,s1_,s2_,s3_,i64_w,i32_w]
         rfl
        refine pure_ (i:=4) (N:=some 21) (v:=?_) (a':=?_) #[true,true,true,false,true,false,false,false,false,false] rfl rfl (any_of HT_.out (by kernel_rfl)) (fun _ _ _ h=>h) (Or.inl ⟨by rfl,?_⟩) ?_ ?_
        rotate_left
        ·intro w'
         go_simp
         with_reducible rfl
        rotate_left
        ·simp only [Act.put,s1_,s2_,s3_,i64_w,i32_w]
         rfl
        refine pure_ (i:=5) (N:=some 22) (v:=?_) (a':=?_) #[true,true,true,false,true,true,false,false,false,false] rfl rfl (any_of HT_.out (by kernel_rfl)) (fun _ _ _ h=>h) (Or.inl ⟨by rfl,?_⟩) ?_ ?_
        rotate_left
        ·intro w'
         go_simp
         with_reducible rfl
        rotate_left
        ·simp only [Act.put,s1_,s2_,s3_,i64_w,i32_w]
         rfl
        refine pure_ (i:=6) (N:=some 23) (v:=?_) (a':=?_) #[true,true,true,false,true,true,true,false,false,false] rfl rfl (any_of HT_.out (by kernel_rfl)) (fun _ _ _ h=>h) (Or.inl ⟨by rfl,?_⟩) ?_ ?_
        rotate_left
        ·intro w'
         go_simp
         with_reducible rfl
        rotate_left
        ·simp only [Act.put,s1_,s2_,s3_,i64_w,i32_w]
         rfl
        refine take_ (i:=3) (N:=some 20) (v:=?_) (a':=?_) #[true,true,true,true,true,true,true,false,false,false] rfl rfl (take_ofW HT_.out HW_.out (by kernel_rfl)) (fun _ _ _ h=>h) (Or.inl ⟨by rfl,?_⟩) hHeld ?_ ?_
        rotate_left
        ·rintro w' ⟨s0,s1,s2,s3,s4,s5,s6,s7⟩
         go_simp
         with_reducible rfl
        rotate_left
        ·simp only [Act.put,s1_,s2_,s3_,i64_w,i32_w]
         rfl
        refine take_ (i:=7) (N:=some 24) (v:=?_) (a':=?_) #[true,true,true,true,true,true,true,true,false,false] rfl rfl (take_ofW HT_.out HW_.out (by kernel_rfl)) (fun _ _ _ h=>h) (Or.inl ⟨by rfl,?_⟩) hHeld ?_ ?_
        rotate_left
        ·rintro w' ⟨s0,s1,s2,s3,s4,s5,s6,s7⟩
         go_simp
         with_reducible rfl
        rotate_left
        ·simp only [Act.put,s1_,s2_,s3_,i64_w,i32_w]
         rfl
        refine one_ (i:=8) (N:=some 25) #[true,true,true,true,true,true,true,true,true,false] rfl rfl (one_of HT_.out (by kernel_rfl)) (by decide) (fun K hK=>?_)
        refine goes_ Try.func77 (by kernel_rfl) rfl #[.agg #[.int .i64 ((rd_T95 l0 x5_1).f0),.int .i64 ((rd_T95 l0 x5_1).f1),.int .i64 ((rd_T95 l0 x5_1).f2),.int .i64 ((rd_T95 l0 x5_1).f3)],.agg #[.int .i64 ((rd_T95 l1 x5_1).f0),.int .i64 ((rd_T95 l1 x5_1).f1),.int .i64 ((rd_T95 l1 x5_1).f2),.int .i64 ((rd_T95 l1 x5_1).f3)]] (by rfl) rfl rfl lm_ ?_
        with_reducible refine (laws_eqRange.calls ((rd_T95 l0 x5_1).f0) ((rd_T95 l0 x5_1).f1) ((rd_T95 l0 x5_1).f2) ((rd_T95 l0 x5_1).f3) ((rd_T95 l1 x5_1).f0) ((rd_T95 l1 x5_1).f1) ((rd_T95 l1 x5_1).f2) ((rd_T95 l1 x5_1).f3) true _ A7.out).mono ?_
        rintro e w10 ⟨rfl,hb⟩
        refine ⟨_,rfl,?_⟩
        have n0_:=a0_ (below_step hbw_ hb)
        clear HB
        have HB:=n0_
        clear n0_
        (try clear hb)
        (try clear hb2)
        (try clear hk)
        (try clear hi)
        refine hK.out _ _ ⟨((HB.out.cell (World.block_lt_of_cell? w _ hw1_0)).trans hw1_0),((HB.out.cell (World.block_lt_of_cell? w _ hw1_1)).trans hw1_1),((HB.out.cell (World.block_lt_of_cell? w _ hw1_2)).trans hw1_2),((HB.out.cell (World.block_lt_of_cell? w _ hw1_3)).trans hw1_3),((HB.out.cell (World.block_lt_of_cell? w _ hw2_0)).trans hw2_0),((HB.out.cell (World.block_lt_of_cell? w _ hw2_1)).trans hw2_1),((HB.out.cell (World.block_lt_of_cell? w _ hw2_2)).trans hw2_2),((HB.out.cell (World.block_lt_of_cell? w _ hw2_3)).trans hw2_3)⟩ (fun hHeld=>?_)
        clear hK K
        refine norm_ (a':=?_) ?_ ?_
        rotate_left
        ·show Act.put _ (some 25) _ = _
         simp only [Act.put,s1_,s2_,s3_,i64_w,i32_w]
         rfl
        refine pure_ (i:=9) (N:=some 26) (v:=?_) (a':=?_) #[true,true,true,true,true,true,true,true,true,true] rfl rfl (any_of HT_.out (by kernel_rfl)) (fun _ _ _ h=>h) (Or.inl ⟨by rfl,?_⟩) ?_ ?_
        rotate_left
        ·intro w'
         go_simp
         with_reducible rfl
        rotate_left
        ·simp only [Act.put,s1_,s2_,s3_,i64_w,i32_w]
         rfl
        refine done_ (done_of HT_.out (by kernel_rfl)) ?_
        try go_wp2
        go_roundg k1
        case measure=>have:=HK1.out;omega
        case rel=>exact ⟨(wrap64 (x5_1 + 1)),(by first | rfl | (simp;done) | (simp [*];done)),H',⟨by have:=HK1.out;omega⟩,⟨hbw_⟩⟩
       ·replace c8:=Bool.eq_false_iff.mpr c8
        subst c8
        have H1 : (some false) = some r:=by rw [if_neg (show ¬ (false = true) by decide)] at H;exact H
        clear H
        have H:=H1
        clear H1
        obtain rfl:=Option.some.inj H
        try go_wp2
        have n0_:=a0_ (below_drew1 HB.out)
        clear HB
        have HB:=n0_
        clear n0_
        have p1 : 0 ≤ (x5_1 : Int):=of_decide_eq_true (by first | (with_reducible assumption) | assumption)
        have q1 : x5_1 < (l0.length : Int):=of_decide_eq_true (by first | (with_reducible assumption) | assumption)
        obtain ⟨ad1,e1,hx1_0,hx1_1,hx1_2,hx1_3⟩:=at_T95 HR0.out x5_1 p1 q1
        have hw1_3:=hx1_3
        have hw1_2:=hx1_2
        have hw1_1:=hx1_1
        have hw1_0:=hx1_0
        cases e1
        replace hx1_0:=(HB.out.cell (World.block_lt_of_cell? w _ hx1_0)).trans hx1_0
        replace hx1_1:=(HB.out.cell (World.block_lt_of_cell? w _ hx1_1)).trans hx1_1
        replace hx1_2:=(HB.out.cell (World.block_lt_of_cell? w _ hx1_2)).trans hx1_2
        replace hx1_3:=(HB.out.cell (World.block_lt_of_cell? w _ hx1_3)).trans hx1_3
        replace p1:=eq_true p1
        replace q1:=eq_true q1
        have p2 : 0 ≤ (x5_1 : Int):=of_decide_eq_true (by first | (with_reducible assumption) | assumption)
        have q2 : x5_1 < (l1.length : Int):=of_decide_eq_true (by first | (with_reducible assumption) | assumption)
        obtain ⟨ad2,e2,hx2_0,hx2_1,hx2_2,hx2_3⟩:=at_T95 HR1.out x5_1 p2 q2
        have hw2_3:=hx2_3
        have hw2_2:=hx2_2
        have hw2_1:=hx2_1
        have hw2_0:=hx2_0
        cases e2
        replace hx2_0:=(HB.out.cell (World.block_lt_of_cell? w _ hx2_0)).trans hx2_0
        replace hx2_1:=(HB.out.cell (World.block_lt_of_cell? w _ hx2_1)).trans hx2_1
        replace hx2_2:=(HB.out.cell (World.block_lt_of_cell? w _ hx2_2)).trans hx2_2
        replace hx2_3:=(HB.out.cell (World.block_lt_of_cell? w _ hx2_3)).trans hx2_3
        replace p2:=eq_true p2
        replace q2:=eq_true q2
        refine start_ (n:=10) (S:=fun w'=>w'.cell? (ad1.add ((x5_1).toNat * 4)) = some (.int .i64 ((rd_T95 l0 x5_1).f0)) ∧ w'.cell? ⟨(ad1.add ((x5_1).toNat * 4)).block,(ad1.add ((x5_1).toNat * 4)).off + 1,none⟩ = some (.int .i64 ((rd_T95 l0 x5_1).f1)) ∧ w'.cell? ⟨(ad1.add ((x5_1).toNat * 4)).block,(ad1.add ((x5_1).toNat * 4)).off + 2,none⟩ = some (.int .i64 ((rd_T95 l0 x5_1).f2)) ∧ w'.cell? ⟨(ad1.add ((x5_1).toNat * 4)).block,(ad1.add ((x5_1).toNat * 4)).off + 3,none⟩ = some (.int .i64 ((rd_T95 l0 x5_1).f3)) ∧ w'.cell? (ad2.add ((x5_1).toNat * 4)) = some (.int .i64 ((rd_T95 l1 x5_1).f0)) ∧ w'.cell? ⟨(ad2.add ((x5_1).toNat * 4)).block,(ad2.add ((x5_1).toNat * 4)).off + 1,none⟩ = some (.int .i64 ((rd_T95 l1 x5_1).f1)) ∧ w'.cell? ⟨(ad2.add ((x5_1).toNat * 4)).block,(ad2.add ((x5_1).toNat * 4)).off + 2,none⟩ = some (.int .i64 ((rd_T95 l1 x5_1).f2)) ∧ w'.cell? ⟨(ad2.add ((x5_1).toNat * 4)).block,(ad2.add ((x5_1).toNat * 4)).off + 3,none⟩ = some (.int .i64 ((rd_T95 l1 x5_1).f3))) (ds:=[]) #[false,false,false,false,false,false,false,false,false,false] (by kernel_rfl) rfl rfl ⟨((HB.out.cell (World.block_lt_of_cell? w _ hw1_0)).trans hw1_0),((HB.out.cell (World.block_lt_of_cell? w _ hw1_1)).trans hw1_1),((HB.out.cell (World.block_lt_of_cell? w _ hw1_2)).trans hw1_2),((HB.out.cell (World.block_lt_of_cell? w _ hw1_3)).trans hw1_3),((HB.out.cell (World.block_lt_of_cell? w _ hw2_0)).trans hw2_0),((HB.out.cell (World.block_lt_of_cell? w _ hw2_1)).trans hw2_1),((HB.out.cell (World.block_lt_of_cell? w _ hw2_2)).trans hw2_2),((HB.out.cell (World.block_lt_of_cell? w _ hw2_3)).trans hw2_3)⟩ (fun hHeld=>?_);refine with_tabW laws_eqRangeS.tab6 laws_eqRangeS.bits6 (fun HT_ HW_=>?_)
        generalize wr.drew = w11 at HB hx1_0 hx1_1 hx1_2 hx1_3 hx2_0 hx2_1 hx2_2 hx2_3 hHeld ⊢
        refine pure_ (i:=0) (N:=some 17) (v:=?_) (a':=?_) #[true,false,false,false,false,false,false,false,false,false] rfl rfl (any_of HT_.out (by kernel_rfl)) (fun _ _ _ h=>h) (Or.inl ⟨by rfl,?_⟩) ?_ ?_
        rotate_left
        ·intro w'
         go_simp
         with_reducible rfl
        rotate_left
        ·simp only [Act.put,s1_,s2_,s3_,i64_w,i32_w]
         rfl
        refine pure_ (i:=1) (N:=some 18) (v:=?_) (a':=?_) #[true,true,false,false,false,false,false,false,false,false] rfl rfl (any_of HT_.out (by kernel_rfl)) (fun _ _ _ h=>h) (Or.inl ⟨by rfl,?_⟩) ?_ ?_
        rotate_left
        ·intro w'
         go_simp
         with_reducible rfl
        rotate_left
        ·simp only [Act.put,s1_,s2_,s3_,i64_w,i32_w]
         rfl
        refine pure_ (i:=2) (N:=some 19) (v:=?_) (a':=?_) #[true,true,true,false,false,false,false,false,false,false] rfl rfl (any_of HT_.out (by kernel_rfl)) (fun _ _ _ h=>h) (Or.inl ⟨by rfl,?_⟩) ?_ ?_
        rotate_left
        ·intro w'
         go_simp
         with_reducible rfl
        rotate_left
        ·simp only [Act.put,s1_,s2_,s3_,i64_w,i32_w]
         rfl
        refine pure_ (i:=4) (N:=some 21) (v:=?_) (a':=?_) #[true,true,true,false,true,false,false,false,false,false] rfl rfl (any_of HT_.out (by kernel_rfl)) (fun _ _ _ h=>h) (Or.inl ⟨by rfl,?_⟩) ?_ ?_
        rotate_left
        ·intro w'
         go_simp
         with_reducible rfl
        rotate_left
        ·simp only [Act.put,s1_,s2_,s3_,i64_w,i32_w]
         rfl
        refine pure_ (i:=5) (N:=some 22) (v:=?_) (a':=?_) #[true,true,true,false,true,true,false,false,false,false] rfl rfl (any_of HT_.out (by kernel_rfl)) (fun _ _ _ h=>h) (Or.inl ⟨by rfl,?_⟩) ?_ ?_
        rotate_left
        ·intro w'
         go_simp
         with_reducible rfl
        rotate_left
        ·simp only [Act.put,s1_,s2_,s3_,i64_w,i32_w]
         rfl
        refine pure_ (i:=6) (N:=some 23) (v:=?_) (a':=?_) #[true,true,true,false,true,true,true,false,false,false] rfl rfl (any_of HT_.out (by kernel_rfl)) (fun _ _ _ h=>h) (Or.inl ⟨by rfl,?_⟩) ?_ ?_
        rotate_left
        ·intro w'
         go_simp
         with_reducible rfl
        rotate_left
        ·simp only [Act.put,s1_,s2_,s3_,i64_w,i32_w]
         rfl
        refine take_ (i:=3) (N:=some 20) (v:=?_) (a':=?_) #[true,true,true,true,true,true,true,false,false,false] rfl rfl (take_ofW HT_.out HW_.out (by kernel_rfl)) (fun _ _ _ h=>h) (Or.inl ⟨by rfl,?_⟩) hHeld ?_ ?_
        rotate_left
        ·rintro w' ⟨s0,s1,s2,s3,s4,s5,s6,s7⟩
         go_simp
         with_reducible rfl
        rotate_left
        ·simp only [Act.put,s1_,s2_,s3_,i64_w,i32_w]
         rfl
        refine take_ (i:=7) (N:=some 24) (v:=?_) (a':=?_) #[true,true,true,true,true,true,true,true,false,false] rfl rfl (take_ofW HT_.out HW_.out (by kernel_rfl)) (fun _ _ _ h=>h) (Or.inl ⟨by rfl,?_⟩) hHeld ?_ ?_
        rotate_left
        ·rintro w' ⟨s0,s1,s2,s3,s4,s5,s6,s7⟩
         go_simp
         with_reducible rfl
        rotate_left
        ·simp only [Act.put,s1_,s2_,s3_,i64_w,i32_w]
         rfl
        refine one_ (i:=8) (N:=some 25) #[true,true,true,true,true,true,true,true,true,false] rfl rfl (one_of HT_.out (by kernel_rfl)) (by decide) (fun K hK=>?_)
        refine goes_ Try.func77 (by kernel_rfl) rfl #[.agg #[.int .i64 ((rd_T95 l0 x5_1).f0),.int .i64 ((rd_T95 l0 x5_1).f1),.int .i64 ((rd_T95 l0 x5_1).f2),.int .i64 ((rd_T95 l0 x5_1).f3)],.agg #[.int .i64 ((rd_T95 l1 x5_1).f0),.int .i64 ((rd_T95 l1 x5_1).f1),.int .i64 ((rd_T95 l1 x5_1).f2),.int .i64 ((rd_T95 l1 x5_1).f3)]] (by rfl) rfl rfl lm_ ?_
        with_reducible refine (laws_eqRange.calls ((rd_T95 l0 x5_1).f0) ((rd_T95 l0 x5_1).f1) ((rd_T95 l0 x5_1).f2) ((rd_T95 l0 x5_1).f3) ((rd_T95 l1 x5_1).f0) ((rd_T95 l1 x5_1).f1) ((rd_T95 l1 x5_1).f2) ((rd_T95 l1 x5_1).f3) false _ A7.out).mono ?_
        rintro e w12 ⟨rfl,hb⟩
        refine ⟨_,rfl,?_⟩
        have n0_:=a0_ (below_step hbw_ hb)
        clear HB
        have HB:=n0_
        clear n0_
        (try clear hb)
        (try clear hb2)
        (try clear hk)
        (try clear hi)
        refine hK.out _ _ ⟨((HB.out.cell (World.block_lt_of_cell? w _ hw1_0)).trans hw1_0),((HB.out.cell (World.block_lt_of_cell? w _ hw1_1)).trans hw1_1),((HB.out.cell (World.block_lt_of_cell? w _ hw1_2)).trans hw1_2),((HB.out.cell (World.block_lt_of_cell? w _ hw1_3)).trans hw1_3),((HB.out.cell (World.block_lt_of_cell? w _ hw2_0)).trans hw2_0),((HB.out.cell (World.block_lt_of_cell? w _ hw2_1)).trans hw2_1),((HB.out.cell (World.block_lt_of_cell? w _ hw2_2)).trans hw2_2),((HB.out.cell (World.block_lt_of_cell? w _ hw2_3)).trans hw2_3)⟩ (fun hHeld=>?_)
        clear hK K
        refine norm_ (a':=?_) ?_ ?_
        rotate_left
        ·show Act.put _ (some 25) _ = _
         simp only [Act.put,s1_,s2_,s3_,i64_w,i32_w]
         rfl
        refine pure_ (i:=9) (N:=some 26) (v:=?_) (a':=?_) #[true,true,true,true,true,true,true,true,true,true] rfl rfl (any_of HT_.out (by kernel_rfl)) (fun _ _ _ h=>h) (Or.inl ⟨by rfl,?_⟩) ?_ ?_
        rotate_left
        ·intro w'
         go_simp
         with_reducible rfl
        rotate_left
        ·simp only [Act.put,s1_,s2_,s3_,i64_w,i32_w]
         rfl
        refine done_ (done_of HT_.out (by kernel_rfl)) ?_
        try go_wp2
        go_ret
        exact ⟨by first | rfl | (simp [errW_none,errW_some] <;> rfl) | (simp [*,errW_none,errW_some] <;> rfl),hbw_⟩
      ·rw [if_neg c6] at H
       exact absurd H (by simp)
     ·rw [if_neg c5] at H
      exact absurd H (by simp)
    ·rw [if_neg c4] at H
     have c4b0 : decide (x5_1 < (l0.length : Int)) = false:=decide_eq_false c4
     clear c4
     obtain rfl:=Option.some.inj H
     go_wp2
     go_ret
     exact ⟨by first | rfl | (simp [errW_none,errW_some] <;> rfl) | (simp [*,errW_none,errW_some] <;> rfl),hbw_⟩
 ·rw [if_neg c3] at H
  have c3b0 : ((l0.length : Int) == (l1.length : Int)) = false:=beq_eq_false_iff_ne.mpr c3
  have c3b1 : ((l0.length : Int) != (l1.length : Int)) = true:=bne_iff_ne.mpr c3
  have c3b2 : (l0.length == l1.length) = false:=by first | simpa using c3 | (simp at c3 ⊢;omega)
  obtain rfl:=Option.some.inj H
  go_enter Try.func28,Try.ntmps28
  go_wp2
  go_ret
  exact ⟨by first | rfl | (simp [errW_none,errW_some] <;> rfl) | (simp [*,errW_none,errW_some] <;> rfl),hbw_⟩
theorem laws_eqRangeS_ev (l : List S95) (hl : l.length ≤ 9223372036854775807) : Ev (fun k=>laws_eqRangeS.f k l l) true:=by
 have h:=st_loop (fun k (_ : Unit) i=>laws_eqRangeS.l0 k l l i) l.length (fun _=>()) true (by
  intro k i hi
  have he : ∀ x : S95,laws_eqRange.f x.f0 x.f1 x.f2 x.f3 x.f0 x.f1 x.f2 x.f3 = some true:=by
   intro x
   simp [laws_eqRange.f]
  simp only [laws_eqRangeS.l0,he,Option.bind_some]
  rw [if_pos (by omega),if_pos (by omega),if_pos (by omega),if_pos trivial,wrap_succ (i:=(i : Int)) (n:=l.length) (by omega) (by omega) (by omega)]
  rfl) (by
  intro k
  simp only [laws_eqRangeS.l0]
  rw [if_neg (by omega)])
 refine Ev.of_mono (laws_eqRangeS.mono l l) (K:=l.length + 1) ?_
 unfold laws_eqRangeS.f
 rw [if_pos rfl]
 exact h
end Go.Proofs.Ytacgehaipacehaa.P
