/- Texts under the proof of FnExactSimplifyGroup: helper words, the functions' contracts and the plain laws. No condition. -/
import Derived.Test.YtbglafibhopleaaQFnExactSimplifyGroupa
namespace Go.Proofs.Ytbglafibhopleaa.P
open Go.RowKit Go.Proofs.YtbglafibhopleaaW.PrintWords Go.Proofs.YtbglafibhopleaaW.PrintLast Go.Proofs.YtbglafibhopleaaW.PrintMore
attribute [local go_sem] max2_int min2_int max_two min_two max_three min_three max_four min_four
set_option linter.unusedVariables false
set_option linter.unusedSimpArgs false
def laws_toClass.f (a0_0 : ByteArray) (a0_1 : Int) : Option (ByteArray × Int):=some (a0_0,a0_1)
set_option maxHeartbeats 8000000 in
set_option maxRecDepth 100000 in
theorem laws_toClass.calls (a0_0 : ByteArray) (a0_1 : Int) (r1 : ByteArray) (r2 : Int) (w : World) (h : laws_toClass.f a0_0 a0_1 = some (r1,r2)) :
  Calls Try.prog 48 #[.agg #[.string a0_0,.int .i64 a0_1]] w fun e w'=>e = .returned (.agg #[.string r1,.int .i64 r2]) ∧ Below w.heap.size w w':=by
 have hu67:=Try.underlying67
 have hu72:=Try.underlying72
 have HB:=a0_ (Below.refl w.heap.size w)
 have H : (some (a0_0,a0_1)) = some (r1,r2):=h
 clear h
 simp only [Option.some.injEq,Prod.mk.injEq] at H
 obtain ⟨rfl,rfl⟩:=H
 go_enter Try.func48,Try.ntmps48
 go_wp2_with (first | ((with_reducible refine gate_dst (N:=1) rfl ?_);refine box_event ?hg (N:=1) ?hd (cs:=#[.string a0_0,.int .i64 a0_1]) (t:=67) ?hr ?_;(case hd=>rfl);(case hg=>rfl);(case hr=>first | (go_simp;done) | (go_simp;rfl));intro gb1 hg w2 hbox hb;have BK1:=a0_ (hbox);have GW1:=a0_ ((by rw [hg];exact (below_size hb_) : w.heap.size ≤ gb1));have GE1:=a0_ ((by rw [hg];exact (below_size hb_) : w.heap.size ≤ gb1));replace HB:=a0_ (below_step hb_ hb);clear hb hbox hg) | ((with_reducible refine gate_dst (N:=2) rfl ?_);refine box_event ?hg (N:=2) ?hd (cs:=#[.string (⟨#[]⟩ : ByteArray),.int .i64 0]) (t:=72) ?hr ?_;(case hd=>rfl);(case hg=>rfl);(case hr=>first | (go_simp;done) | (go_simp;rfl));intro gb2 hg w3 hbox hb;have n0_:=kb_ BK1 hb;have n1_:=a0_ (below_step hb_ hb);have n2_:=a0_ (hbox);have n3_:=a0_ ((by rw [hg];exact (below_size hb_) : w.heap.size ≤ gb2));have n4_:=a0_ ((by rw [hg];exact (below_size hb_) : w.heap.size ≤ gb2));have n5_:=a0_ ((by rw [hg];exact Nat.ne_of_lt (blk_lt (bb_ BK1.out)) : gb1 ≠ gb2));have n6_:=a0_ ((by rw [hg];exact Nat.ne_of_gt (blk_lt (bb_ BK1.out)) : gb2 ≠ gb1));clear BK1 HB;have BK1:=n0_;have HB:=n1_;have BK2:=n2_;have GW2:=n3_;have GE2:=n4_;have NB1_2:=n5_;have NB2_1:=n6_;clear n0_ n1_ n2_ n3_ n4_ n5_ n6_;clear hb hbox hg) | ((with_reducible refine gate_dst (N:=3) rfl ?_);refine box_event ?hg (N:=3) ?hd (cs:=#[.string (⟨#[]⟩ : ByteArray),.int .i64 0]) (t:=72) ?hr ?_;(case hd=>rfl);(case hg=>rfl);(case hr=>first | (go_simp;done) | (go_simp;rfl));intro gb3 hg w4 hbox hb;have n0_:=kb_ BK1 hb;have n1_:=kb_ BK2 hb;have n2_:=a0_ (below_step hb_ hb);have n3_:=a0_ (hbox);have n4_:=a0_ ((by rw [hg];exact (below_size hb_) : w.heap.size ≤ gb3));have n5_:=a0_ ((by rw [hg];exact (below_size hb_) : w.heap.size ≤ gb3));have n6_:=a0_ ((by rw [hg];exact Nat.ne_of_lt (blk_lt (bb_ BK1.out)) : gb1 ≠ gb3));have n7_:=a0_ ((by rw [hg];exact Nat.ne_of_gt (blk_lt (bb_ BK1.out)) : gb3 ≠ gb1));have n8_:=a0_ ((by rw [hg];exact Nat.ne_of_lt (blk_lt (bb_ BK2.out)) : gb2 ≠ gb3));have n9_:=a0_ ((by rw [hg];exact Nat.ne_of_gt (blk_lt (bb_ BK2.out)) : gb3 ≠ gb2));clear BK1 BK2 HB;have BK1:=n0_;have BK2:=n1_;have HB:=n2_;have BK3:=n3_;have GW3:=n4_;have GE3:=n5_;have NB1_3:=n6_;have NB3_1:=n7_;have NB2_3:=n8_;have NB3_2:=n9_;clear n0_ n1_ n2_ n3_ n4_ n5_ n6_ n7_ n8_ n9_;clear hb hbox hg;have hnb5:=NB1_2.out;have hnc5:=NB2_1.out;have hnb6:=NB1_3.out;have hnc6:=NB3_1.out;have hcz7_0 : w4.cell? ⟨gb1,0,none⟩ = some (.string a0_0):=(blk_cell BK1.out 0).trans rfl;have hcz7_1 : w4.cell? ⟨gb1,1,none⟩ = some (.int .i64 a0_1):=(blk_cell BK1.out 1).trans rfl;have hfz7_0:=blk_frozen BK1.out 0;have hfz7_1:=blk_frozen BK1.out 1;have hnb8:=NB3_2.out;have hnc8:=NB2_3.out;have hcz9_0 : w4.cell? ⟨gb3,0,none⟩ = some (.string (⟨#[]⟩ : ByteArray)):=(blk_cell BK3.out 0).trans rfl;have hcz9_1 : w4.cell? ⟨gb3,1,none⟩ = some (.int .i64 0):=(blk_cell BK3.out 1).trans rfl;have hfz9_0:=blk_frozen BK3.out 0;have hfz9_1:=blk_frozen BK3.out 1;have hcz10_0 : w4.cell? ⟨gb2,0,none⟩ = some (.string (⟨#[]⟩ : ByteArray)):=(blk_cell BK2.out 0).trans rfl;have hcz10_1 : w4.cell? ⟨gb2,1,none⟩ = some (.int .i64 0):=(blk_cell BK2.out 1).trans rfl;have hfz10_0:=blk_frozen BK2.out 0;have hfz10_1:=blk_frozen BK2.out 1))
 refine bodyPost_ret (results_cell_row rfl _ _ gb2 72 #[.string a0_0,.int .i64 a0_1] (0,0) _ rfl (by (with_reducible repeat (first | refine blk_drewN ?_ _ | refine blk_drew ?_ | refine blk_alloc ?_ _));refine blk_put (cs:=#[.string a0_0,.int .i64 0]) ?_ 1 _ rfl;(with_reducible repeat (first | refine blk_drewN ?_ _ | refine blk_drew ?_ | refine blk_alloc ?_ _));refine blk_put (cs:=#[.string (⟨#[]⟩ : ByteArray),.int .i64 0]) ?_ 0 _ rfl;(with_reducible repeat (first | refine blk_drewN ?_ _ | refine blk_drew ?_ | refine blk_alloc ?_ _));refine blk_far ?_ NB2_3.out _;(with_reducible repeat (first | refine blk_drewN ?_ _ | refine blk_drew ?_ | refine blk_alloc ?_ _));refine blk_far ?_ NB2_3.out _;(with_reducible repeat (first | refine blk_drewN ?_ _ | refine blk_drew ?_ | refine blk_alloc ?_ _));exact BK2.out) Try.underlying72 rfl (by kernel_rfl)) rfl ?_
 exact ⟨by first | rfl | (simp [errW_none,errW_some] <;> rfl) | (simp [*,errW_none,errW_some] <;> rfl),hb_⟩
end Go.Proofs.Ytbglafibhopleaa.P
namespace Go.Proofs.Ytbglafibhopleaa.P
open Go.RowKit Go.Proofs.YtbglafibhopleaaW.PrintWords Go.Proofs.YtbglafibhopleaaW.PrintLast Go.Proofs.YtbglafibhopleaaW.PrintMore
attribute [local go_sem] max2_int min2_int max_two min_two max_three min_three max_four min_four
set_option linter.unusedVariables false
set_option linter.unusedSimpArgs false
def laws_toClassS.l0 : Nat → List (S67) → List (S72) → Int → Option ((List (S72)))
 | 0,_,_,_=>none
 | k + 1,x0,x3,x4=>if x4 < (x0.length : Int) then (if 0 ≤ x4 then ((laws_toClass.f ((rd_T67 x0 x4).f0) ((rd_T67 x0 x4).f1)).bind fun bt5=>(if x4 < (x3.length : Int) then (laws_toClassS.l0 k x0 (x3.set (x4 : Int).toNat (⟨bt5.1,bt5.2⟩ : S72)) (wrap64 (x4 + 1))) else (none))) else (none)) else (some x3)
def laws_toClassS.f (k : Nat) (l0 : List (S67)) : Option ((List (S72))):=if 0 ≤ (l0.length : Int) then (if ((l0.length : Int) : Int).toNat ≤ 11728124029610 then (laws_toClassS.l0 k l0 (List.replicate ((l0.length : Int) : Int).toNat z72) 0) else (none)) else (none)
theorem laws_toClassS.mono_l : ∀ k,(∀ y0 y1 y2,LeO (laws_toClassS.l0 k y0 y1 y2) (laws_toClassS.l0 (k + 1) y0 y1 y2))
 | 0=>fun _ _ _ r h=>by simp [laws_toClassS.l0] at h
 | k + 1=>by
  have ih0:=laws_toClassS.mono_l k
  ·intro y0 y1 y2
   unfold laws_toClassS.l0
   repeat' first
   | (with_reducible exact ih0 _ _ _)
   | (with_reducible exact LeO.refl _)
   | (with_reducible exact LeO.none _)
   | (with_reducible refine LeO.ite ?_ ?_)
   | (with_reducible refine LeO.bind ?_ (fun _=>?_))
   | exact ih0 _ _ _
   | exact LeO.none _
   | refine LeO.ite ?_ ?_
   | refine LeO.bind ?_ (fun _=>?_)
theorem laws_toClassS.mono : ∀ a0 k,LeO (laws_toClassS.f k a0) (laws_toClassS.f (k + 1) a0):=by
 intro a0 k
 have ih0:=laws_toClassS.mono_l k
 unfold laws_toClassS.f
 repeat' first
   | (with_reducible exact ih0 _ _ _)
   | (with_reducible exact LeO.refl _)
   | (with_reducible exact LeO.none _)
   | (with_reducible refine LeO.ite ?_ ?_)
   | (with_reducible refine LeO.bind ?_ (fun _=>?_))
   | exact ih0 _ _ _
   | exact LeO.none _
   | refine LeO.ite ?_ ?_
   | refine LeO.bind ?_ (fun _=>?_)
set_option maxHeartbeats 8000000 in
set_option maxRecDepth 100000 in
theorem laws_toClassS.calls (k : Nat) (A0 : Option Addr) (c0 : Nat) (l0 : List (S67)) (r : List (S72)) (w : World) (hr0 : Kd.C k67 w A0 l0.length l0) (hc0 : l0.length ≤ c0) (h : laws_toClassS.f k l0 = some r) :
  Calls Try.prog 29 #[.slice A0 l0.length c0] w fun e w'=>∃ v0_ : Value,e = .returned (v0_) ∧ Kd.R k72 72 w' w.heap.size (fun _=>True) v0_ r ∧ Below w.heap.size w w':=by
 have hu67:=Try.underlying67
 have hu72:=Try.underlying72
 have HR0:=a0_ hr0
 have HC0:=a0_ hc0
 clear hr0 hc0
 have HB:=a0_ (Below.refl w.heap.size w)
 have H : (if 0 ≤ (l0.length : Int) then (if ((l0.length : Int) : Int).toNat ≤ 11728124029610 then (laws_toClassS.l0 k l0 (List.replicate ((l0.length : Int) : Int).toNat z72) 0) else (none)) else (none)) = some r:=h
 clear h
 by_cases c2 : 0 ≤ (l0.length : Int)
 ·rw [if_pos c2] at H
  have c2b0:=eq_true c2
  have c2b1 : decide (0 ≤ (l0.length : Int)) = true:=decide_eq_true c2
  clear c2
  by_cases c3 : ((l0.length : Int) : Int).toNat ≤ 11728124029610
  ·rw [if_pos c3] at H
   have c3b0:=eq_true c3
   have c3b1 : decide (((l0.length : Int) : Int).toNat ≤ 11728124029610) = true:=decide_eq_true c3
   clear c3
   obtain ⟨y1,hy1⟩ : ∃ y_ : List (S72),y_ = (List.replicate ((l0.length : Int) : Int).toNat z72):=⟨_,rfl⟩
   replace H : (laws_toClassS.l0 k l0 y1 0) = some r:=by first | (rw [hy1];with_reducible exact H) | (have H2_:=(Option.bind_some _ _).symm.trans H;rw [hy1];with_reducible exact H2_) | (have H2_:=(Option.bind_some _ _).symm.trans H;with_reducible exact H2_) | with_reducible exact H | (rw [hy1];exact H) | exact H
   have Ny1:=a0_ hy1
   clear hy1
   have H':=a0_ H
   clear H
   go_enter Try.func29,Try.ntmps29
   go_wp2_with (first | ((with_reducible refine gate_dst (N:=7) rfl ?_);refine Kd.R_make k72 _ 72 rfl (N:=7) rfl 30 _ _ rfl (l0.length : Int) rfl rfl Try.underlying30 (.agg #[(.string ⟨#[]⟩),(.int .i64 0)]) 24 info72 rfl (by decide) (by omega) z72 (ok:=fun _=>True) (okp:=fun _=>True) (k72_mkM _ _ _ z72 ) (fun _ hk=>hk) trivial (of_decide_eq_true (by first | (with_reducible assumption) | assumption)) (Nat.le_trans (Nat.mul_le_mul_right _ (of_decide_eq_true (by first | (with_reducible assumption) | assumption) : (l0.length : Int).toNat ≤ 11728124029610)) (by omega)) (Below.refl _ _) (Nat.le_refl _) ?_;intro v2 w4 ho5 hb hg_ hnew_;clear hg_ hnew_;(first | rw [← Ny1.out] at ho5 | (simp only [Int.reduceToNat] at ho5;rw [← Ny1.out] at ho5));have HO3:=a0_ (Kd.R_lower ho5 (below_size hb_));replace HB:=a0_ (below_step hb_ hb);clear hb ho5))
   go_loopg [4] k (fun kq v4 w'=>∃ (x3_1 : List (S72)) (x4_1 : Int),v4 = .int .i64 x4_1 ∧ Aside0 (laws_toClassS.l0 kq l0 x3_1 x4_1 = some r) ∧ Aside0 (kq ≤ k) ∧ Aside0 (Kd.R k72 72 w' w.heap.size (fun _=>True) v2 x3_1) ∧ Aside0 (Below w.heap.size w w'))
   case atStart=>exact ⟨(y1),(0),(by first | rfl | (simp;done) | (simp [*];done)),H',⟨Nat.le_refl _⟩,⟨by (with_reducible repeat (first | apply Kd.R_alloc | apply Kd.R_drewN | apply Kd.R_drew));exact HO3.out⟩,⟨hb_⟩⟩
   case round =>
    clear H'
    try clear c2
    try clear c2b0
    try clear c2b1
    try clear p2
    try clear c3
    try clear c3b0
    try clear c3b1
    obtain ⟨x3_1,x4_1,rfl,HA,HK1,HO_3,HB⟩:=hrel
    cases gk with
    | zero=>exact absurd HA.out (by simp [laws_toClassS.l0])
    | succ k1 =>
     have H:=HA.out
     clear HA
     simp only [laws_toClassS.l0] at H
     by_cases c6 : x4_1 < (l0.length : Int)
     ·rw [if_pos c6] at H
      have c6b0 : decide (x4_1 < (l0.length : Int)) = true:=decide_eq_true c6
      clear c6
      by_cases c7 : 0 ≤ x4_1
      ·rw [if_pos c7] at H
       have c7b0 : decide (0 ≤ x4_1) = true:=decide_eq_true c7
       clear c7
       replace H:=Option.bind_eq_some_iff.mp H
       obtain ⟨⟨t5,t6⟩,A80,H⟩:=H
       try dsimp only at H
       have A8:=a0_ A80
       clear A80
       by_cases c9 : x4_1 < (x3_1.length : Int)
       ·rw [if_pos c9] at H
        have c9b0 : decide (x4_1 < (x3_1.length : Int)) = true:=decide_eq_true c9
        clear c9
        obtain ⟨y7,hy7⟩ : ∃ y_ : List (S72),y_ = (x3_1.set (x4_1 : Int).toNat (⟨t5,t6⟩ : S72)):=⟨_,rfl⟩
        replace H : (laws_toClassS.l0 k1 l0 y7 (wrap64 (x4_1 + 1))) = some r:=by first | (rw [hy7];with_reducible exact H) | (have H2_:=(Option.bind_some _ _).symm.trans H;rw [hy7];with_reducible exact H2_) | (have H2_:=(Option.bind_some _ _).symm.trans H;with_reducible exact H2_) | with_reducible exact H | (rw [hy7];exact H) | exact H
        have Ny7:=a0_ hy7
        clear hy7
        have H':=a0_ H
        clear H
        have p4 : 0 ≤ (x4_1 : Int):=of_decide_eq_true (by first | (with_reducible assumption) | assumption)
        have q4 : x4_1 < (l0.length : Int):=of_decide_eq_true (by first | (with_reducible assumption) | assumption)
        obtain ⟨ad4,e4,hx4_0,hx4_1⟩:=at_T67 HR0.out x4_1 p4 q4
        cases e4
        replace hx4_0:=(HB.out.cell (World.block_lt_of_cell? w _ hx4_0)).trans hx4_0
        replace hx4_1:=(HB.out.cell (World.block_lt_of_cell? w _ hx4_1)).trans hx4_1
        replace p4:=eq_true p4
        replace q4:=eq_true q4
        go_wp2_with (first | ((with_reducible refine gate_callee (f:=48) rfl ?_);refine goesL_ (some 20) rfl rfl Try.func48 (by kernel_rfl) rfl #[.agg #[.string ((rd_T67 l0 x4_1).f0),.int .i64 ((rd_T67 l0 x4_1).f1)]] rfl lm_ ?_;(with_reducible refine (laws_toClass.calls ((rd_T67 l0 x4_1).f0) ((rd_T67 l0 x4_1).f1) t5 t6 _ A8.out).mono ?_);rintro e w11 ⟨rfl,hb⟩;refine ⟨_,rfl,?_⟩;replace HO_3:=rb_ HO_3 hb;replace HB:=a0_ (below_step hb_ hb);(try clear hb);have p10 : 0 ≤ (x4_1 : Int):=of_decide_eq_true (by first | (with_reducible assumption) | assumption);have q10 : (x4_1 : Int) < ((x3_1.length : Int) : Int):=of_decide_eq_true (by first | (with_reducible assumption) | assumption);obtain ⟨go10,co10,eo10,gb10,gl10,cl10,HG10⟩:=Kd.R_form HO_3.out (by omega);(first | cases eo10 | (injection eo10 with ea_ en_ ec_;(first | subst ea_ | (injection ea_ with ea_;subst ea_));subst ec_;clear en_));have GB10:=a0_ gb10;have GG10:=a0_ HG10;clear gb10 gl10 HG10;obtain ⟨ce10,hcl10,hM10,hcc10,hfr10⟩:=Kd.R_elem HO_3.out z72 (x4_1 : Int) p10 q10;obtain rfl:=k72_openM hM10;have hx10_0 : w11.cell? ⟨go10,(x4_1 : Int).toNat * 2,none⟩ = some (.string ((rd_T72 x3_1 x4_1).f0)):=hcc10 0 _ rfl;have hx10_1 : w11.cell? ⟨go10,(x4_1 : Int).toNat * 2 + 1,none⟩ = some (.int .i64 ((rd_T72 x3_1 x4_1).f1)):=hcc10 1 _ rfl;have hf10_0 : w11.frozen? ⟨go10,(x4_1 : Int).toNat * 2,none⟩ = false:=hfr10 0;have hf10_1 : w11.frozen? ⟨go10,(x4_1 : Int).toNat * 2 + 1,none⟩ = false:=hfr10 1;clear hcl10 hcc10 hfr10 hM10;replace p10:=eq_true p10;replace q10:=eq_true q10;have HX12:=a0_ (show Kd.R k72 72 w11 w.heap.size (fun _=>True) (.slice (some ⟨go10,0,none⟩) x3_1.length co10) x3_1 from (rr_ HO_3.out));obtain ⟨ce12,hcl12,hM12,hcc12,hfr12⟩:=Kd.R_elem HX12.out z72 (x4_1 : Int) (of_decide_eq_true (by first | (with_reducible assumption) | assumption)) (by have h_ : (x4_1 : Int) < ((x3_1.length : Int) : Int):=of_decide_eq_true (by first | (with_reducible assumption) | assumption);first | exact h_ | (have e_:=(Kd.R_reads' HO_3.out).1;omega) | simpa using h_);obtain rfl:=k72_openM hM12;have HP12:=Kd.R_seg HX12.out (x4_1 : Int) (of_decide_eq_true (by first | (with_reducible assumption) | assumption)) (by have h_ : (x4_1 : Int) < ((x3_1.length : Int) : Int):=of_decide_eq_true (by first | (with_reducible assumption) | assumption);first | exact h_ | (have e_:=(Kd.R_reads' HO_3.out).1;omega) | simpa using h_) (seg:=[.string t5,.int .i64 t6]) (j:=0) hcl12 hcc12 (show 2 ≤ 2 from by decide) (x':=(⟨t5,t6⟩ : S72)) (k72_mkM _ _ _ (⟨t5,t6⟩ : S72) ) (fun _ hk=>hk);have hx12_0:=hcc12 0 _ rfl;(try simp only [show (k72).sz = 2 from rfl,Nat.mul_one,Nat.add_zero] at hx12_0);have hf12_0:=hfr12 0;(try simp only [show (k72).sz = 2 from rfl,Nat.mul_one,Nat.add_zero] at hf12_0);have hx12_1:=hcc12 1 _ rfl;(try simp only [show (k72).sz = 2 from rfl,Nat.mul_one,Nat.add_zero] at hx12_1);have hf12_1:=hfr12 1;(try simp only [show (k72).sz = 2 from rfl,Nat.mul_one,Nat.add_zero] at hf12_1);clear hcl12 hcc12 hfr12 hM12) | ((with_reducible refine gate_store (t:=72) (p:=21) rfl ?_);refine store_event (t:=72) (p:=21) (v:=?vo_w13) (w1:=((w11.setCell ⟨go10,(x4_1 : Int).toNat * 2,none⟩ (.string t5)).setCell ⟨go10,(x4_1 : Int).toNat * 2 + 1,none⟩ (.int .i64 t6))) ?hg ?ho ?hn ?hr ?_;(case ho=>rfl);(case hg=>rfl);(case hn=>rfl);(case hr=>first | (go_simp;done) | (go_simp;rfl));intro w13 hw;have hg : w11.grownBy w13 (some go10):=(by rw [hw];exact HP12.2);have hp_ : Kd.R k72 72 w13 w.heap.size (fun _=>True) (.slice (some ⟨go10,0,none⟩) x3_1.length co10) y7:=(by rw [hw,Ny7.out];exact HP12.1);clear HP12;replace HO_3:=a0_ (hp_);replace HB:=a0_ ((by rw [hw];exact below_set (below_set (HB.out) GB10.out) GB10.out : Below w.heap.size w w13));clear hg hw hp_))
        go_roundg k1
        case measure=>have:=HK1.out;omega
        case rel=>exact ⟨(y7),(wrap64 (x4_1 + 1)),(by first | rfl | (simp;done) | (simp [*];done)),H',⟨by have:=HK1.out;omega⟩,⟨by (with_reducible repeat (first | apply Kd.R_alloc | apply Kd.R_drewN | apply Kd.R_drew));exact HO_3.out⟩,⟨hb_⟩⟩
       ·rw [if_neg c9] at H
        exact absurd H (by simp)
      ·rw [if_neg c7] at H
       exact absurd H (by simp)
     ·rw [if_neg c6] at H
      have c6b0 : decide (x4_1 < (l0.length : Int)) = false:=decide_eq_false c6
      clear c6
      obtain rfl:=Option.some.inj H
      go_wp2
      go_ret
      exact ⟨_,by first | rfl | (simp [errW_none,errW_some] <;> rfl) | (simp [*,errW_none,errW_some] <;> rfl),by (with_reducible repeat (first | apply Kd.R_alloc | apply Kd.R_drewN | apply Kd.R_drew));exact HO_3.out,hb_⟩
  ·rw [if_neg c3] at H
   exact absurd H (by simp)
 ·rw [if_neg c2] at H
  exact absurd H (by simp)
theorem laws_toClassS_ev (t : List S67) (ht : t.length ≤ 1048576) : Ev (fun k=>laws_toClassS.f k t) (t.map toC):=by
 have h:=st_loop (fun k acc i=>laws_toClassS.l0 k t acc i) t.length (fun i=>((t.take i).map toC) ++ List.replicate (t.length - i) z72) (t.map toC) (by
  intro k i hi
  simp only [laws_toClassS.l0,laws_toClass.f,Option.bind_some]
  rw [if_pos (by omega),if_pos (by omega),if_pos (by rw [fill_len _ _ _ _ (by omega)];omega),wrap_succ (i:=(i : Int)) (n:=t.length) (by omega) (by omega) (by omega)]
  have:=fill_at t toC z67 z72 i hi
  rw [show ((i : Int) : Int).toNat = i by omega]
  rw [show (⟨(rd_T67 t (i : Int)).f0,(rd_T67 t (i : Int)).f1⟩ : Cls) = toC (t.getD i z67) from by simp [toC,rd_T67],this]
  rfl) (by
  intro k
  simp only [laws_toClassS.l0]
  rw [if_neg (by omega)]
  simp)
 refine Ev.of_mono (laws_toClassS.mono t) (K:=t.length + 1) ?_
 unfold laws_toClassS.f
 rw [if_pos (by omega),if_pos (by omega)]
 simpa using h
end Go.Proofs.Ytbglafibhopleaa.P
namespace Go.Proofs.Ytbglafibhopleaa.P
open Go.RowKit Go.Proofs.YtbglafibhopleaaW.PrintWords Go.Proofs.YtbglafibhopleaaW.PrintLast Go.Proofs.YtbglafibhopleaaW.PrintMore
attribute [local go_sem] max2_int min2_int max_two min_two max_three min_three max_four min_four
set_option linter.unusedVariables false
set_option linter.unusedSimpArgs false
def laws_toTree.f (k : Nat) (l0_0 : List (S67)) : Option ((List (S72))):=(laws_toClassS.f k l0_0).bind fun t4=>(some t4)
theorem laws_toTree.mono : ∀ a0 k,LeO (laws_toTree.f k a0) (laws_toTree.f (k + 1) a0):=by
 intro a0 k
 unfold laws_toTree.f
 repeat' first
   | (with_reducible exact laws_toClassS.mono _ _)
   | (with_reducible exact LeO.refl _)
   | (with_reducible exact LeO.none _)
   | (with_reducible refine LeO.ite ?_ ?_)
   | (with_reducible refine LeO.bind ?_ (fun _=>?_))
   | exact laws_toClassS.mono _ _
   | exact LeO.none _
   | refine LeO.ite ?_ ?_
   | refine LeO.bind ?_ (fun _=>?_)
set_option maxHeartbeats 8000000 in
set_option maxRecDepth 100000 in
theorem laws_toTree.calls (k : Nat) (A0_0 : Option Addr) (c0_0 : Nat) (l0_0 : List (S67)) (r : List (S72)) (w : World) (hr0_0 : Kd.C k67 w A0_0 l0_0.length l0_0) (hc0_0 : l0_0.length ≤ c0_0) (h : laws_toTree.f k l0_0 = some r) :
  Calls Try.prog 9 #[.agg #[.slice A0_0 l0_0.length c0_0]] w fun e w'=>∃ v0_ : Value,e = .returned (.agg #[v0_]) ∧ Kd.R k72 72 w' w.heap.size (fun _=>True) v0_ r ∧ Below w.heap.size w w':=by
 have hu24:=Try.underlying24
 have hu32:=Try.underlying32
 have HR0_0:=a0_ hr0_0
 have HC0_0:=a0_ hc0_0
 clear hr0_0 hc0_0
 have HB:=a0_ (Below.refl w.heap.size w)
 have H : ((laws_toClassS.f k l0_0).bind fun t4=>(some t4)) = some r:=h
 clear h
 replace H:=Option.bind_eq_some_iff.mp H
 obtain ⟨t4,A20,H⟩:=H
 replace H : (some t4) = some r:=H
 have A2:=a0_ A20
 clear A20
 obtain rfl:=Option.some.inj H
 go_enter Try.func9,Try.ntmps9
 go_wp2_with (first | ((with_reducible refine gate_dst (N:=1) rfl ?_);refine box_event ?hg (N:=1) ?hd (cs:=#[.slice A0_0 l0_0.length c0_0]) (t:=24) ?hr ?_;(case hd=>rfl);(case hg=>rfl);(case hr=>first | (go_simp;done) | (go_simp;rfl));intro gb1 hg w3 hbox hb;have BK1:=a0_ (hbox);have GW1:=a0_ ((by rw [hg];exact (below_size hb_) : w.heap.size ≤ gb1));have GE1:=a0_ ((by rw [hg];exact (below_size hb_) : w.heap.size ≤ gb1));replace HB:=a0_ (below_step hb_ hb);clear hb hbox hg) | ((with_reducible refine gate_dst (N:=2) rfl ?_);refine box_event ?hg (N:=2) ?hd (cs:=#[.slice none 0 0]) (t:=32) ?hr ?_;(case hd=>rfl);(case hg=>rfl);(case hr=>first | (go_simp;done) | (go_simp;rfl));intro gb2 hg w4 hbox hb;have n0_:=kb_ BK1 hb;have n1_:=a0_ (below_step hb_ hb);have n2_:=a0_ (hbox);have n3_:=a0_ ((by rw [hg];exact (below_size hb_) : w.heap.size ≤ gb2));have n4_:=a0_ ((by rw [hg];exact (below_size hb_) : w.heap.size ≤ gb2));have n5_:=a0_ ((by rw [hg];exact Nat.ne_of_lt (blk_lt (bb_ BK1.out)) : gb1 ≠ gb2));have n6_:=a0_ ((by rw [hg];exact Nat.ne_of_gt (blk_lt (bb_ BK1.out)) : gb2 ≠ gb1));clear BK1 HB;have BK1:=n0_;have HB:=n1_;have BK2:=n2_;have GW2:=n3_;have GE2:=n4_;have NB1_2:=n5_;have NB2_1:=n6_;clear n0_ n1_ n2_ n3_ n4_ n5_ n6_;clear hb hbox hg) | ((with_reducible refine gate_dst (N:=3) rfl ?_);refine box_event ?hg (N:=3) ?hd (cs:=#[.slice none 0 0]) (t:=32) ?hr ?_;(case hd=>rfl);(case hg=>rfl);(case hr=>first | (go_simp;done) | (go_simp;rfl));intro gb3 hg w5 hbox hb;have n0_:=kb_ BK1 hb;have n1_:=kb_ BK2 hb;have n2_:=a0_ (below_step hb_ hb);have n3_:=a0_ (hbox);have n4_:=a0_ ((by rw [hg];exact (below_size hb_) : w.heap.size ≤ gb3));have n5_:=a0_ ((by rw [hg];exact (below_size hb_) : w.heap.size ≤ gb3));have n6_:=a0_ ((by rw [hg];exact Nat.ne_of_lt (blk_lt (bb_ BK1.out)) : gb1 ≠ gb3));have n7_:=a0_ ((by rw [hg];exact Nat.ne_of_gt (blk_lt (bb_ BK1.out)) : gb3 ≠ gb1));have n8_:=a0_ ((by rw [hg];exact Nat.ne_of_lt (blk_lt (bb_ BK2.out)) : gb2 ≠ gb3));have n9_:=a0_ ((by rw [hg];exact Nat.ne_of_gt (blk_lt (bb_ BK2.out)) : gb3 ≠ gb2));clear BK1 BK2 HB;have BK1:=n0_;have BK2:=n1_;have HB:=n2_;have BK3:=n3_;have GW3:=n4_;have GE3:=n5_;have NB1_3:=n6_;have NB3_1:=n7_;have NB2_3:=n8_;have NB3_2:=n9_;clear n0_ n1_ n2_ n3_ n4_ n5_ n6_ n7_ n8_ n9_;clear hb hbox hg;have hnb6:=NB1_2.out;have hnc6:=NB2_1.out;have hnb7:=NB1_3.out;have hnc7:=NB3_1.out;have hcz8_0 : w5.cell? ⟨gb1,0,none⟩ = some (.slice A0_0 l0_0.length c0_0):=(blk_cell BK1.out 0).trans rfl;have hfz8_0:=blk_frozen BK1.out 0) | ((with_reducible refine gate_callee (f:=29) rfl ?_);refine goesL_ (some 6) rfl rfl Try.func29 (by kernel_rfl) rfl #[.slice A0_0 l0_0.length c0_0] rfl lm_ ?_;(with_reducible refine (laws_toClassS.calls k _ _ l0_0 t4 _ ?side1 ?side2 A2.out).mono ?_);(case side1=>exact cc_ (Kd.C_below HR0_0.out HB.out));(case side2=>exact HC0_0.out);rintro e w9 ⟨v5,rfl,ho0,hb⟩;refine ⟨_,rfl,?_⟩;have HO6:=a0_ (Kd.R_lower ho0 (below_size hb_));replace BK1:=kb_ BK1 hb;replace BK2:=kb_ BK2 hb;replace BK3:=kb_ BK3 hb;replace HB:=a0_ (below_step hb_ hb);(try clear hb);(try clear ho0);obtain ⟨Ao10,co10,eo10⟩:=Kd.R_slice HO6.out;subst eo10;have hnb11:=NB3_2.out;have hnc11:=NB2_3.out;have hcz12_0 : w9.cell? ⟨gb3,0,none⟩ = some (.slice none 0 0):=(blk_cell BK3.out 0).trans rfl;have hfz12_0:=blk_frozen BK3.out 0;have hcz13_0 : w9.cell? ⟨gb2,0,none⟩ = some (.slice none 0 0):=(blk_cell BK2.out 0).trans rfl;have hfz13_0:=blk_frozen BK2.out 0))
 refine bodyPost_ret (results_cell_row rfl _ _ gb2 32 #[.slice Ao10 t4.length co10] (0,0) _ rfl (by (with_reducible repeat (first | refine blk_drewN ?_ _ | refine blk_drew ?_ | refine blk_alloc ?_ _));refine blk_put (cs:=#[.slice none 0 0]) ?_ 0 _ rfl;(with_reducible repeat (first | refine blk_drewN ?_ _ | refine blk_drew ?_ | refine blk_alloc ?_ _));refine blk_far ?_ NB2_3.out _;(with_reducible repeat (first | refine blk_drewN ?_ _ | refine blk_drew ?_ | refine blk_alloc ?_ _));exact BK2.out) Try.underlying32 rfl (by kernel_rfl)) rfl ?_
 exact ⟨_,by first | rfl | (simp [errW_none,errW_some] <;> rfl) | (simp [*,errW_none,errW_some] <;> rfl),by (with_reducible repeat (first | apply Kd.R_alloc | apply Kd.R_drewN | apply Kd.R_drew));exact Kd.R_mono (Kd.R_far (p:=⟨gb2,0,none⟩) (Kd.R_far (p:=⟨gb3,0,none⟩) (Kd.R_types (Kd.R_types HO6.out BK3.out (by decide)) BK2.out (by decide)) (fun _ hk=>hk.1.2) (.slice Ao10 t4.length co10)) (fun _ hk=>hk.2) (.slice Ao10 t4.length co10)) (fun _ hk=>trivial),hb_⟩
theorem laws_toTree_ev (t : List S67) (ht : t.length ≤ 1048576) : Ev (fun k=>laws_toTree.f k t) (t.map toC) :=
 Ev.bind (laws_toClassS_ev t ht) (Ev.const rfl)
end Go.Proofs.Ytbglafibhopleaa.P
namespace Go.Proofs.Ytbglafibhopleaa.P
open Go.RowKit Go.Proofs.YtbglafibhopleaaW.PrintWords Go.Proofs.YtbglafibhopleaaW.PrintLast Go.Proofs.YtbglafibhopleaaW.PrintMore
attribute [local go_sem] max2_int min2_int max_two min_two max_three min_three max_four min_four
set_option linter.unusedVariables false
set_option linter.unusedSimpArgs false
def toPart (x : S57) : S55:=⟨x.f0,x.f1,x.f2,x.f3⟩
end Go.Proofs.Ytbglafibhopleaa.P
namespace Go.Proofs.Ytbglafibhopleaa.P
open Go.RowKit Go.Proofs.YtbglafibhopleaaW.PrintWords Go.Proofs.YtbglafibhopleaaW.PrintLast Go.Proofs.YtbglafibhopleaaW.PrintMore
attribute [local go_sem] max2_int min2_int max_two min_two max_three min_three max_four min_four
set_option linter.unusedVariables false
set_option linter.unusedSimpArgs false
def laws_toPart.f (a0_0 : Int) (a0_1 : Bool) (a0_2 : Int) (a0_3 : Int) : Option (Int × Bool × Int × Int):=some (a0_0,a0_1,a0_2,a0_3)
set_option maxHeartbeats 8000000 in
set_option maxRecDepth 100000 in
theorem laws_toPart.calls (a0_0 : Int) (a0_1 : Bool) (a0_2 : Int) (a0_3 : Int) (r1 : Int) (r2 : Bool) (r3 : Int) (r4 : Int) (w : World) (h : laws_toPart.f a0_0 a0_1 a0_2 a0_3 = some (r1,r2,r3,r4)) :
  Calls Try.prog 30 #[.agg #[.int .i64 a0_0,.bool a0_1,.int .i64 a0_2,.int .i64 a0_3]] w fun e w'=>e = .returned (.agg #[.int .i64 r1,.bool r2,.int .i64 r3,.int .i64 r4]) ∧ Below w.heap.size w w':=by
 have hu57:=Try.underlying57
 have hu55:=Try.underlying55
 have HB:=a0_ (Below.refl w.heap.size w)
 have H : (some (a0_0,a0_1,a0_2,a0_3)) = some (r1,r2,r3,r4):=h
 clear h
 simp only [Option.some.injEq,Prod.mk.injEq] at H
 obtain ⟨rfl,rfl,rfl,rfl⟩:=H
 go_enter Try.func30,Try.ntmps30
 go_wp2_with (first | ((with_reducible refine gate_dst (N:=1) rfl ?_);refine box_event ?hg (N:=1) ?hd (cs:=#[.int .i64 a0_0,.bool a0_1,.int .i64 a0_2,.int .i64 a0_3]) (t:=57) ?hr ?_;(case hd=>rfl);(case hg=>rfl);(case hr=>first | (go_simp;done) | (go_simp;rfl));intro gb1 hg w2 hbox hb;have BK1:=a0_ (hbox);have GW1:=a0_ ((by rw [hg];exact (below_size hb_) : w.heap.size ≤ gb1));have GE1:=a0_ ((by rw [hg];exact (below_size hb_) : w.heap.size ≤ gb1));replace HB:=a0_ (below_step hb_ hb);clear hb hbox hg) | ((with_reducible refine gate_dst (N:=2) rfl ?_);refine box_event ?hg (N:=2) ?hd (cs:=#[.int .i64 0,.bool false,.int .i64 0,.int .i64 0]) (t:=55) ?hr ?_;(case hd=>rfl);(case hg=>rfl);(case hr=>first | (go_simp;done) | (go_simp;rfl));intro gb2 hg w3 hbox hb;have n0_:=kb_ BK1 hb;have n1_:=a0_ (below_step hb_ hb);have n2_:=a0_ (hbox);have n3_:=a0_ ((by rw [hg];exact (below_size hb_) : w.heap.size ≤ gb2));have n4_:=a0_ ((by rw [hg];exact (below_size hb_) : w.heap.size ≤ gb2));have n5_:=a0_ ((by rw [hg];exact Nat.ne_of_lt (blk_lt (bb_ BK1.out)) : gb1 ≠ gb2));have n6_:=a0_ ((by rw [hg];exact Nat.ne_of_gt (blk_lt (bb_ BK1.out)) : gb2 ≠ gb1));clear BK1 HB;have BK1:=n0_;have HB:=n1_;have BK2:=n2_;have GW2:=n3_;have GE2:=n4_;have NB1_2:=n5_;have NB2_1:=n6_;clear n0_ n1_ n2_ n3_ n4_ n5_ n6_;clear hb hbox hg) | ((with_reducible refine gate_dst (N:=3) rfl ?_);refine box_event ?hg (N:=3) ?hd (cs:=#[.int .i64 0,.bool false,.int .i64 0,.int .i64 0]) (t:=55) ?hr ?_;(case hd=>rfl);(case hg=>rfl);(case hr=>first | (go_simp;done) | (go_simp;rfl));intro gb3 hg w4 hbox hb;have n0_:=kb_ BK1 hb;have n1_:=kb_ BK2 hb;have n2_:=a0_ (below_step hb_ hb);have n3_:=a0_ (hbox);have n4_:=a0_ ((by rw [hg];exact (below_size hb_) : w.heap.size ≤ gb3));have n5_:=a0_ ((by rw [hg];exact (below_size hb_) : w.heap.size ≤ gb3));have n6_:=a0_ ((by rw [hg];exact Nat.ne_of_lt (blk_lt (bb_ BK1.out)) : gb1 ≠ gb3));have n7_:=a0_ ((by rw [hg];exact Nat.ne_of_gt (blk_lt (bb_ BK1.out)) : gb3 ≠ gb1));have n8_:=a0_ ((by rw [hg];exact Nat.ne_of_lt (blk_lt (bb_ BK2.out)) : gb2 ≠ gb3));have n9_:=a0_ ((by rw [hg];exact Nat.ne_of_gt (blk_lt (bb_ BK2.out)) : gb3 ≠ gb2));clear BK1 BK2 HB;have BK1:=n0_;have BK2:=n1_;have HB:=n2_;have BK3:=n3_;have GW3:=n4_;have GE3:=n5_;have NB1_3:=n6_;have NB3_1:=n7_;have NB2_3:=n8_;have NB3_2:=n9_;clear n0_ n1_ n2_ n3_ n4_ n5_ n6_ n7_ n8_ n9_;clear hb hbox hg;have hnb5:=NB1_2.out;have hnc5:=NB2_1.out;have hnb6:=NB1_3.out;have hnc6:=NB3_1.out;have hcz7_0 : w4.cell? ⟨gb1,0,none⟩ = some (.int .i64 a0_0):=(blk_cell BK1.out 0).trans rfl;have hcz7_1 : w4.cell? ⟨gb1,1,none⟩ = some (.bool a0_1):=(blk_cell BK1.out 1).trans rfl;have hcz7_2 : w4.cell? ⟨gb1,2,none⟩ = some (.int .i64 a0_2):=(blk_cell BK1.out 2).trans rfl;have hcz7_3 : w4.cell? ⟨gb1,3,none⟩ = some (.int .i64 a0_3):=(blk_cell BK1.out 3).trans rfl;have hfz7_0:=blk_frozen BK1.out 0;have hfz7_1:=blk_frozen BK1.out 1;have hfz7_2:=blk_frozen BK1.out 2;have hfz7_3:=blk_frozen BK1.out 3;have hnb8:=NB3_2.out;have hnc8:=NB2_3.out;have hcz9_0 : w4.cell? ⟨gb3,0,none⟩ = some (.int .i64 0):=(blk_cell BK3.out 0).trans rfl;have hcz9_1 : w4.cell? ⟨gb3,1,none⟩ = some (.bool false):=(blk_cell BK3.out 1).trans rfl;have hcz9_2 : w4.cell? ⟨gb3,2,none⟩ = some (.int .i64 0):=(blk_cell BK3.out 2).trans rfl;have hcz9_3 : w4.cell? ⟨gb3,3,none⟩ = some (.int .i64 0):=(blk_cell BK3.out 3).trans rfl;have hfz9_0:=blk_frozen BK3.out 0;have hfz9_1:=blk_frozen BK3.out 1;have hfz9_2:=blk_frozen BK3.out 2;have hfz9_3:=blk_frozen BK3.out 3;have hcz10_0 : w4.cell? ⟨gb2,0,none⟩ = some (.int .i64 0):=(blk_cell BK2.out 0).trans rfl;have hcz10_1 : w4.cell? ⟨gb2,1,none⟩ = some (.bool false):=(blk_cell BK2.out 1).trans rfl;have hcz10_2 : w4.cell? ⟨gb2,2,none⟩ = some (.int .i64 0):=(blk_cell BK2.out 2).trans rfl;have hcz10_3 : w4.cell? ⟨gb2,3,none⟩ = some (.int .i64 0):=(blk_cell BK2.out 3).trans rfl;have hfz10_0:=blk_frozen BK2.out 0;have hfz10_1:=blk_frozen BK2.out 1;have hfz10_2:=blk_frozen BK2.out 2;have hfz10_3:=blk_frozen BK2.out 3))
 refine bodyPost_ret (results_cell_row rfl _ _ gb2 55 #[.int .i64 a0_0,.bool a0_1,.int .i64 a0_2,.int .i64 a0_3] (0,0) _ rfl (by (with_reducible repeat (first | refine blk_drewN ?_ _ | refine blk_drew ?_ | refine blk_alloc ?_ _));refine blk_put (cs:=#[.int .i64 a0_0,.bool a0_1,.int .i64 a0_2,.int .i64 0]) ?_ 3 _ rfl;(with_reducible repeat (first | refine blk_drewN ?_ _ | refine blk_drew ?_ | refine blk_alloc ?_ _));refine blk_put (cs:=#[.int .i64 a0_0,.bool a0_1,.int .i64 0,.int .i64 0]) ?_ 2 _ rfl;(with_reducible repeat (first | refine blk_drewN ?_ _ | refine blk_drew ?_ | refine blk_alloc ?_ _));refine blk_put (cs:=#[.int .i64 a0_0,.bool false,.int .i64 0,.int .i64 0]) ?_ 1 _ rfl;(with_reducible repeat (first | refine blk_drewN ?_ _ | refine blk_drew ?_ | refine blk_alloc ?_ _));refine blk_put (cs:=#[.int .i64 0,.bool false,.int .i64 0,.int .i64 0]) ?_ 0 _ rfl;(with_reducible repeat (first | refine blk_drewN ?_ _ | refine blk_drew ?_ | refine blk_alloc ?_ _));refine blk_far ?_ NB2_3.out _;(with_reducible repeat (first | refine blk_drewN ?_ _ | refine blk_drew ?_ | refine blk_alloc ?_ _));refine blk_far ?_ NB2_3.out _;(with_reducible repeat (first | refine blk_drewN ?_ _ | refine blk_drew ?_ | refine blk_alloc ?_ _));refine blk_far ?_ NB2_3.out _;(with_reducible repeat (first | refine blk_drewN ?_ _ | refine blk_drew ?_ | refine blk_alloc ?_ _));refine blk_far ?_ NB2_3.out _;(with_reducible repeat (first | refine blk_drewN ?_ _ | refine blk_drew ?_ | refine blk_alloc ?_ _));exact BK2.out) Try.underlying55 rfl (by kernel_rfl)) rfl ?_
 exact ⟨by first | rfl | (simp [errW_none,errW_some] <;> rfl) | (simp [*,errW_none,errW_some] <;> rfl),hb_⟩
end Go.Proofs.Ytbglafibhopleaa.P
namespace Go.Proofs.Ytbglafibhopleaa.P
open Go.RowKit Go.Proofs.YtbglafibhopleaaW.PrintWords Go.Proofs.YtbglafibhopleaaW.PrintLast Go.Proofs.YtbglafibhopleaaW.PrintMore
attribute [local go_sem] max2_int min2_int max_two min_two max_three min_three max_four min_four
set_option linter.unusedVariables false
set_option linter.unusedSimpArgs false
def laws_toPartS.l0 : Nat → List (S57) → List (S55) → Int → Option ((List (S55)))
 | 0,_,_,_=>none
 | k + 1,x0,x3,x4=>if x4 < (x0.length : Int) then (if 0 ≤ x4 then ((laws_toPart.f ((rd_T57 x0 x4).f0) ((rd_T57 x0 x4).f1) ((rd_T57 x0 x4).f2) ((rd_T57 x0 x4).f3)).bind fun bt5=>(if x4 < (x3.length : Int) then (laws_toPartS.l0 k x0 (x3.set (x4 : Int).toNat (⟨bt5.1,bt5.2.1,bt5.2.2.1,bt5.2.2.2⟩ : S55)) (wrap64 (x4 + 1))) else (none))) else (none)) else (some x3)
def laws_toPartS.f (k : Nat) (l0 : List (S57)) : Option ((List (S55))):=if 0 ≤ (l0.length : Int) then (if ((l0.length : Int) : Int).toNat ≤ 8796093022208 then (laws_toPartS.l0 k l0 (List.replicate ((l0.length : Int) : Int).toNat z55) 0) else (none)) else (none)
theorem laws_toPartS.mono_l : ∀ k,(∀ y0 y1 y2,LeO (laws_toPartS.l0 k y0 y1 y2) (laws_toPartS.l0 (k + 1) y0 y1 y2))
 | 0=>fun _ _ _ r h=>by simp [laws_toPartS.l0] at h
 | k + 1=>by
  have ih0:=laws_toPartS.mono_l k
  ·intro y0 y1 y2
   unfold laws_toPartS.l0
   repeat' first
   | (with_reducible exact ih0 _ _ _)
   | (with_reducible exact LeO.refl _)
   | (with_reducible exact LeO.none _)
   | (with_reducible refine LeO.ite ?_ ?_)
   | (with_reducible refine LeO.bind ?_ (fun _=>?_))
   | exact ih0 _ _ _
   | exact LeO.none _
   | refine LeO.ite ?_ ?_
   | refine LeO.bind ?_ (fun _=>?_)
theorem laws_toPartS.mono : ∀ a0 k,LeO (laws_toPartS.f k a0) (laws_toPartS.f (k + 1) a0):=by
 intro a0 k
 have ih0:=laws_toPartS.mono_l k
 unfold laws_toPartS.f
 repeat' first
   | (with_reducible exact ih0 _ _ _)
   | (with_reducible exact LeO.refl _)
   | (with_reducible exact LeO.none _)
   | (with_reducible refine LeO.ite ?_ ?_)
   | (with_reducible refine LeO.bind ?_ (fun _=>?_))
   | exact ih0 _ _ _
   | exact LeO.none _
   | refine LeO.ite ?_ ?_
   | refine LeO.bind ?_ (fun _=>?_)
set_option maxHeartbeats 8000000 in
set_option maxRecDepth 100000 in
theorem laws_toPartS.calls (k : Nat) (A0 : Option Addr) (c0 : Nat) (l0 : List (S57)) (r : List (S55)) (w : World) (hr0 : Kd.C k57 w A0 l0.length l0) (hc0 : l0.length ≤ c0) (h : laws_toPartS.f k l0 = some r) :
  Calls Try.prog 10 #[.slice A0 l0.length c0] w fun e w'=>∃ v0_ : Value,e = .returned (v0_) ∧ Kd.R k55 55 w' w.heap.size (fun _=>True) v0_ r ∧ Below w.heap.size w w':=by
 have hu57:=Try.underlying57
 have hu55:=Try.underlying55
 have HR0:=a0_ hr0
 have HC0:=a0_ hc0
 clear hr0 hc0
 have HB:=a0_ (Below.refl w.heap.size w)
 have H : (if 0 ≤ (l0.length : Int) then (if ((l0.length : Int) : Int).toNat ≤ 8796093022208 then (laws_toPartS.l0 k l0 (List.replicate ((l0.length : Int) : Int).toNat z55) 0) else (none)) else (none)) = some r:=h
 clear h
 by_cases c2 : 0 ≤ (l0.length : Int)
 ·rw [if_pos c2] at H
  have c2b0:=eq_true c2
  have c2b1 : decide (0 ≤ (l0.length : Int)) = true:=decide_eq_true c2
  clear c2
  by_cases c3 : ((l0.length : Int) : Int).toNat ≤ 8796093022208
  ·rw [if_pos c3] at H
   have c3b0:=eq_true c3
   have c3b1 : decide (((l0.length : Int) : Int).toNat ≤ 8796093022208) = true:=decide_eq_true c3
   clear c3
   obtain ⟨y1,hy1⟩ : ∃ y_ : List (S55),y_ = (List.replicate ((l0.length : Int) : Int).toNat z55):=⟨_,rfl⟩
   replace H : (laws_toPartS.l0 k l0 y1 0) = some r:=by first | (rw [hy1];with_reducible exact H) | (have H2_:=(Option.bind_some _ _).symm.trans H;rw [hy1];with_reducible exact H2_) | (have H2_:=(Option.bind_some _ _).symm.trans H;with_reducible exact H2_) | with_reducible exact H | (rw [hy1];exact H) | exact H
   have Ny1:=a0_ hy1
   clear hy1
   have H':=a0_ H
   clear H
   go_enter Try.func10,Try.ntmps10
   go_wp2_with (first | ((with_reducible refine gate_dst (N:=7) rfl ?_);refine Kd.R_make k55 _ 55 rfl (N:=7) rfl 28 _ _ rfl (l0.length : Int) rfl rfl Try.underlying28 (.agg #[(.int .i64 0),(.bool false),(.int .i64 0),(.int .i64 0)]) 32 info55 rfl (by decide) (by omega) z55 (ok:=fun _=>True) (okp:=fun _=>True) (k55_mkM _ _ _ z55 ) (fun _ hk=>hk) trivial (of_decide_eq_true (by first | (with_reducible assumption) | assumption)) (Nat.le_trans (Nat.mul_le_mul_right _ (of_decide_eq_true (by first | (with_reducible assumption) | assumption) : (l0.length : Int).toNat ≤ 8796093022208)) (by omega)) (Below.refl _ _) (Nat.le_refl _) ?_;intro v2 w4 ho5 hb hg_ hnew_;clear hg_ hnew_;(first | rw [← Ny1.out] at ho5 | (simp only [Int.reduceToNat] at ho5;rw [← Ny1.out] at ho5));have HO3:=a0_ (Kd.R_lower ho5 (below_size hb_));replace HB:=a0_ (below_step hb_ hb);clear hb ho5))
   go_loopg [4] k (fun kq v4 w'=>∃ (x3_1 : List (S55)) (x4_1 : Int),v4 = .int .i64 x4_1 ∧ Aside0 (laws_toPartS.l0 kq l0 x3_1 x4_1 = some r) ∧ Aside0 (kq ≤ k) ∧ Aside0 (Kd.R k55 55 w' w.heap.size (fun _=>True) v2 x3_1) ∧ Aside0 (Below w.heap.size w w'))
   case atStart=>exact ⟨(y1),(0),(by first | rfl | (simp;done) | (simp [*];done)),H',⟨Nat.le_refl _⟩,⟨by (with_reducible repeat (first | apply Kd.R_alloc | apply Kd.R_drewN | apply Kd.R_drew));exact HO3.out⟩,⟨hb_⟩⟩
   case round =>
    clear H'
    try clear c1
    try clear c2
    try clear c2b0
    try clear c2b1
    try clear p2
    try clear c3
    try clear c3b0
    try clear c3b1
    obtain ⟨x3_1,x4_1,rfl,HA,HK1,HO_3,HB⟩:=hrel
    cases gk with
    | zero=>exact absurd HA.out (by simp [laws_toPartS.l0])
    | succ k1 =>
     have H:=HA.out
     clear HA
     simp only [laws_toPartS.l0] at H
     by_cases c6 : x4_1 < (l0.length : Int)
     ·rw [if_pos c6] at H
      have c6b0 : decide (x4_1 < (l0.length : Int)) = true:=decide_eq_true c6
      clear c6
      by_cases c7 : 0 ≤ x4_1
      ·rw [if_pos c7] at H
       have c7b0 : decide (0 ≤ x4_1) = true:=decide_eq_true c7
       clear c7
       replace H:=Option.bind_eq_some_iff.mp H
       obtain ⟨⟨t5,t6,t7,t8⟩,A80,H⟩:=H
       try dsimp only at H
       have A8:=a0_ A80
       clear A80
       by_cases c9 : x4_1 < (x3_1.length : Int)
       ·rw [if_pos c9] at H
        have c9b0 : decide (x4_1 < (x3_1.length : Int)) = true:=decide_eq_true c9
        clear c9
        obtain ⟨y9,hy9⟩ : ∃ y_ : List (S55),y_ = (x3_1.set (x4_1 : Int).toNat (⟨t5,t6,t7,t8⟩ : S55)):=⟨_,rfl⟩
        replace H : (laws_toPartS.l0 k1 l0 y9 (wrap64 (x4_1 + 1))) = some r:=by first | (rw [hy9];with_reducible exact H) | (have H2_:=(Option.bind_some _ _).symm.trans H;rw [hy9];with_reducible exact H2_) | (have H2_:=(Option.bind_some _ _).symm.trans H;with_reducible exact H2_) | with_reducible exact H | (rw [hy9];exact H) | exact H
        have Ny9:=a0_ hy9
        clear hy9
        have H':=a0_ H
        clear H
        have p4 : 0 ≤ (x4_1 : Int):=of_decide_eq_true (by first | (with_reducible assumption) | assumption)
        have q4 : x4_1 < (l0.length : Int):=of_decide_eq_true (by first | (with_reducible assumption) | assumption)
        obtain ⟨ad4,e4,hx4_0,hx4_1,hx4_2,hx4_3⟩:=at_T57 HR0.out x4_1 p4 q4
        cases e4
        replace hx4_0:=(HB.out.cell (World.block_lt_of_cell? w _ hx4_0)).trans hx4_0
        replace hx4_1:=(HB.out.cell (World.block_lt_of_cell? w _ hx4_1)).trans hx4_1
        replace hx4_2:=(HB.out.cell (World.block_lt_of_cell? w _ hx4_2)).trans hx4_2
        replace hx4_3:=(HB.out.cell (World.block_lt_of_cell? w _ hx4_3)).trans hx4_3
        replace p4:=eq_true p4
        replace q4:=eq_true q4
        go_wp2_with (first | ((with_reducible refine gate_callee (f:=30) rfl ?_);refine goesL_ (some 20) rfl rfl Try.func30 (by kernel_rfl) rfl #[.agg #[.int .i64 ((rd_T57 l0 x4_1).f0),.bool ((rd_T57 l0 x4_1).f1),.int .i64 ((rd_T57 l0 x4_1).f2),.int .i64 ((rd_T57 l0 x4_1).f3)]] rfl lm_ ?_;(with_reducible refine (laws_toPart.calls ((rd_T57 l0 x4_1).f0) ((rd_T57 l0 x4_1).f1) ((rd_T57 l0 x4_1).f2) ((rd_T57 l0 x4_1).f3) t5 t6 t7 t8 _ A8.out).mono ?_);rintro e w11 ⟨rfl,hb⟩;refine ⟨_,rfl,?_⟩;replace HO_3:=rb_ HO_3 hb;replace HB:=a0_ (below_step hb_ hb);(try clear hb);have p10 : 0 ≤ (x4_1 : Int):=of_decide_eq_true (by first | (with_reducible assumption) | assumption);have q10 : (x4_1 : Int) < ((x3_1.length : Int) : Int):=of_decide_eq_true (by first | (with_reducible assumption) | assumption);obtain ⟨go10,co10,eo10,gb10,gl10,cl10,HG10⟩:=Kd.R_form HO_3.out (by omega);(first | cases eo10 | (injection eo10 with ea_ en_ ec_;(first | subst ea_ | (injection ea_ with ea_;subst ea_));subst ec_;clear en_));have GB10:=a0_ gb10;have GG10:=a0_ HG10;clear gb10 gl10 HG10;obtain ⟨ce10,hcl10,hM10,hcc10,hfr10⟩:=Kd.R_elem HO_3.out z55 (x4_1 : Int) p10 q10;obtain rfl:=k55_openM hM10;have hx10_0 : w11.cell? ⟨go10,(x4_1 : Int).toNat * 4,none⟩ = some (.int .i64 ((rd_T55 x3_1 x4_1).f0)):=hcc10 0 _ rfl;have hx10_1 : w11.cell? ⟨go10,(x4_1 : Int).toNat * 4 + 1,none⟩ = some (.bool ((rd_T55 x3_1 x4_1).f1)):=hcc10 1 _ rfl;have hx10_2 : w11.cell? ⟨go10,(x4_1 : Int).toNat * 4 + 2,none⟩ = some (.int .i64 ((rd_T55 x3_1 x4_1).f2)):=hcc10 2 _ rfl;have hx10_3 : w11.cell? ⟨go10,(x4_1 : Int).toNat * 4 + 3,none⟩ = some (.int .i64 ((rd_T55 x3_1 x4_1).f3)):=hcc10 3 _ rfl;have hf10_0 : w11.frozen? ⟨go10,(x4_1 : Int).toNat * 4,none⟩ = false:=hfr10 0;have hf10_1 : w11.frozen? ⟨go10,(x4_1 : Int).toNat * 4 + 1,none⟩ = false:=hfr10 1;have hf10_2 : w11.frozen? ⟨go10,(x4_1 : Int).toNat * 4 + 2,none⟩ = false:=hfr10 2;have hf10_3 : w11.frozen? ⟨go10,(x4_1 : Int).toNat * 4 + 3,none⟩ = false:=hfr10 3;clear hcl10 hcc10 hfr10 hM10;replace p10:=eq_true p10;replace q10:=eq_true q10;have HX12:=a0_ (show Kd.R k55 55 w11 w.heap.size (fun _=>True) (.slice (some ⟨go10,0,none⟩) x3_1.length co10) x3_1 from (rr_ HO_3.out));obtain ⟨ce12,hcl12,hM12,hcc12,hfr12⟩:=Kd.R_elem HX12.out z55 (x4_1 : Int) (of_decide_eq_true (by first | (with_reducible assumption) | assumption)) (by have h_ : (x4_1 : Int) < ((x3_1.length : Int) : Int):=of_decide_eq_true (by first | (with_reducible assumption) | assumption);first | exact h_ | (have e_:=(Kd.R_reads' HO_3.out).1;omega) | simpa using h_);obtain rfl:=k55_openM hM12;have HP12:=Kd.R_seg HX12.out (x4_1 : Int) (of_decide_eq_true (by first | (with_reducible assumption) | assumption)) (by have h_ : (x4_1 : Int) < ((x3_1.length : Int) : Int):=of_decide_eq_true (by first | (with_reducible assumption) | assumption);first | exact h_ | (have e_:=(Kd.R_reads' HO_3.out).1;omega) | simpa using h_) (seg:=[.int .i64 t5,.bool t6,.int .i64 t7,.int .i64 t8]) (j:=0) hcl12 hcc12 (show 4 ≤ 4 from by decide) (x':=(⟨t5,t6,t7,t8⟩ : S55)) (k55_mkM _ _ _ (⟨t5,t6,t7,t8⟩ : S55) ) (fun _ hk=>hk);have hx12_0:=hcc12 0 _ rfl;(try simp only [show (k55).sz = 4 from rfl,Nat.mul_one,Nat.add_zero] at hx12_0);have hf12_0:=hfr12 0;(try simp only [show (k55).sz = 4 from rfl,Nat.mul_one,Nat.add_zero] at hf12_0);have hx12_1:=hcc12 1 _ rfl;(try simp only [show (k55).sz = 4 from rfl,Nat.mul_one,Nat.add_zero] at hx12_1);have hf12_1:=hfr12 1;(try simp only [show (k55).sz = 4 from rfl,Nat.mul_one,Nat.add_zero] at hf12_1);have hx12_2:=hcc12 2 _ rfl;(try simp only [show (k55).sz = 4 from rfl,Nat.mul_one,Nat.add_zero] at hx12_2);have hf12_2:=hfr12 2;(try simp only [show (k55).sz = 4 from rfl,Nat.mul_one,Nat.add_zero] at hf12_2);have hx12_3:=hcc12 3 _ rfl;(try simp only [show (k55).sz = 4 from rfl,Nat.mul_one,Nat.add_zero] at hx12_3);have hf12_3:=hfr12 3;(try simp only [show (k55).sz = 4 from rfl,Nat.mul_one,Nat.add_zero] at hf12_3);clear hcl12 hcc12 hfr12 hM12) | ((with_reducible refine gate_store (t:=55) (p:=21) rfl ?_);refine store_event (t:=55) (p:=21) (v:=?vo_w13) (w1:=((((w11.setCell ⟨go10,(x4_1 : Int).toNat * 4,none⟩ (.int .i64 t5)).setCell ⟨go10,(x4_1 : Int).toNat * 4 + 1,none⟩ (.bool t6)).setCell ⟨go10,(x4_1 : Int).toNat * 4 + 2,none⟩ (.int .i64 t7)).setCell ⟨go10,(x4_1 : Int).toNat * 4 + 3,none⟩ (.int .i64 t8))) ?hg ?ho ?hn ?hr ?_;(case ho=>rfl);(case hg=>rfl);(case hn=>rfl);(case hr=>first | (go_simp;done) | (go_simp;rfl));intro w13 hw;have hg : w11.grownBy w13 (some go10):=(by rw [hw];exact HP12.2);have hp_ : Kd.R k55 55 w13 w.heap.size (fun _=>True) (.slice (some ⟨go10,0,none⟩) x3_1.length co10) y9:=(by rw [hw,Ny9.out];exact HP12.1);clear HP12;replace HO_3:=a0_ (hp_);replace HB:=a0_ ((by rw [hw];exact below_set (below_set (below_set (below_set (HB.out) GB10.out) GB10.out) GB10.out) GB10.out : Below w.heap.size w w13));clear hg hw hp_))
        go_roundg k1
        case measure=>have:=HK1.out;omega
        case rel=>exact ⟨(y9),(wrap64 (x4_1 + 1)),(by first | rfl | (simp;done) | (simp [*];done)),H',⟨by have:=HK1.out;omega⟩,⟨by (with_reducible repeat (first | apply Kd.R_alloc | apply Kd.R_drewN | apply Kd.R_drew));exact HO_3.out⟩,⟨hb_⟩⟩
       ·rw [if_neg c9] at H
        exact absurd H (by simp)
      ·rw [if_neg c7] at H
       exact absurd H (by simp)
     ·rw [if_neg c6] at H
      have c6b0 : decide (x4_1 < (l0.length : Int)) = false:=decide_eq_false c6
      clear c6
      obtain rfl:=Option.some.inj H
      go_wp2
      go_ret
      exact ⟨_,by first | rfl | (simp [errW_none,errW_some] <;> rfl) | (simp [*,errW_none,errW_some] <;> rfl),by (with_reducible repeat (first | apply Kd.R_alloc | apply Kd.R_drewN | apply Kd.R_drew));exact HO_3.out,hb_⟩
  ·rw [if_neg c3] at H
   exact absurd H (by simp)
 ·rw [if_neg c2] at H
  exact absurd H (by simp)
theorem laws_toPartS_ev (t : List S57) (ht : t.length ≤ 1048576) : Ev (fun k=>laws_toPartS.f k t) (t.map toPart):=by
 have h:=st_loop (fun k acc i=>laws_toPartS.l0 k t acc i) t.length (fun i=>((t.take i).map toPart) ++ List.replicate (t.length - i) z55) (t.map toPart) (by
  intro k i hi
  simp only [laws_toPartS.l0,laws_toPart.f,Option.bind_some]
  rw [if_pos (by omega),if_pos (by omega),if_pos (by rw [fill_len _ _ _ _ (by omega)];omega),wrap_succ (i:=(i : Int)) (n:=t.length) (by omega) (by omega) (by omega)]
  have:=fill_at t toPart z57 z55 i hi
  rw [show ((i : Int) : Int).toNat = i by omega]
  rw [show (⟨(rd_T57 t (i : Int)).f0,(rd_T57 t (i : Int)).f1,(rd_T57 t (i : Int)).f2,(rd_T57 t (i : Int)).f3⟩ : S55) = toPart (t.getD i z57) from by simp [toPart,rd_T57],this]
  rfl) (by
  intro k
  simp only [laws_toPartS.l0]
  rw [if_neg (by omega)]
  simp)
 refine Ev.of_mono (laws_toPartS.mono t) (K:=t.length + 1) ?_
 unfold laws_toPartS.f
 rw [if_pos (by omega),if_pos (by omega)]
 simpa using h
end Go.Proofs.Ytbglafibhopleaa.P
namespace Go.Proofs.Ytbglafibhopleaa.P
open Go.RowKit Go.Proofs.YtbglafibhopleaaW.PrintWords Go.Proofs.YtbglafibhopleaaW.PrintLast Go.Proofs.YtbglafibhopleaaW.PrintMore
attribute [local go_sem] max2_int min2_int max_two min_two max_three min_three max_four min_four
set_option linter.unusedVariables false
set_option linter.unusedSimpArgs false
def impl_within.f (a0 : Int) (a1 : Int) (a2 : Int) : Option (Bool):=if a0 ≥ a1 then (some (decide (a0 ≤ a2))) else (some false)
set_option maxHeartbeats 8000000 in
set_option maxRecDepth 100000 in
theorem impl_within.calls (a0 : Int) (a1 : Int) (a2 : Int) (r : Bool) (w : World) (h : impl_within.f a0 a1 a2 = some r) :
  Calls Try.prog 63 #[.int .i64 a0,.int .i64 a1,.int .i64 a2] w fun e w'=>e = .returned (.bool r) ∧ Drawn0 w w':=by
 have H : (if a0 ≥ a1 then (some (decide (a0 ≤ a2))) else (some false)) = some r:=h
 clear h
 by_cases c4 : a0 ≥ a1
 ·rw [if_pos c4] at H
  have c4b0 : decide (a1 ≤ a0) = true:=decide_eq_true c4
  clear c4
  obtain rfl:=Option.some.inj H
  go_enter Try.func63,Try.ntmps63
  go_wp2
  go_ret
  exact ⟨by first | rfl | (simp;done) | (simp [*];done),by repeat (first | exact Drawn0.refl _ | apply Drawn0.step)⟩
 ·rw [if_neg c4] at H
  have c4b0 : decide (a1 ≤ a0) = false:=decide_eq_false c4
  clear c4
  obtain rfl:=Option.some.inj H
  go_enter Try.func63,Try.ntmps63
  go_wp2
  go_ret
  exact ⟨by first | rfl | (simp;done) | (simp [*];done),by repeat (first | exact Drawn0.refl _ | apply Drawn0.step)⟩
theorem impl_within_ev (a b c : Int) : impl_within.f a b c = some (decide (b ≤ a) && decide (a ≤ c)):=by
 unfold impl_within.f
 by_cases h : a ≥ b
 ·rw [if_pos h,decide_eq_true (show b ≤ a from h),Bool.true_and]
 ·rw [if_neg h,decide_eq_false (show ¬ b ≤ a from h),Bool.false_and]
end Go.Proofs.Ytbglafibhopleaa.P
namespace Go.Proofs.Ytbglafibhopleaa.P
open Go.RowKit Go.Proofs.YtbglafibhopleaaW.PrintWords Go.Proofs.YtbglafibhopleaaW.PrintLast Go.Proofs.YtbglafibhopleaaW.PrintMore
attribute [local go_sem] max2_int min2_int max_two min_two max_three min_three max_four min_four
set_option linter.unusedVariables false
set_option linter.unusedSimpArgs false
def impl_nameOk.l0 : Nat → ByteArray → Int → Int → Option (Bool)
 | 0,_,_,_=>none
 | k + 1,x0,x5,x6=>if x6 < x5 then (if 0 ≤ x6 then (if x6 < (x0.size : Int) then (if (bt x0 x6) < 97 then (some false) else (if (bt x0 x6) > 122 then (some false) else (impl_nameOk.l0 k x0 x5 (wrap64 (x6 + 1))))) else (none)) else (none)) else ((impl_within.f (x0.size : Int) 1 6).bind fun t1=>(some t1))
def impl_nameOk.f (k : Nat) (a0 : ByteArray) : Option (Bool):=impl_nameOk.l0 k a0 (a0.size : Int) 0
theorem impl_nameOk.mono_l : ∀ k,(∀ y0 y1 y2,LeO (impl_nameOk.l0 k y0 y1 y2) (impl_nameOk.l0 (k + 1) y0 y1 y2))
 | 0=>fun _ _ _ r h=>by simp [impl_nameOk.l0] at h
 | k + 1=>by
  have ih0:=impl_nameOk.mono_l k
  ·intro y0 y1 y2
   unfold impl_nameOk.l0
   repeat' first
   | (with_reducible exact ih0 _ _ _)
   | (with_reducible exact LeO.refl _)
   | (with_reducible exact LeO.none _)
   | (with_reducible refine LeO.ite ?_ ?_)
   | (with_reducible refine LeO.bind ?_ (fun _=>?_))
   | exact ih0 _ _ _
   | exact LeO.none _
   | refine LeO.ite ?_ ?_
   | refine LeO.bind ?_ (fun _=>?_)
theorem impl_nameOk.mono : ∀ a0 k,LeO (impl_nameOk.f k a0) (impl_nameOk.f (k + 1) a0):=by
 intro a0 k
 have ih0:=impl_nameOk.mono_l k
 unfold impl_nameOk.f
 repeat' first
   | (with_reducible exact ih0 _ _ _)
   | (with_reducible exact LeO.refl _)
   | (with_reducible exact LeO.none _)
   | (with_reducible refine LeO.ite ?_ ?_)
   | (with_reducible refine LeO.bind ?_ (fun _=>?_))
   | exact ih0 _ _ _
   | exact LeO.none _
   | refine LeO.ite ?_ ?_
   | refine LeO.bind ?_ (fun _=>?_)
set_option maxHeartbeats 8000000 in
set_option maxRecDepth 100000 in
theorem impl_nameOk.calls (k : Nat) (a0 : ByteArray) (r : Bool) (w : World) (h : impl_nameOk.f k a0 = some r) :
  Calls Try.prog 61 #[.string a0] w fun e w'=>e = .returned (.bool r) ∧ Drawn0 w w':=by
 have H : (impl_nameOk.l0 k a0 (a0.size : Int) 0) = some r:=h
 clear h
 have H':=a0_ H
 clear H
 go_enter Try.func61,Try.ntmps61
 go_wp2
 go_loopg [6] k (fun kq v6 w'=>∃ (x6_1 : Int),v6 = .int .i64 x6_1 ∧ Aside0 (impl_nameOk.l0 kq a0 (a0.size : Int) x6_1 = some r) ∧ Aside0 (kq ≤ k) ∧ Drawn0 w w')
 case atStart=>exact ⟨(0),(by first | rfl | (simp;done) | (simp [*];done)),H',⟨Nat.le_refl _⟩,by repeat (first | exact Drawn0.refl _ | apply Drawn0.step)⟩
 case round =>
  clear H'
  obtain ⟨x6_1,rfl,HA,HK1,⟨m1,rfl⟩⟩:=hrel
  cases gk with
  | zero=>exact absurd HA.out (by simp [impl_nameOk.l0])
  | succ k1 =>
   have H:=HA.out
   clear HA
   simp only [impl_nameOk.l0] at H
   by_cases c2 : x6_1 < (a0.size : Int)
   ·rw [if_pos c2] at H
    have c2b0 : decide (x6_1 < (a0.size : Int)) = true:=decide_eq_true c2
    clear c2
    by_cases c3 : 0 ≤ x6_1
    ·rw [if_pos c3] at H
     have c3b0 : decide (0 ≤ x6_1) = true:=decide_eq_true c3
     clear c3
     by_cases c4 : x6_1 < (a0.size : Int)
     ·rw [if_pos c4] at H
      have c4b0 : decide (x6_1 < (a0.size : Int)) = true:=decide_eq_true c4
      clear c4
      by_cases c6 : (bt a0 x6_1) < 97
      ·rw [if_pos c6] at H
       have c6b0 : decide ((bt a0 x6_1) < 97) = true:=decide_eq_true c6
       clear c6
       obtain rfl:=Option.some.inj H
       have p5 : 0 ≤ (x6_1 : Int):=of_decide_eq_true (by first | (with_reducible assumption) | assumption)
       have q5 : x6_1 < (a0.size : Int):=of_decide_eq_true (by first | (with_reducible assumption) | assumption)
       have hx5:=bt_at a0 x6_1
       replace p5:=eq_true p5
       replace q5:=eq_true q5
       go_wp2
       go_ret
       exact ⟨by first | rfl | (simp;done) | (simp [*];done),by repeat (first | exact Drawn0.refl _ | apply Drawn0.step)⟩
      ·rw [if_neg c6] at H
       have c6b0 : decide ((bt a0 x6_1) < 97) = false:=decide_eq_false c6
       clear c6
       by_cases c8 : (bt a0 x6_1) > 122
       ·rw [if_pos c8] at H
        have c8b0 : decide (122 < (bt a0 x6_1)) = true:=decide_eq_true c8
        clear c8
        obtain rfl:=Option.some.inj H
        have p5 : 0 ≤ (x6_1 : Int):=of_decide_eq_true (by first | (with_reducible assumption) | assumption)
        have q5 : x6_1 < (a0.size : Int):=of_decide_eq_true (by first | (with_reducible assumption) | assumption)
        have hx5:=bt_at a0 x6_1
        replace p5:=eq_true p5
        replace q5:=eq_true q5
        have p7 : 0 ≤ (x6_1 : Int):=of_decide_eq_true (by first | (with_reducible assumption) | assumption)
        have q7 : x6_1 < (a0.size : Int):=of_decide_eq_true (by first | (with_reducible assumption) | assumption)
        have hx7:=bt_at a0 x6_1
        replace p7:=eq_true p7
        replace q7:=eq_true q7
        go_wp2
        go_ret
        exact ⟨by first | rfl | (simp;done) | (simp [*];done),by repeat (first | exact Drawn0.refl _ | apply Drawn0.step)⟩
       ·rw [if_neg c8] at H
        have c8b0 : decide (122 < (bt a0 x6_1)) = false:=decide_eq_false c8
        clear c8
        have H':=a0_ H
        clear H
        have p5 : 0 ≤ (x6_1 : Int):=of_decide_eq_true (by first | (with_reducible assumption) | assumption)
        have q5 : x6_1 < (a0.size : Int):=of_decide_eq_true (by first | (with_reducible assumption) | assumption)
        have hx5:=bt_at a0 x6_1
        replace p5:=eq_true p5
        replace q5:=eq_true q5
        have p7 : 0 ≤ (x6_1 : Int):=of_decide_eq_true (by first | (with_reducible assumption) | assumption)
        have q7 : x6_1 < (a0.size : Int):=of_decide_eq_true (by first | (with_reducible assumption) | assumption)
        have hx7:=bt_at a0 x6_1
        replace p7:=eq_true p7
        replace q7:=eq_true q7
        go_wp2
        go_roundg k1
        case measure=>have:=HK1.out;omega
        case rel=>exact ⟨(wrap64 (x6_1 + 1)),(by first | rfl | (simp;done) | (simp [*];done)),H',⟨by have:=HK1.out;omega⟩,by repeat (first | exact Drawn0.refl _ | apply Drawn0.step)⟩
     ·rw [if_neg c4] at H
      exact absurd H (by simp)
    ·rw [if_neg c3] at H
     exact absurd H (by simp)
   ·rw [if_neg c2] at H
    have c2b0 : decide (x6_1 < (a0.size : Int)) = false:=decide_eq_false c2
    clear c2
    replace H:=Option.bind_eq_some_iff.mp H
    obtain ⟨t1,A90,H⟩:=H
    replace H : (some t1) = some r:=H
    have A9:=a0_ A90
    clear A90
    obtain rfl:=Option.some.inj H
    go_wp2_with (first | ((with_reducible refine gate_callee (f:=63) rfl ?_);refine goesL_ (some 22) rfl rfl Try.func63 (by kernel_rfl) rfl #[.int .i64 (a0.size : Int),.int .i64 1,.int .i64 6] rfl lm_ ?_;(with_reducible refine (impl_within.calls (a0.size : Int) 1 6 t1 _ A9.out).mono ?_);rintro e w' ⟨rfl,⟨nd,rfl⟩⟩;refine ⟨_,rfl,?_⟩))
    go_ret
    exact ⟨by first | rfl | (simp;done) | (simp [*];done),by repeat (first | exact Drawn0.refl _ | apply Drawn0.step)⟩
theorem impl_nameOk_l0 (s : ByteArray) (hs : s.size ≤ 9223372036854775807) (d : Nat) : ∀ (k : Nat) (i : Nat),i ≤ s.size → s.size - i = d → d < k → impl_nameOk.l0 k s (s.size : Int) (i : Int) = some ((s.data.toList.drop i).all (fun c=>decide (97 ≤ c.toNat) && decide (c.toNat ≤ 122)) && (decide (1 ≤ s.size) && decide (s.size ≤ 6))):=by
 induction d with
 | zero =>
  intro k i hi hd hk
  obtain ⟨k,rfl⟩ : ∃ m,k = m + 1:=⟨k - 1,by omega⟩
  simp only [impl_nameOk.l0]
  rw [if_neg (by omega)]
  have : s.data.toList.drop i = []:=by
   apply List.drop_eq_nil_of_le
   have : s.data.toList.length = s.size:=toL_len s
   omega
  rw [this]
  simp only [impl_within.f,List.all_nil,Bool.true_and]
  by_cases h1 : 1 ≤ s.size
  ·rw [if_pos (show (s.size : Int) ≥ 1 by omega)]
   by_cases h2 : s.size ≤ 6
   ·simp [h1,h2];omega
   ·simp [h2];omega
  ·rw [if_neg (show ¬ (s.size : Int) ≥ 1 by omega)];simp [h1]
 | succ d ih =>
  intro k i hi hd hk
  obtain ⟨k,rfl⟩ : ∃ m,k = m + 1:=⟨k - 1,by omega⟩
  have hlt : i < s.size:=by omega
  have hl : s.data.toList.length = s.size:=toL_len s
  simp only [impl_nameOk.l0]
  rw [if_pos (show (i : Int) < (s.size : Int) by omega),if_pos (show (0 : Int) ≤ (i : Int) by omega),if_pos (show (i : Int) < (s.size : Int) by omega),bt_getElem s i hlt]
  have hd2 : s.data.toList.drop i = s[i] :: s.data.toList.drop (i + 1):=by
   rw [List.drop_eq_getElem_cons (by omega)]
   congr 1
  rw [hd2,List.all_cons]
  by_cases h1 : (s[i].toNat : Int) < 97
  ·rw [if_pos h1];have : ¬ 97 ≤ s[i].toNat:=by omega
   simp [this]
  ·rw [if_neg h1]
   by_cases h2 : (s[i].toNat : Int) > 122
   ·rw [if_pos h2];have : ¬ s[i].toNat ≤ 122:=by omega
    simp [this]
   ·rw [if_neg h2,wrap_succ (n:=s.size) (by omega) (by omega) (by omega)]
    have:=ih k (i + 1) (by omega) (by omega) (by omega)
    rw [show ((i : Int) + 1) = ((i + 1 : Nat) : Int) by omega,this]
    have a : 97 ≤ s[i].toNat:=by omega
    have b : s[i].toNat ≤ 122:=by omega
    simp [a,b]
theorem impl_nameOk_ev (s : ByteArray) (hs : s.size ≤ 9223372036854775807) : impl_nameOk.f (s.size + 1) s = some (okName s):=by
 unfold impl_nameOk.f okName
 have:=impl_nameOk_l0 s hs s.size (s.size + 1) 0 (by omega) (by omega) (by omega)
 simpa using this
end Go.Proofs.Ytbglafibhopleaa.P
namespace Go.Proofs.Ytbglafibhopleaa.P
open Go.RowKit Go.Proofs.YtbglafibhopleaaW.PrintWords Go.Proofs.YtbglafibhopleaaW.PrintLast Go.Proofs.YtbglafibhopleaaW.PrintMore
attribute [local go_sem] max2_int min2_int max_two min_two max_three min_three max_four min_four
set_option linter.unusedVariables false
set_option linter.unusedSimpArgs false
set_option maxHeartbeats 2000000 in
theorem slices_IndexFunc_Class.callsF (A : Option Addr) (c : Nat) (l : List S72) (g : Nat) (lb : Array Value) (p : S72 → Bool) (w : World) (eg : ∀ args w,(callFunc g args).run Try.prog w = .ok (.enter g args) w)
  (hr : Kd.C k72 w A l.length l) (hc : l.length ≤ c) (hp : ∀ x,x ∈ l → ∀ W,Below w.heap.size w W → Calls Try.prog g (#[.agg #[.string x.f0,.int .i64 x.f1]] ++ lb) W fun e w'=>e = .returned (.bool (p x)) ∧ Below W.heap.size W w') :
  Calls Try.prog 66 #[.slice A l.length c,.func (.func g) #[] lb] w fun e w'=>e = .returned (.int .i64 (idxP p l)) ∧ Below w.heap.size w w':=by
 have HR:=a0_ hr
 have HP:=a0_ hp
 have hmax : l.length ≤ 9223372036854775807:=hr.2.1
 clear hr hp hc
 go_enter Try.func66,Try.ntmps66
 go_wp2
 go_loopg [5,8] l.length (fun gg _ s8 wr=>∃ kk : Nat,kk ≤ l.length ∧ l.length - kk ≤ gg ∧ s8 = .int .i64 kk ∧ Aside0 (Below w.heap.size w wr) ∧ Aside0 (∀ j (hj : j < l.length),j < kk → p l[j] = false))
 case atStart=>exact ⟨0,Nat.zero_le _,by omega,rfl,⟨Below.refl _ w⟩,⟨fun j _ hj=>absurd hj (Nat.not_lt_zero _)⟩⟩
 case round =>
  obtain ⟨kk,hkk,hg,rfl,BW,HA⟩:=hrel
  by_cases hlt : kk < l.length
  ·have hltz : (kk : Int) < (l.length : Int):=by omega
   obtain ⟨ad,ea,hx0,hx1⟩:=at_T72 HR.out (kk : Int) (by omega) (by omega)
   cases ea
   have hrd : rd_T72 l (kk : Int) = l[kk]:=by simp [rd_T72,hlt]
   rw [hrd] at hx0 hx1
   rw [Int.toNat_natCast] at hx0 hx1
   replace hx0:=(BW.out.cell (World.block_lt_of_cell? w _ hx0)).trans hx0
   replace hx1:=(BW.out.cell (World.block_lt_of_cell? w _ hx1)).trans hx1
   have hcall:=HP.out l[kk] (List.getElem_mem hlt) wr BW.out
   clear hrd
   generalize hy : l[kk] = y at hx0 hx1 hcall
   have B:=a0_ hy
   clear hy
   cases hq : p y with
   | true =>
    rw [hq] at hcall
    go_wp2_with (go_at_fn g;refine hcall.mono ?_;rintro e w' ⟨rfl,hb'⟩)
    go_ret
    refine ⟨?_,below_step BW.out hb'⟩
    rw [idxP_hit p l kk hlt (by rw [B.out];exact hq) HA.out];rfl
   | false =>
    rw [hq] at hcall
    go_wp2_with (go_at_fn g;refine hcall.mono ?_;rintro e w' ⟨rfl,hb'⟩)
    go_roundg (l.length - (kk + 1))
    case measure=>omega
    case rel =>
     refine ⟨kk + 1,by omega,by omega,by go_num,⟨below_step BW.out hb'⟩,⟨fun j hj hjk=>?_⟩⟩
     by_cases e : j = kk
     ·subst e
      rw [B.out];exact hq
     ·exact HA.out j hj (by omega)
  ·have hltz : ¬ (kk : Int) < (l.length : Int):=by omega
   have : kk = l.length:=by omega
   subst this
   go_wp2
   go_ret
   refine ⟨?_,BW.out⟩
   rw [idxP_miss p l (fun j hj=>HA.out j hj hj)];rfl
end Go.Proofs.Ytbglafibhopleaa.P
namespace Go.Proofs.Ytbglafibhopleaa.P
open Go.RowKit Go.Proofs.YtbglafibhopleaaW.PrintWords Go.Proofs.YtbglafibhopleaaW.PrintLast Go.Proofs.YtbglafibhopleaaW.PrintMore
attribute [local go_sem] max2_int min2_int max_two min_two max_three min_three max_four min_four
set_option linter.unusedVariables false
set_option linter.unusedSimpArgs false
theorem impl_Tree_named_1.callsF (B : Nat) (nm : ByteArray) (x : S72) (w : World) (hB : w.heap[B]? = some (.cells #[.string nm] 9 (0,0))) :
  Calls Try.prog 67 #[.agg #[.string x.f0,.int .i64 x.f1],.pointer (some ⟨B,0,none⟩)] w fun e w'=>e = .returned (.bool (x.f0.toList == nm.toList)) ∧ Below w.heap.size w w':=by
 have hc : w.cell? ⟨B,0,none⟩ = some (.string nm):=(blk_cell hB 0).trans rfl
 have hlt : B < w.heap.size:=(Array.getElem?_eq_some_iff.1 hB).1
 have hne : B ≠ w.heap.size:=by omega
 clear hB
 go_enter Try.func67,Try.ntmps67
 go_wp2
 all_goals (go_ret;exact ⟨by simp_all,(Below.refl _ w).alloc (Nat.le_refl _) _⟩)
end Go.Proofs.Ytbglafibhopleaa.P
namespace Go.Proofs.Ytbglafibhopleaa.P
open Go.RowKit Go.Proofs.YtbglafibhopleaaW.PrintWords Go.Proofs.YtbglafibhopleaaW.PrintLast Go.Proofs.YtbglafibhopleaaW.PrintMore
attribute [local go_sem] max2_int min2_int max_two min_two max_three min_three max_four min_four
set_option linter.unusedVariables false
set_option linter.unusedSimpArgs false
def impl_Tree_named.f (l0_0 : List (S72)) (a1 : ByteArray) : Option Int:=some (idxP (fun x : S72=>x.f0.toList == a1.toList) l0_0)
set_option maxHeartbeats 2000000 in
theorem impl_Tree_named.calls (A0_0 : Option Addr) (c0_0 : Nat) (l0_0 : List (S72)) (a1 : ByteArray) (r : Int) (w : World) (hr0_0 : Kd.C k72 w A0_0 l0_0.length l0_0) (hc0_0 : l0_0.length ≤ c0_0) (h : impl_Tree_named.f l0_0 a1 = some r) :
  Calls Try.prog 62 #[.agg #[.slice A0_0 l0_0.length c0_0],.string a1] w fun e w'=>e = .returned (.int .i64 r) ∧ Below w.heap.size w w':=by
 obtain rfl:=Option.some.inj h
 clear h
 have hu31:=Try.underlying32
 have eg : ∀ args w,(callFunc 67 args).run Try.prog w = .ok (.enter 67 args) w:=enters_of Try.func67 (by kernel_rfl) rfl
 have hcon:=fun (W : World) (hb : Below w.heap.size w W) (hB : W.heap[w.heap.size + 1]? = some (.cells #[.string a1] 9 (0,0)))=>slices_IndexFunc_Class.callsF A0_0 c0_0 l0_0 67 #[.pointer (some ⟨w.heap.size + 1,0,none⟩)] (fun x=>x.f0.toList == a1.toList) W eg (Kd.C_below hr0_0 hb) hc0_0 (fun x _ W' hW=>by
  have:=impl_Tree_named_1.callsF (w.heap.size + 1) a1 x W' (blk_keptB hB hW)
  simpa using this)
 clear hr0_0 hc0_0
 generalize idxP (fun x : S72=>x.f0.toList == a1.toList) l0_0 = r at hcon ⊢
 have HC:=a0_ hcon
 clear hcon
 go_enter Try.func62,Try.ntmps62
 go_wp2_with (go_at_call 66;refine (HC.out _ ?hb ?hB).mono ?_;(case hb=>exact below2 w _ _);(case hB=>exact heap_new2 w _ _);rintro e w' ⟨rfl,hb'⟩)
 go_ret
 exact ⟨rfl,(below2 w _ _).trans (hb'.mono (by simp;omega))⟩
end Go.Proofs.Ytbglafibhopleaa.P
namespace Go.Proofs.Ytbglafibhopleaa.P
open Go.RowKit Go.Proofs.YtbglafibhopleaaW.PrintWords Go.Proofs.YtbglafibhopleaaW.PrintLast Go.Proofs.YtbglafibhopleaaW.PrintMore
attribute [local go_sem] max2_int min2_int max_two min_two max_three min_three max_four min_four
set_option linter.unusedVariables false
set_option linter.unusedSimpArgs false
def impl_ValidTree.f (l0_0 : List (S72)) : Option Bool:=if smT l0_0 = true then some (vT l0_0) else none
set_option maxHeartbeats 4000000 in
set_option maxRecDepth 100000 in
theorem impl_ValidTree.calls (A0_0 : Option Addr) (c0_0 : Nat) (l0_0 : List (S72)) (r : Bool) (w : World) (hr0_0 : Kd.C k72 w A0_0 l0_0.length l0_0) (hc0_0 : l0_0.length ≤ c0_0) (h : impl_ValidTree.f l0_0 = some r) :
  Calls Try.prog 49 #[.agg #[.slice A0_0 l0_0.length c0_0]] w fun e w'=>e = .returned (.bool r) ∧ Below w.heap.size w w':=by
 have hu31:=Try.underlying32
 have hsm : smT l0_0 = true:=by
  apply Classical.byContradiction
  intro hn
  rw [impl_ValidTree.f,if_neg hn] at h
  cases h
 rw [impl_ValidTree.f,if_pos hsm] at h
 have HRr:=a0_ (Option.some.inj h)
 have HSM:=a0_ hsm
 have HR:=a0_ hr0_0
 have hmax : l0_0.length ≤ 9223372036854775807:=hr0_0.2.1
 clear h hsm hr0_0
 go_enter Try.func49,Try.ntmps49
 go_wp2
 go_loopg [8] l0_0.length (fun gg s8 wr=>∃ kk : Nat,kk ≤ l0_0.length ∧ l0_0.length - kk ≤ gg ∧ s8 = .int .i64 kk ∧ Aside0 (Below w.heap.size w wr) ∧ Aside0 (wr.heap[w.heap.size]? = some (.cells #[.slice A0_0 l0_0.length c0_0] 32 (0,0))) ∧ Aside0 (∀ j,j < kk → okCls l0_0 j (l0_0.getD j z72) = true))
 case atStart=>exact ⟨0,Nat.zero_le _,by omega,rfl,⟨below1 w _⟩,⟨heap_new1 w _⟩,⟨fun j hj=>absurd hj (Nat.not_lt_zero _)⟩⟩
 case round =>
  obtain ⟨kk,hkk,hg,rfl,BW,BK,HA⟩:=hrel
  have hcz : wr.cell? ⟨w.heap.size,0,none⟩ = some (.slice A0_0 l0_0.length c0_0):=(blk_cell BK.out 0).trans rfl
  by_cases hlt : kk < l0_0.length
  ·have hltz : (kk : Int) < (l0_0.length : Int):=by omega
   obtain ⟨ad,ea,hx0,hx1⟩:=at_T72 HR.out (kk : Int) (by omega) (by omega)
   cases ea
   have hrd : rd_T72 l0_0 (kk : Int) = l0_0[kk]:=by simp [rd_T72,hlt]
   rw [hrd] at hx0 hx1
   rw [Int.toNat_natCast] at hx0 hx1
   replace hx0:=(BW.out.cell (World.block_lt_of_cell? w _ hx0)).trans hx0
   replace hx1:=(BW.out.cell (World.block_lt_of_cell? w _ hx1)).trans hx1
   clear hrd
   generalize hy : l0_0[kk] = y at hx0 hx1
   have B:=a0_ hy
   clear hy
   go_upto_region 4 with (fail)
   have hW1:=a0_ (below_alloc BW.out (.cells #[.string y.f0,.int .i64 y.f1] 72))
   have hW2:=a0_ (blk_alloc BK.out (.cells #[.string y.f0,.int .i64 y.f1] 72))
   have hW3:=(blk_cell hW2.out 0).trans rfl
   have hW4:=(blk_cell (heap_new1 wr (.cells #[.string y.f0,.int .i64 y.f1] 72)) 0).trans rfl
   have hW5:=(blk_cell (heap_new1 wr (.cells #[.string y.f0,.int .i64 y.f1] 72)) 1).trans rfl
   clear hcz hx0 hx1 BW BK
   generalize wr.alloc (.cells #[.string y.f0,.int .i64 y.f1] 72) = W1 at hW1 hW2 hW3 hW4 hW5 ⊢
   generalize wr.heap.size = gb at hW4 hW5 ⊢
   have hy1 : y.f0.size ≤ 9223372036854775806:=by rw [← B.out];exact smT_at HSM.out kk hlt
   have A1:=a0_ (impl_nameOk_ev y.f0 (by omega))
   have hcn0:=fun (W : World) (hW : Below w.heap.size w W)=>impl_Tree_named.calls (some ad) c0_0 l0_0 y.f0 (named l0_0 y.f0) W (Kd.C_below HR.out hW) hc0_0 rfl
   have hok : okCls l0_0 kk (l0_0.getD kk z72) = okCls l0_0 kk y:=by
    rw [← B.out];simp [List.getD,hlt]
   have hdef : okCls l0_0 kk y = (okName y.f0 && (decide (named l0_0 y.f0 = (kk : Int)) && (if kk = 0 then decide (y.f1 = -1) else decide (0 ≤ y.f1) && decide (y.f1 ≤ (kk : Int) - 1)))):=rfl
   generalize named l0_0 y.f0 = nn at hcn0 hdef
   have HCN:=a0_ hcn0
   have HOK:=a0_ hok
   have HDF:=a0_ hdef
   clear hcn0 hok hdef hy1
   go_cut [45] (fun v45 wc=>v45 = .bool (!okCls l0_0 kk y) ∧ Aside0 (Below w.heap.size w wc) ∧ Aside0 (wc.heap[w.heap.size]? = some (.cells #[.slice (some ad) l0_0.length c0_0] 32 (0,0))))
   case first =>
    have hw1 : IntKind.i64.wrap ((kk : Int) - 1) = (kk : Int) - 1:=by rw [IntKind.wrap_i64];omega
    have A2:=a0_ (show impl_within.f y.f1 0 ((kk : Int) - 1) = some (decide (0 ≤ y.f1) && decide (y.f1 ≤ (kk : Int) - 1)) by
     unfold impl_within.f
     by_cases h0 : 0 ≤ y.f1
     ·rw [if_pos h0];simp [h0]
     ·rw [if_neg h0];simp [h0])
    cases hb1 : okName y.f0 with
    | false =>
     rw [hb1] at A1
     have BV : okCls l0_0 kk y = false:=by rw [HDF.out,hb1];rfl
     clear HDF HOK
     go_wp2_with (first
     | (go_at_call 61;(with_reducible refine (impl_nameOk.calls _ y.f0 _ _ A1.out).mono ?_);rintro e w' ⟨rfl,hd⟩;have hb:=drawn_below hd;replace hW3:=pw_cell_below hb hW3;replace hW4:=pw_cell_below hb hW4;replace hW5:=pw_cell_below hb hW5;replace hW1:=a0_ (below_step hW1.out hb);replace hW2:=a0_ (blk_keptB hW2.out hb);clear hb hd)
     | (go_at_call 62;(with_reducible refine (HCN.out _ hW1.out).mono ?_);rintro e w' ⟨rfl,hb⟩;replace hW3:=pw_cell_below hb hW3;replace hW4:=pw_cell_below hb hW4;replace hW5:=pw_cell_below hb hW5;replace hW1:=a0_ (below_step hW1.out hb);replace hW2:=a0_ (blk_keptB hW2.out hb);clear hb)
     | (go_at_call 63;(with_reducible refine (impl_within.calls y.f1 0 ((kk : Int) - 1) _ _ A2.out).mono ?_);rintro e w' ⟨rfl,hd⟩;have hb:=drawn_below hd;replace hW3:=pw_cell_below hb hW3;replace hW4:=pw_cell_below hb hW4;replace hW5:=pw_cell_below hb hW5;replace hW1:=a0_ (below_step hW1.out hb);replace hW2:=a0_ (blk_keptB hW2.out hb);clear hb hd))
     go_meet
     case rel=>exact ⟨by (rw [BV]);first | rfl | (simp [*];done),⟨hW1.out⟩,⟨hW2.out⟩⟩
    | true =>
     rw [hb1] at A1
     by_cases hb2 : nn ≠ (kk : Int)
     ·have BV : okCls l0_0 kk y = false:=by rw [HDF.out,hb1,decide_eq_false hb2];rfl
      have d2 : (nn != (kk : Int)) = true:=bne_iff_ne.2 hb2
      have d2' : (nn == (kk : Int)) = false:=beq_eq_false_iff_ne.2 hb2
      clear HDF HOK hb2
      go_wp2_with (first
     | (go_at_call 61;(with_reducible refine (impl_nameOk.calls _ y.f0 _ _ A1.out).mono ?_);rintro e w' ⟨rfl,hd⟩;have hb:=drawn_below hd;replace hW3:=pw_cell_below hb hW3;replace hW4:=pw_cell_below hb hW4;replace hW5:=pw_cell_below hb hW5;replace hW1:=a0_ (below_step hW1.out hb);replace hW2:=a0_ (blk_keptB hW2.out hb);clear hb hd)
     | (go_at_call 62;(with_reducible refine (HCN.out _ hW1.out).mono ?_);rintro e w' ⟨rfl,hb⟩;replace hW3:=pw_cell_below hb hW3;replace hW4:=pw_cell_below hb hW4;replace hW5:=pw_cell_below hb hW5;replace hW1:=a0_ (below_step hW1.out hb);replace hW2:=a0_ (blk_keptB hW2.out hb);clear hb)
     | (go_at_call 63;(with_reducible refine (impl_within.calls y.f1 0 ((kk : Int) - 1) _ _ A2.out).mono ?_);rintro e w' ⟨rfl,hd⟩;have hb:=drawn_below hd;replace hW3:=pw_cell_below hb hW3;replace hW4:=pw_cell_below hb hW4;replace hW5:=pw_cell_below hb hW5;replace hW1:=a0_ (below_step hW1.out hb);replace hW2:=a0_ (blk_keptB hW2.out hb);clear hb hd))
      go_meet
      case rel=>exact ⟨by (rw [BV]);first | rfl | (simp [*];done),⟨hW1.out⟩,⟨hW2.out⟩⟩
     ·have hnm : nn = (kk : Int):=Classical.byContradiction fun hn=>hb2 hn
      have d2 : (nn != (kk : Int)) = false:=bne_eq_false_iff_eq.2 hnm
      have d2' : (nn == (kk : Int)) = true:=beq_iff_eq.2 hnm
      have BV0 : okCls l0_0 kk y = (if kk = 0 then decide (y.f1 = -1) else decide (0 ≤ y.f1) && decide (y.f1 ≤ (kk : Int) - 1)):=by rw [HDF.out,hb1,decide_eq_true hnm];rfl
      clear HDF HOK hb2 hnm
      by_cases hk0 : kk = 0
      ·have BV : okCls l0_0 kk y = decide (y.f1 = -1):=by rw [BV0,if_pos hk0]
       have e0 : ((kk : Int) == 0) = true:=beq_iff_eq.2 (by omega)
       have e1 : decide (0 < (kk : Int)) = false:=decide_eq_false (by omega)
       have e1n : decide (0 < kk) = false:=decide_eq_false (by omega)
       clear BV0
       by_cases hp : y.f1 = -1
       ·have e2 : (y.f1 != -1) = false:=by rw [hp];rfl
        have e3 : (y.f1 == -1) = true:=by rw [hp];rfl
        rw [decide_eq_true hp] at BV
        clear hp hk0
        go_wp2_with (first
     | (go_at_call 61;(with_reducible refine (impl_nameOk.calls _ y.f0 _ _ A1.out).mono ?_);rintro e w' ⟨rfl,hd⟩;have hb:=drawn_below hd;replace hW3:=pw_cell_below hb hW3;replace hW4:=pw_cell_below hb hW4;replace hW5:=pw_cell_below hb hW5;replace hW1:=a0_ (below_step hW1.out hb);replace hW2:=a0_ (blk_keptB hW2.out hb);clear hb hd)
     | (go_at_call 62;(with_reducible refine (HCN.out _ hW1.out).mono ?_);rintro e w' ⟨rfl,hb⟩;replace hW3:=pw_cell_below hb hW3;replace hW4:=pw_cell_below hb hW4;replace hW5:=pw_cell_below hb hW5;replace hW1:=a0_ (below_step hW1.out hb);replace hW2:=a0_ (blk_keptB hW2.out hb);clear hb)
     | (go_at_call 63;(with_reducible refine (impl_within.calls y.f1 0 ((kk : Int) - 1) _ _ A2.out).mono ?_);rintro e w' ⟨rfl,hd⟩;have hb:=drawn_below hd;replace hW3:=pw_cell_below hb hW3;replace hW4:=pw_cell_below hb hW4;replace hW5:=pw_cell_below hb hW5;replace hW1:=a0_ (below_step hW1.out hb);replace hW2:=a0_ (blk_keptB hW2.out hb);clear hb hd))
        go_meet
        case rel=>exact ⟨by (rw [BV]);first | rfl | (simp [*];done),⟨hW1.out⟩,⟨hW2.out⟩⟩
       ·have e2 : (y.f1 != -1) = true:=bne_iff_ne.2 hp
        have e3 : (y.f1 == -1) = false:=beq_eq_false_iff_ne.2 hp
        rw [decide_eq_false hp] at BV
        clear hp hk0
        go_wp2_with (first
     | (go_at_call 61;(with_reducible refine (impl_nameOk.calls _ y.f0 _ _ A1.out).mono ?_);rintro e w' ⟨rfl,hd⟩;have hb:=drawn_below hd;replace hW3:=pw_cell_below hb hW3;replace hW4:=pw_cell_below hb hW4;replace hW5:=pw_cell_below hb hW5;replace hW1:=a0_ (below_step hW1.out hb);replace hW2:=a0_ (blk_keptB hW2.out hb);clear hb hd)
     | (go_at_call 62;(with_reducible refine (HCN.out _ hW1.out).mono ?_);rintro e w' ⟨rfl,hb⟩;replace hW3:=pw_cell_below hb hW3;replace hW4:=pw_cell_below hb hW4;replace hW5:=pw_cell_below hb hW5;replace hW1:=a0_ (below_step hW1.out hb);replace hW2:=a0_ (blk_keptB hW2.out hb);clear hb)
     | (go_at_call 63;(with_reducible refine (impl_within.calls y.f1 0 ((kk : Int) - 1) _ _ A2.out).mono ?_);rintro e w' ⟨rfl,hd⟩;have hb:=drawn_below hd;replace hW3:=pw_cell_below hb hW3;replace hW4:=pw_cell_below hb hW4;replace hW5:=pw_cell_below hb hW5;replace hW1:=a0_ (below_step hW1.out hb);replace hW2:=a0_ (blk_keptB hW2.out hb);clear hb hd))
        go_meet
        case rel=>exact ⟨by (rw [BV]);first | rfl | (simp [*];done),⟨hW1.out⟩,⟨hW2.out⟩⟩
      ·have BV : okCls l0_0 kk y = (decide (0 ≤ y.f1) && decide (y.f1 ≤ (kk : Int) - 1)):=by rw [BV0,if_neg hk0]
       have e0 : ((kk : Int) == 0) = false:=beq_eq_false_iff_ne.2 (by omega)
       have e1 : decide (0 < (kk : Int)) = true:=decide_eq_true (by omega)
       have e1n : decide (0 < kk) = true:=decide_eq_true (by omega)
       rw [← BV] at A2
       clear BV BV0 hk0
       cases BV : okCls l0_0 kk y with
       | false =>
        rw [BV] at A2
        go_wp2_with (first
     | (go_at_call 61;(with_reducible refine (impl_nameOk.calls _ y.f0 _ _ A1.out).mono ?_);rintro e w' ⟨rfl,hd⟩;have hb:=drawn_below hd;replace hW3:=pw_cell_below hb hW3;replace hW4:=pw_cell_below hb hW4;replace hW5:=pw_cell_below hb hW5;replace hW1:=a0_ (below_step hW1.out hb);replace hW2:=a0_ (blk_keptB hW2.out hb);clear hb hd)
     | (go_at_call 62;(with_reducible refine (HCN.out _ hW1.out).mono ?_);rintro e w' ⟨rfl,hb⟩;replace hW3:=pw_cell_below hb hW3;replace hW4:=pw_cell_below hb hW4;replace hW5:=pw_cell_below hb hW5;replace hW1:=a0_ (below_step hW1.out hb);replace hW2:=a0_ (blk_keptB hW2.out hb);clear hb)
     | (go_at_call 63;(with_reducible refine (impl_within.calls y.f1 0 ((kk : Int) - 1) _ _ A2.out).mono ?_);rintro e w' ⟨rfl,hd⟩;have hb:=drawn_below hd;replace hW3:=pw_cell_below hb hW3;replace hW4:=pw_cell_below hb hW4;replace hW5:=pw_cell_below hb hW5;replace hW1:=a0_ (below_step hW1.out hb);replace hW2:=a0_ (blk_keptB hW2.out hb);clear hb hd))
        go_meet
        case rel=>exact ⟨by (rw [BV]);first | rfl | (simp [*];done),⟨hW1.out⟩,⟨hW2.out⟩⟩
       | true =>
        rw [BV] at A2
        go_wp2_with (first
     | (go_at_call 61;(with_reducible refine (impl_nameOk.calls _ y.f0 _ _ A1.out).mono ?_);rintro e w' ⟨rfl,hd⟩;have hb:=drawn_below hd;replace hW3:=pw_cell_below hb hW3;replace hW4:=pw_cell_below hb hW4;replace hW5:=pw_cell_below hb hW5;replace hW1:=a0_ (below_step hW1.out hb);replace hW2:=a0_ (blk_keptB hW2.out hb);clear hb hd)
     | (go_at_call 62;(with_reducible refine (HCN.out _ hW1.out).mono ?_);rintro e w' ⟨rfl,hb⟩;replace hW3:=pw_cell_below hb hW3;replace hW4:=pw_cell_below hb hW4;replace hW5:=pw_cell_below hb hW5;replace hW1:=a0_ (below_step hW1.out hb);replace hW2:=a0_ (blk_keptB hW2.out hb);clear hb)
     | (go_at_call 63;(with_reducible refine (impl_within.calls y.f1 0 ((kk : Int) - 1) _ _ A2.out).mono ?_);rintro e w' ⟨rfl,hd⟩;have hb:=drawn_below hd;replace hW3:=pw_cell_below hb hW3;replace hW4:=pw_cell_below hb hW4;replace hW5:=pw_cell_below hb hW5;replace hW1:=a0_ (below_step hW1.out hb);replace hW2:=a0_ (blk_keptB hW2.out hb);clear hb hd))
        go_meet
        case rel=>exact ⟨by (rw [BV]);first | rfl | (simp [*];done),⟨hW1.out⟩,⟨hW2.out⟩⟩
   case rest =>
    obtain ⟨rfl,hW,hK⟩:=hcut
    have hb:=HOK.out
    cases BV : okCls l0_0 kk y with
    | false =>
     go_wp2
     go_ret
     refine ⟨?_,hW.out⟩
     rw [← HRr.out]
     have : vT l0_0 = false:=by
      cases hv : vT l0_0 with
      | false=>rfl
      | true=>have:=vT_at hv kk hlt;rw [HOK.out,BV] at this;cases this
     rw [this];rfl
    | true =>
     go_wp2
     go_roundg (l0_0.length - (kk + 1))
     case measure=>omega
     case rel =>
      refine ⟨kk + 1,by omega,by omega,by go_num,⟨hW.out⟩,⟨hK.out⟩,⟨fun j hj=>?_⟩⟩
      by_cases e : j = kk
      ·subst e;rw [HOK.out,BV]
      ·exact HA.out j (by omega)
  ·have hltz : ¬ (kk : Int) < (l0_0.length : Int):=by omega
   have : kk = l0_0.length:=by omega
   subst this
   have A3:=a0_ (show impl_within.f (l0_0.length : Int) 1 8 = some (vT l0_0) by
    have hall : (List.range l0_0.length).all (fun i=>okCls l0_0 i (l0_0.getD i z72)) = true:=by
     rw [List.all_eq_true];intro i hi;exact HA.out i (by simpa using hi)
    unfold impl_within.f vT
    rw [hall]
    by_cases h1 : (1 : Int) ≤ l0_0.length
    ·rw [if_pos h1]
     have h1' : 1 ≤ l0_0.length:=by omega
     by_cases h8 : l0_0.length ≤ 8
     ·simp [h1',h8];omega
     ·simp [h8];omega
    ·rw [if_neg h1]
     have h1' : ¬ 1 ≤ l0_0.length:=by omega
     simp [h1'])
   rw [HRr.out] at A3
   go_wp2_with (go_at_call 63;(with_reducible refine (impl_within.calls (l0_0.length : Int) 1 8 _ _ A3.out).mono ?_);rintro e w' ⟨rfl,⟨nd,rfl⟩⟩)
   go_ret
   exact ⟨rfl,pw_below_drewN BW.out _⟩
end Go.Proofs.Ytbglafibhopleaa.P
namespace Go.Proofs.Ytbglafibhopleaa.P
open Go.RowKit Go.Proofs.YtbglafibhopleaaW.PrintWords Go.Proofs.YtbglafibhopleaaW.PrintLast Go.Proofs.YtbglafibhopleaaW.PrintMore
attribute [local go_sem] max2_int min2_int max_two min_two max_three min_three max_four min_four
set_option linter.unusedVariables false
set_option linter.unusedSimpArgs false
def impl_codeOk.f (a0 : Int) : Option (Bool):=(impl_within.f a0 0 99).bind fun t1=>(some t1)
set_option maxHeartbeats 8000000 in
set_option maxRecDepth 100000 in
theorem impl_codeOk.calls (a0 : Int) (r : Bool) (w : World) (h : impl_codeOk.f a0 = some r) :
  Calls Try.prog 64 #[.int .i64 a0] w fun e w'=>e = .returned (.bool r) ∧ Drawn0 w w':=by
 have H : ((impl_within.f a0 0 99).bind fun t1=>(some t1)) = some r:=h
 clear h
 replace H:=Option.bind_eq_some_iff.mp H
 obtain ⟨t1,A20,H⟩:=H
 replace H : (some t1) = some r:=H
 have A2:=a0_ A20
 clear A20
 obtain rfl:=Option.some.inj H
 go_enter Try.func64,Try.ntmps64
 go_wp2_with (first | ((with_reducible refine gate_callee (f:=63) rfl ?_);refine goesL_ (some 4) rfl rfl Try.func63 (by kernel_rfl) rfl #[.int .i64 a0,.int .i64 0,.int .i64 99] rfl lm_ ?_;(with_reducible refine (impl_within.calls a0 0 99 t1 _ A2.out).mono ?_);rintro e w' ⟨rfl,⟨nd,rfl⟩⟩;refine ⟨_,rfl,?_⟩))
 go_ret
 exact ⟨by first | rfl | (simp;done) | (simp [*];done),by repeat (first | exact Drawn0.refl _ | apply Drawn0.step)⟩
theorem impl_codeOk_ev (a : Int) : impl_codeOk.f a = some (decide (0 ≤ a) && decide (a ≤ 99)):=by
 unfold impl_codeOk.f
 rw [impl_within_ev]
 rfl
end Go.Proofs.Ytbglafibhopleaa.P
namespace Go.Proofs.Ytbglafibhopleaa.P
open Go.RowKit Go.Proofs.YtbglafibhopleaaW.PrintWords Go.Proofs.YtbglafibhopleaaW.PrintLast Go.Proofs.YtbglafibhopleaaW.PrintMore
attribute [local go_sem] max2_int min2_int max_two min_two max_three min_three max_four min_four
set_option linter.unusedVariables false
set_option linter.unusedSimpArgs false
def impl_Tree_has.f (l0_0 : List (S72)) (a1 : Int) : Option (Bool):=(impl_within.f a1 0 (wrap64 ((l0_0.length : Int) - 1))).bind fun t2=>(some t2)
set_option maxHeartbeats 8000000 in
set_option maxRecDepth 100000 in
theorem impl_Tree_has.calls (A0_0 : Option Addr) (c0_0 : Nat) (l0_0 : List (S72)) (a1 : Int) (r : Bool) (w : World) (hr0_0 : Kd.C k72 w A0_0 l0_0.length l0_0) (hc0_0 : l0_0.length ≤ c0_0) (h : impl_Tree_has.f l0_0 a1 = some r) :
  Calls Try.prog 65 #[.agg #[.slice A0_0 l0_0.length c0_0],.int .i64 a1] w fun e w'=>e = .returned (.bool r) ∧ Below w.heap.size w w':=by
 have hu32:=Try.underlying32
 have HR0_0:=a0_ hr0_0
 have HC0_0:=a0_ hc0_0
 clear hr0_0 hc0_0
 have HB:=a0_ (Below.refl w.heap.size w)
 have H : ((impl_within.f a1 0 (wrap64 ((l0_0.length : Int) - 1))).bind fun t2=>(some t2)) = some r:=h
 clear h
 replace H:=Option.bind_eq_some_iff.mp H
 obtain ⟨t2,A30,H⟩:=H
 replace H : (some t2) = some r:=H
 have A3:=a0_ A30
 clear A30
 obtain rfl:=Option.some.inj H
 go_enter Try.func65,Try.ntmps65
 go_wp2_with (first | ((with_reducible refine gate_dst (N:=2) rfl ?_);refine box_event ?hg (N:=2) ?hd (cs:=#[.slice A0_0 l0_0.length c0_0]) (t:=32) ?hr ?_;(case hd=>rfl);(case hg=>rfl);(case hr=>first | (go_simp;done) | (go_simp;rfl));intro gb1 hg w4 hbox hb;have BK1:=a0_ (hbox);have GW1:=a0_ ((by rw [hg];exact (below_size hb_) : w.heap.size ≤ gb1));have GE1:=a0_ ((by rw [hg];exact (below_size hb_) : w.heap.size ≤ gb1));replace HB:=a0_ (below_step hb_ hb);clear hb hbox hg;have hcz5_0 : w4.cell? ⟨gb1,0,none⟩ = some (.slice A0_0 l0_0.length c0_0):=(blk_cell BK1.out 0).trans rfl;have hfz5_0:=blk_frozen BK1.out 0) | ((with_reducible refine gate_callee (f:=63) rfl ?_);refine goesL_ (some 10) rfl rfl Try.func63 (by kernel_rfl) rfl #[.int .i64 a1,.int .i64 0,.int .i64 (wrap64 ((l0_0.length : Int) - 1))] rfl lm_ ?_;(with_reducible refine (impl_within.calls a1 0 (wrap64 ((l0_0.length : Int) - 1)) t2 _ A3.out).mono ?_);rintro e w' ⟨rfl,⟨nd,rfl⟩⟩;refine ⟨_,rfl,?_⟩))
 go_ret
 exact ⟨by first | rfl | (simp [errW_none,errW_some] <;> rfl) | (simp [*,errW_none,errW_some] <;> rfl),hb_⟩
theorem impl_Tree_has_ev (t : List Cls) (a : Int) (hl : t.length ≤ 9223372036854775807) : impl_Tree_has.f t a = some (hasC t a):=by
 unfold impl_Tree_has.f impl_within.f hasC
 rw [wrap_pred (by omega) (by omega)]
 by_cases h0 : a ≥ 0
 ·rw [if_pos h0]
  have h0' : 0 ≤ a:=h0
  simp only [Option.bind_some,Option.some.injEq,decide_eq_true h0',Bool.true_and]
  by_cases h1 : a < (t.length : Int)
  ·rw [decide_eq_true h1,decide_eq_true (by omega)]
  ·rw [decide_eq_false h1,decide_eq_false (by omega)]
 ·rw [if_neg h0]
  have h0' : ¬ 0 ≤ a:=h0
  simp [decide_eq_false h0']
end Go.Proofs.Ytbglafibhopleaa.P
namespace Go.Proofs.Ytbglafibhopleaa.P
open Go.RowKit Go.Proofs.YtbglafibhopleaaW.PrintWords Go.Proofs.YtbglafibhopleaaW.PrintLast Go.Proofs.YtbglafibhopleaaW.PrintMore
attribute [local go_sem] max2_int min2_int max_two min_two max_three min_three max_four min_four
set_option linter.unusedVariables false
set_option linter.unusedSimpArgs false
mutual
def impl_partsOk.l0 : Nat → List (S55) → List (S55) → Int → Int → List (S72) → Option (Bool)
 | 0,_,_,_,_,_=>none
 | k + 1,x1,x8,x9,x10,x2000=>if x10 < x9 then (if 0 ≤ x10 then (if x10 < (x8.length : Int) then ((impl_codeOk.f ((rd_T55 x8 x10).f3)).bind fun t5=>(if t5 = true then ((impl_within.f ((rd_T55 x8 x10).f0) 0 5).bind fun t6=>(if t6 = true then (impl_partsOk.j1 k x1 x10 x8 x9 x10 ((((rd_T55 x8 x10).f0) == 0) != (x10 == 0)) x2000 ((rd_T55 x8 x10).f0) ((rd_T55 x8 x10).f1) ((rd_T55 x8 x10).f2) ((rd_T55 x8 x10).f3)) else (impl_partsOk.j1 k x1 x10 x8 x9 x10 true x2000 ((rd_T55 x8 x10).f0) ((rd_T55 x8 x10).f1) ((rd_T55 x8 x10).f2) ((rd_T55 x8 x10).f3)))) else (impl_partsOk.j1 k x1 x10 x8 x9 x10 true x2000 ((rd_T55 x8 x10).f0) ((rd_T55 x8 x10).f1) ((rd_T55 x8 x10).f2) ((rd_T55 x8 x10).f3)))) else (none)) else (none)) else ((impl_within.f (x1.length : Int) 1 16).bind fun t2=>(some t2))
def impl_partsOk.j1 : Nat → List (S55) → Int → List (S55) → Int → Int → Bool → List (S72) → Int → Bool → Int → Int → Option (Bool)
 | 0,_,_,_,_,_,_,_,_,_,_,_=>none
 | k + 1,x1,x5,x8,x9,x10,x32,x2000,x5000,x5001,x5002,x5003=>if x32 = true then (some false) else (if x5 > 0 then (if 0 ≤ (wrap64 (x5 - 1)) then (if (wrap64 (x5 - 1)) < (x1.length : Int) then (if x5000 > ((rd_T55 x1 (wrap64 (x5 - 1))).f0) then (if (rd_T55 x1 (wrap64 (x5 - 1))).f1 = true then (impl_partsOk.j2 k x1 x5 x8 x9 x10 (!(x5000 == (wrap64 (((rd_T55 x1 (wrap64 (x5 - 1))).f0) + 1)))) x2000 x5000 x5001 x5002 x5003) else (impl_partsOk.j2 k x1 x5 x8 x9 x10 (!false) x2000 x5000 x5001 x5002 x5003)) else (impl_partsOk.j2 k x1 x5 x8 x9 x10 false x2000 x5000 x5001 x5002 x5003)) else (none)) else (none)) else (impl_partsOk.j2 k x1 x5 x8 x9 x10 false x2000 x5000 x5001 x5002 x5003))
def impl_partsOk.j2 : Nat → List (S55) → Int → List (S55) → Int → Int → Bool → List (S72) → Int → Bool → Int → Int → Option (Bool)
 | 0,_,_,_,_,_,_,_,_,_,_,_=>none
 | k + 1,x1,x5,x8,x9,x10,x66,x2000,x5000,x5001,x5002,x5003=>if x66 = true then (some false) else (if (wrap64 (x5 + 1)) < (x1.length : Int) then (if 0 ≤ (wrap64 (x5 + 1)) then (if x5001 = true then (if x5002 = 0 then (if (((rd_T55 x1 (wrap64 (x5 + 1))).f0) > x5000) then (impl_partsOk.l0 k x1 x8 x9 (wrap64 (x10 + 1)) x2000) else (some false)) else (some false)) else ((impl_Tree_has.f x2000 x5002).bind fun t11=>(if t11 = true then (impl_partsOk.l0 k x1 x8 x9 (wrap64 (x10 + 1)) x2000) else (some false)))) else (none)) else (if x5001 = true then (if x5002 = 0 then (some false) else (some false)) else ((impl_Tree_has.f x2000 x5002).bind fun t12=>(if t12 = true then (impl_partsOk.l0 k x1 x8 x9 (wrap64 (x10 + 1)) x2000) else (some false)))))
end
def impl_partsOk.f (k : Nat) (l0_0 : List (S72)) (l1 : List (S55)) : Option (Bool):=impl_partsOk.l0 k l1 l1 (l1.length : Int) 0 l0_0
theorem impl_partsOk.mono_l : ∀ k,(∀ y0 y1 y2 y3 y4,LeO (impl_partsOk.l0 k y0 y1 y2 y3 y4) (impl_partsOk.l0 (k + 1) y0 y1 y2 y3 y4)) ∧ (∀ y0 y1 y2 y3 y4 y5 y6 y7 y8 y9 y10,LeO (impl_partsOk.j1 k y0 y1 y2 y3 y4 y5 y6 y7 y8 y9 y10) (impl_partsOk.j1 (k + 1) y0 y1 y2 y3 y4 y5 y6 y7 y8 y9 y10)) ∧ (∀ y0 y1 y2 y3 y4 y5 y6 y7 y8 y9 y10,LeO (impl_partsOk.j2 k y0 y1 y2 y3 y4 y5 y6 y7 y8 y9 y10) (impl_partsOk.j2 (k + 1) y0 y1 y2 y3 y4 y5 y6 y7 y8 y9 y10))
 | 0=>⟨fun _ _ _ _ _ r h=>by simp [impl_partsOk.l0] at h,fun _ _ _ _ _ _ _ _ _ _ _ r h=>by simp [impl_partsOk.j1] at h,fun _ _ _ _ _ _ _ _ _ _ _ r h=>by simp [impl_partsOk.j2] at h⟩
 | k + 1=>by
  obtain ⟨ih0,ih1,ih2⟩:=impl_partsOk.mono_l k
  refine ⟨?_,?_,?_⟩
  ·intro y0 y1 y2 y3 y4
   unfold impl_partsOk.l0
   repeat' first
   | (with_reducible exact ih0 _ _ _ _ _)
   | (with_reducible exact ih1 _ _ _ _ _ _ _ _ _ _ _)
   | (with_reducible exact ih2 _ _ _ _ _ _ _ _ _ _ _)
   | (with_reducible exact LeO.refl _)
   | (with_reducible exact LeO.none _)
   | (with_reducible refine LeO.ite ?_ ?_)
   | (with_reducible refine LeO.bind ?_ (fun _=>?_))
   | exact ih0 _ _ _ _ _
   | exact ih1 _ _ _ _ _ _ _ _ _ _ _
   | exact ih2 _ _ _ _ _ _ _ _ _ _ _
   | exact LeO.none _
   | refine LeO.ite ?_ ?_
   | refine LeO.bind ?_ (fun _=>?_)
  ·intro y0 y1 y2 y3 y4 y5 y6 y7 y8 y9 y10
   unfold impl_partsOk.j1
   repeat' first
   | (with_reducible exact ih0 _ _ _ _ _)
   | (with_reducible exact ih1 _ _ _ _ _ _ _ _ _ _ _)
   | (with_reducible exact ih2 _ _ _ _ _ _ _ _ _ _ _)
   | (with_reducible exact LeO.refl _)
   | (with_reducible exact LeO.none _)
   | (with_reducible refine LeO.ite ?_ ?_)
   | (with_reducible refine LeO.bind ?_ (fun _=>?_))
   | exact ih0 _ _ _ _ _
   | exact ih1 _ _ _ _ _ _ _ _ _ _ _
   | exact ih2 _ _ _ _ _ _ _ _ _ _ _
   | exact LeO.none _
   | refine LeO.ite ?_ ?_
   | refine LeO.bind ?_ (fun _=>?_)
  ·intro y0 y1 y2 y3 y4 y5 y6 y7 y8 y9 y10
   unfold impl_partsOk.j2
   repeat' first
   | (with_reducible exact ih0 _ _ _ _ _)
   | (with_reducible exact ih1 _ _ _ _ _ _ _ _ _ _ _)
   | (with_reducible exact ih2 _ _ _ _ _ _ _ _ _ _ _)
   | (with_reducible exact LeO.refl _)
   | (with_reducible exact LeO.none _)
   | (with_reducible refine LeO.ite ?_ ?_)
   | (with_reducible refine LeO.bind ?_ (fun _=>?_))
   | exact ih0 _ _ _ _ _
   | exact ih1 _ _ _ _ _ _ _ _ _ _ _
   | exact ih2 _ _ _ _ _ _ _ _ _ _ _
   | exact LeO.none _
   | refine LeO.ite ?_ ?_
   | refine LeO.bind ?_ (fun _=>?_)
theorem impl_partsOk.mono : ∀ a0 a1 k,LeO (impl_partsOk.f k a0 a1) (impl_partsOk.f (k + 1) a0 a1):=by
 intro a0 a1 k
 obtain ⟨ih0,ih1,ih2⟩:=impl_partsOk.mono_l k
 unfold impl_partsOk.f
 repeat' first
   | (with_reducible exact ih0 _ _ _ _ _)
   | (with_reducible exact ih1 _ _ _ _ _ _ _ _ _ _ _)
   | (with_reducible exact ih2 _ _ _ _ _ _ _ _ _ _ _)
   | (with_reducible exact LeO.refl _)
   | (with_reducible exact LeO.none _)
   | (with_reducible refine LeO.ite ?_ ?_)
   | (with_reducible refine LeO.bind ?_ (fun _=>?_))
   | exact ih0 _ _ _ _ _
   | exact ih1 _ _ _ _ _ _ _ _ _ _ _
   | exact ih2 _ _ _ _ _ _ _ _ _ _ _
   | exact LeO.none _
   | refine LeO.ite ?_ ?_
   | refine LeO.bind ?_ (fun _=>?_)
set_option maxHeartbeats 8000000 in
set_option maxRecDepth 100000 in
theorem impl_partsOk.calls (k : Nat) (A0_0 : Option Addr) (c0_0 : Nat) (l0_0 : List (S72)) (A1 : Option Addr) (c1 : Nat) (l1 : List (S55)) (r : Bool) (w : World) (hr0_0 : Kd.C k72 w A0_0 l0_0.length l0_0) (hc0_0 : l0_0.length ≤ c0_0) (hr1 : Kd.C k55 w A1 l1.length l1) (hc1 : l1.length ≤ c1) (h : impl_partsOk.f k l0_0 l1 = some r) :
  Calls Try.prog 50 #[.agg #[.slice A0_0 l0_0.length c0_0],.slice A1 l1.length c1] w fun e w'=>e = .returned (.bool r) ∧ Below w.heap.size w w':=by
 have hu32:=Try.underlying32
 have hu55:=Try.underlying55
 have HR0_0:=a0_ hr0_0
 have HC0_0:=a0_ hc0_0
 clear hr0_0 hc0_0
 have HR1:=a0_ hr1
 have HC1:=a0_ hc1
 clear hr1 hc1
 have HB:=a0_ (Below.refl w.heap.size w)
 have H : (impl_partsOk.l0 k l1 l1 (l1.length : Int) 0 l0_0) = some r:=h
 clear h
 have H':=a0_ H
 clear H
 go_enter Try.func50,Try.ntmps50
 go_wp2_with (first | ((with_reducible refine gate_dst (N:=2) rfl ?_);refine box_event ?hg (N:=2) ?hd (cs:=#[.slice A0_0 l0_0.length c0_0]) (t:=32) ?hr ?_;(case hd=>rfl);(case hg=>rfl);(case hr=>first | (go_simp;done) | (go_simp;rfl));intro gb1 hg w3 hbox hb;have BK1:=a0_ (hbox);have GW1:=a0_ ((by rw [hg];exact (below_size hb_) : w.heap.size ≤ gb1));have GE1:=a0_ ((by rw [hg];exact (below_size hb_) : w.heap.size ≤ gb1));replace HB:=a0_ (below_step hb_ hb);clear hb hbox hg))
 repeat (go_quiet (first | ((with_reducible refine gate_dst (N:=2) rfl ?_);refine box_event ?hg (N:=2) ?hd (cs:=#[.slice A0_0 l0_0.length c0_0]) (t:=32) ?hr ?_;(case hd=>rfl);(case hg=>rfl);(case hr=>first | (go_simp;done) | (go_simp;rfl));intro gb1 hg w3 hbox hb;have BK1:=a0_ (hbox);have GW1:=a0_ ((by rw [hg];exact (below_size hb_) : w.heap.size ≤ gb1));have GE1:=a0_ ((by rw [hg];exact (below_size hb_) : w.heap.size ≤ gb1));replace HB:=a0_ (below_step hb_ hb);clear hb hbox hg));try go_wp2_with (first | ((with_reducible refine gate_dst (N:=2) rfl ?_);refine box_event ?hg (N:=2) ?hd (cs:=#[.slice A0_0 l0_0.length c0_0]) (t:=32) ?hr ?_;(case hd=>rfl);(case hg=>rfl);(case hr=>first | (go_simp;done) | (go_simp;rfl));intro gb1 hg w3 hbox hb;have BK1:=a0_ (hbox);have GW1:=a0_ ((by rw [hg];exact (below_size hb_) : w.heap.size ≤ gb1));have GE1:=a0_ ((by rw [hg];exact (below_size hb_) : w.heap.size ≤ gb1));replace HB:=a0_ (below_step hb_ hb);clear hb hbox hg)))
 go_loopg [10] k (fun kq v10 w'=>∃ (x10_1 : Int),v10 = .int .i64 x10_1 ∧ Aside0 (impl_partsOk.l0 kq l1 l1 (l1.length : Int) x10_1 l0_0 = some r) ∧ Aside0 (kq ≤ k) ∧ Aside0 (w'.heap[gb1]? = some (.cells #[(.slice A0_0 l0_0.length c0_0)] 32 (0,0))) ∧ Aside0 (Below w.heap.size w w'))
 case atStart=>exact ⟨(0),(by first | rfl | (simp;done) | (simp [*];done)),H',⟨Nat.le_refl _⟩,⟨by (with_reducible repeat (first | refine blk_drewN ?_ _ | refine blk_drew ?_ | refine blk_alloc ?_ _));exact BK1.out⟩,⟨hb_⟩⟩
 case round =>
  clear H'
  try clear c1
  try clear p2
  obtain ⟨x10_1,rfl,HA,HK1,BK1,HB⟩:=hrel
  cases gk with
  | zero=>exact absurd HA.out (by simp [impl_partsOk.l0])
  | succ k1 =>
   have H:=HA.out
   clear HA
   simp only [impl_partsOk.l0] at H
   by_cases c4 : x10_1 < (l1.length : Int)
   ·rw [if_pos c4] at H
    have c4b0 : decide (x10_1 < (l1.length : Int)) = true:=decide_eq_true c4
    clear c4
    by_cases c5 : 0 ≤ x10_1
    ·rw [if_pos c5] at H
     have c5b0 : decide (0 ≤ x10_1) = true:=decide_eq_true c5
     clear c5
     by_cases c6 : x10_1 < (l1.length : Int)
     ·rw [if_pos c6] at H
      have c6b0 : decide (x10_1 < (l1.length : Int)) = true:=decide_eq_true c6
      clear c6
      have HC7:=a0_ H
      clear H
      have p3 : 0 ≤ (x10_1 : Int):=of_decide_eq_true (by first | (with_reducible assumption) | assumption)
      have q3 : x10_1 < (l1.length : Int):=of_decide_eq_true (by first | (with_reducible assumption) | assumption)
      obtain ⟨ad3,e3,hx3_0,hx3_1,hx3_2,hx3_3⟩:=at_T55 HR1.out x10_1 p3 q3
      cases e3
      replace hx3_0:=(HB.out.cell (World.block_lt_of_cell? w _ hx3_0)).trans hx3_0
      replace hx3_1:=(HB.out.cell (World.block_lt_of_cell? w _ hx3_1)).trans hx3_1
      replace hx3_2:=(HB.out.cell (World.block_lt_of_cell? w _ hx3_2)).trans hx3_2
      replace hx3_3:=(HB.out.cell (World.block_lt_of_cell? w _ hx3_3)).trans hx3_3
      replace p3:=eq_true p3
      replace q3:=eq_true q3
      go_upto_region 4 with (first | ((with_reducible refine gate_dst (N:=6) rfl ?_);refine box_event ?hg (N:=6) ?hd (cs:=#[.int .i64 0,.bool false,.int .i64 0,.int .i64 0]) (t:=55) ?hr ?_;(case hd=>rfl);(case hg=>rfl);(case hr=>first | (go_simp;done) | (go_simp;rfl));intro gb4 hg w8 hbox hb;have n0_:=kb_ BK1 hb;have n1_:=a0_ (below_step hb_ hb);have n2_:=a0_ (hbox);have n3_:=a0_ ((by rw [hg];exact (below_size hb_) : w.heap.size ≤ gb4));have n4_:=a0_ ((by rw [hg];exact (below_size hb_) : w.heap.size ≤ gb4));have n5_:=a0_ ((by rw [hg];exact Nat.ne_of_lt (blk_lt (bb_ BK1.out)) : gb1 ≠ gb4));have n6_:=a0_ ((by rw [hg];exact Nat.ne_of_gt (blk_lt (bb_ BK1.out)) : gb4 ≠ gb1));clear BK1 HB;have BK1:=n0_;have HB:=n1_;have BK4:=n2_;have GW4:=n3_;have GE4:=n4_;have NB1_4:=n5_;have NB4_1:=n6_;clear n0_ n1_ n2_ n3_ n4_ n5_ n6_;clear hb hbox hg;have hnb9:=NB4_1.out;have hnc9:=NB1_4.out;have hcz10_0 : w8.cell? ⟨gb4,0,none⟩ = some (.int .i64 0):=(blk_cell BK4.out 0).trans rfl;have hcz10_1 : w8.cell? ⟨gb4,1,none⟩ = some (.bool false):=(blk_cell BK4.out 1).trans rfl;have hcz10_2 : w8.cell? ⟨gb4,2,none⟩ = some (.int .i64 0):=(blk_cell BK4.out 2).trans rfl;have hcz10_3 : w8.cell? ⟨gb4,3,none⟩ = some (.int .i64 0):=(blk_cell BK4.out 3).trans rfl;have hfz10_0:=blk_frozen BK4.out 0;have hfz10_1:=blk_frozen BK4.out 1;have hfz10_2:=blk_frozen BK4.out 2;have hfz10_3:=blk_frozen BK4.out 3))
      repeat (go_quiet (first | ((with_reducible refine gate_dst (N:=6) rfl ?_);refine box_event ?hg (N:=6) ?hd (cs:=#[.int .i64 0,.bool false,.int .i64 0,.int .i64 0]) (t:=55) ?hr ?_;(case hd=>rfl);(case hg=>rfl);(case hr=>first | (go_simp;done) | (go_simp;rfl));intro gb4 hg w8 hbox hb;have n0_:=kb_ BK1 hb;have n1_:=a0_ (below_step hb_ hb);have n2_:=a0_ (hbox);have n3_:=a0_ ((by rw [hg];exact (below_size hb_) : w.heap.size ≤ gb4));have n4_:=a0_ ((by rw [hg];exact (below_size hb_) : w.heap.size ≤ gb4));have n5_:=a0_ ((by rw [hg];exact Nat.ne_of_lt (blk_lt (bb_ BK1.out)) : gb1 ≠ gb4));have n6_:=a0_ ((by rw [hg];exact Nat.ne_of_gt (blk_lt (bb_ BK1.out)) : gb4 ≠ gb1));clear BK1 HB;have BK1:=n0_;have HB:=n1_;have BK4:=n2_;have GW4:=n3_;have GE4:=n4_;have NB1_4:=n5_;have NB4_1:=n6_;clear n0_ n1_ n2_ n3_ n4_ n5_ n6_;clear hb hbox hg;have hnb9:=NB4_1.out;have hnc9:=NB1_4.out;have hcz10_0 : w8.cell? ⟨gb4,0,none⟩ = some (.int .i64 0):=(blk_cell BK4.out 0).trans rfl;have hcz10_1 : w8.cell? ⟨gb4,1,none⟩ = some (.bool false):=(blk_cell BK4.out 1).trans rfl;have hcz10_2 : w8.cell? ⟨gb4,2,none⟩ = some (.int .i64 0):=(blk_cell BK4.out 2).trans rfl;have hcz10_3 : w8.cell? ⟨gb4,3,none⟩ = some (.int .i64 0):=(blk_cell BK4.out 3).trans rfl;have hfz10_0:=blk_frozen BK4.out 0;have hfz10_1:=blk_frozen BK4.out 1;have hfz10_2:=blk_frozen BK4.out 2;have hfz10_3:=blk_frozen BK4.out 3));go_upto_region 4 with (first | ((with_reducible refine gate_dst (N:=6) rfl ?_);refine box_event ?hg (N:=6) ?hd (cs:=#[.int .i64 0,.bool false,.int .i64 0,.int .i64 0]) (t:=55) ?hr ?_;(case hd=>rfl);(case hg=>rfl);(case hr=>first | (go_simp;done) | (go_simp;rfl));intro gb4 hg w8 hbox hb;have n0_:=kb_ BK1 hb;have n1_:=a0_ (below_step hb_ hb);have n2_:=a0_ (hbox);have n3_:=a0_ ((by rw [hg];exact (below_size hb_) : w.heap.size ≤ gb4));have n4_:=a0_ ((by rw [hg];exact (below_size hb_) : w.heap.size ≤ gb4));have n5_:=a0_ ((by rw [hg];exact Nat.ne_of_lt (blk_lt (bb_ BK1.out)) : gb1 ≠ gb4));have n6_:=a0_ ((by rw [hg];exact Nat.ne_of_gt (blk_lt (bb_ BK1.out)) : gb4 ≠ gb1));clear BK1 HB;have BK1:=n0_;have HB:=n1_;have BK4:=n2_;have GW4:=n3_;have GE4:=n4_;have NB1_4:=n5_;have NB4_1:=n6_;clear n0_ n1_ n2_ n3_ n4_ n5_ n6_;clear hb hbox hg;have hnb9:=NB4_1.out;have hnc9:=NB1_4.out;have hcz10_0 : w8.cell? ⟨gb4,0,none⟩ = some (.int .i64 0):=(blk_cell BK4.out 0).trans rfl;have hcz10_1 : w8.cell? ⟨gb4,1,none⟩ = some (.bool false):=(blk_cell BK4.out 1).trans rfl;have hcz10_2 : w8.cell? ⟨gb4,2,none⟩ = some (.int .i64 0):=(blk_cell BK4.out 2).trans rfl;have hcz10_3 : w8.cell? ⟨gb4,3,none⟩ = some (.int .i64 0):=(blk_cell BK4.out 3).trans rfl;have hfz10_0:=blk_frozen BK4.out 0;have hfz10_1:=blk_frozen BK4.out 1;have hfz10_2:=blk_frozen BK4.out 2;have hfz10_3:=blk_frozen BK4.out 3)))
      (try simp only [Act.put,s1_,s2_,s3_])
      go_cut [32] (fun v32 wc=>∃ (kq : Nat) (x32_6 : Bool),v32 = .bool x32_6 ∧ Aside0 (impl_partsOk.j1 kq l1 x10_1 l1 (l1.length : Int) x10_1 x32_6 l0_0 ((rd_T55 l1 x10_1).f0) ((rd_T55 l1 x10_1).f1) ((rd_T55 l1 x10_1).f2) ((rd_T55 l1 x10_1).f3) = some r) ∧ Aside0 (kq ≤ k1) ∧ Aside0 (wc.heap[gb1]? = some (.cells #[(.slice A0_0 l0_0.length c0_0)] 32 (0,0))) ∧ Aside0 (wc.heap[gb4]? = some (.cells #[.int .i64 ((rd_T55 l1 x10_1).f0),.bool ((rd_T55 l1 x10_1).f1),.int .i64 ((rd_T55 l1 x10_1).f2),.int .i64 ((rd_T55 l1 x10_1).f3)] 55 (0,0))) ∧ Aside0 (Below w.heap.size w wc))
      case first =>
       have H:=HC7.out
       clear HC7
       replace H:=Option.bind_eq_some_iff.mp H
       obtain ⟨t5,A110,H⟩:=H
       try dsimp only at H
       have A11:=a0_ A110
       clear A110
       by_cases c12 : t5 = true
       ·subst c12
        have H1 : ((impl_within.f ((rd_T55 l1 x10_1).f0) 0 5).bind fun t6=>(if t6 = true then (impl_partsOk.j1 k1 l1 x10_1 l1 (l1.length : Int) x10_1 ((((rd_T55 l1 x10_1).f0) == 0) != (x10_1 == 0)) l0_0 ((rd_T55 l1 x10_1).f0) ((rd_T55 l1 x10_1).f1) ((rd_T55 l1 x10_1).f2) ((rd_T55 l1 x10_1).f3)) else (impl_partsOk.j1 k1 l1 x10_1 l1 (l1.length : Int) x10_1 true l0_0 ((rd_T55 l1 x10_1).f0) ((rd_T55 l1 x10_1).f1) ((rd_T55 l1 x10_1).f2) ((rd_T55 l1 x10_1).f3)))) = some r:=by rw [if_pos rfl] at H;exact H
        clear H
        have H:=H1
        clear H1
        replace H:=Option.bind_eq_some_iff.mp H
        obtain ⟨t6,A130,H⟩:=H
        try dsimp only at H
        have A13:=a0_ A130
        clear A130
        by_cases c14 : t6 = true
        ·subst c14
         have H1 : (impl_partsOk.j1 k1 l1 x10_1 l1 (l1.length : Int) x10_1 ((((rd_T55 l1 x10_1).f0) == 0) != (x10_1 == 0)) l0_0 ((rd_T55 l1 x10_1).f0) ((rd_T55 l1 x10_1).f1) ((rd_T55 l1 x10_1).f2) ((rd_T55 l1 x10_1).f3)) = some r:=by rw [if_pos rfl] at H;exact H
         clear H
         have H:=H1
         clear H1
         have H':=a0_ H
         clear H
         have hnb15:=NB4_1.out
         have hnc15:=NB1_4.out
         have hcz16_0 : w8.cell? ⟨gb4,0,none⟩ = some (.int .i64 0):=(blk_cell BK4.out 0).trans rfl
         have hcz16_1 : w8.cell? ⟨gb4,1,none⟩ = some (.bool false):=(blk_cell BK4.out 1).trans rfl
         have hcz16_2 : w8.cell? ⟨gb4,2,none⟩ = some (.int .i64 0):=(blk_cell BK4.out 2).trans rfl
         have hcz16_3 : w8.cell? ⟨gb4,3,none⟩ = some (.int .i64 0):=(blk_cell BK4.out 3).trans rfl
         have hfz16_0:=blk_frozen BK4.out 0
         have hfz16_1:=blk_frozen BK4.out 1
         have hfz16_2:=blk_frozen BK4.out 2
         have hfz16_3:=blk_frozen BK4.out 3
         go_wp2_with (first | (go_at_call 64;(with_reducible refine (impl_codeOk.calls ((rd_T55 l1 x10_1).f3) true _ A11.out).mono ?_);rintro e w' ⟨rfl,⟨nd,rfl⟩⟩;(try first | exact ⟨rfl,_,World.drewN_drewN _ _ _⟩ | exact ⟨rfl,_,Eq.trans (World.drewN_drewN _ _ _) (congrArg (World.drewN _) (Nat.add_assoc _ _ _))⟩)) | (go_at_call 63;(with_reducible refine (impl_within.calls ((rd_T55 l1 x10_1).f0) 0 5 true _ A13.out).mono ?_);rintro e w' ⟨rfl,⟨nd,rfl⟩⟩;(try first | exact ⟨rfl,_,World.drewN_drewN _ _ _⟩ | exact ⟨rfl,_,Eq.trans (World.drewN_drewN _ _ _) (congrArg (World.drewN _) (Nat.add_assoc _ _ _))⟩)))
         repeat (go_quiet (first | (go_at_call 64;(with_reducible refine (impl_codeOk.calls ((rd_T55 l1 x10_1).f3) true _ A11.out).mono ?_);rintro e w' ⟨rfl,⟨nd,rfl⟩⟩;(try first | exact ⟨rfl,_,World.drewN_drewN _ _ _⟩ | exact ⟨rfl,_,Eq.trans (World.drewN_drewN _ _ _) (congrArg (World.drewN _) (Nat.add_assoc _ _ _))⟩)) | (go_at_call 63;(with_reducible refine (impl_within.calls ((rd_T55 l1 x10_1).f0) 0 5 true _ A13.out).mono ?_);rintro e w' ⟨rfl,⟨nd,rfl⟩⟩;(try first | exact ⟨rfl,_,World.drewN_drewN _ _ _⟩ | exact ⟨rfl,_,Eq.trans (World.drewN_drewN _ _ _) (congrArg (World.drewN _) (Nat.add_assoc _ _ _))⟩)));try go_wp2_with (first | (go_at_call 64;(with_reducible refine (impl_codeOk.calls ((rd_T55 l1 x10_1).f3) true _ A11.out).mono ?_);rintro e w' ⟨rfl,⟨nd,rfl⟩⟩;(try first | exact ⟨rfl,_,World.drewN_drewN _ _ _⟩ | exact ⟨rfl,_,Eq.trans (World.drewN_drewN _ _ _) (congrArg (World.drewN _) (Nat.add_assoc _ _ _))⟩)) | (go_at_call 63;(with_reducible refine (impl_within.calls ((rd_T55 l1 x10_1).f0) 0 5 true _ A13.out).mono ?_);rintro e w' ⟨rfl,⟨nd,rfl⟩⟩;(try first | exact ⟨rfl,_,World.drewN_drewN _ _ _⟩ | exact ⟨rfl,_,Eq.trans (World.drewN_drewN _ _ _) (congrArg (World.drewN _) (Nat.add_assoc _ _ _))⟩))))
         go_meet
         case rel=>exact ⟨_,(((((rd_T55 l1 x10_1).f0) == 0) != (x10_1 == 0))),(by first | rfl | (simp;done) | (simp [*];done)),H',⟨by have:=HK1.out;first | omega | exact Nat.le_refl _⟩,⟨by (with_reducible repeat (first | refine blk_drewN ?_ _ | refine blk_drew ?_ | refine blk_alloc ?_ _));refine blk_far ?_ NB1_4.out _;(with_reducible repeat (first | refine blk_drewN ?_ _ | refine blk_drew ?_ | refine blk_alloc ?_ _));refine blk_far ?_ NB1_4.out _;(with_reducible repeat (first | refine blk_drewN ?_ _ | refine blk_drew ?_ | refine blk_alloc ?_ _));refine blk_far ?_ NB1_4.out _;(with_reducible repeat (first | refine blk_drewN ?_ _ | refine blk_drew ?_ | refine blk_alloc ?_ _));refine blk_far ?_ NB1_4.out _;(with_reducible repeat (first | refine blk_drewN ?_ _ | refine blk_drew ?_ | refine blk_alloc ?_ _));exact BK1.out⟩,⟨by (with_reducible repeat (first | refine blk_drewN ?_ _ | refine blk_drew ?_ | refine blk_alloc ?_ _));refine blk_put (cs:=#[.int .i64 ((rd_T55 l1 x10_1).f0),.bool ((rd_T55 l1 x10_1).f1),.int .i64 ((rd_T55 l1 x10_1).f2),.int .i64 0]) ?_ 3 _ rfl;(with_reducible repeat (first | refine blk_drewN ?_ _ | refine blk_drew ?_ | refine blk_alloc ?_ _));refine blk_put (cs:=#[.int .i64 ((rd_T55 l1 x10_1).f0),.bool ((rd_T55 l1 x10_1).f1),.int .i64 0,.int .i64 0]) ?_ 2 _ rfl;(with_reducible repeat (first | refine blk_drewN ?_ _ | refine blk_drew ?_ | refine blk_alloc ?_ _));refine blk_put (cs:=#[.int .i64 ((rd_T55 l1 x10_1).f0),.bool false,.int .i64 0,.int .i64 0]) ?_ 1 _ rfl;(with_reducible repeat (first | refine blk_drewN ?_ _ | refine blk_drew ?_ | refine blk_alloc ?_ _));refine blk_put (cs:=#[.int .i64 0,.bool false,.int .i64 0,.int .i64 0]) ?_ 0 _ rfl;(with_reducible repeat (first | refine blk_drewN ?_ _ | refine blk_drew ?_ | refine blk_alloc ?_ _));exact BK4.out⟩,⟨hb_⟩⟩
        ·replace c14:=Bool.eq_false_iff.mpr c14
         subst c14
         have H1 : (impl_partsOk.j1 k1 l1 x10_1 l1 (l1.length : Int) x10_1 true l0_0 ((rd_T55 l1 x10_1).f0) ((rd_T55 l1 x10_1).f1) ((rd_T55 l1 x10_1).f2) ((rd_T55 l1 x10_1).f3)) = some r:=by rw [if_neg (show ¬ (false = true) by decide)] at H;exact H
         clear H
         have H:=H1
         clear H1
         have H':=a0_ H
         clear H
         have hnb17:=NB4_1.out
         have hnc17:=NB1_4.out
         have hcz18_0 : w8.cell? ⟨gb4,0,none⟩ = some (.int .i64 0):=(blk_cell BK4.out 0).trans rfl
         have hcz18_1 : w8.cell? ⟨gb4,1,none⟩ = some (.bool false):=(blk_cell BK4.out 1).trans rfl
         have hcz18_2 : w8.cell? ⟨gb4,2,none⟩ = some (.int .i64 0):=(blk_cell BK4.out 2).trans rfl
         have hcz18_3 : w8.cell? ⟨gb4,3,none⟩ = some (.int .i64 0):=(blk_cell BK4.out 3).trans rfl
         have hfz18_0:=blk_frozen BK4.out 0
         have hfz18_1:=blk_frozen BK4.out 1
         have hfz18_2:=blk_frozen BK4.out 2
         have hfz18_3:=blk_frozen BK4.out 3
         go_wp2_with (first | (go_at_call 64;(with_reducible refine (impl_codeOk.calls ((rd_T55 l1 x10_1).f3) true _ A11.out).mono ?_);rintro e w' ⟨rfl,⟨nd,rfl⟩⟩;(try first | exact ⟨rfl,_,World.drewN_drewN _ _ _⟩ | exact ⟨rfl,_,Eq.trans (World.drewN_drewN _ _ _) (congrArg (World.drewN _) (Nat.add_assoc _ _ _))⟩)) | (go_at_call 63;(with_reducible refine (impl_within.calls ((rd_T55 l1 x10_1).f0) 0 5 false _ A13.out).mono ?_);rintro e w' ⟨rfl,⟨nd,rfl⟩⟩;(try first | exact ⟨rfl,_,World.drewN_drewN _ _ _⟩ | exact ⟨rfl,_,Eq.trans (World.drewN_drewN _ _ _) (congrArg (World.drewN _) (Nat.add_assoc _ _ _))⟩)))
         repeat (go_quiet (first | (go_at_call 64;(with_reducible refine (impl_codeOk.calls ((rd_T55 l1 x10_1).f3) true _ A11.out).mono ?_);rintro e w' ⟨rfl,⟨nd,rfl⟩⟩;(try first | exact ⟨rfl,_,World.drewN_drewN _ _ _⟩ | exact ⟨rfl,_,Eq.trans (World.drewN_drewN _ _ _) (congrArg (World.drewN _) (Nat.add_assoc _ _ _))⟩)) | (go_at_call 63;(with_reducible refine (impl_within.calls ((rd_T55 l1 x10_1).f0) 0 5 false _ A13.out).mono ?_);rintro e w' ⟨rfl,⟨nd,rfl⟩⟩;(try first | exact ⟨rfl,_,World.drewN_drewN _ _ _⟩ | exact ⟨rfl,_,Eq.trans (World.drewN_drewN _ _ _) (congrArg (World.drewN _) (Nat.add_assoc _ _ _))⟩)));try go_wp2_with (first | (go_at_call 64;(with_reducible refine (impl_codeOk.calls ((rd_T55 l1 x10_1).f3) true _ A11.out).mono ?_);rintro e w' ⟨rfl,⟨nd,rfl⟩⟩;(try first | exact ⟨rfl,_,World.drewN_drewN _ _ _⟩ | exact ⟨rfl,_,Eq.trans (World.drewN_drewN _ _ _) (congrArg (World.drewN _) (Nat.add_assoc _ _ _))⟩)) | (go_at_call 63;(with_reducible refine (impl_within.calls ((rd_T55 l1 x10_1).f0) 0 5 false _ A13.out).mono ?_);rintro e w' ⟨rfl,⟨nd,rfl⟩⟩;(try first | exact ⟨rfl,_,World.drewN_drewN _ _ _⟩ | exact ⟨rfl,_,Eq.trans (World.drewN_drewN _ _ _) (congrArg (World.drewN _) (Nat.add_assoc _ _ _))⟩))))
         go_meet
         case rel=>exact ⟨_,(true),(by first | rfl | (simp;done) | (simp [*];done)),H',⟨by have:=HK1.out;first | omega | exact Nat.le_refl _⟩,⟨by (with_reducible repeat (first | refine blk_drewN ?_ _ | refine blk_drew ?_ | refine blk_alloc ?_ _));refine blk_far ?_ NB1_4.out _;(with_reducible repeat (first | refine blk_drewN ?_ _ | refine blk_drew ?_ | refine blk_alloc ?_ _));refine blk_far ?_ NB1_4.out _;(with_reducible repeat (first | refine blk_drewN ?_ _ | refine blk_drew ?_ | refine blk_alloc ?_ _));refine blk_far ?_ NB1_4.out _;(with_reducible repeat (first | refine blk_drewN ?_ _ | refine blk_drew ?_ | refine blk_alloc ?_ _));refine blk_far ?_ NB1_4.out _;(with_reducible repeat (first | refine blk_drewN ?_ _ | refine blk_drew ?_ | refine blk_alloc ?_ _));exact BK1.out⟩,⟨by (with_reducible repeat (first | refine blk_drewN ?_ _ | refine blk_drew ?_ | refine blk_alloc ?_ _));refine blk_put (cs:=#[.int .i64 ((rd_T55 l1 x10_1).f0),.bool ((rd_T55 l1 x10_1).f1),.int .i64 ((rd_T55 l1 x10_1).f2),.int .i64 0]) ?_ 3 _ rfl;(with_reducible repeat (first | refine blk_drewN ?_ _ | refine blk_drew ?_ | refine blk_alloc ?_ _));refine blk_put (cs:=#[.int .i64 ((rd_T55 l1 x10_1).f0),.bool ((rd_T55 l1 x10_1).f1),.int .i64 0,.int .i64 0]) ?_ 2 _ rfl;(with_reducible repeat (first | refine blk_drewN ?_ _ | refine blk_drew ?_ | refine blk_alloc ?_ _));refine blk_put (cs:=#[.int .i64 ((rd_T55 l1 x10_1).f0),.bool false,.int .i64 0,.int .i64 0]) ?_ 1 _ rfl;(with_reducible repeat (first | refine blk_drewN ?_ _ | refine blk_drew ?_ | refine blk_alloc ?_ _));refine blk_put (cs:=#[.int .i64 0,.bool false,.int .i64 0,.int .i64 0]) ?_ 0 _ rfl;(with_reducible repeat (first | refine blk_drewN ?_ _ | refine blk_drew ?_ | refine blk_alloc ?_ _));exact BK4.out⟩,⟨hb_⟩⟩
       ·replace c12:=Bool.eq_false_iff.mpr c12
        subst c12
        have H1 : (impl_partsOk.j1 k1 l1 x10_1 l1 (l1.length : Int) x10_1 true l0_0 ((rd_T55 l1 x10_1).f0) ((rd_T55 l1 x10_1).f1) ((rd_T55 l1 x10_1).f2) ((rd_T55 l1 x10_1).f3)) = some r:=by rw [if_neg (show ¬ (false = true) by decide)] at H;exact H
        clear H
        have H:=H1
        clear H1
        have H':=a0_ H
        clear H
        have hnb19:=NB4_1.out
        have hnc19:=NB1_4.out
        have hcz20_0 : w8.cell? ⟨gb4,0,none⟩ = some (.int .i64 0):=(blk_cell BK4.out 0).trans rfl
        have hcz20_1 : w8.cell? ⟨gb4,1,none⟩ = some (.bool false):=(blk_cell BK4.out 1).trans rfl
        have hcz20_2 : w8.cell? ⟨gb4,2,none⟩ = some (.int .i64 0):=(blk_cell BK4.out 2).trans rfl
        have hcz20_3 : w8.cell? ⟨gb4,3,none⟩ = some (.int .i64 0):=(blk_cell BK4.out 3).trans rfl
        have hfz20_0:=blk_frozen BK4.out 0
        have hfz20_1:=blk_frozen BK4.out 1
        have hfz20_2:=blk_frozen BK4.out 2
        have hfz20_3:=blk_frozen BK4.out 3
        go_wp2_with (first | (go_at_call 64;(with_reducible refine (impl_codeOk.calls ((rd_T55 l1 x10_1).f3) false _ A11.out).mono ?_);rintro e w' ⟨rfl,⟨nd,rfl⟩⟩;(try first | exact ⟨rfl,_,World.drewN_drewN _ _ _⟩ | exact ⟨rfl,_,Eq.trans (World.drewN_drewN _ _ _) (congrArg (World.drewN _) (Nat.add_assoc _ _ _))⟩)))
        repeat (go_quiet (first | (go_at_call 64;(with_reducible refine (impl_codeOk.calls ((rd_T55 l1 x10_1).f3) false _ A11.out).mono ?_);rintro e w' ⟨rfl,⟨nd,rfl⟩⟩;(try first | exact ⟨rfl,_,World.drewN_drewN _ _ _⟩ | exact ⟨rfl,_,Eq.trans (World.drewN_drewN _ _ _) (congrArg (World.drewN _) (Nat.add_assoc _ _ _))⟩)));try go_wp2_with (first | (go_at_call 64;(with_reducible refine (impl_codeOk.calls ((rd_T55 l1 x10_1).f3) false _ A11.out).mono ?_);rintro e w' ⟨rfl,⟨nd,rfl⟩⟩;(try first | exact ⟨rfl,_,World.drewN_drewN _ _ _⟩ | exact ⟨rfl,_,Eq.trans (World.drewN_drewN _ _ _) (congrArg (World.drewN _) (Nat.add_assoc _ _ _))⟩))))
        go_meet
        case rel=>exact ⟨_,(true),(by first | rfl | (simp;done) | (simp [*];done)),H',⟨by have:=HK1.out;first | omega | exact Nat.le_refl _⟩,⟨by (with_reducible repeat (first | refine blk_drewN ?_ _ | refine blk_drew ?_ | refine blk_alloc ?_ _));refine blk_far ?_ NB1_4.out _;(with_reducible repeat (first | refine blk_drewN ?_ _ | refine blk_drew ?_ | refine blk_alloc ?_ _));refine blk_far ?_ NB1_4.out _;(with_reducible repeat (first | refine blk_drewN ?_ _ | refine blk_drew ?_ | refine blk_alloc ?_ _));refine blk_far ?_ NB1_4.out _;(with_reducible repeat (first | refine blk_drewN ?_ _ | refine blk_drew ?_ | refine blk_alloc ?_ _));refine blk_far ?_ NB1_4.out _;(with_reducible repeat (first | refine blk_drewN ?_ _ | refine blk_drew ?_ | refine blk_alloc ?_ _));exact BK1.out⟩,⟨by (with_reducible repeat (first | refine blk_drewN ?_ _ | refine blk_drew ?_ | refine blk_alloc ?_ _));refine blk_put (cs:=#[.int .i64 ((rd_T55 l1 x10_1).f0),.bool ((rd_T55 l1 x10_1).f1),.int .i64 ((rd_T55 l1 x10_1).f2),.int .i64 0]) ?_ 3 _ rfl;(with_reducible repeat (first | refine blk_drewN ?_ _ | refine blk_drew ?_ | refine blk_alloc ?_ _));refine blk_put (cs:=#[.int .i64 ((rd_T55 l1 x10_1).f0),.bool ((rd_T55 l1 x10_1).f1),.int .i64 0,.int .i64 0]) ?_ 2 _ rfl;(with_reducible repeat (first | refine blk_drewN ?_ _ | refine blk_drew ?_ | refine blk_alloc ?_ _));refine blk_put (cs:=#[.int .i64 ((rd_T55 l1 x10_1).f0),.bool false,.int .i64 0,.int .i64 0]) ?_ 1 _ rfl;(with_reducible repeat (first | refine blk_drewN ?_ _ | refine blk_drew ?_ | refine blk_alloc ?_ _));refine blk_put (cs:=#[.int .i64 0,.bool false,.int .i64 0,.int .i64 0]) ?_ 0 _ rfl;(with_reducible repeat (first | refine blk_drewN ?_ _ | refine blk_drew ?_ | refine blk_alloc ?_ _));exact BK4.out⟩,⟨hb_⟩⟩
      case rest =>
       clear HC7
       try clear c1
       try clear p2
       try clear p3
       try clear q3
       try clear hx3
       try clear c4
       try clear c4b0
       try clear c5
       try clear c5b0
       try clear c6
       try clear c6b0
       try clear c9
       try clear c12
       try clear c14
       try clear c15
       try clear c17
       try clear c19
       try clear hcz10_0
       try clear hcz10_1
       try clear hcz10_2
       try clear hcz10_3
       try clear hcz16_0
       try clear hcz16_1
       try clear hcz16_2
       try clear hcz16_3
       try clear hcz18_0
       try clear hcz18_1
       try clear hcz18_2
       try clear hcz18_3
       try clear hcz20_0
       try clear hcz20_1
       try clear hcz20_2
       try clear hcz20_3
       try clear hfz10_0
       try clear hfz10_1
       try clear hfz10_2
       try clear hfz10_3
       try clear hfz16_0
       try clear hfz16_1
       try clear hfz16_2
       try clear hfz16_3
       try clear hfz18_0
       try clear hfz18_1
       try clear hfz18_2
       try clear hfz18_3
       try clear hfz20_0
       try clear hfz20_1
       try clear hfz20_2
       try clear hfz20_3
       try clear hx3_0
       try clear hx3_1
       try clear hx3_2
       try clear hx3_3
       try clear p2
       try clear p3
       try clear q3
       obtain ⟨kq,x32_6,rfl,HA,HJ6,BK1,BK4,HB⟩:=hcut
       cases kq with
       | zero=>exact absurd HA.out (by simp [impl_partsOk.j1])
       | succ kj6 =>
        have H:=HA.out
        clear HA
        simp only [impl_partsOk.j1] at H
        by_cases c21 : x32_6 = true
        ·subst c21
         have H1 : (some false) = some r:=by rw [if_pos rfl] at H;exact H
         clear H
         have H:=H1
         clear H1
         obtain rfl:=Option.some.inj H
         go_wp2
         repeat (go_quiet (fail);try go_wp2)
         go_ret
         exact ⟨by first | rfl | (simp [errW_none,errW_some] <;> rfl) | (simp [*,errW_none,errW_some] <;> rfl),hb_⟩
        ·replace c21:=Bool.eq_false_iff.mpr c21
         subst c21
         have H1 : (if x10_1 > 0 then (if 0 ≤ (wrap64 (x10_1 - 1)) then (if (wrap64 (x10_1 - 1)) < (l1.length : Int) then (if ((rd_T55 l1 x10_1).f0) > ((rd_T55 l1 (wrap64 (x10_1 - 1))).f0) then (if (rd_T55 l1 (wrap64 (x10_1 - 1))).f1 = true then (impl_partsOk.j2 kj6 l1 x10_1 l1 (l1.length : Int) x10_1 (!(((rd_T55 l1 x10_1).f0) == (wrap64 (((rd_T55 l1 (wrap64 (x10_1 - 1))).f0) + 1)))) l0_0 ((rd_T55 l1 x10_1).f0) ((rd_T55 l1 x10_1).f1) ((rd_T55 l1 x10_1).f2) ((rd_T55 l1 x10_1).f3)) else (impl_partsOk.j2 kj6 l1 x10_1 l1 (l1.length : Int) x10_1 (!false) l0_0 ((rd_T55 l1 x10_1).f0) ((rd_T55 l1 x10_1).f1) ((rd_T55 l1 x10_1).f2) ((rd_T55 l1 x10_1).f3))) else (impl_partsOk.j2 kj6 l1 x10_1 l1 (l1.length : Int) x10_1 false l0_0 ((rd_T55 l1 x10_1).f0) ((rd_T55 l1 x10_1).f1) ((rd_T55 l1 x10_1).f2) ((rd_T55 l1 x10_1).f3))) else (none)) else (none)) else (impl_partsOk.j2 kj6 l1 x10_1 l1 (l1.length : Int) x10_1 false l0_0 ((rd_T55 l1 x10_1).f0) ((rd_T55 l1 x10_1).f1) ((rd_T55 l1 x10_1).f2) ((rd_T55 l1 x10_1).f3))) = some r:=by rw [if_neg (show ¬ (false = true) by decide)] at H;exact H
         clear H
         have H:=H1
         clear H1
         have HC22:=a0_ H
         clear H
         go_upto_region 6 with (fail)
         repeat (go_quiet (fail);go_upto_region 6 with (fail))
         go_cut [66] (fun v66 wc=>∃ (kq : Nat) (x66_21 : Bool),v66 = .bool x66_21 ∧ Aside0 (impl_partsOk.j2 kq l1 x10_1 l1 (l1.length : Int) x10_1 x66_21 l0_0 ((rd_T55 l1 x10_1).f0) ((rd_T55 l1 x10_1).f1) ((rd_T55 l1 x10_1).f2) ((rd_T55 l1 x10_1).f3) = some r) ∧ Aside0 (kq ≤ kj6) ∧ Aside0 (wc.heap[gb1]? = some (.cells #[(.slice A0_0 l0_0.length c0_0)] 32 (0,0))) ∧ Aside0 (wc.heap[gb4]? = some (.cells #[.int .i64 ((rd_T55 l1 x10_1).f0),.bool ((rd_T55 l1 x10_1).f1),.int .i64 ((rd_T55 l1 x10_1).f2),.int .i64 ((rd_T55 l1 x10_1).f3)] 55 (0,0))) ∧ Aside0 (Below w.heap.size w wc))
         case first =>
          have H:=HC22.out
          clear HC22
          by_cases c23 : x10_1 > 0
          ·rw [if_pos c23] at H
           have c23b0 : decide (0 < x10_1) = true:=decide_eq_true c23
           clear c23
           (first | rw [c23b0] | (simp only [i64_w,i32_w];rw [c23b0]) | skip)
           obtain ⟨ji24,hji24⟩ : ∃ j_ : Int,(wrap64 (x10_1 - 1)) = j_:=⟨_,rfl⟩
           replace H : (if 0 ≤ (ji24) then (if (ji24) < (l1.length : Int) then (if ((rd_T55 l1 x10_1).f0) > ((rd_T55 l1 (ji24)).f0) then (if (rd_T55 l1 (ji24)).f1 = true then (impl_partsOk.j2 kj6 l1 x10_1 l1 (l1.length : Int) x10_1 (!(((rd_T55 l1 x10_1).f0) == (wrap64 (((rd_T55 l1 (ji24)).f0) + 1)))) l0_0 ((rd_T55 l1 x10_1).f0) ((rd_T55 l1 x10_1).f1) ((rd_T55 l1 x10_1).f2) ((rd_T55 l1 x10_1).f3)) else (impl_partsOk.j2 kj6 l1 x10_1 l1 (l1.length : Int) x10_1 (!false) l0_0 ((rd_T55 l1 x10_1).f0) ((rd_T55 l1 x10_1).f1) ((rd_T55 l1 x10_1).f2) ((rd_T55 l1 x10_1).f3))) else (impl_partsOk.j2 kj6 l1 x10_1 l1 (l1.length : Int) x10_1 false l0_0 ((rd_T55 l1 x10_1).f0) ((rd_T55 l1 x10_1).f1) ((rd_T55 l1 x10_1).f2) ((rd_T55 l1 x10_1).f3))) else (none)) else (none)) = some r:=by first | (rw [hji24] at H;exact H) | (simp only [hji24] at H ⊢;exact H)
           have hji24w : (IntKind.i64.wrap (x10_1 - 1)) = ji24:=(i64_w _).trans hji24
           by_cases c25 : 0 ≤ (ji24)
           ·rw [if_pos c25] at H
            have c25b0 : decide (0 ≤ (ji24)) = true:=decide_eq_true c25
            clear c25
            by_cases c26 : (ji24) < (l1.length : Int)
            ·rw [if_pos c26] at H
             have c26b0 : decide ((ji24) < (l1.length : Int)) = true:=decide_eq_true c26
             clear c26
             by_cases c27 : ((rd_T55 l1 x10_1).f0) > ((rd_T55 l1 (ji24)).f0)
             ·rw [if_pos c27] at H
              have c27b0 : decide (((rd_T55 l1 (ji24)).f0) < ((rd_T55 l1 x10_1).f0)) = true:=decide_eq_true c27
              clear c27
              obtain ⟨bq28,hbq28⟩ : ∃ b_ : Bool,b_ = ((rd_T55 l1 (ji24)).f1):=⟨_,rfl⟩
              replace H : (if bq28 = true then (impl_partsOk.j2 kj6 l1 x10_1 l1 (l1.length : Int) x10_1 (!(((rd_T55 l1 x10_1).f0) == (wrap64 (((rd_T55 l1 (ji24)).f0) + 1)))) l0_0 ((rd_T55 l1 x10_1).f0) ((rd_T55 l1 x10_1).f1) ((rd_T55 l1 x10_1).f2) ((rd_T55 l1 x10_1).f3)) else (impl_partsOk.j2 kj6 l1 x10_1 l1 (l1.length : Int) x10_1 (!false) l0_0 ((rd_T55 l1 x10_1).f0) ((rd_T55 l1 x10_1).f1) ((rd_T55 l1 x10_1).f2) ((rd_T55 l1 x10_1).f3))) = some r:=by rw [← hbq28] at H;exact H
              have Nbq28:=a0_ hbq28
              clear hbq28
              by_cases c29 : bq28 = true
              ·subst c29
               have H1 : (impl_partsOk.j2 kj6 l1 x10_1 l1 (l1.length : Int) x10_1 (!(((rd_T55 l1 x10_1).f0) == (wrap64 (((rd_T55 l1 (ji24)).f0) + 1)))) l0_0 ((rd_T55 l1 x10_1).f0) ((rd_T55 l1 x10_1).f1) ((rd_T55 l1 x10_1).f2) ((rd_T55 l1 x10_1).f3)) = some r:=by rw [if_pos rfl] at H;exact H
               clear H
               have H:=H1
               clear H1
               have H':=a0_ H
               clear H
               have hnb30:=NB4_1.out
               have hnc30:=NB1_4.out
               have hcz31_0 : wc.cell? ⟨gb4,0,none⟩ = some (.int .i64 ((rd_T55 l1 x10_1).f0)):=(blk_cell BK4.out 0).trans rfl
               have hcz31_1 : wc.cell? ⟨gb4,1,none⟩ = some (.bool ((rd_T55 l1 x10_1).f1)):=(blk_cell BK4.out 1).trans rfl
               have hcz31_2 : wc.cell? ⟨gb4,2,none⟩ = some (.int .i64 ((rd_T55 l1 x10_1).f2)):=(blk_cell BK4.out 2).trans rfl
               have hcz31_3 : wc.cell? ⟨gb4,3,none⟩ = some (.int .i64 ((rd_T55 l1 x10_1).f3)):=(blk_cell BK4.out 3).trans rfl
               have hfz31_0:=blk_frozen BK4.out 0
               have hfz31_1:=blk_frozen BK4.out 1
               have hfz31_2:=blk_frozen BK4.out 2
               have hfz31_3:=blk_frozen BK4.out 3
               have p7 : 0 ≤ ((ji24) : Int):=of_decide_eq_true (by first | (with_reducible assumption) | assumption)
               have q7 : (ji24) < (l1.length : Int):=of_decide_eq_true (by first | (with_reducible assumption) | assumption)
               obtain ⟨ad7,e7,hx7_0,hx7_1,hx7_2,hx7_3⟩:=at_T55 HR1.out (ji24) p7 q7
               (try rw [← Nbq28.out] at hx7_1)
               obtain rfl : ad3 = ad7:=(by injection e7)
               replace hx7_0:=(HB.out.cell (World.block_lt_of_cell? w _ hx7_0)).trans hx7_0
               replace hx7_1:=(HB.out.cell (World.block_lt_of_cell? w _ hx7_1)).trans hx7_1
               replace hx7_2:=(HB.out.cell (World.block_lt_of_cell? w _ hx7_2)).trans hx7_2
               replace hx7_3:=(HB.out.cell (World.block_lt_of_cell? w _ hx7_3)).trans hx7_3
               replace p7:=eq_true p7
               replace q7:=eq_true q7
               have p8 : 0 ≤ ((ji24) : Int):=of_decide_eq_true (by first | (with_reducible assumption) | assumption)
               have q8 : (ji24) < (l1.length : Int):=of_decide_eq_true (by first | (with_reducible assumption) | assumption)
               obtain ⟨ad8,e8,hx8_0,hx8_1,hx8_2,hx8_3⟩:=at_T55 HR1.out (ji24) p8 q8
               (try rw [← Nbq28.out] at hx8_1)
               obtain rfl : ad3 = ad8:=(by injection e8)
               replace hx8_0:=(HB.out.cell (World.block_lt_of_cell? w _ hx8_0)).trans hx8_0
               replace hx8_1:=(HB.out.cell (World.block_lt_of_cell? w _ hx8_1)).trans hx8_1
               replace hx8_2:=(HB.out.cell (World.block_lt_of_cell? w _ hx8_2)).trans hx8_2
               replace hx8_3:=(HB.out.cell (World.block_lt_of_cell? w _ hx8_3)).trans hx8_3
               replace p8:=eq_true p8
               replace q8:=eq_true q8
               have p9 : 0 ≤ ((ji24) : Int):=of_decide_eq_true (by first | (with_reducible assumption) | assumption)
               have q9 : (ji24) < (l1.length : Int):=of_decide_eq_true (by first | (with_reducible assumption) | assumption)
               obtain ⟨ad9,e9,hx9_0,hx9_1,hx9_2,hx9_3⟩:=at_T55 HR1.out (ji24) p9 q9
               (try rw [← Nbq28.out] at hx9_1)
               obtain rfl : ad3 = ad9:=(by injection e9)
               replace hx9_0:=(HB.out.cell (World.block_lt_of_cell? w _ hx9_0)).trans hx9_0
               replace hx9_1:=(HB.out.cell (World.block_lt_of_cell? w _ hx9_1)).trans hx9_1
               replace hx9_2:=(HB.out.cell (World.block_lt_of_cell? w _ hx9_2)).trans hx9_2
               replace hx9_3:=(HB.out.cell (World.block_lt_of_cell? w _ hx9_3)).trans hx9_3
               replace p9:=eq_true p9
               replace q9:=eq_true q9
               go_wp2
               repeat (go_quiet (fail);try go_wp2)
               go_meet
               case rel=>exact ⟨_,(!(((rd_T55 l1 x10_1).f0) == (wrap64 (((rd_T55 l1 (ji24)).f0) + 1)))),(by first | rfl | (simp;done) | (simp only [← hji24] <;> (first | rfl | simp)) | (simp [*];done)),H',⟨by have:=HK1.out;have:=HJ6.out;first | omega | exact Nat.le_refl _⟩,⟨by (with_reducible repeat (first | refine blk_drewN ?_ _ | refine blk_drew ?_ | refine blk_alloc ?_ _));exact BK1.out⟩,⟨by (with_reducible repeat (first | refine blk_drewN ?_ _ | refine blk_drew ?_ | refine blk_alloc ?_ _));exact BK4.out⟩,⟨hb_⟩⟩
              ·replace c29:=Bool.eq_false_iff.mpr c29
               subst c29
               have H1 : (impl_partsOk.j2 kj6 l1 x10_1 l1 (l1.length : Int) x10_1 (!false) l0_0 ((rd_T55 l1 x10_1).f0) ((rd_T55 l1 x10_1).f1) ((rd_T55 l1 x10_1).f2) ((rd_T55 l1 x10_1).f3)) = some r:=by rw [if_neg (show ¬ (false = true) by decide)] at H;exact H
               clear H
               have H:=H1
               clear H1
               have H':=a0_ H
               clear H
               have hnb32:=NB4_1.out
               have hnc32:=NB1_4.out
               have hcz33_0 : wc.cell? ⟨gb4,0,none⟩ = some (.int .i64 ((rd_T55 l1 x10_1).f0)):=(blk_cell BK4.out 0).trans rfl
               have hcz33_1 : wc.cell? ⟨gb4,1,none⟩ = some (.bool ((rd_T55 l1 x10_1).f1)):=(blk_cell BK4.out 1).trans rfl
               have hcz33_2 : wc.cell? ⟨gb4,2,none⟩ = some (.int .i64 ((rd_T55 l1 x10_1).f2)):=(blk_cell BK4.out 2).trans rfl
               have hcz33_3 : wc.cell? ⟨gb4,3,none⟩ = some (.int .i64 ((rd_T55 l1 x10_1).f3)):=(blk_cell BK4.out 3).trans rfl
               have hfz33_0:=blk_frozen BK4.out 0
               have hfz33_1:=blk_frozen BK4.out 1
               have hfz33_2:=blk_frozen BK4.out 2
               have hfz33_3:=blk_frozen BK4.out 3
               have p7 : 0 ≤ ((ji24) : Int):=of_decide_eq_true (by first | (with_reducible assumption) | assumption)
               have q7 : (ji24) < (l1.length : Int):=of_decide_eq_true (by first | (with_reducible assumption) | assumption)
               obtain ⟨ad7,e7,hx7_0,hx7_1,hx7_2,hx7_3⟩:=at_T55 HR1.out (ji24) p7 q7
               (try rw [← Nbq28.out] at hx7_1)
               obtain rfl : ad3 = ad7:=(by injection e7)
               replace hx7_0:=(HB.out.cell (World.block_lt_of_cell? w _ hx7_0)).trans hx7_0
               replace hx7_1:=(HB.out.cell (World.block_lt_of_cell? w _ hx7_1)).trans hx7_1
               replace hx7_2:=(HB.out.cell (World.block_lt_of_cell? w _ hx7_2)).trans hx7_2
               replace hx7_3:=(HB.out.cell (World.block_lt_of_cell? w _ hx7_3)).trans hx7_3
               replace p7:=eq_true p7
               replace q7:=eq_true q7
               have p8 : 0 ≤ ((ji24) : Int):=of_decide_eq_true (by first | (with_reducible assumption) | assumption)
               have q8 : (ji24) < (l1.length : Int):=of_decide_eq_true (by first | (with_reducible assumption) | assumption)
               obtain ⟨ad8,e8,hx8_0,hx8_1,hx8_2,hx8_3⟩:=at_T55 HR1.out (ji24) p8 q8
               (try rw [← Nbq28.out] at hx8_1)
               obtain rfl : ad3 = ad8:=(by injection e8)
               replace hx8_0:=(HB.out.cell (World.block_lt_of_cell? w _ hx8_0)).trans hx8_0
               replace hx8_1:=(HB.out.cell (World.block_lt_of_cell? w _ hx8_1)).trans hx8_1
               replace hx8_2:=(HB.out.cell (World.block_lt_of_cell? w _ hx8_2)).trans hx8_2
               replace hx8_3:=(HB.out.cell (World.block_lt_of_cell? w _ hx8_3)).trans hx8_3
               replace p8:=eq_true p8
               replace q8:=eq_true q8
               go_wp2
               repeat (go_quiet (fail);try go_wp2)
               go_meet
               case rel=>exact ⟨_,(!false),(by first | rfl | (simp;done) | (simp [*];done)),H',⟨by have:=HK1.out;have:=HJ6.out;first | omega | exact Nat.le_refl _⟩,⟨by (with_reducible repeat (first | refine blk_drewN ?_ _ | refine blk_drew ?_ | refine blk_alloc ?_ _));exact BK1.out⟩,⟨by (with_reducible repeat (first | refine blk_drewN ?_ _ | refine blk_drew ?_ | refine blk_alloc ?_ _));exact BK4.out⟩,⟨hb_⟩⟩
             ·rw [if_neg c27] at H
              have c27b0 : decide (((rd_T55 l1 (ji24)).f0) < ((rd_T55 l1 x10_1).f0)) = false:=decide_eq_false c27
              clear c27
              have H':=a0_ H
              clear H
              have hnb34:=NB4_1.out
              have hnc34:=NB1_4.out
              have hcz35_0 : wc.cell? ⟨gb4,0,none⟩ = some (.int .i64 ((rd_T55 l1 x10_1).f0)):=(blk_cell BK4.out 0).trans rfl
              have hcz35_1 : wc.cell? ⟨gb4,1,none⟩ = some (.bool ((rd_T55 l1 x10_1).f1)):=(blk_cell BK4.out 1).trans rfl
              have hcz35_2 : wc.cell? ⟨gb4,2,none⟩ = some (.int .i64 ((rd_T55 l1 x10_1).f2)):=(blk_cell BK4.out 2).trans rfl
              have hcz35_3 : wc.cell? ⟨gb4,3,none⟩ = some (.int .i64 ((rd_T55 l1 x10_1).f3)):=(blk_cell BK4.out 3).trans rfl
              have hfz35_0:=blk_frozen BK4.out 0
              have hfz35_1:=blk_frozen BK4.out 1
              have hfz35_2:=blk_frozen BK4.out 2
              have hfz35_3:=blk_frozen BK4.out 3
              have p7 : 0 ≤ ((ji24) : Int):=of_decide_eq_true (by first | (with_reducible assumption) | assumption)
              have q7 : (ji24) < (l1.length : Int):=of_decide_eq_true (by first | (with_reducible assumption) | assumption)
              obtain ⟨ad7,e7,hx7_0,hx7_1,hx7_2,hx7_3⟩:=at_T55 HR1.out (ji24) p7 q7
              obtain rfl : ad3 = ad7:=(by injection e7)
              replace hx7_0:=(HB.out.cell (World.block_lt_of_cell? w _ hx7_0)).trans hx7_0
              replace hx7_1:=(HB.out.cell (World.block_lt_of_cell? w _ hx7_1)).trans hx7_1
              replace hx7_2:=(HB.out.cell (World.block_lt_of_cell? w _ hx7_2)).trans hx7_2
              replace hx7_3:=(HB.out.cell (World.block_lt_of_cell? w _ hx7_3)).trans hx7_3
              replace p7:=eq_true p7
              replace q7:=eq_true q7
              go_wp2
              repeat (go_quiet (fail);try go_wp2)
              go_meet
              case rel=>exact ⟨_,(false),(by first | rfl | (simp;done) | (simp [*];done)),H',⟨by have:=HK1.out;have:=HJ6.out;first | omega | exact Nat.le_refl _⟩,⟨by (with_reducible repeat (first | refine blk_drewN ?_ _ | refine blk_drew ?_ | refine blk_alloc ?_ _));exact BK1.out⟩,⟨by (with_reducible repeat (first | refine blk_drewN ?_ _ | refine blk_drew ?_ | refine blk_alloc ?_ _));exact BK4.out⟩,⟨hb_⟩⟩
            ·rw [if_neg c26] at H
             exact absurd H (by simp)
           ·rw [if_neg c25] at H
            exact absurd H (by simp)
          ·rw [if_neg c23] at H
           have c23b0 : decide (0 < x10_1) = false:=decide_eq_false c23
           clear c23
           (first | rw [c23b0] | (simp only [i64_w,i32_w];rw [c23b0]) | skip)
           have H':=a0_ H
           clear H
           go_wp2
           repeat (go_quiet (fail);try go_wp2)
           go_meet
           case rel=>exact ⟨_,(false),(by first | rfl | (simp;done) | (simp [*];done)),H',⟨by have:=HK1.out;have:=HJ6.out;first | omega | exact Nat.le_refl _⟩,⟨by (with_reducible repeat (first | refine blk_drewN ?_ _ | refine blk_drew ?_ | refine blk_alloc ?_ _));exact BK1.out⟩,⟨by (with_reducible repeat (first | refine blk_drewN ?_ _ | refine blk_drew ?_ | refine blk_alloc ?_ _));exact BK4.out⟩,⟨hb_⟩⟩
         case rest =>
          clear HC22
          try clear c1
          try clear c2
          try clear p2
          try clear q2
          try clear c3
          try clear p3
          try clear q3
          try clear hx3
          try clear c4
          try clear c4b0
          try clear c5
          try clear c5b0
          try clear c6
          try clear c6b0
          try clear p6
          try clear p7
          try clear q7
          try clear hx7
          try clear p8
          try clear q8
          try clear hx8
          try clear c9
          try clear p9
          try clear q9
          try clear hx9
          try clear c12
          try clear c14
          try clear c15
          try clear c17
          try clear c19
          try clear c21
          try clear c23
          try clear c23b0
          try clear c25
          try clear c25b0
          try clear c26
          try clear c26b0
          try clear c27
          try clear c27b0
          try clear q28
          try clear c29
          try clear c30
          try clear c32
          try clear c34
          try clear hcz10_0
          try clear hcz10_1
          try clear hcz10_2
          try clear hcz10_3
          try clear hcz16_0
          try clear hcz16_1
          try clear hcz16_2
          try clear hcz16_3
          try clear hcz18_0
          try clear hcz18_1
          try clear hcz18_2
          try clear hcz18_3
          try clear hcz20_0
          try clear hcz20_1
          try clear hcz20_2
          try clear hcz20_3
          try clear hcz31_0
          try clear hcz31_1
          try clear hcz31_2
          try clear hcz31_3
          try clear hcz33_0
          try clear hcz33_1
          try clear hcz33_2
          try clear hcz33_3
          try clear hcz35_0
          try clear hcz35_1
          try clear hcz35_2
          try clear hcz35_3
          try clear hfz10_0
          try clear hfz10_1
          try clear hfz10_2
          try clear hfz10_3
          try clear hfz16_0
          try clear hfz16_1
          try clear hfz16_2
          try clear hfz16_3
          try clear hfz18_0
          try clear hfz18_1
          try clear hfz18_2
          try clear hfz18_3
          try clear hfz20_0
          try clear hfz20_1
          try clear hfz20_2
          try clear hfz20_3
          try clear hfz31_0
          try clear hfz31_1
          try clear hfz31_2
          try clear hfz31_3
          try clear hfz33_0
          try clear hfz33_1
          try clear hfz33_2
          try clear hfz33_3
          try clear hfz35_0
          try clear hfz35_1
          try clear hfz35_2
          try clear hfz35_3
          try clear hx3_0
          try clear hx3_1
          try clear hx3_2
          try clear hx3_3
          try clear hx7_0
          try clear hx7_1
          try clear hx7_2
          try clear hx7_3
          try clear hx8_0
          try clear hx8_1
          try clear hx8_2
          try clear hx8_3
          try clear hx9_0
          try clear hx9_1
          try clear hx9_2
          try clear hx9_3
          try clear p2
          try clear p3
          try clear p7
          try clear p8
          try clear p9
          try clear q3
          try clear q7
          try clear q8
          try clear q9
          obtain ⟨kq,x66_21,rfl,HA,HJ21,BK1,BK4,HB⟩:=hcut
          cases kq with
          | zero=>exact absurd HA.out (by simp [impl_partsOk.j2])
          | succ kj21 =>
           have H:=HA.out
           clear HA
           simp only [impl_partsOk.j2] at H
           by_cases c36 : x66_21 = true
           ·subst c36
            have H1 : (some false) = some r:=by rw [if_pos rfl] at H;exact H
            clear H
            have H:=H1
            clear H1
            obtain rfl:=Option.some.inj H
            go_wp2
            repeat (go_quiet (fail);try go_wp2)
            go_ret
            exact ⟨by first | rfl | (simp [errW_none,errW_some] <;> rfl) | (simp [*,errW_none,errW_some] <;> rfl),hb_⟩
           ·replace c36:=Bool.eq_false_iff.mpr c36
            subst c36
            have H1 : (if (wrap64 (x10_1 + 1)) < (l1.length : Int) then (if 0 ≤ (wrap64 (x10_1 + 1)) then (if ((rd_T55 l1 x10_1).f1) = true then (if ((rd_T55 l1 x10_1).f2) = 0 then (if (((rd_T55 l1 (wrap64 (x10_1 + 1))).f0) > ((rd_T55 l1 x10_1).f0)) then (impl_partsOk.l0 kj21 l1 l1 (l1.length : Int) (wrap64 (x10_1 + 1)) l0_0) else (some false)) else (some false)) else ((impl_Tree_has.f l0_0 ((rd_T55 l1 x10_1).f2)).bind fun t11=>(if t11 = true then (impl_partsOk.l0 kj21 l1 l1 (l1.length : Int) (wrap64 (x10_1 + 1)) l0_0) else (some false)))) else (none)) else (if ((rd_T55 l1 x10_1).f1) = true then (if ((rd_T55 l1 x10_1).f2) = 0 then (some false) else (some false)) else ((impl_Tree_has.f l0_0 ((rd_T55 l1 x10_1).f2)).bind fun t12=>(if t12 = true then (impl_partsOk.l0 kj21 l1 l1 (l1.length : Int) (wrap64 (x10_1 + 1)) l0_0) else (some false))))) = some r:=by rw [if_neg (show ¬ (false = true) by decide)] at H;exact H
            clear H
            have H:=H1
            clear H1
            by_cases c37 : (wrap64 (x10_1 + 1)) < (l1.length : Int)
            ·rw [if_pos c37] at H
             have c37b0 : decide ((wrap64 (x10_1 + 1)) < (l1.length : Int)) = true:=decide_eq_true c37
             clear c37
             obtain ⟨ji38,hji38⟩ : ∃ j_ : Int,(wrap64 (x10_1 + 1)) = j_:=⟨_,rfl⟩
             replace H : (if 0 ≤ (ji38) then (if ((rd_T55 l1 x10_1).f1) = true then (if ((rd_T55 l1 x10_1).f2) = 0 then (if (((rd_T55 l1 (ji38)).f0) > ((rd_T55 l1 x10_1).f0)) then (impl_partsOk.l0 kj21 l1 l1 (l1.length : Int) ji38 l0_0) else (some false)) else (some false)) else ((impl_Tree_has.f l0_0 ((rd_T55 l1 x10_1).f2)).bind fun t11=>(if t11 = true then (impl_partsOk.l0 kj21 l1 l1 (l1.length : Int) ji38 l0_0) else (some false)))) else (none)) = some r:=by first | (rw [hji38] at H;exact H) | (simp only [hji38] at H ⊢;exact H)
             (try rw [hji38] at c37b0)
             have hji38w : (IntKind.i64.wrap (x10_1 + 1)) = ji38:=(i64_w _).trans hji38
             by_cases c39 : 0 ≤ (ji38)
             ·rw [if_pos c39] at H
              have c39b0 : decide (0 ≤ (ji38)) = true:=decide_eq_true c39
              clear c39
              by_cases c40 : ((rd_T55 l1 x10_1).f1) = true
              ·rw [if_pos c40] at H
               have c40b0 : ((rd_T55 l1 x10_1).f1) = true:=c40
               clear c40
               by_cases c41 : ((rd_T55 l1 x10_1).f2) = 0
               ·rw [if_pos c41] at H
                have c41b0 : (((rd_T55 l1 x10_1).f2) == 0) = true:=beq_iff_eq.mpr c41
                have c41b1 : (((rd_T55 l1 x10_1).f2) != 0) = false:=bne_eq_false_iff_eq.mpr c41
                clear c41
                by_cases c42 : (((rd_T55 l1 (ji38)).f0) > ((rd_T55 l1 x10_1).f0))
                ·rw [if_pos c42] at H
                 have c42b0 : decide (((rd_T55 l1 x10_1).f0) < ((rd_T55 l1 (ji38)).f0)) = true:=decide_eq_true c42
                 clear c42
                 have H':=a0_ H
                 clear H
                 have p10 : 0 ≤ ((ji38) : Int):=of_decide_eq_true (by first | (with_reducible assumption) | assumption)
                 have q10 : (ji38) < (l1.length : Int):=of_decide_eq_true (by first | (with_reducible assumption) | assumption)
                 obtain ⟨ad10,e10,hx10_0,hx10_1,hx10_2,hx10_3⟩:=at_T55 HR1.out (ji38) p10 q10
                 obtain rfl : ad3 = ad10:=(by injection e10)
                 replace hx10_0:=(HB.out.cell (World.block_lt_of_cell? w _ hx10_0)).trans hx10_0
                 replace hx10_1:=(HB.out.cell (World.block_lt_of_cell? w _ hx10_1)).trans hx10_1
                 replace hx10_2:=(HB.out.cell (World.block_lt_of_cell? w _ hx10_2)).trans hx10_2
                 replace hx10_3:=(HB.out.cell (World.block_lt_of_cell? w _ hx10_3)).trans hx10_3
                 replace p10:=eq_true p10
                 replace q10:=eq_true q10
                 have hnb43:=NB4_1.out
                 have hnc43:=NB1_4.out
                 have hcz44_0 : wc.cell? ⟨gb4,0,none⟩ = some (.int .i64 ((rd_T55 l1 x10_1).f0)):=(blk_cell BK4.out 0).trans rfl
                 have hcz44_1 : wc.cell? ⟨gb4,1,none⟩ = some (.bool ((rd_T55 l1 x10_1).f1)):=(blk_cell BK4.out 1).trans rfl
                 have hcz44_2 : wc.cell? ⟨gb4,2,none⟩ = some (.int .i64 ((rd_T55 l1 x10_1).f2)):=(blk_cell BK4.out 2).trans rfl
                 have hcz44_3 : wc.cell? ⟨gb4,3,none⟩ = some (.int .i64 ((rd_T55 l1 x10_1).f3)):=(blk_cell BK4.out 3).trans rfl
                 have hfz44_0:=blk_frozen BK4.out 0
                 have hfz44_1:=blk_frozen BK4.out 1
                 have hfz44_2:=blk_frozen BK4.out 2
                 have hfz44_3:=blk_frozen BK4.out 3
                 go_wp2
                 repeat (go_quiet (fail);try go_wp2)
                 go_roundg kj21
                 case measure=>have:=HK1.out;have:=HJ6.out;have:=HJ21.out;omega
                 case rel=>exact ⟨(ji38),(by first | rfl | (simp;done) | (simp only [← hji38] <;> (first | rfl | simp)) | (simp [*];done)),H',⟨by have:=HK1.out;have:=HJ6.out;have:=HJ21.out;omega⟩,⟨by (with_reducible repeat (first | refine blk_drewN ?_ _ | refine blk_drew ?_ | refine blk_alloc ?_ _));exact BK1.out⟩,⟨hb_⟩⟩
                ·rw [if_neg c42] at H
                 have c42b0 : decide (((rd_T55 l1 x10_1).f0) < ((rd_T55 l1 (ji38)).f0)) = false:=decide_eq_false c42
                 clear c42
                 obtain rfl:=Option.some.inj H
                 have p10 : 0 ≤ ((ji38) : Int):=of_decide_eq_true (by first | (with_reducible assumption) | assumption)
                 have q10 : (ji38) < (l1.length : Int):=of_decide_eq_true (by first | (with_reducible assumption) | assumption)
                 obtain ⟨ad10,e10,hx10_0,hx10_1,hx10_2,hx10_3⟩:=at_T55 HR1.out (ji38) p10 q10
                 obtain rfl : ad3 = ad10:=(by injection e10)
                 replace hx10_0:=(HB.out.cell (World.block_lt_of_cell? w _ hx10_0)).trans hx10_0
                 replace hx10_1:=(HB.out.cell (World.block_lt_of_cell? w _ hx10_1)).trans hx10_1
                 replace hx10_2:=(HB.out.cell (World.block_lt_of_cell? w _ hx10_2)).trans hx10_2
                 replace hx10_3:=(HB.out.cell (World.block_lt_of_cell? w _ hx10_3)).trans hx10_3
                 replace p10:=eq_true p10
                 replace q10:=eq_true q10
                 have hnb45:=NB4_1.out
                 have hnc45:=NB1_4.out
                 have hcz46_0 : wc.cell? ⟨gb4,0,none⟩ = some (.int .i64 ((rd_T55 l1 x10_1).f0)):=(blk_cell BK4.out 0).trans rfl
                 have hcz46_1 : wc.cell? ⟨gb4,1,none⟩ = some (.bool ((rd_T55 l1 x10_1).f1)):=(blk_cell BK4.out 1).trans rfl
                 have hcz46_2 : wc.cell? ⟨gb4,2,none⟩ = some (.int .i64 ((rd_T55 l1 x10_1).f2)):=(blk_cell BK4.out 2).trans rfl
                 have hcz46_3 : wc.cell? ⟨gb4,3,none⟩ = some (.int .i64 ((rd_T55 l1 x10_1).f3)):=(blk_cell BK4.out 3).trans rfl
                 have hfz46_0:=blk_frozen BK4.out 0
                 have hfz46_1:=blk_frozen BK4.out 1
                 have hfz46_2:=blk_frozen BK4.out 2
                 have hfz46_3:=blk_frozen BK4.out 3
                 go_wp2
                 repeat (go_quiet (fail);try go_wp2)
                 go_ret
                 exact ⟨by first | rfl | (simp [errW_none,errW_some] <;> rfl) | (simp only [← hji38];first | rfl | (simp [errW_none,errW_some] <;> rfl)) | (simp [*,errW_none,errW_some] <;> rfl),hb_⟩
               ·rw [if_neg c41] at H
                have c41b0 : (((rd_T55 l1 x10_1).f2) == 0) = false:=beq_eq_false_iff_ne.mpr c41
                have c41b1 : (((rd_T55 l1 x10_1).f2) != 0) = true:=bne_iff_ne.mpr c41
                obtain rfl:=Option.some.inj H
                have p10 : 0 ≤ ((ji38) : Int):=of_decide_eq_true (by first | (with_reducible assumption) | assumption)
                have q10 : (ji38) < (l1.length : Int):=of_decide_eq_true (by first | (with_reducible assumption) | assumption)
                obtain ⟨ad10,e10,hx10_0,hx10_1,hx10_2,hx10_3⟩:=at_T55 HR1.out (ji38) p10 q10
                obtain rfl : ad3 = ad10:=(by injection e10)
                replace hx10_0:=(HB.out.cell (World.block_lt_of_cell? w _ hx10_0)).trans hx10_0
                replace hx10_1:=(HB.out.cell (World.block_lt_of_cell? w _ hx10_1)).trans hx10_1
                replace hx10_2:=(HB.out.cell (World.block_lt_of_cell? w _ hx10_2)).trans hx10_2
                replace hx10_3:=(HB.out.cell (World.block_lt_of_cell? w _ hx10_3)).trans hx10_3
                replace p10:=eq_true p10
                replace q10:=eq_true q10
                have hnb47:=NB4_1.out
                have hnc47:=NB1_4.out
                have hcz48_0 : wc.cell? ⟨gb4,0,none⟩ = some (.int .i64 ((rd_T55 l1 x10_1).f0)):=(blk_cell BK4.out 0).trans rfl
                have hcz48_1 : wc.cell? ⟨gb4,1,none⟩ = some (.bool ((rd_T55 l1 x10_1).f1)):=(blk_cell BK4.out 1).trans rfl
                have hcz48_2 : wc.cell? ⟨gb4,2,none⟩ = some (.int .i64 ((rd_T55 l1 x10_1).f2)):=(blk_cell BK4.out 2).trans rfl
                have hcz48_3 : wc.cell? ⟨gb4,3,none⟩ = some (.int .i64 ((rd_T55 l1 x10_1).f3)):=(blk_cell BK4.out 3).trans rfl
                have hfz48_0:=blk_frozen BK4.out 0
                have hfz48_1:=blk_frozen BK4.out 1
                have hfz48_2:=blk_frozen BK4.out 2
                have hfz48_3:=blk_frozen BK4.out 3
                go_wp2
                repeat (go_quiet (fail);try go_wp2)
                go_ret
                exact ⟨by first | rfl | (simp [errW_none,errW_some] <;> rfl) | (simp only [← hji38];first | rfl | (simp [errW_none,errW_some] <;> rfl)) | (simp [*,errW_none,errW_some] <;> rfl),hb_⟩
              ·rw [if_neg c40] at H
               have c40b0 : ((rd_T55 l1 x10_1).f1) = false:=by simpa using c40
               clear c40
               replace H:=Option.bind_eq_some_iff.mp H
               obtain ⟨t11,A490,H⟩:=H
               try dsimp only at H
               have A49:=a0_ A490
               clear A490
               by_cases c50 : t11 = true
               ·subst c50
                have H1 : (impl_partsOk.l0 kj21 l1 l1 (l1.length : Int) ji38 l0_0) = some r:=by rw [if_pos rfl] at H;exact H
                clear H
                have H:=H1
                clear H1
                have H':=a0_ H
                clear H
                have p10 : 0 ≤ ((ji38) : Int):=of_decide_eq_true (by first | (with_reducible assumption) | assumption)
                have q10 : (ji38) < (l1.length : Int):=of_decide_eq_true (by first | (with_reducible assumption) | assumption)
                obtain ⟨ad10,e10,hx10_0,hx10_1,hx10_2,hx10_3⟩:=at_T55 HR1.out (ji38) p10 q10
                obtain rfl : ad3 = ad10:=(by injection e10)
                replace hx10_0:=(HB.out.cell (World.block_lt_of_cell? w _ hx10_0)).trans hx10_0
                replace hx10_1:=(HB.out.cell (World.block_lt_of_cell? w _ hx10_1)).trans hx10_1
                replace hx10_2:=(HB.out.cell (World.block_lt_of_cell? w _ hx10_2)).trans hx10_2
                replace hx10_3:=(HB.out.cell (World.block_lt_of_cell? w _ hx10_3)).trans hx10_3
                replace p10:=eq_true p10
                replace q10:=eq_true q10
                have hnb51:=NB4_1.out
                have hnc51:=NB1_4.out
                have hcz52_0 : wc.cell? ⟨gb4,0,none⟩ = some (.int .i64 ((rd_T55 l1 x10_1).f0)):=(blk_cell BK4.out 0).trans rfl
                have hcz52_1 : wc.cell? ⟨gb4,1,none⟩ = some (.bool ((rd_T55 l1 x10_1).f1)):=(blk_cell BK4.out 1).trans rfl
                have hcz52_2 : wc.cell? ⟨gb4,2,none⟩ = some (.int .i64 ((rd_T55 l1 x10_1).f2)):=(blk_cell BK4.out 2).trans rfl
                have hcz52_3 : wc.cell? ⟨gb4,3,none⟩ = some (.int .i64 ((rd_T55 l1 x10_1).f3)):=(blk_cell BK4.out 3).trans rfl
                have hfz52_0:=blk_frozen BK4.out 0
                have hfz52_1:=blk_frozen BK4.out 1
                have hfz52_2:=blk_frozen BK4.out 2
                have hfz52_3:=blk_frozen BK4.out 3
                have hcz53_0 : wc.cell? ⟨gb1,0,none⟩ = some (.slice A0_0 l0_0.length c0_0):=(blk_cell BK1.out 0).trans rfl
                have hfz53_0:=blk_frozen BK1.out 0
                go_wp2_with (first | (go_at_call 65;(with_reducible refine (impl_Tree_has.calls _ _ l0_0 ((rd_T55 l1 x10_1).f2) true _ ?side1 ?side2 A49.out).mono ?_);(case side1=>exact cc_ (Kd.C_below HR0_0.out HB.out));(case side2=>exact HC0_0.out);rintro e w54 ⟨rfl,hb⟩;replace BK1:=kb_ BK1 hb;replace BK4:=kb_ BK4 hb;replace HB:=a0_ (below_step hb_ hb);(try clear hb);(try clear hb2);(try clear hk);(try clear hi)))
                repeat (go_quiet (first | (go_at_call 65;(with_reducible refine (impl_Tree_has.calls _ _ l0_0 ((rd_T55 l1 x10_1).f2) true _ ?side1 ?side2 A49.out).mono ?_);(case side1=>exact cc_ (Kd.C_below HR0_0.out HB.out));(case side2=>exact HC0_0.out);rintro e w54 ⟨rfl,hb⟩;replace BK1:=kb_ BK1 hb;replace BK4:=kb_ BK4 hb;replace HB:=a0_ (below_step hb_ hb);(try clear hb);(try clear hb2);(try clear hk);(try clear hi)));try go_wp2_with (first | (go_at_call 65;(with_reducible refine (impl_Tree_has.calls _ _ l0_0 ((rd_T55 l1 x10_1).f2) true _ ?side1 ?side2 A49.out).mono ?_);(case side1=>exact cc_ (Kd.C_below HR0_0.out HB.out));(case side2=>exact HC0_0.out);rintro e w54 ⟨rfl,hb⟩;replace BK1:=kb_ BK1 hb;replace BK4:=kb_ BK4 hb;replace HB:=a0_ (below_step hb_ hb);(try clear hb);(try clear hb2);(try clear hk);(try clear hi))))
                go_roundg kj21
                case measure=>have:=HK1.out;have:=HJ6.out;have:=HJ21.out;omega
                case rel=>exact ⟨(ji38),(by first | rfl | (simp;done) | (simp only [← hji38] <;> (first | rfl | simp)) | (simp [*];done)),H',⟨by have:=HK1.out;have:=HJ6.out;have:=HJ21.out;omega⟩,⟨by (with_reducible repeat (first | refine blk_drewN ?_ _ | refine blk_drew ?_ | refine blk_alloc ?_ _));exact BK1.out⟩,⟨hb_⟩⟩
               ·replace c50:=Bool.eq_false_iff.mpr c50
                subst c50
                have H1 : (some false) = some r:=by rw [if_neg (show ¬ (false = true) by decide)] at H;exact H
                clear H
                have H:=H1
                clear H1
                obtain rfl:=Option.some.inj H
                have p10 : 0 ≤ ((ji38) : Int):=of_decide_eq_true (by first | (with_reducible assumption) | assumption)
                have q10 : (ji38) < (l1.length : Int):=of_decide_eq_true (by first | (with_reducible assumption) | assumption)
                obtain ⟨ad10,e10,hx10_0,hx10_1,hx10_2,hx10_3⟩:=at_T55 HR1.out (ji38) p10 q10
                obtain rfl : ad3 = ad10:=(by injection e10)
                replace hx10_0:=(HB.out.cell (World.block_lt_of_cell? w _ hx10_0)).trans hx10_0
                replace hx10_1:=(HB.out.cell (World.block_lt_of_cell? w _ hx10_1)).trans hx10_1
                replace hx10_2:=(HB.out.cell (World.block_lt_of_cell? w _ hx10_2)).trans hx10_2
                replace hx10_3:=(HB.out.cell (World.block_lt_of_cell? w _ hx10_3)).trans hx10_3
                replace p10:=eq_true p10
                replace q10:=eq_true q10
                have hnb55:=NB4_1.out
                have hnc55:=NB1_4.out
                have hcz56_0 : wc.cell? ⟨gb4,0,none⟩ = some (.int .i64 ((rd_T55 l1 x10_1).f0)):=(blk_cell BK4.out 0).trans rfl
                have hcz56_1 : wc.cell? ⟨gb4,1,none⟩ = some (.bool ((rd_T55 l1 x10_1).f1)):=(blk_cell BK4.out 1).trans rfl
                have hcz56_2 : wc.cell? ⟨gb4,2,none⟩ = some (.int .i64 ((rd_T55 l1 x10_1).f2)):=(blk_cell BK4.out 2).trans rfl
                have hcz56_3 : wc.cell? ⟨gb4,3,none⟩ = some (.int .i64 ((rd_T55 l1 x10_1).f3)):=(blk_cell BK4.out 3).trans rfl
                have hfz56_0:=blk_frozen BK4.out 0
                have hfz56_1:=blk_frozen BK4.out 1
                have hfz56_2:=blk_frozen BK4.out 2
                have hfz56_3:=blk_frozen BK4.out 3
                have hcz57_0 : wc.cell? ⟨gb1,0,none⟩ = some (.slice A0_0 l0_0.length c0_0):=(blk_cell BK1.out 0).trans rfl
                have hfz57_0:=blk_frozen BK1.out 0
                go_wp2_with (first | (go_at_call 65;(with_reducible refine (impl_Tree_has.calls _ _ l0_0 ((rd_T55 l1 x10_1).f2) false _ ?side1 ?side2 A49.out).mono ?_);(case side1=>exact cc_ (Kd.C_below HR0_0.out HB.out));(case side2=>exact HC0_0.out);rintro e w58 ⟨rfl,hb⟩;replace BK1:=kb_ BK1 hb;replace BK4:=kb_ BK4 hb;replace HB:=a0_ (below_step hb_ hb);(try clear hb);(try clear hb2);(try clear hk);(try clear hi)))
                repeat (go_quiet (first | (go_at_call 65;(with_reducible refine (impl_Tree_has.calls _ _ l0_0 ((rd_T55 l1 x10_1).f2) false _ ?side1 ?side2 A49.out).mono ?_);(case side1=>exact cc_ (Kd.C_below HR0_0.out HB.out));(case side2=>exact HC0_0.out);rintro e w58 ⟨rfl,hb⟩;replace BK1:=kb_ BK1 hb;replace BK4:=kb_ BK4 hb;replace HB:=a0_ (below_step hb_ hb);(try clear hb);(try clear hb2);(try clear hk);(try clear hi)));try go_wp2_with (first | (go_at_call 65;(with_reducible refine (impl_Tree_has.calls _ _ l0_0 ((rd_T55 l1 x10_1).f2) false _ ?side1 ?side2 A49.out).mono ?_);(case side1=>exact cc_ (Kd.C_below HR0_0.out HB.out));(case side2=>exact HC0_0.out);rintro e w58 ⟨rfl,hb⟩;replace BK1:=kb_ BK1 hb;replace BK4:=kb_ BK4 hb;replace HB:=a0_ (below_step hb_ hb);(try clear hb);(try clear hb2);(try clear hk);(try clear hi))))
                go_ret
                exact ⟨by first | rfl | (simp [errW_none,errW_some] <;> rfl) | (simp only [← hji38];first | rfl | (simp [errW_none,errW_some] <;> rfl)) | (simp [*,errW_none,errW_some] <;> rfl),hb_⟩
             ·rw [if_neg c39] at H
              exact absurd H (by simp)
            ·rw [if_neg c37] at H
             have c37b0 : decide ((wrap64 (x10_1 + 1)) < (l1.length : Int)) = false:=decide_eq_false c37
             clear c37
             by_cases c59 : ((rd_T55 l1 x10_1).f1) = true
             ·rw [if_pos c59] at H
              have c59b0 : ((rd_T55 l1 x10_1).f1) = true:=c59
              clear c59
              by_cases c60 : ((rd_T55 l1 x10_1).f2) = 0
              ·rw [if_pos c60] at H
               have c60b0 : (((rd_T55 l1 x10_1).f2) == 0) = true:=beq_iff_eq.mpr c60
               have c60b1 : (((rd_T55 l1 x10_1).f2) != 0) = false:=bne_eq_false_iff_eq.mpr c60
               clear c60
               obtain rfl:=Option.some.inj H
               have hnb61:=NB4_1.out
               have hnc61:=NB1_4.out
               have hcz62_0 : wc.cell? ⟨gb4,0,none⟩ = some (.int .i64 ((rd_T55 l1 x10_1).f0)):=(blk_cell BK4.out 0).trans rfl
               have hcz62_1 : wc.cell? ⟨gb4,1,none⟩ = some (.bool ((rd_T55 l1 x10_1).f1)):=(blk_cell BK4.out 1).trans rfl
               have hcz62_2 : wc.cell? ⟨gb4,2,none⟩ = some (.int .i64 ((rd_T55 l1 x10_1).f2)):=(blk_cell BK4.out 2).trans rfl
               have hcz62_3 : wc.cell? ⟨gb4,3,none⟩ = some (.int .i64 ((rd_T55 l1 x10_1).f3)):=(blk_cell BK4.out 3).trans rfl
               have hfz62_0:=blk_frozen BK4.out 0
               have hfz62_1:=blk_frozen BK4.out 1
               have hfz62_2:=blk_frozen BK4.out 2
               have hfz62_3:=blk_frozen BK4.out 3
               go_wp2
               repeat (go_quiet (fail);try go_wp2)
               go_ret
               exact ⟨by first | rfl | (simp [errW_none,errW_some] <;> rfl) | (simp [*,errW_none,errW_some] <;> rfl),hb_⟩
              ·rw [if_neg c60] at H
               have c60b0 : (((rd_T55 l1 x10_1).f2) == 0) = false:=beq_eq_false_iff_ne.mpr c60
               have c60b1 : (((rd_T55 l1 x10_1).f2) != 0) = true:=bne_iff_ne.mpr c60
               obtain rfl:=Option.some.inj H
               have hnb63:=NB4_1.out
               have hnc63:=NB1_4.out
               have hcz64_0 : wc.cell? ⟨gb4,0,none⟩ = some (.int .i64 ((rd_T55 l1 x10_1).f0)):=(blk_cell BK4.out 0).trans rfl
               have hcz64_1 : wc.cell? ⟨gb4,1,none⟩ = some (.bool ((rd_T55 l1 x10_1).f1)):=(blk_cell BK4.out 1).trans rfl
               have hcz64_2 : wc.cell? ⟨gb4,2,none⟩ = some (.int .i64 ((rd_T55 l1 x10_1).f2)):=(blk_cell BK4.out 2).trans rfl
               have hcz64_3 : wc.cell? ⟨gb4,3,none⟩ = some (.int .i64 ((rd_T55 l1 x10_1).f3)):=(blk_cell BK4.out 3).trans rfl
               have hfz64_0:=blk_frozen BK4.out 0
               have hfz64_1:=blk_frozen BK4.out 1
               have hfz64_2:=blk_frozen BK4.out 2
               have hfz64_3:=blk_frozen BK4.out 3
               go_wp2
               repeat (go_quiet (fail);try go_wp2)
               go_ret
               exact ⟨by first | rfl | (simp [errW_none,errW_some] <;> rfl) | (simp [*,errW_none,errW_some] <;> rfl),hb_⟩
             ·rw [if_neg c59] at H
              have c59b0 : ((rd_T55 l1 x10_1).f1) = false:=by simpa using c59
              clear c59
              replace H:=Option.bind_eq_some_iff.mp H
              obtain ⟨t12,A650,H⟩:=H
              try dsimp only at H
              have A65:=a0_ A650
              clear A650
              by_cases c66 : t12 = true
              ·subst c66
               have H1 : (impl_partsOk.l0 kj21 l1 l1 (l1.length : Int) (wrap64 (x10_1 + 1)) l0_0) = some r:=by rw [if_pos rfl] at H;exact H
               clear H
               have H:=H1
               clear H1
               have H':=a0_ H
               clear H
               have hnb67:=NB4_1.out
               have hnc67:=NB1_4.out
               have hcz68_0 : wc.cell? ⟨gb4,0,none⟩ = some (.int .i64 ((rd_T55 l1 x10_1).f0)):=(blk_cell BK4.out 0).trans rfl
               have hcz68_1 : wc.cell? ⟨gb4,1,none⟩ = some (.bool ((rd_T55 l1 x10_1).f1)):=(blk_cell BK4.out 1).trans rfl
               have hcz68_2 : wc.cell? ⟨gb4,2,none⟩ = some (.int .i64 ((rd_T55 l1 x10_1).f2)):=(blk_cell BK4.out 2).trans rfl
               have hcz68_3 : wc.cell? ⟨gb4,3,none⟩ = some (.int .i64 ((rd_T55 l1 x10_1).f3)):=(blk_cell BK4.out 3).trans rfl
               have hfz68_0:=blk_frozen BK4.out 0
               have hfz68_1:=blk_frozen BK4.out 1
               have hfz68_2:=blk_frozen BK4.out 2
               have hfz68_3:=blk_frozen BK4.out 3
               have hcz69_0 : wc.cell? ⟨gb1,0,none⟩ = some (.slice A0_0 l0_0.length c0_0):=(blk_cell BK1.out 0).trans rfl
               have hfz69_0:=blk_frozen BK1.out 0
               go_wp2_with (first | (go_at_call 65;(with_reducible refine (impl_Tree_has.calls _ _ l0_0 ((rd_T55 l1 x10_1).f2) true _ ?side1 ?side2 A65.out).mono ?_);(case side1=>exact cc_ (Kd.C_below HR0_0.out HB.out));(case side2=>exact HC0_0.out);rintro e w70 ⟨rfl,hb⟩;replace BK1:=kb_ BK1 hb;replace BK4:=kb_ BK4 hb;replace HB:=a0_ (below_step hb_ hb);(try clear hb);(try clear hb2);(try clear hk);(try clear hi)))
               repeat (go_quiet (first | (go_at_call 65;(with_reducible refine (impl_Tree_has.calls _ _ l0_0 ((rd_T55 l1 x10_1).f2) true _ ?side1 ?side2 A65.out).mono ?_);(case side1=>exact cc_ (Kd.C_below HR0_0.out HB.out));(case side2=>exact HC0_0.out);rintro e w70 ⟨rfl,hb⟩;replace BK1:=kb_ BK1 hb;replace BK4:=kb_ BK4 hb;replace HB:=a0_ (below_step hb_ hb);(try clear hb);(try clear hb2);(try clear hk);(try clear hi)));try go_wp2_with (first | (go_at_call 65;(with_reducible refine (impl_Tree_has.calls _ _ l0_0 ((rd_T55 l1 x10_1).f2) true _ ?side1 ?side2 A65.out).mono ?_);(case side1=>exact cc_ (Kd.C_below HR0_0.out HB.out));(case side2=>exact HC0_0.out);rintro e w70 ⟨rfl,hb⟩;replace BK1:=kb_ BK1 hb;replace BK4:=kb_ BK4 hb;replace HB:=a0_ (below_step hb_ hb);(try clear hb);(try clear hb2);(try clear hk);(try clear hi))))
               go_roundg kj21
               case measure=>have:=HK1.out;have:=HJ6.out;have:=HJ21.out;omega
               case rel=>exact ⟨(wrap64 (x10_1 + 1)),(by first | rfl | (simp;done) | (simp [*];done)),H',⟨by have:=HK1.out;have:=HJ6.out;have:=HJ21.out;omega⟩,⟨by (with_reducible repeat (first | refine blk_drewN ?_ _ | refine blk_drew ?_ | refine blk_alloc ?_ _));exact BK1.out⟩,⟨hb_⟩⟩
              ·replace c66:=Bool.eq_false_iff.mpr c66
               subst c66
               have H1 : (some false) = some r:=by rw [if_neg (show ¬ (false = true) by decide)] at H;exact H
               clear H
               have H:=H1
               clear H1
               obtain rfl:=Option.some.inj H
               have hnb71:=NB4_1.out
               have hnc71:=NB1_4.out
               have hcz72_0 : wc.cell? ⟨gb4,0,none⟩ = some (.int .i64 ((rd_T55 l1 x10_1).f0)):=(blk_cell BK4.out 0).trans rfl
               have hcz72_1 : wc.cell? ⟨gb4,1,none⟩ = some (.bool ((rd_T55 l1 x10_1).f1)):=(blk_cell BK4.out 1).trans rfl
               have hcz72_2 : wc.cell? ⟨gb4,2,none⟩ = some (.int .i64 ((rd_T55 l1 x10_1).f2)):=(blk_cell BK4.out 2).trans rfl
               have hcz72_3 : wc.cell? ⟨gb4,3,none⟩ = some (.int .i64 ((rd_T55 l1 x10_1).f3)):=(blk_cell BK4.out 3).trans rfl
               have hfz72_0:=blk_frozen BK4.out 0
               have hfz72_1:=blk_frozen BK4.out 1
               have hfz72_2:=blk_frozen BK4.out 2
               have hfz72_3:=blk_frozen BK4.out 3
               have hcz73_0 : wc.cell? ⟨gb1,0,none⟩ = some (.slice A0_0 l0_0.length c0_0):=(blk_cell BK1.out 0).trans rfl
               have hfz73_0:=blk_frozen BK1.out 0
               go_wp2_with (first | (go_at_call 65;(with_reducible refine (impl_Tree_has.calls _ _ l0_0 ((rd_T55 l1 x10_1).f2) false _ ?side1 ?side2 A65.out).mono ?_);(case side1=>exact cc_ (Kd.C_below HR0_0.out HB.out));(case side2=>exact HC0_0.out);rintro e w74 ⟨rfl,hb⟩;replace BK1:=kb_ BK1 hb;replace BK4:=kb_ BK4 hb;replace HB:=a0_ (below_step hb_ hb);(try clear hb);(try clear hb2);(try clear hk);(try clear hi)))
               repeat (go_quiet (first | (go_at_call 65;(with_reducible refine (impl_Tree_has.calls _ _ l0_0 ((rd_T55 l1 x10_1).f2) false _ ?side1 ?side2 A65.out).mono ?_);(case side1=>exact cc_ (Kd.C_below HR0_0.out HB.out));(case side2=>exact HC0_0.out);rintro e w74 ⟨rfl,hb⟩;replace BK1:=kb_ BK1 hb;replace BK4:=kb_ BK4 hb;replace HB:=a0_ (below_step hb_ hb);(try clear hb);(try clear hb2);(try clear hk);(try clear hi)));try go_wp2_with (first | (go_at_call 65;(with_reducible refine (impl_Tree_has.calls _ _ l0_0 ((rd_T55 l1 x10_1).f2) false _ ?side1 ?side2 A65.out).mono ?_);(case side1=>exact cc_ (Kd.C_below HR0_0.out HB.out));(case side2=>exact HC0_0.out);rintro e w74 ⟨rfl,hb⟩;replace BK1:=kb_ BK1 hb;replace BK4:=kb_ BK4 hb;replace HB:=a0_ (below_step hb_ hb);(try clear hb);(try clear hb2);(try clear hk);(try clear hi))))
               go_ret
               exact ⟨by first | rfl | (simp [errW_none,errW_some] <;> rfl) | (simp [*,errW_none,errW_some] <;> rfl),hb_⟩
     ·rw [if_neg c6] at H
      exact absurd H (by simp)
    ·rw [if_neg c5] at H
     exact absurd H (by simp)
   ·rw [if_neg c4] at H
    have c4b0 : decide (x10_1 < (l1.length : Int)) = false:=decide_eq_false c4
    clear c4
    replace H:=Option.bind_eq_some_iff.mp H
    obtain ⟨t2,A750,H⟩:=H
    replace H : (some t2) = some r:=H
    have A75:=a0_ A750
    clear A750
    obtain rfl:=Option.some.inj H
    go_wp2_with (first | (go_at_call 63;(with_reducible refine (impl_within.calls (l1.length : Int) 1 16 t2 _ A75.out).mono ?_);rintro e w' ⟨rfl,⟨nd,rfl⟩⟩;(try first | exact ⟨rfl,_,World.drewN_drewN _ _ _⟩ | exact ⟨rfl,_,Eq.trans (World.drewN_drewN _ _ _) (congrArg (World.drewN _) (Nat.add_assoc _ _ _))⟩)))
    repeat (go_quiet (first | (go_at_call 63;(with_reducible refine (impl_within.calls (l1.length : Int) 1 16 t2 _ A75.out).mono ?_);rintro e w' ⟨rfl,⟨nd,rfl⟩⟩;(try first | exact ⟨rfl,_,World.drewN_drewN _ _ _⟩ | exact ⟨rfl,_,Eq.trans (World.drewN_drewN _ _ _) (congrArg (World.drewN _) (Nat.add_assoc _ _ _))⟩)));try go_wp2_with (first | (go_at_call 63;(with_reducible refine (impl_within.calls (l1.length : Int) 1 16 t2 _ A75.out).mono ?_);rintro e w' ⟨rfl,⟨nd,rfl⟩⟩;(try first | exact ⟨rfl,_,World.drewN_drewN _ _ _⟩ | exact ⟨rfl,_,Eq.trans (World.drewN_drewN _ _ _) (congrArg (World.drewN _) (Nat.add_assoc _ _ _))⟩))))
    go_ret
    exact ⟨by first | rfl | (simp [errW_none,errW_some] <;> rfl) | (simp [*,errW_none,errW_some] <;> rfl),hb_⟩
theorem impl_partsOk_j2 (t : List Cls) (g : List Prt) (ht : t.length ≤ 9223372036854775807) (hl : g.length ≤ 9223372036854775807) (i : Nat) (hi : i < g.length) (p : Prt) (hp : g.getD i z55 = p) (b R : Bool)
  (hn : b = false → okB t g i p = true → Ev (fun k=>impl_partsOk.l0 k g g (g.length : Int) ((i + 1 : Nat) : Int) t) R) : Ev (fun k=>impl_partsOk.j2 k g (i : Int) g (g.length : Int) (i : Int) b t p.f0 p.f1 p.f2 p.f3) (!b && (okB t g i p && R)):=by
 have hw : wrap64 ((i : Int) + 1) = ((i + 1 : Nat) : Int):=by rw [wrap_succ (i:=(i : Int)) (n:=g.length) (by omega) (by omega) (by omega)];rfl
 have hrd : rd_T55 g ((i + 1 : Nat) : Int) = g.getD (i + 1) z55:=by simp [rd_T55]
 refine Ev.succ ?_
 simp only [impl_partsOk.j2,hw,hrd]
 cases b with
 | true=>exact Ev.pos rfl (Ev.const rfl)
 | false =>
  refine Ev.neg (by simp) ?_
  rw [Bool.not_false,Bool.true_and]
  replace hn:=hn rfl
  unfold okB at hn ⊢
  by_cases hlt : ((i + 1 : Nat) : Int) < (g.length : Int)
  ·refine Ev.pos hlt (Ev.pos (by omega) ?_)
   cases h1 : p.f1 with
   | true =>
    refine Ev.pos rfl ?_
    rw [h1,if_pos rfl] at hn
    rw [if_pos rfl]
    by_cases h2 : p.f2 = 0
    ·refine Ev.pos h2 ?_
     rw [beq_iff_eq.2 h2,Bool.true_and] at hn ⊢
     unfold belowB at hn ⊢
     rw [hp,decide_eq_true (show i + 1 < g.length by omega),Bool.true_and] at hn ⊢
     by_cases h3 : (g.getD (i + 1) z55).f0 > p.f0
     ·rw [decide_eq_true (show p.f0 < (g.getD (i + 1) z55).f0 from h3)] at hn ⊢
      rw [Bool.true_and]
      exact Ev.pos h3 (hn rfl)
     ·rw [decide_eq_false (show ¬ p.f0 < (g.getD (i + 1) z55).f0 from h3),Bool.false_and]
      exact Ev.neg h3 (Ev.const rfl)
    ·refine Ev.neg h2 ?_
     rw [beq_eq_false_iff_ne.2 h2]
     exact Ev.const rfl
   | false =>
    refine Ev.neg (by simp) ?_
    rw [h1,if_neg (by simp)] at hn
    rw [if_neg (by simp)]
    refine Ev.bind (Ev.const (impl_Tree_has_ev t p.f2 ht)) ?_
    cases h4 : hasC t p.f2 with
    | true=>exact Ev.pos rfl (hn h4)
    | false=>exact Ev.neg (by simp) (Ev.const rfl)
  ·refine Ev.neg hlt ?_
   cases h1 : p.f1 with
   | true =>
    refine Ev.pos rfl ?_
    rw [if_pos rfl]
    unfold belowB
    rw [decide_eq_false (show ¬ i + 1 < g.length by omega),Bool.false_and,Bool.and_false,Bool.false_and]
    by_cases h2 : p.f2 = 0
    ·exact Ev.pos h2 (Ev.const rfl)
    ·exact Ev.neg h2 (Ev.const rfl)
   | false =>
    refine Ev.neg (by simp) ?_
    rw [h1,if_neg (by simp)] at hn
    rw [if_neg (by simp)]
    refine Ev.bind (Ev.const (impl_Tree_has_ev t p.f2 ht)) ?_
    cases h4 : hasC t p.f2 with
    | true=>exact Ev.pos rfl (hn h4)
    | false=>exact Ev.neg (by simp) (Ev.const rfl)
theorem impl_partsOk_j1 (t : List Cls) (g : List Prt) (ht : t.length ≤ 9223372036854775807) (hl : g.length ≤ 9223372036854775807) (i : Nat) (hi : i < g.length) (p : Prt) (hp : g.getD i z55 = p) (b R : Bool) (hq : 0 < i → 0 ≤ (g.getD (i - 1) z55).f0 ∧ (g.getD (i - 1) z55).f0 ≤ 5)
  (hn : b = false → okU g i p = true → okB t g i p = true → Ev (fun k=>impl_partsOk.l0 k g g (g.length : Int) ((i + 1 : Nat) : Int) t) R) : Ev (fun k=>impl_partsOk.j1 k g (i : Int) g (g.length : Int) (i : Int) b t p.f0 p.f1 p.f2 p.f3) (!b && (okU g i p && (okB t g i p && R))):=by
 refine Ev.succ ?_
 simp only [impl_partsOk.j1]
 cases b with
 | true=>exact Ev.pos rfl (Ev.const rfl)
 | false =>
  refine Ev.neg (by simp) ?_
  rw [Bool.not_false,Bool.true_and]
  replace hn:=hn rfl
  unfold okU at hn ⊢
  by_cases h0 : i = 0
  ·refine Ev.neg (by omega) ?_
   rw [if_pos h0] at hn
   rw [if_pos h0,Bool.true_and]
   simpa using impl_partsOk_j2 t g ht hl i hi p hp false R (fun _=>hn rfl)
  ·have hb:=hq (by omega)
   have hw : wrap64 ((i : Int) - 1) = ((i - 1 : Nat) : Int):=by rw [wrap_pred (by omega) (by omega)];omega
   have hrd : rd_T55 g ((i - 1 : Nat) : Int) = g.getD (i - 1) z55:=by simp [rd_T55]
   rw [if_neg h0] at hn ⊢
   simp only [hw,hrd]
   generalize g.getD (i - 1) z55 = q at hb hn ⊢
   rw [wrap_in (i:=q.f0 + 1) (by omega) (by omega)]
   refine Ev.pos (by omega) (Ev.pos (by omega) (Ev.pos (by omega) ?_))
   by_cases h1 : p.f0 > q.f0
   ·refine Ev.pos h1 ?_
    rw [decide_eq_true (show q.f0 < p.f0 from h1),Bool.true_and] at hn ⊢
    cases hq1 : q.f1 with
    | true =>
     refine Ev.pos rfl ?_
     rw [hq1] at hn
     have:=impl_partsOk_j2 t g ht hl i hi p hp (!(p.f0 == q.f0 + 1)) R (fun e=>hn (by rw [Bool.true_and,e];rfl))
     simpa using this
    | false =>
     refine Ev.neg (by simp) ?_
     have:=impl_partsOk_j2 t g ht hl i hi p hp (!false) R (fun e=>by cases e)
     simpa using this
   ·refine Ev.neg h1 ?_
    rw [decide_eq_false (show ¬ q.f0 < p.f0 from h1),Bool.false_and] at hn ⊢
    simpa using impl_partsOk_j2 t g ht hl i hi p hp false R (fun _=>hn rfl)
theorem impl_partsOk_l0 (t : List Cls) (g : List Prt) (ht : t.length ≤ 9223372036854775807) (hl : g.length ≤ 9223372036854775807) : ∀ d i,i + d = g.length → (0 < i → okP t g (i - 1) (g.getD (i - 1) z55) = true) →
  Ev (fun k=>impl_partsOk.l0 k g g (g.length : Int) (i : Int) t) ((List.range' i d).all (fun i=>okP t g i (g.getD i z55)) && (decide (1 ≤ g.length) && decide (g.length ≤ 16))):=by
 intro d
 induction d with
 | zero =>
  intro i hi _
  refine Ev.succ ?_
  simp only [impl_partsOk.l0]
  refine Ev.neg (by omega) (Ev.bind (Ev.const (impl_within_ev _ _ _)) ?_)
  refine Ev.const ?_
  simp
  congr 1 <;> exact decide_eq_decide.2 (by omega)
 | succ d ih =>
  intro i hi hA
  have hlt : i < g.length:=by omega
  have hrd : rd_T55 g (i : Int) = g.getD i z55:=by simp [rd_T55]
  rw [List.range'_succ,List.all_cons]
  by_cases hok : okP t g i (g.getD i z55) = true
  ·have hn:=ih (i + 1) (by omega) (fun _=>hok)
   have hj:=fun b=>impl_partsOk_j1 t g ht hl i hlt _ rfl b _ (fun h=>okP_depth (hA h)) (fun _ _ _=>hn)
   rw [hok,Bool.true_and]
   rw [okP_eq] at hok
   simp only [Bool.and_eq_true] at hok
   obtain ⟨h1,h2,h3,h4,h5⟩:=hok
   refine Ev.succ ?_
   simp only [impl_partsOk.l0,hrd,impl_codeOk_ev,impl_within_ev,Option.bind_some]
   refine Ev.pos (by omega) (Ev.pos (by omega) (Ev.pos (by omega) (Ev.pos (by simpa using h1) (Ev.pos (by simpa using h2) ?_))))
   have:=hj (((g.getD i z55).f0 == 0) != ((i : Int) == 0))
   rw [h3,h4,h5,Bool.true_and,Bool.true_and,Bool.true_and] at this
   exact this
  ·have hok' : okP t g i (g.getD i z55) = false:=by simpa using hok
   rw [hok',Bool.false_and,Bool.false_and]
   have hj:=fun b (hb : b = false → okU g i (g.getD i z55) = true → okB t g i (g.getD i z55) = true → False)=>impl_partsOk_j1 t g ht hl i hlt _ rfl b false (fun h=>okP_depth (hA h)) (fun h1 h2 h3=>(hb h1 h2 h3).elim)
   simp only [Bool.and_false] at hj
   refine Ev.succ ?_
   simp only [impl_partsOk.l0,hrd,impl_codeOk_ev,impl_within_ev,Option.bind_some]
   refine Ev.pos (by omega) (Ev.pos (by omega) (Ev.pos (by omega) ?_))
   rw [okP_eq] at hok'
   by_cases h1 : (decide (0 ≤ (g.getD i z55).f3) && decide ((g.getD i z55).f3 ≤ 99)) = true
   ·refine Ev.pos h1 ?_
    rw [h1,Bool.true_and] at hok'
    by_cases h2 : (decide (0 ≤ (g.getD i z55).f0) && decide ((g.getD i z55).f0 ≤ 5)) = true
    ·refine Ev.pos h2 (hj _ (fun h3 h4 h5=>?_))
     rw [h2,h3,h4,h5] at hok'
     cases hok'
    ·exact Ev.neg h2 (hj true (fun h=>by cases h))
   ·exact Ev.neg h1 (hj true (fun h=>by cases h))
end Go.Proofs.Ytbglafibhopleaa.P
namespace Go.Proofs.Ytbglafibhopleaa.P
open Go.RowKit Go.Proofs.YtbglafibhopleaaW.PrintWords Go.Proofs.YtbglafibhopleaaW.PrintLast Go.Proofs.YtbglafibhopleaaW.PrintMore
attribute [local go_sem] max2_int min2_int max_two min_two max_three min_three max_four min_four
set_option linter.unusedVariables false
set_option linter.unusedSimpArgs false
def impl_ValidGroup.f (k : Nat) (l0_0 : List (S72)) (l1 : List (S55)) : Option (Bool):=(impl_ValidTree.f l0_0).bind fun t2=>(if t2 = true then ((impl_partsOk.f k l0_0 l1).bind fun t3=>(some t3)) else (some false))
theorem impl_ValidGroup.mono : ∀ a0 a1 k,LeO (impl_ValidGroup.f k a0 a1) (impl_ValidGroup.f (k + 1) a0 a1):=by
 intro a0 a1 k
 unfold impl_ValidGroup.f
 repeat' first
   | (with_reducible exact impl_partsOk.mono _ _ _)
   | (with_reducible exact LeO.refl _)
   | (with_reducible exact LeO.none _)
   | (with_reducible refine LeO.ite ?_ ?_)
   | (with_reducible refine LeO.bind ?_ (fun _=>?_))
   | exact impl_partsOk.mono _ _ _
   | exact LeO.none _
   | refine LeO.ite ?_ ?_
   | refine LeO.bind ?_ (fun _=>?_)
set_option maxHeartbeats 8000000 in
set_option maxRecDepth 100000 in
theorem impl_ValidGroup.calls (k : Nat) (A0_0 : Option Addr) (c0_0 : Nat) (l0_0 : List (S72)) (A1 : Option Addr) (c1 : Nat) (l1 : List (S55)) (r : Bool) (w : World) (hr0_0 : Kd.C k72 w A0_0 l0_0.length l0_0) (hc0_0 : l0_0.length ≤ c0_0) (hr1 : Kd.C k55 w A1 l1.length l1) (hc1 : l1.length ≤ c1) (h : impl_ValidGroup.f k l0_0 l1 = some r) :
  Calls Try.prog 31 #[.agg #[.slice A0_0 l0_0.length c0_0],.slice A1 l1.length c1] w fun e w'=>e = .returned (.bool r) ∧ Below w.heap.size w w':=by
 have hu32:=Try.underlying32
 have HR0_0:=a0_ hr0_0
 have HC0_0:=a0_ hc0_0
 clear hr0_0 hc0_0
 have HR1:=a0_ hr1
 have HC1:=a0_ hc1
 clear hr1 hc1
 have HB:=a0_ (Below.refl w.heap.size w)
 have H : ((impl_ValidTree.f l0_0).bind fun t2=>(if t2 = true then ((impl_partsOk.f k l0_0 l1).bind fun t3=>(some t3)) else (some false))) = some r:=h
 clear h
 replace H:=Option.bind_eq_some_iff.mp H
 obtain ⟨t2,A30,H⟩:=H
 try dsimp only at H
 have A3:=a0_ A30
 clear A30
 by_cases c4 : t2 = true
 ·subst c4
  have H1 : ((impl_partsOk.f k l0_0 l1).bind fun t3=>(some t3)) = some r:=by rw [if_pos rfl] at H;exact H
  clear H
  have H:=H1
  clear H1
  replace H:=Option.bind_eq_some_iff.mp H
  obtain ⟨t3,A50,H⟩:=H
  replace H : (some t3) = some r:=H
  have A5:=a0_ A50
  clear A50
  obtain rfl:=Option.some.inj H
  go_enter Try.func31,Try.ntmps31
  go_wp2_with (first | ((with_reducible refine gate_dst (N:=2) rfl ?_);refine box_event ?hg (N:=2) ?hd (cs:=#[.slice A0_0 l0_0.length c0_0]) (t:=32) ?hr ?_;(case hd=>rfl);(case hg=>rfl);(case hr=>first | (go_simp;done) | (go_simp;rfl));intro gb1 hg w6 hbox hb;have BK1:=a0_ (hbox);have GW1:=a0_ ((by rw [hg];exact (below_size hb_) : w.heap.size ≤ gb1));have GE1:=a0_ ((by rw [hg];exact (below_size hb_) : w.heap.size ≤ gb1));replace HB:=a0_ (below_step hb_ hb);clear hb hbox hg;have hcz7_0 : w6.cell? ⟨gb1,0,none⟩ = some (.slice A0_0 l0_0.length c0_0):=(blk_cell BK1.out 0).trans rfl;have hfz7_0:=blk_frozen BK1.out 0) | ((with_reducible refine gate_callee (f:=49) rfl ?_);refine goesL_ (some 6) rfl rfl Try.func49 (by kernel_rfl) rfl #[.agg #[.slice A0_0 l0_0.length c0_0]] rfl lm_ ?_;(with_reducible refine (impl_ValidTree.calls _ _ l0_0 true _ ?side1 ?side2 A3.out).mono ?_);(case side1=>exact cc_ (Kd.C_below HR0_0.out HB.out));(case side2=>exact HC0_0.out);rintro e w8 ⟨rfl,hb⟩;refine ⟨_,rfl,?_⟩;replace BK1:=kb_ BK1 hb;replace HB:=a0_ (below_step hb_ hb);(try clear hb);have hcz9_0 : w8.cell? ⟨gb1,0,none⟩ = some (.slice A0_0 l0_0.length c0_0):=(blk_cell BK1.out 0).trans rfl;have hfz9_0:=blk_frozen BK1.out 0) | (go_at_call 50;(with_reducible refine (impl_partsOk.calls k _ _ l0_0 _ _ l1 t3 _ ?side1 ?side2 ?side3 ?side4 A5.out).mono ?_);(case side1=>exact cc_ (Kd.C_below HR0_0.out HB.out));(case side2=>exact HC0_0.out);(case side3=>exact cc_ (Kd.C_below HR1.out HB.out));(case side4=>exact HC1.out);rintro e w10 ⟨rfl,hb⟩;replace BK1:=kb_ BK1 hb;replace HB:=a0_ (below_step hb_ hb);(try clear hb);(try clear hb2);(try clear hk);(try clear hi)))
  go_ret
  exact ⟨by first | rfl | (simp [errW_none,errW_some] <;> rfl) | (simp [*,errW_none,errW_some] <;> rfl),hb_⟩
 ·replace c4:=Bool.eq_false_iff.mpr c4
  subst c4
  have H1 : (some false) = some r:=by rw [if_neg (show ¬ (false = true) by decide)] at H;exact H
  clear H
  have H:=H1
  clear H1
  obtain rfl:=Option.some.inj H
  go_enter Try.func31,Try.ntmps31
  go_wp2_with (first | ((with_reducible refine gate_dst (N:=2) rfl ?_);refine box_event ?hg (N:=2) ?hd (cs:=#[.slice A0_0 l0_0.length c0_0]) (t:=32) ?hr ?_;(case hd=>rfl);(case hg=>rfl);(case hr=>first | (go_simp;done) | (go_simp;rfl));intro gb1 hg w11 hbox hb;have BK1:=a0_ (hbox);have GW1:=a0_ ((by rw [hg];exact (below_size hb_) : w.heap.size ≤ gb1));have GE1:=a0_ ((by rw [hg];exact (below_size hb_) : w.heap.size ≤ gb1));replace HB:=a0_ (below_step hb_ hb);clear hb hbox hg;have hcz12_0 : w11.cell? ⟨gb1,0,none⟩ = some (.slice A0_0 l0_0.length c0_0):=(blk_cell BK1.out 0).trans rfl;have hfz12_0:=blk_frozen BK1.out 0) | ((with_reducible refine gate_callee (f:=49) rfl ?_);refine goesL_ (some 6) rfl rfl Try.func49 (by kernel_rfl) rfl #[.agg #[.slice A0_0 l0_0.length c0_0]] rfl lm_ ?_;(with_reducible refine (impl_ValidTree.calls _ _ l0_0 false _ ?side1 ?side2 A3.out).mono ?_);(case side1=>exact cc_ (Kd.C_below HR0_0.out HB.out));(case side2=>exact HC0_0.out);rintro e w13 ⟨rfl,hb⟩;refine ⟨_,rfl,?_⟩;replace BK1:=kb_ BK1 hb;replace HB:=a0_ (below_step hb_ hb);(try clear hb);(try clear hb2);(try clear hk);(try clear hi)))
  go_ret
  exact ⟨by first | rfl | (simp [errW_none,errW_some] <;> rfl) | (simp [*,errW_none,errW_some] <;> rfl),hb_⟩
theorem impl_ValidGroup_ev (t : List Cls) (g : List Prt) (ht : t.length ≤ 9223372036854775807) (hl : g.length ≤ 9223372036854775807) (hs : smT t = true) : Ev (fun k=>impl_ValidGroup.f k t g) (vG t g):=by
 refine Ev.bind (Ev.const (show impl_ValidTree.f t = some (vT t) by rw [impl_ValidTree.f,if_pos hs])) ?_
 unfold vG psG
 cases hv : vT t with
 | false =>
  refine Ev.neg (by simp) (Ev.const ?_)
  simp
 | true =>
  refine Ev.pos rfl (Ev.bind ?_ (Ev.const rfl))
  have:=impl_partsOk_l0 t g ht hl g.length 0 (by omega) (fun h=>absurd h (by omega))
  rw [List.range_eq_range',Bool.true_and]
  exact this
end Go.Proofs.Ytbglafibhopleaa.P
namespace Go.Proofs.Ytbglafibhopleaa.P
open Go.RowKit Go.Proofs.YtbglafibhopleaaW.PrintWords Go.Proofs.YtbglafibhopleaaW.PrintLast Go.Proofs.YtbglafibhopleaaW.PrintMore
attribute [local go_sem] max2_int min2_int max_two min_two max_three min_three max_four min_four
set_option linter.unusedVariables false
set_option linter.unusedSimpArgs false
def slices_Clip_Part.f (l0 : List (S55)) : Option ((List (S55))):=if 0 ≤ (l0.length : Int) then (if (l0.length : Int) ≤ (l0.length : Int) then (some (l0.take ((l0.length : Int) : Int).toNat)) else (none)) else (none)
set_option maxHeartbeats 8000000 in
set_option maxRecDepth 100000 in
theorem slices_Clip_Part.calls (P0_ : Nat → Prop) (u9000_ : Value) (l0 : List (S55)) (r : List (S55)) (w0 w : World) (hB : Below w0.heap.size w0 w) (ho0 : Kd.R k55 55 w w0.heap.size P0_ u9000_ l0) (h : slices_Clip_Part.f l0 = some r) :
  Calls Try.prog 51 #[u9000_] w fun e w'=>∃ v0_ : Value,e = .returned (v0_) ∧ Kd.R k55 55 w' w0.heap.size (fun k_=>(P0_ k_ ∨ w.heap.size ≤ k_)) v0_ r ∧ Below w0.heap.size w0 w' ∧ Kept w w' (fun k_=>P0_ k_):=by
 have HO0:=a0_ (show Kd.R k55 55 w w0.heap.size (fun k_=>(P0_ k_ ∨ w.heap.size ≤ k_)) u9000_ l0 from Kd.R_mono ho0 (fun k_ hk=>(.inl hk)))
 have HK:=a0_ (Kept.refl w (fun k_=>P0_ k_))
 have HW0:=a0_ hB.size
 have HB:=a0_ hB
 clear hB
 have H : (if 0 ≤ (l0.length : Int) then (if (l0.length : Int) ≤ (l0.length : Int) then (some (l0.take ((l0.length : Int) : Int).toNat)) else (none)) else (none)) = some r:=h
 clear h
 by_cases c2 : 0 ≤ (l0.length : Int)
 ·rw [if_pos c2] at H
  have c2b0:=eq_true c2
  have c2b1 : decide (0 ≤ (l0.length : Int)) = true:=decide_eq_true c2
  clear c2
  by_cases c3 : (l0.length : Int) ≤ (l0.length : Int)
  ·rw [if_pos c3] at H
   have c3b0:=eq_true c3
   have c3b1 : decide ((l0.length : Int) ≤ (l0.length : Int)) = true:=decide_eq_true c3
   clear c3
   obtain ⟨y1,hy1⟩ : ∃ y_ : List (S55),y_ = (l0.take ((l0.length : Int) : Int).toNat):=⟨_,rfl⟩
   replace H : (some y1) = some r:=by first | (rw [hy1];with_reducible exact H) | (have H2_:=(Option.bind_some _ _).symm.trans H;rw [hy1];with_reducible exact H2_) | (have H2_:=(Option.bind_some _ _).symm.trans H;with_reducible exact H2_) | with_reducible exact H | (rw [hy1];exact H) | exact H
   have Ny1:=a0_ hy1
   clear hy1
   obtain rfl:=Option.some.inj H
   obtain ⟨Ao4,co4,eo4⟩:=Kd.R_slice HO0.out
   subst eo4
   have q5 : l0.length ≤ co4:=(Kd.R_reads' HO0.out).2.1
   have hr5:=Kd.R_clip2 HO0.out (((l0.length : Int) : Int).toNat) (by omega)
   rw [← Ny1.out] at hr5
   clear HO0
   have HO3:=a0_ hr5
   clear hr5
   go_enter Try.func51,Try.ntmps51
   go_wp2
   go_ret
   exact ⟨_,by first | rfl | (simp [errW_none,errW_some] <;> rfl) | (simp [*,errW_none,errW_some] <;> rfl),by (with_reducible repeat (first | apply Kd.R_alloc | apply Kd.R_drewN | apply Kd.R_drew));exact HO3.out,hb_,by repeat (first | (with_reducible first | exact HK.out | apply Kept.alloc | apply Kept.drewN | apply Kept.drew) | exact HK.out)⟩
  ·rw [if_neg c3] at H
   exact absurd H (by simp)
 ·rw [if_neg c2] at H
  exact absurd H (by simp)
theorem slices_Clip_Part_ev (l : List Prt) : slices_Clip_Part.f l = some l:=by
 unfold slices_Clip_Part.f
 rw [if_pos (by omega),if_pos (by omega)]
 simp
end Go.Proofs.Ytbglafibhopleaa.P
namespace Go.Proofs.Ytbglafibhopleaa.P
open Go.RowKit Go.Proofs.YtbglafibhopleaaW.PrintWords Go.Proofs.YtbglafibhopleaaW.PrintLast Go.Proofs.YtbglafibhopleaaW.PrintMore
attribute [local go_sem] max2_int min2_int max_two min_two max_three min_three max_four min_four
set_option linter.unusedVariables false
set_option linter.unusedSimpArgs false
def impl_deeper.l0 : Nat → Int → List (S55) → List (S55) → Int → Int → Option ((List (S55)))
 | 0,_,_,_,_,_=>none
 | k + 1,x1,x5,x11,x12,x13=>if x13 < x12 then (if 0 ≤ x13 then (if x13 < (x11.length : Int) then (if x5.length < 4398046511104 then (impl_deeper.l0 k x1 (x5 ++ [(⟨wrap64 (((rd_T55 x11 x13).f0) + x1),(rd_T55 x11 x13).f1,(rd_T55 x11 x13).f2,(rd_T55 x11 x13).f3⟩ : S55)]) x11 x12 (wrap64 (x13 + 1))) else (none)) else (none)) else (none)) else (some x5)
def impl_deeper.f (k : Nat) (l0 : List (S55)) (a1 : Int) : Option ((List (S55))):=if 0 ≤ (l0.length : Int) then (if ((l0.length : Int) : Int).toNat ≤ 8796093022208 then (impl_deeper.l0 k a1 (([] : List (S55))) l0 (l0.length : Int) 0) else (none)) else (none)
theorem impl_deeper.mono_l : ∀ k,(∀ y0 y1 y2 y3 y4,LeO (impl_deeper.l0 k y0 y1 y2 y3 y4) (impl_deeper.l0 (k + 1) y0 y1 y2 y3 y4))
 | 0=>fun _ _ _ _ _ r h=>by simp [impl_deeper.l0] at h
 | k + 1=>by
  have ih0:=impl_deeper.mono_l k
  ·intro y0 y1 y2 y3 y4
   unfold impl_deeper.l0
   repeat' first
   | (with_reducible exact ih0 _ _ _ _ _)
   | (with_reducible exact LeO.refl _)
   | (with_reducible exact LeO.none _)
   | (with_reducible refine LeO.ite ?_ ?_)
   | (with_reducible refine LeO.bind ?_ (fun _=>?_))
   | exact ih0 _ _ _ _ _
   | exact LeO.none _
   | refine LeO.ite ?_ ?_
   | refine LeO.bind ?_ (fun _=>?_)
theorem impl_deeper.mono : ∀ a0 a1 k,LeO (impl_deeper.f k a0 a1) (impl_deeper.f (k + 1) a0 a1):=by
 intro a0 a1 k
 have ih0:=impl_deeper.mono_l k
 unfold impl_deeper.f
 repeat' first
   | (with_reducible exact ih0 _ _ _ _ _)
   | (with_reducible exact LeO.refl _)
   | (with_reducible exact LeO.none _)
   | (with_reducible refine LeO.ite ?_ ?_)
   | (with_reducible refine LeO.bind ?_ (fun _=>?_))
   | exact ih0 _ _ _ _ _
   | exact LeO.none _
   | refine LeO.ite ?_ ?_
   | refine LeO.bind ?_ (fun _=>?_)
set_option maxHeartbeats 8000000 in
set_option maxRecDepth 100000 in
theorem impl_deeper.calls (k : Nat) (A0 : Option Addr) (c0 : Nat) (l0 : List (S55)) (a1 : Int) (r : List (S55)) (w : World) (hr0 : Kd.C k55 w A0 l0.length l0) (hc0 : l0.length ≤ c0) (h : impl_deeper.f k l0 a1 = some r) :
  Calls Try.prog 56 #[.slice A0 l0.length c0,.int .i64 a1] w fun e w'=>∃ v0_ : Value,e = .returned (v0_) ∧ Kd.R k55 55 w' w.heap.size (fun _=>True) v0_ r ∧ Below w.heap.size w w':=by
 have hu55:=Try.underlying55
 have HR0:=a0_ hr0
 have HC0:=a0_ hc0
 clear hr0 hc0
 have HB:=a0_ (Below.refl w.heap.size w)
 have H : (if 0 ≤ (l0.length : Int) then (if ((l0.length : Int) : Int).toNat ≤ 8796093022208 then (impl_deeper.l0 k a1 (([] : List (S55))) l0 (l0.length : Int) 0) else (none)) else (none)) = some r:=h
 clear h
 by_cases c3 : 0 ≤ (l0.length : Int)
 ·rw [if_pos c3] at H
  have c3b0:=eq_true c3
  have c3b1 : decide (0 ≤ (l0.length : Int)) = true:=decide_eq_true c3
  clear c3
  by_cases c4 : ((l0.length : Int) : Int).toNat ≤ 8796093022208
  ·rw [if_pos c4] at H
   have c4b0:=eq_true c4
   have c4b1 : decide (((l0.length : Int) : Int).toNat ≤ 8796093022208) = true:=decide_eq_true c4
   clear c4
   obtain ⟨y1,hy1⟩ : ∃ y_ : List (S55),y_ = (([] : List (S55))):=⟨_,rfl⟩
   replace H : (impl_deeper.l0 k a1 y1 l0 (l0.length : Int) 0) = some r:=by first | (rw [hy1];with_reducible exact H) | (have H2_:=(Option.bind_some _ _).symm.trans H;rw [hy1];with_reducible exact H2_) | (have H2_:=(Option.bind_some _ _).symm.trans H;with_reducible exact H2_) | with_reducible exact H | (rw [hy1];exact H) | exact H
   have Ny1:=a0_ hy1
   clear hy1
   have H':=a0_ H
   clear H
   go_enter Try.func56,Try.ntmps56
   go_wp2_with (first | ((with_reducible refine gate_dst (N:=10) rfl ?_);refine Kd.R_make0 k55 _ 55 rfl (N:=10) rfl 28 _ _ rfl (l0.length : Int) rfl rfl Try.underlying28 (.agg #[(.int .i64 0),(.bool false),(.int .i64 0),(.int .i64 0)]) 32 info55 rfl (by decide) (by omega) z55 (ok:=fun _=>True) (okp:=fun _=>True) (k55_mkM _ _ _ z55 ) (fun _ hk=>hk) trivial (of_decide_eq_true (by first | (with_reducible assumption) | assumption)) (Nat.le_trans (Nat.mul_le_mul_right _ (of_decide_eq_true (by first | (with_reducible assumption) | assumption) : (l0.length : Int).toNat ≤ 8796093022208)) (by omega)) (Below.refl _ _) (Nat.le_refl _) ?_;intro v2 w5 ho6 hb hg_ hnew_;clear hg_ hnew_;(first | rw [← Ny1.out] at ho6 | (simp only [Int.reduceToNat] at ho6;rw [← Ny1.out] at ho6));have HO3:=a0_ (Kd.R_lower ho6 (below_size hb_));replace HB:=a0_ (below_step hb_ hb);clear hb ho6))
   go_loopg [5,13] k (fun kq v5 v13 w'=>∃ (x5_1 : List (S55)) (x13_1 : Int),v13 = .int .i64 x13_1 ∧ Aside0 (impl_deeper.l0 kq a1 x5_1 l0 (l0.length : Int) x13_1 = some r) ∧ Aside0 (kq ≤ k) ∧ Aside0 (Kd.R k55 55 w' w.heap.size (fun _=>True) v5 x5_1) ∧ Aside0 (Below w.heap.size w w'))
   case atStart=>exact ⟨(y1),(0),(by first | rfl | (simp;done) | (simp [*];done)),H',⟨Nat.le_refl _⟩,⟨by (with_reducible repeat (first | apply Kd.R_alloc | apply Kd.R_drewN | apply Kd.R_drew));exact HO3.out⟩,⟨hb_⟩⟩
   case round =>
    clear H'
    try clear p2
    try clear c3
    try clear c3b0
    try clear c3b1
    try clear c4
    try clear c4b0
    try clear c4b1
    try clear c5
    obtain ⟨x5_1,x13_1,rfl,HA,HK1,HO_5,HB⟩:=hrel
    cases gk with
    | zero=>exact absurd HA.out (by simp [impl_deeper.l0])
    | succ k1 =>
     have H:=HA.out
     clear HA
     simp only [impl_deeper.l0] at H
     by_cases c7 : x13_1 < (l0.length : Int)
     ·rw [if_pos c7] at H
      have c7b0 : decide (x13_1 < (l0.length : Int)) = true:=decide_eq_true c7
      clear c7
      by_cases c8 : 0 ≤ x13_1
      ·rw [if_pos c8] at H
       have c8b0 : decide (0 ≤ x13_1) = true:=decide_eq_true c8
       clear c8
       by_cases c9 : x13_1 < (l0.length : Int)
       ·rw [if_pos c9] at H
        have c9b0 : decide (x13_1 < (l0.length : Int)) = true:=decide_eq_true c9
        clear c9
        by_cases c10 : x5_1.length < 4398046511104
        ·rw [if_pos c10] at H
         have LMc10:=a0_ c10
         clear c10
         obtain ⟨y6,hy6⟩ : ∃ y_ : List (S55),y_ = (x5_1 ++ [(⟨wrap64 (((rd_T55 l0 x13_1).f0) + a1),(rd_T55 l0 x13_1).f1,(rd_T55 l0 x13_1).f2,(rd_T55 l0 x13_1).f3⟩ : S55)]):=⟨_,rfl⟩
         replace H : (impl_deeper.l0 k1 a1 y6 l0 (l0.length : Int) (wrap64 (x13_1 + 1))) = some r:=by first | (rw [hy6];with_reducible exact H) | (have H2_:=(Option.bind_some _ _).symm.trans H;rw [hy6];with_reducible exact H2_) | (have H2_:=(Option.bind_some _ _).symm.trans H;with_reducible exact H2_) | with_reducible exact H | (rw [hy6];exact H) | exact H
         have Ny6:=a0_ hy6
         clear hy6
         have H':=a0_ H
         clear H
         have p4 : 0 ≤ (x13_1 : Int):=of_decide_eq_true (by first | (with_reducible assumption) | assumption)
         have q4 : x13_1 < (l0.length : Int):=of_decide_eq_true (by first | (with_reducible assumption) | assumption)
         obtain ⟨ad4,e4,hx4_0,hx4_1,hx4_2,hx4_3⟩:=at_T55 HR0.out x13_1 p4 q4
         cases e4
         replace hx4_0:=(HB.out.cell (World.block_lt_of_cell? w _ hx4_0)).trans hx4_0
         replace hx4_1:=(HB.out.cell (World.block_lt_of_cell? w _ hx4_1)).trans hx4_1
         replace hx4_2:=(HB.out.cell (World.block_lt_of_cell? w _ hx4_2)).trans hx4_2
         replace hx4_3:=(HB.out.cell (World.block_lt_of_cell? w _ hx4_3)).trans hx4_3
         replace p4:=eq_true p4
         replace q4:=eq_true q4
         go_wp2_with (first | ((with_reducible refine gate_dst (N:=7) rfl ?_);refine box_event ?hg (N:=7) ?hd (cs:=#[.int .i64 0,.bool false,.int .i64 0,.int .i64 0]) (t:=55) ?hr ?_;(case hd=>rfl);(case hg=>rfl);(case hr=>first | (go_simp;done) | (go_simp;rfl));intro gb5 hg w11 hbox hb;replace HO_5:=a0_ (Kd.R_below (Kd.R_elderB (rr_ HO_5.out) gb5 (Nat.le_of_eq hg.symm)) hb);have BK5:=a0_ (hbox);have GW5:=a0_ ((by rw [hg];exact (below_size hb_) : w.heap.size ≤ gb5));have GE5:=a0_ ((by rw [hg];exact (below_size hb_) : w.heap.size ≤ gb5));replace HB:=a0_ (below_step hb_ hb);clear hb hbox hg;have hcz12_0 : w11.cell? ⟨gb5,0,none⟩ = some (.int .i64 0):=(blk_cell BK5.out 0).trans rfl;have hcz12_1 : w11.cell? ⟨gb5,1,none⟩ = some (.bool false):=(blk_cell BK5.out 1).trans rfl;have hcz12_2 : w11.cell? ⟨gb5,2,none⟩ = some (.int .i64 0):=(blk_cell BK5.out 2).trans rfl;have hcz12_3 : w11.cell? ⟨gb5,3,none⟩ = some (.int .i64 0):=(blk_cell BK5.out 3).trans rfl;have hfz12_0:=blk_frozen BK5.out 0;have hfz12_1:=blk_frozen BK5.out 1;have hfz12_2:=blk_frozen BK5.out 2;have hfz12_3:=blk_frozen BK5.out 3) | ((with_reducible refine gate_builtin (b:=.append) (xs:=#[.tmp 22,.tmp 24]) rfl ?_);at_builtin;refine Kd.R_append k55 (w0:=w) w.heap.size rfl (.tmp 22) (.tmp 24) 28 55 (.agg #[(.int .i64 0),(.bool false),(.int .i64 0),(.int .i64 0)]) 32 rfl Try.underlying28 info55 rfl (by decide) (by omega) u5 x5_1 (⟨wrap64 (((rd_T55 l0 x13_1).f0) + a1),(rd_T55 l0 x13_1).f1,(rd_T55 l0 x13_1).f2,(rd_T55 l0 x13_1).f3⟩ : S55) [.int .i64 (wrap64 (((rd_T55 l0 x13_1).f0) + a1)),.bool ((rd_T55 l0 x13_1).f1),.int .i64 ((rd_T55 l0 x13_1).f2),.int .i64 ((rd_T55 l0 x13_1).f3)] (fun k_=>k_ ≠ gb5) (fun _=>False) rfl (by first | (go_simp;done) | (go_simp;rfl)) ?aP (fun _ hk=>hk.elim) ?aF ?aO ?aB ?aS ?aL ?_;(case aP=>exact k55_mkM _ _ _ (⟨wrap64 (((rd_T55 l0 x13_1).f0) + a1),(rd_T55 l0 x13_1).f1,(rd_T55 l0 x13_1).f2,(rd_T55 l0 x13_1).f3⟩ : S55));(case aB=>exact hb_);(case aF=>exact (fun k_ hk=>Kd.freshB (g:=gb5) (o:=.cells #[.int .i64 (wrap64 (((rd_T55 l0 x13_1).f0) + a1)),.bool ((rd_T55 l0 x13_1).f1),.int .i64 ((rd_T55 l0 x13_1).f2),.int .i64 ((rd_T55 l0 x13_1).f3)] 55 (0,0)) (by (with_reducible repeat (first | refine blk_drewN ?_ _ | refine blk_drew ?_ | refine blk_alloc ?_ _));refine blk_put (cs:=#[.int .i64 ((rd_T55 l0 x13_1).f0),.bool ((rd_T55 l0 x13_1).f1),.int .i64 ((rd_T55 l0 x13_1).f2),.int .i64 ((rd_T55 l0 x13_1).f3)]) ?_ 0 _ rfl;(with_reducible repeat (first | refine blk_drewN ?_ _ | refine blk_drew ?_ | refine blk_alloc ?_ _));refine blk_put (cs:=#[.int .i64 ((rd_T55 l0 x13_1).f0),.bool ((rd_T55 l0 x13_1).f1),.int .i64 ((rd_T55 l0 x13_1).f2),.int .i64 0]) ?_ 3 _ rfl;(with_reducible repeat (first | refine blk_drewN ?_ _ | refine blk_drew ?_ | refine blk_alloc ?_ _));refine blk_put (cs:=#[.int .i64 ((rd_T55 l0 x13_1).f0),.bool ((rd_T55 l0 x13_1).f1),.int .i64 0,.int .i64 0]) ?_ 2 _ rfl;(with_reducible repeat (first | refine blk_drewN ?_ _ | refine blk_drew ?_ | refine blk_alloc ?_ _));refine blk_put (cs:=#[.int .i64 ((rd_T55 l0 x13_1).f0),.bool false,.int .i64 0,.int .i64 0]) ?_ 1 _ rfl;(with_reducible repeat (first | refine blk_drewN ?_ _ | refine blk_drew ?_ | refine blk_alloc ?_ _));refine blk_put (cs:=#[.int .i64 0,.bool false,.int .i64 0,.int .i64 0]) ?_ 0 _ rfl;(with_reducible repeat (first | refine blk_drewN ?_ _ | refine blk_drew ?_ | refine blk_alloc ?_ _));exact BK5.out) k_ hk));(case aO=>exact (by (with_reducible repeat (first | apply Kd.R_alloc | apply Kd.R_drewN | apply Kd.R_drew));exact Kd.R_mono (Kd.R_far (p:=⟨gb5,0,none⟩) (Kd.R_far (p:=⟨gb5,3,none⟩) (Kd.R_far (p:=⟨gb5,2,none⟩) (Kd.R_far (p:=⟨gb5,1,none⟩) (Kd.R_far (p:=⟨gb5,0,none⟩) (Kd.R_mono HO_5.out (fun k_ hk=>(⟨hk,hk.2⟩ : _ ∧ k_ ≠ gb5))) (fun _ hk=>hk.2) (.int .i64 ((rd_T55 l0 x13_1).f0))) (fun _ hk=>hk.2) (.bool ((rd_T55 l0 x13_1).f1))) (fun _ hk=>hk.2) (.int .i64 ((rd_T55 l0 x13_1).f2))) (fun _ hk=>hk.2) (.int .i64 ((rd_T55 l0 x13_1).f3))) (fun _ hk=>hk.2) (.int .i64 (wrap64 (((rd_T55 l0 x13_1).f0) + a1)))) (fun _ hk=>hk.1.2)));(case aS=>exact (below_size hb_));(case aL=>have:=LMc10.out;omega);intro v7 w13 ho hb hg hat;rw [← Ny6.out] at ho;replace BK5:=a0_ (blk_grown (g:=gb5) (o:=.cells #[.int .i64 (wrap64 (((rd_T55 l0 x13_1).f0) + a1)),.bool ((rd_T55 l0 x13_1).f1),.int .i64 ((rd_T55 l0 x13_1).f2),.int .i64 ((rd_T55 l0 x13_1).f3)] 55 (0,0)) (by (with_reducible repeat (first | refine blk_drewN ?_ _ | refine blk_drew ?_ | refine blk_alloc ?_ _));refine blk_put (cs:=#[.int .i64 ((rd_T55 l0 x13_1).f0),.bool ((rd_T55 l0 x13_1).f1),.int .i64 ((rd_T55 l0 x13_1).f2),.int .i64 ((rd_T55 l0 x13_1).f3)]) ?_ 0 _ rfl;(with_reducible repeat (first | refine blk_drewN ?_ _ | refine blk_drew ?_ | refine blk_alloc ?_ _));refine blk_put (cs:=#[.int .i64 ((rd_T55 l0 x13_1).f0),.bool ((rd_T55 l0 x13_1).f1),.int .i64 ((rd_T55 l0 x13_1).f2),.int .i64 0]) ?_ 3 _ rfl;(with_reducible repeat (first | refine blk_drewN ?_ _ | refine blk_drew ?_ | refine blk_alloc ?_ _));refine blk_put (cs:=#[.int .i64 ((rd_T55 l0 x13_1).f0),.bool ((rd_T55 l0 x13_1).f1),.int .i64 0,.int .i64 0]) ?_ 2 _ rfl;(with_reducible repeat (first | refine blk_drewN ?_ _ | refine blk_drew ?_ | refine blk_alloc ?_ _));refine blk_put (cs:=#[.int .i64 ((rd_T55 l0 x13_1).f0),.bool false,.int .i64 0,.int .i64 0]) ?_ 1 _ rfl;(with_reducible repeat (first | refine blk_drewN ?_ _ | refine blk_drew ?_ | refine blk_alloc ?_ _));refine blk_put (cs:=#[.int .i64 0,.bool false,.int .i64 0,.int .i64 0]) ?_ 0 _ rfl;(with_reducible repeat (first | refine blk_drewN ?_ _ | refine blk_drew ?_ | refine blk_alloc ?_ _));exact BK5.out) hg (Kd.R_away HO_5.out (fun _ hk=>hk.2)));have HO8:=a0_ (ho);replace HB:=a0_ (hb);clear HO_5;clear ho hb hg hat))
         go_roundg k1
         case measure=>have:=HK1.out;omega
         case rel=>exact ⟨(y6),(wrap64 (x13_1 + 1)),(by first | rfl | (simp;done) | (simp [*];done)),H',⟨by have:=HK1.out;omega⟩,⟨by (with_reducible repeat (first | apply Kd.R_alloc | apply Kd.R_drewN | apply Kd.R_drew));exact Kd.R_mono HO8.out (fun _ hk=>trivial)⟩,⟨hb_⟩⟩
        ·rw [if_neg c10] at H
         exact absurd H (by simp)
       ·rw [if_neg c9] at H
        exact absurd H (by simp)
      ·rw [if_neg c8] at H
       exact absurd H (by simp)
     ·rw [if_neg c7] at H
      have c7b0 : decide (x13_1 < (l0.length : Int)) = false:=decide_eq_false c7
      clear c7
      obtain rfl:=Option.some.inj H
      go_wp2
      go_ret
      exact ⟨_,by first | rfl | (simp [errW_none,errW_some] <;> rfl) | (simp [*,errW_none,errW_some] <;> rfl),by (with_reducible repeat (first | apply Kd.R_alloc | apply Kd.R_drewN | apply Kd.R_drew));exact HO_5.out,hb_⟩
  ·rw [if_neg c4] at H
   exact absurd H (by simp)
 ·rw [if_neg c3] at H
  exact absurd H (by simp)
theorem impl_deeper_ev (g : List Prt) (d : Int) (hl : g.length ≤ 1048576) (hd : -1000 ≤ d ∧ d ≤ 1000) (hg : ∀ p ∈ g,-1000000 ≤ p.f0 ∧ p.f0 ≤ 1000000) : Ev (fun k=>impl_deeper.f k g d) (dpr d g):=by
 have key : ∀ n j,j + n = g.length → Ev (fun k=>impl_deeper.l0 k d (dpr d (g.take j)) g (g.length : Int) (j : Int)) (dpr d g):=by
  intro n
  induction n with
  | zero =>
   intro j hj
   refine Ev.succ ?_
   simp only [impl_deeper.l0]
   rw [List.take_of_length_le (by omega)]
   exact Ev.neg (by omega) (Ev.const rfl)
  | succ n ih =>
   intro j hj
   refine Ev.succ ?_
   have hlt : j < g.length:=by omega
   have hr : rd_T55 g (j : Int) = g[j]:=by simp [rd_T55,hlt]
   have hb:=hg g[j] (List.getElem_mem _)
   have hi:=ih (j + 1) (by omega)
   have e : dpr d (g.take (j + 1)) = dpr d (g.take j) ++ [⟨g[j].f0 + d,g[j].f1,g[j].f2,g[j].f3⟩]:=by
    rw [List.take_succ_eq_append_getElem hlt]
    unfold dpr
    rw [List.map_append]
    rfl
   rw [e] at hi
   have h1 : (dpr d (g.take j)).length ≤ j:=by rw [dpr_len,List.length_take];omega
   simp only [impl_deeper.l0,hr]
   rw [wrap_succ (i:=(j : Int)) (n:=g.length) (by omega) (by omega) (by omega),wrap_in (i:=g[j].f0 + d) (by omega) (by omega)]
   exact Ev.pos (by omega) (Ev.pos (by omega) (Ev.pos (by omega) (Ev.pos (by omega) hi)))
 exact Ev.pos (by omega) (Ev.pos (by omega) (key g.length 0 (by omega)))
end Go.Proofs.Ytbglafibhopleaa.P
namespace Go.Proofs.Ytbglafibhopleaa.P
open Go.RowKit Go.Proofs.YtbglafibhopleaaW.PrintWords Go.Proofs.YtbglafibhopleaaW.PrintLast Go.Proofs.YtbglafibhopleaaW.PrintMore
attribute [local go_sem] max2_int min2_int max_two min_two max_three min_three max_four min_four
set_option linter.unusedVariables false
set_option linter.unusedSimpArgs false
def impl_wrapped.l0 : Nat → List (S55) → List (List (S55)) → Int → Int → Option ((List (S55)))
 | 0,_,_,_,_=>none
 | k + 1,x5,x11,x12,x13=>if x13 < x12 then (if 0 ≤ x13 then (if x13 < (x11.length : Int) then ((impl_deeper.f k (rd_L9 x11 x13) 1).bind fun t5=>(if x5.length + t5.length < 4398046511104 then (impl_wrapped.l0 k (x5 ++ t5) x11 x12 (wrap64 (x13 + 1))) else (none))) else (none)) else (none)) else ((slices_Clip_Part.f x5).bind fun t11=>(some t11))
def impl_wrapped.f (k : Nat) (l0 : List (List (S55))) (a1 : Int) : Option ((List (S55))):=impl_wrapped.l0 k (([(⟨0,true,0,a1⟩ : S55)] : List (S55))) l0 (l0.length : Int) 0
theorem impl_wrapped.mono_l : ∀ k,(∀ y0 y1 y2 y3,LeO (impl_wrapped.l0 k y0 y1 y2 y3) (impl_wrapped.l0 (k + 1) y0 y1 y2 y3))
 | 0=>fun _ _ _ _ r h=>by simp [impl_wrapped.l0] at h
 | k + 1=>by
  have ih0:=impl_wrapped.mono_l k
  ·intro y0 y1 y2 y3
   unfold impl_wrapped.l0
   repeat' first
   | (with_reducible exact ih0 _ _ _ _)
   | (with_reducible exact impl_deeper.mono _ _ _)
   | (with_reducible exact LeO.refl _)
   | (with_reducible exact LeO.none _)
   | (with_reducible refine LeO.ite ?_ ?_)
   | (with_reducible refine LeO.bind ?_ (fun _=>?_))
   | exact ih0 _ _ _ _
   | exact impl_deeper.mono _ _ _
   | exact LeO.none _
   | refine LeO.ite ?_ ?_
   | refine LeO.bind ?_ (fun _=>?_)
theorem impl_wrapped.mono : ∀ a0 a1 k,LeO (impl_wrapped.f k a0 a1) (impl_wrapped.f (k + 1) a0 a1):=by
 intro a0 a1 k
 have ih0:=impl_wrapped.mono_l k
 unfold impl_wrapped.f
 repeat' first
   | (with_reducible exact ih0 _ _ _ _)
   | (with_reducible exact impl_deeper.mono _ _ _)
   | (with_reducible exact LeO.refl _)
   | (with_reducible exact LeO.none _)
   | (with_reducible refine LeO.ite ?_ ?_)
   | (with_reducible refine LeO.bind ?_ (fun _=>?_))
   | exact ih0 _ _ _ _
   | exact impl_deeper.mono _ _ _
   | exact LeO.none _
   | refine LeO.ite ?_ ?_
   | refine LeO.bind ?_ (fun _=>?_)
set_option maxHeartbeats 8000000 in
set_option maxRecDepth 100000 in
theorem impl_wrapped.calls (k : Nat) (A0 : Option Addr) (c0 : Nat) (l0 : List (List (S55))) (a1 : Int) (r : List (S55)) (w : World) (hr0 : Kd.C (Kd.slice 55 k55) w A0 l0.length l0) (hc0 : l0.length ≤ c0) (h : impl_wrapped.f k l0 a1 = some r) :
  Calls Try.prog 39 #[.slice A0 l0.length c0,.int .i64 a1] w fun e w'=>∃ v0_ : Value,e = .returned (v0_) ∧ Kd.R k55 55 w' w.heap.size (fun _=>True) v0_ r ∧ Below w.heap.size w w':=by
 have hu55:=Try.underlying55
 have HR0:=a0_ hr0
 have HC0:=a0_ hc0
 clear hr0 hc0
 have HB:=a0_ (Below.refl w.heap.size w)
 have H : (impl_wrapped.l0 k (([(⟨0,true,0,a1⟩ : S55)] : List (S55))) l0 (l0.length : Int) 0) = some r:=h
 clear h
 obtain ⟨y1,hy1⟩ : ∃ y_ : List (S55),y_ = (([(⟨0,true,0,a1⟩ : S55)] : List (S55))):=⟨_,rfl⟩
 replace H : (impl_wrapped.l0 k y1 l0 (l0.length : Int) 0) = some r:=by first | (rw [hy1];with_reducible exact H) | (have H2_:=(Option.bind_some _ _).symm.trans H;rw [hy1];with_reducible exact H2_) | (have H2_:=(Option.bind_some _ _).symm.trans H;with_reducible exact H2_) | with_reducible exact H | (rw [hy1];exact H) | exact H
 have Ny1:=a0_ hy1
 clear hy1
 have H':=a0_ H
 clear H
 go_enter Try.func39,Try.ntmps39
 go_wp2_with (first | ((with_reducible refine gate_dst (N:=10) rfl ?_);refine Kd.R_lit k55 _ 55 ?hg (N:=10) ?hd (xs:=([(⟨0,true,0,a1⟩ : S55)] : List (S55))) (inner:=[.int .i64 0,.bool true,.int .i64 0,.int .i64 a1]) (ok:=fun _=>True) (okp:=fun _=>True) ?hr ?hp (fun _ hk=>hk) trivial (Below.refl _ _) (Nat.le_refl _) (by simp) ?_;(case hd=>rfl);(case hg=>rfl);(case hr=>first | (go_simp;done) | (go_simp;rfl));(case hp=>exact (Reps.c4 (show Kd.M k55 _ _ _ (⟨0,true,0,a1⟩ : S55) [.int .i64 0,.bool true,.int .i64 0,.int .i64 a1] from (k55_mkM _ _ _ (⟨0,true,0,a1⟩ : S55) )) (Reps.none _ _)));intro v2 w3 ho4 hb hg_ hnew_;clear hg_ hnew_;(first | rw [← Ny1.out] at ho4 | (simp only [Int.reduceToNat] at ho4;rw [← Ny1.out] at ho4));have HO3:=a0_ (Kd.R_lower ho4 (below_size hb_));replace HB:=a0_ (below_step hb_ hb);clear hb ho4))
 go_loopg [5,13] k (fun kq v5 v13 w'=>∃ (x5_1 : List (S55)) (x13_1 : Int),v13 = .int .i64 x13_1 ∧ Aside0 (impl_wrapped.l0 kq x5_1 l0 (l0.length : Int) x13_1 = some r) ∧ Aside0 (kq ≤ k) ∧ Aside0 (Kd.R k55 55 w' w.heap.size (fun _=>True) v5 x5_1) ∧ Aside0 (Below w.heap.size w w'))
 case atStart=>exact ⟨(y1),(0),(by first | rfl | (simp;done) | (simp [*];done)),H',⟨Nat.le_refl _⟩,⟨by (with_reducible repeat (first | apply Kd.R_alloc | apply Kd.R_drewN | apply Kd.R_drew));exact HO3.out⟩,⟨hb_⟩⟩
 case round =>
  clear H'
  try clear p2
  try clear c3
  try clear c4
  obtain ⟨x5_1,x13_1,rfl,HA,HK1,HO_5,HB⟩:=hrel
  cases gk with
  | zero=>exact absurd HA.out (by simp [impl_wrapped.l0])
  | succ k1 =>
   have H:=HA.out
   clear HA
   simp only [impl_wrapped.l0] at H
   by_cases c5 : x13_1 < (l0.length : Int)
   ·rw [if_pos c5] at H
    have c5b0 : decide (x13_1 < (l0.length : Int)) = true:=decide_eq_true c5
    clear c5
    by_cases c6 : 0 ≤ x13_1
    ·rw [if_pos c6] at H
     have c6b0 : decide (0 ≤ x13_1) = true:=decide_eq_true c6
     clear c6
     by_cases c7 : x13_1 < (l0.length : Int)
     ·rw [if_pos c7] at H
      have c7b0 : decide (x13_1 < (l0.length : Int)) = true:=decide_eq_true c7
      clear c7
      replace H:=Option.bind_eq_some_iff.mp H
      obtain ⟨t5,A80,H⟩:=H
      try dsimp only at H
      have A8:=a0_ A80
      clear A80
      by_cases c9 : x5_1.length + t5.length < 4398046511104
      ·rw [if_pos c9] at H
       have LMc9:=a0_ c9
       clear c9
       obtain ⟨y8,hy8⟩ : ∃ y_ : List (S55),y_ = (x5_1 ++ t5):=⟨_,rfl⟩
       replace H : (impl_wrapped.l0 k1 y8 l0 (l0.length : Int) (wrap64 (x13_1 + 1))) = some r:=by first | (rw [hy8];with_reducible exact H) | (have H2_:=(Option.bind_some _ _).symm.trans H;rw [hy8];with_reducible exact H2_) | (have H2_:=(Option.bind_some _ _).symm.trans H;with_reducible exact H2_) | with_reducible exact H | (rw [hy8];exact H) | exact H
       have Ny8:=a0_ hy8
       clear hy8
       have H':=a0_ H
       clear H
       have p4 : 0 ≤ (x13_1 : Int):=of_decide_eq_true (by first | (with_reducible assumption) | assumption)
       have q4 : x13_1 < (l0.length : Int):=of_decide_eq_true (by first | (with_reducible assumption) | assumption)
       obtain ⟨ad4,A4_0,c4_0,e4,hx4_0,hl4_0,hi4_0⟩:=at_L9 HR0.out x13_1 p4 q4
       cases e4
       replace hx4_0:=(HB.out.cell (World.block_lt_of_cell? w _ hx4_0)).trans hx4_0
       have HR4_0:=a0_ hi4_0
       have HC4_0:=a0_ hl4_0
       clear hi4_0 hl4_0
       replace p4:=eq_true p4
       replace q4:=eq_true q4
       go_wp2_with (first | ((with_reducible refine gate_callee (f:=56) rfl ?_);refine goesL_ (some 19) rfl rfl Try.func56 (by kernel_rfl) rfl #[.slice A4_0 (rd_L9 l0 x13_1).length c4_0,.int .i64 1] rfl lm_ ?_;(with_reducible refine (impl_deeper.calls k1 _ _ (rd_L9 l0 x13_1) 1 t5 _ ?side1 ?side2 A8.out).mono ?_);(case side1=>exact cc_ (Kd.C_below HR4_0.out HB.out));(case side2=>exact HC4_0.out);rintro e w10 ⟨v6,rfl,ho0,hb⟩;refine ⟨_,rfl,?_⟩;have n0_:=a0_ (Kd.R_elder' (rr_ HO_5.out) (Kd.R_base ho0) hb);have n1_:=a0_ (Kd.R_lower (Kd.R_new' ho0 (Kd.R_lt (rr_ HO_5.out))) (below_size hb_));have n2_:=a0_ (below_step hb_ hb);clear HO_5 HB;have HO_5:=n0_;have HO7:=n1_;have HB:=n2_;clear n0_ n1_ n2_;(try clear hb);(try clear ho0);obtain ⟨Ao12,co12,eo12⟩:=Kd.R_slice HO7.out;subst eo12) | ((with_reducible refine gate_builtin (b:=.append) (xs:=#[.tmp 17,.tmp 19]) rfl ?_);at_builtin;refine Kd.R_append_rows k55 (w0:=w) w.heap.size rfl (.tmp 17) (.tmp 19) 28 55 (.agg #[(.int .i64 0),(.bool false),(.int .i64 0),(.int .i64 0)]) 32 rfl Try.underlying28 info55 rfl (by decide) (by omega) u5 x5_1 t5 _ _ _ (fun k_=>some k_ ≠ (.slice Ao12 t5.length co12 : Value).ownBlock) (fun _=>False) rfl rfl ?aO ?aR (fun _ _ h=>h) (fun _ h=>h.elim) ?aF ?aB ?aS ?aL ?_;(case aR=>exact cc_ (Kd.R_reads' HO7.out).2.2);(case aB=>exact hb_);(case aF=>exact (fun k_ hk=>Kd.fresh' (Kd.R_lt (rr_ HO7.out)) k_ hk));(case aO=>exact (rm_ HO_5.out (fun _ hk=>hk.2)));(case aS=>exact (below_size hb_));(case aL=>have:=LMc9.out;omega);intro v9 w11 ho hb hg hat;rw [← Ny8.out] at ho;replace HO7:=a0_ (Kd.R_after (ok:=(fun _=>True)) (rr_ HO7.out) hg hat);have HO10:=a0_ (ho);replace HB:=a0_ (hb);clear HO_5;clear ho hb hg hat))
       go_roundg k1
       case measure=>have:=HK1.out;omega
       case rel=>exact ⟨(y8),(wrap64 (x13_1 + 1)),(by first | rfl | (simp;done) | (simp [*];done)),H',⟨by have:=HK1.out;omega⟩,⟨by (with_reducible repeat (first | apply Kd.R_alloc | apply Kd.R_drewN | apply Kd.R_drew));exact Kd.R_mono HO10.out (fun _ hk=>trivial)⟩,⟨hb_⟩⟩
      ·rw [if_neg c9] at H
       exact absurd H (by simp)
     ·rw [if_neg c7] at H
      exact absurd H (by simp)
    ·rw [if_neg c6] at H
     exact absurd H (by simp)
   ·rw [if_neg c5] at H
    have c5b0 : decide (x13_1 < (l0.length : Int)) = false:=decide_eq_false c5
    clear c5
    replace H:=Option.bind_eq_some_iff.mp H
    obtain ⟨t11,A130,H⟩:=H
    replace H : (some t11) = some r:=H
    have A13:=a0_ A130
    clear A130
    obtain rfl:=Option.some.inj H
    obtain ⟨Ao14,co14,eo14⟩:=Kd.R_slice HO_5.out
    subst eo14
    go_wp2_with (first | ((with_reducible refine gate_callee (f:=51) rfl ?_);refine goesL_ (some 23) rfl rfl Try.func51 (by kernel_rfl) rfl #[.slice Ao14 x5_1.length co14] rfl lm_ ?_;(with_reducible refine (slices_Clip_Part.calls (fun k_=>some k_ = (.slice Ao14 x5_1.length co14 : Value).ownBlock) (.slice Ao14 x5_1.length co14) x5_1 t11 w _ ?side1 ?side2 A13.out).mono ?_);(case side1=>exact hb_);(case side2=>exact Kd.R_tight rfl HO_5.out);rintro e w15 ⟨v12,rfl,ho0,hb,hkp⟩;refine ⟨_,rfl,?_⟩;have HO13:=a0_ (Kd.R_mono (ok':=fun k_=>True) ho0 (fun k_ hk_=>trivial));replace HB:=a0_ (hb);clear HO_5;(try clear hb);(try clear hkp);(try clear ho0)))
    go_ret
    exact ⟨_,by first | rfl | (simp [errW_none,errW_some] <;> rfl) | (simp [*,errW_none,errW_some] <;> rfl),by (with_reducible repeat (first | apply Kd.R_alloc | apply Kd.R_drewN | apply Kd.R_drew));exact HO13.out,hb_⟩
theorem impl_wrapped_ev (l : List (List Prt)) (c : Int) (hl : l.length ≤ 1000) (hx : ∀ x ∈ l,x.length ≤ 1000 ∧ ∀ p ∈ x,-1000000 ≤ p.f0 ∧ p.f0 ≤ 1000000) : Ev (fun k=>impl_wrapped.f k l c) (wraL l c):=by
 have key : ∀ n j,j + n = l.length → Ev (fun k=>impl_wrapped.l0 k (wraL (l.take j) c) l (l.length : Int) (j : Int)) (wraL l c):=by
  intro n
  induction n with
  | zero =>
   intro j hj
   refine Ev.succ ?_
   simp only [impl_wrapped.l0]
   rw [List.take_of_length_le (by omega)]
   exact Ev.neg (by omega) (Ev.bind (Ev.const (slices_Clip_Part_ev _)) (Ev.const rfl))
  | succ n ih =>
   intro j hj
   refine Ev.succ ?_
   have hlt : j < l.length:=by omega
   have hb:=hx l[j] (List.getElem_mem _)
   have hi:=ih (j + 1) (by omega)
   have e : wraL (l.take (j + 1)) c = wraL (l.take j) c ++ dpr 1 l[j]:=by
    rw [List.take_succ_eq_append_getElem hlt]
    unfold wraL
    rw [List.map_append,List.flatten_append]
    simp only [List.map_cons,List.map_nil,List.flatten_cons,List.flatten_nil,List.append_nil,List.cons_append]
   rw [e] at hi
   have h2:=flat_len (dpr 1) (dpr_len 1) (l.take j)
   have h3:=flat_le 1000 (l.take j) (fun x hm=>(hx x (List.mem_of_mem_take hm)).1)
   have h4 : (wraL (l.take j) c).length ≤ 1 + 1000 * 1000:=by
    unfold wraL
    rw [List.length_cons,h2]
    rw [List.length_take] at h3
    have : 1000 * min j l.length ≤ 1000 * 1000:=Nat.mul_le_mul_left _ (by omega)
    omega
   have hm : l.getD ((j : Int)).toNat [] = l[j]:=by simp [List.getD,hlt]
   have hD:=impl_deeper_ev l[j] 1 (by omega) (by omega) hb.2
   rw [← hm] at hD
   have h5 : (dpr 1 (l.getD ((j : Int)).toNat [])).length ≤ 1000:=by rw [dpr_len,hm];exact hb.1
   rw [← hm] at hi
   simp only [impl_wrapped.l0]
   rw [wrap_succ (i:=(j : Int)) (n:=l.length) (by omega) (by omega) (by omega)]
   exact Ev.pos (by omega) (Ev.pos (by omega) (Ev.pos (by omega) (Ev.bind hD (Ev.pos (by omega) hi))))
 exact key l.length 0 (by omega)
end Go.Proofs.Ytbglafibhopleaa.P
namespace Go.Proofs.Ytbglafibhopleaa.P
open Go.RowKit Go.Proofs.YtbglafibhopleaaW.PrintWords Go.Proofs.YtbglafibhopleaaW.PrintLast Go.Proofs.YtbglafibhopleaaW.PrintMore
attribute [local go_sem] max2_int min2_int max_two min_two max_three min_three max_four min_four
set_option linter.unusedVariables false
set_option linter.unusedSimpArgs false
def impl_end.l0 : Nat → List (S55) → Int → Int → Option (Int)
 | 0,_,_,_=>none
 | k + 1,x0,x1,x5=>if x5 < (x0.length : Int) then (if 0 ≤ x5 then (if 0 ≤ x1 then (if x1 < (x0.length : Int) then (if ((rd_T55 x0 x5).f0) > ((rd_T55 x0 x1).f0) then (impl_end.l0 k x0 x1 (wrap64 (x5 + 1))) else (some x5)) else (none)) else (none)) else (none)) else (some x5)
def impl_end.f (k : Nat) (l0 : List (S55)) (a1 : Int) : Option (Int):=impl_end.l0 k l0 a1 (wrap64 (a1 + 1))
theorem impl_end.mono_l : ∀ k,(∀ y0 y1 y2,LeO (impl_end.l0 k y0 y1 y2) (impl_end.l0 (k + 1) y0 y1 y2))
 | 0=>fun _ _ _ r h=>by simp [impl_end.l0] at h
 | k + 1=>by
  have ih0:=impl_end.mono_l k
  ·intro y0 y1 y2
   unfold impl_end.l0
   repeat' first
   | (with_reducible exact ih0 _ _ _)
   | (with_reducible exact LeO.refl _)
   | (with_reducible exact LeO.none _)
   | (with_reducible refine LeO.ite ?_ ?_)
   | (with_reducible refine LeO.bind ?_ (fun _=>?_))
   | exact ih0 _ _ _
   | exact LeO.none _
   | refine LeO.ite ?_ ?_
   | refine LeO.bind ?_ (fun _=>?_)
theorem impl_end.mono : ∀ a0 a1 k,LeO (impl_end.f k a0 a1) (impl_end.f (k + 1) a0 a1):=by
 intro a0 a1 k
 have ih0:=impl_end.mono_l k
 unfold impl_end.f
 repeat' first
   | (with_reducible exact ih0 _ _ _)
   | (with_reducible exact LeO.refl _)
   | (with_reducible exact LeO.none _)
   | (with_reducible refine LeO.ite ?_ ?_)
   | (with_reducible refine LeO.bind ?_ (fun _=>?_))
   | exact ih0 _ _ _
   | exact LeO.none _
   | refine LeO.ite ?_ ?_
   | refine LeO.bind ?_ (fun _=>?_)
set_option maxHeartbeats 8000000 in
set_option maxRecDepth 100000 in
theorem impl_end.calls (k : Nat) (A0 : Option Addr) (c0 : Nat) (l0 : List (S55)) (a1 : Int) (r : Int) (w : World) (hr0 : Kd.C k55 w A0 l0.length l0) (hc0 : l0.length ≤ c0) (h : impl_end.f k l0 a1 = some r) :
  Calls Try.prog 57 #[.slice A0 l0.length c0,.int .i64 a1] w fun e w'=>e = .returned (.int .i64 r) ∧ Drawn0 w w':=by
 have HR0:=a0_ hr0
 have HC0:=a0_ hc0
 clear hr0 hc0
 have H : (impl_end.l0 k l0 a1 (wrap64 (a1 + 1))) = some r:=h
 clear h
 have H':=a0_ H
 clear H
 go_enter Try.func57,Try.ntmps57
 go_wp2
 repeat (go_quiet (fail);try go_wp2)
 go_loopg [5] k (fun kq v5 w'=>∃ (x5_1 : Int),v5 = .int .i64 x5_1 ∧ Aside0 (impl_end.l0 kq l0 a1 x5_1 = some r) ∧ Aside0 (kq ≤ k) ∧ Drawn0 w w')
 case atStart=>exact ⟨(wrap64 (a1 + 1)),(by first | rfl | (simp;done) | (simp [*];done)),H',⟨Nat.le_refl _⟩,by repeat (first | exact Drawn0.refl _ | apply Drawn0.step)⟩
 case round =>
  clear H'
  try clear p2
  obtain ⟨x5_1,rfl,HA,HK1,⟨m1,rfl⟩⟩:=hrel
  cases gk with
  | zero=>exact absurd HA.out (by simp [impl_end.l0])
  | succ k1 =>
   have H:=HA.out
   clear HA
   simp only [impl_end.l0] at H
   by_cases c3 : x5_1 < (l0.length : Int)
   ·rw [if_pos c3] at H
    have c3b0 : decide (x5_1 < (l0.length : Int)) = true:=decide_eq_true c3
    clear c3
    by_cases c4 : 0 ≤ x5_1
    ·rw [if_pos c4] at H
     have c4b0 : decide (0 ≤ x5_1) = true:=decide_eq_true c4
     clear c4
     by_cases c5 : 0 ≤ a1
     ·rw [if_pos c5] at H
      have c5b0 : decide (0 ≤ a1) = true:=decide_eq_true c5
      clear c5
      by_cases c6 : a1 < (l0.length : Int)
      ·rw [if_pos c6] at H
       have c6b0 : decide (a1 < (l0.length : Int)) = true:=decide_eq_true c6
       clear c6
       by_cases c7 : ((rd_T55 l0 x5_1).f0) > ((rd_T55 l0 a1).f0)
       ·rw [if_pos c7] at H
        have c7b0 : decide (((rd_T55 l0 a1).f0) < ((rd_T55 l0 x5_1).f0)) = true:=decide_eq_true c7
        clear c7
        have H':=a0_ H
        clear H
        have p1 : 0 ≤ (x5_1 : Int):=of_decide_eq_true (by first | (with_reducible assumption) | assumption)
        have q1 : x5_1 < (l0.length : Int):=of_decide_eq_true (by first | (with_reducible assumption) | assumption)
        obtain ⟨ad1,e1,hx1_0,hx1_1,hx1_2,hx1_3⟩:=at_T55 HR0.out x5_1 p1 q1
        cases e1
        replace p1:=eq_true p1
        replace q1:=eq_true q1
        have p2 : 0 ≤ (a1 : Int):=of_decide_eq_true (by first | (with_reducible assumption) | assumption)
        have q2 : a1 < (l0.length : Int):=of_decide_eq_true (by first | (with_reducible assumption) | assumption)
        obtain ⟨ad2,e2,hx2_0,hx2_1,hx2_2,hx2_3⟩:=at_T55 HR0.out a1 p2 q2
        obtain rfl : ad1 = ad2:=(by injection e2)
        replace p2:=eq_true p2
        replace q2:=eq_true q2
        go_wp2
        repeat (go_quiet (fail);try go_wp2)
        go_roundg k1
        case measure=>have:=HK1.out;omega
        case rel=>exact ⟨(wrap64 (x5_1 + 1)),(by first | rfl | (simp;done) | (simp [*];done)),H',⟨by have:=HK1.out;omega⟩,by repeat (first | exact Drawn0.refl _ | apply Drawn0.step)⟩
       ·rw [if_neg c7] at H
        have c7b0 : decide (((rd_T55 l0 a1).f0) < ((rd_T55 l0 x5_1).f0)) = false:=decide_eq_false c7
        clear c7
        obtain rfl:=Option.some.inj H
        have p1 : 0 ≤ (x5_1 : Int):=of_decide_eq_true (by first | (with_reducible assumption) | assumption)
        have q1 : x5_1 < (l0.length : Int):=of_decide_eq_true (by first | (with_reducible assumption) | assumption)
        obtain ⟨ad1,e1,hx1_0,hx1_1,hx1_2,hx1_3⟩:=at_T55 HR0.out x5_1 p1 q1
        cases e1
        replace p1:=eq_true p1
        replace q1:=eq_true q1
        have p2 : 0 ≤ (a1 : Int):=of_decide_eq_true (by first | (with_reducible assumption) | assumption)
        have q2 : a1 < (l0.length : Int):=of_decide_eq_true (by first | (with_reducible assumption) | assumption)
        obtain ⟨ad2,e2,hx2_0,hx2_1,hx2_2,hx2_3⟩:=at_T55 HR0.out a1 p2 q2
        obtain rfl : ad1 = ad2:=(by injection e2)
        replace p2:=eq_true p2
        replace q2:=eq_true q2
        go_wp2
        repeat (go_quiet (fail);try go_wp2)
        go_ret
        exact ⟨by first | rfl | (simp;done) | (simp [*];done),by repeat (first | exact Drawn0.refl _ | apply Drawn0.step)⟩
      ·rw [if_neg c6] at H
       exact absurd H (by simp)
     ·rw [if_neg c5] at H
      exact absurd H (by simp)
    ·rw [if_neg c4] at H
     exact absurd H (by simp)
   ·rw [if_neg c3] at H
    have c3b0 : decide (x5_1 < (l0.length : Int)) = false:=decide_eq_false c3
    clear c3
    obtain rfl:=Option.some.inj H
    go_wp2
    repeat (go_quiet (fail);try go_wp2)
    go_ret
    exact ⟨by first | rfl | (simp;done) | (simp [*];done),by repeat (first | exact Drawn0.refl _ | apply Drawn0.step)⟩
theorem impl_end_ev (g : List Prt) (i : Nat) (hi : i < g.length) (hl : g.length ≤ 9223372036854775807) : Ev (fun k=>impl_end.f k g (i : Int)) ((endG g i : Nat) : Int):=by
 have key : ∀ d j,j + d = g.length → Ev (fun k=>impl_end.l0 k g (i : Int) (j : Int)) ((j + ((g.drop j).takeWhile (fun p=>decide ((g.getD i z55).f0 < p.f0))).length : Nat) : Int):=by
  intro d
  induction d with
  | zero =>
   intro j hj
   rw [List.drop_eq_nil_of_le (by omega)]
   refine Ev.succ (Ev.congr (F:=fun _=>some ((j : Nat) : Int)) (Ev.const rfl) (fun k=>?_))
   simp only [impl_end.l0]
   rw [if_neg (by omega)]
  | succ d ih =>
   intro j hj
   have hlt : j < g.length:=by omega
   have hrd : rd_T55 g (j : Int) = g[j]:=by simp [rd_T55,hlt]
   have hri : rd_T55 g (i : Int) = g.getD i z55:=by simp [rd_T55]
   rw [List.drop_eq_getElem_cons hlt,List.takeWhile_cons]
   refine Ev.succ (Ev.congr (F:=fun k=>if (g.getD i z55).f0 < g[j].f0 then impl_end.l0 k g (i : Int) ((j + 1 : Nat) : Int) else some (j : Int)) ?_ (fun k=>?_))
   ·by_cases h : (g.getD i z55).f0 < g[j].f0
    ·refine Ev.pos h ?_
     rw [decide_eq_true h,if_pos rfl,List.length_cons]
     have:=ih (j + 1) (by omega)
     rw [show j + 1 + ((g.drop (j + 1)).takeWhile (fun p=>decide ((g.getD i z55).f0 < p.f0))).length = j + (((g.drop (j + 1)).takeWhile (fun p=>decide ((g.getD i z55).f0 < p.f0))).length + 1) by omega] at this
     exact this
    ·refine Ev.neg h ?_
     rw [decide_eq_false h,if_neg (by simp)]
     exact Ev.const rfl
   ·simp only [impl_end.l0]
    rw [if_pos (by omega),if_pos (by omega),if_pos (by omega),if_pos (by omega),hrd,hri,wrap_succ (i:=(j : Int)) (n:=g.length) (by omega) (by omega) (by omega)]
    rfl
 have:=key (g.length - (i + 1)) (i + 1) (by omega)
 refine Ev.congr this (fun k=>?_)
 unfold impl_end.f
 rw [wrap_succ (i:=(i : Int)) (n:=g.length) (by omega) (by omega) (by omega)]
 rfl
end Go.Proofs.Ytbglafibhopleaa.P
namespace Go.Proofs.Ytbglafibhopleaa.P
open Go.RowKit Go.Proofs.YtbglafibhopleaaW.PrintWords Go.Proofs.YtbglafibhopleaaW.PrintLast Go.Proofs.YtbglafibhopleaaW.PrintMore
attribute [local go_sem] max2_int min2_int max_two min_two max_three min_three max_four min_four
set_option linter.unusedVariables false
set_option linter.unusedSimpArgs false
def slices_Clip_sPart.f (l0 : List (List (S55))) : Option (List (List (S55))):=some l0
set_option maxHeartbeats 8000000 in
set_option maxRecDepth 100000 in
theorem slices_Clip_sPart.calls (P0_ : Nat → Prop) (u9000_ : Value) (l0 : List (List (S55))) (r : List (List (S55))) (w0 w : World) (hB : Below w0.heap.size w0 w) (ho0 : Kd.S (Kd.slice 55 k55) 28 w w0.heap.size P0_ u9000_ l0) (h : slices_Clip_sPart.f l0 = some r) :
  Calls Try.prog 58 #[u9000_] w fun e w'=>∃ v0_ : Value,e = .returned (v0_) ∧ Kd.S (Kd.slice 55 k55) 28 w' w0.heap.size (fun k_=>(P0_ k_ ∨ w.heap.size ≤ k_)) v0_ r ∧ Below w0.heap.size w0 w' ∧ Kept w w' (fun k_=>P0_ k_):=by
 have HO0:=a0_ (show Kd.S (Kd.slice 55 k55) 28 w w0.heap.size (fun k_=>(P0_ k_ ∨ w.heap.size ≤ k_)) u9000_ l0 from Kd.S_mono ho0 (fun k_ hk=>(.inl hk)))
 have HK:=a0_ (Kept.refl w (fun k_=>P0_ k_))
 have HW0:=a0_ hB.size
 have HB:=a0_ hB
 clear hB
 obtain rfl:=Option.some.inj h
 clear h
 have c2b0:=eq_true (show 0 ≤ (l0.length : Int) by omega)
 have c2b1 : decide (0 ≤ (l0.length : Int)) = true:=decide_eq_true (by omega)
 have c3b1 : decide ((l0.length : Int) ≤ (l0.length : Int)) = true:=decide_eq_true (by omega)
 obtain ⟨Ao4,co4,eo4⟩:=Kd.S_slice HO0.out
 subst eo4
 have q5 : l0.length ≤ co4:=(Kd.S_reads' HO0.out).2.1
 have hr5:=Kd.S_clip' HO0.out rfl
 clear HO0
 have HO3:=a0_ hr5
 clear hr5
 go_enter Try.func58,Try.ntmps58
 go_wp2
 go_ret
 exact ⟨_,rfl,HO3.out,HB.out,HK.out⟩
theorem slices_Clip_sPart_ev (l : List (List Prt)) : slices_Clip_sPart.f l = some l:=rfl
end Go.Proofs.Ytbglafibhopleaa.P
namespace Go.Proofs.Ytbglafibhopleaa.P
open Go.RowKit Go.Proofs.YtbglafibhopleaaW.PrintWords Go.Proofs.YtbglafibhopleaaW.PrintLast Go.Proofs.YtbglafibhopleaaW.PrintMore
attribute [local go_sem] max2_int min2_int max_two min_two max_three min_three max_four min_four
set_option linter.unusedVariables false
set_option linter.unusedSimpArgs false
def impl_kids.l0 : Nat → List (S55) → List (List (S55)) → Int → Option ((List (List (S55))))
 | 0,_,_,_=>none
 | k + 1,x0,x3,x4=>if x4 < (x0.length : Int) then ((impl_end.f k x0 x4).bind fun t4=>(if 0 ≤ x4 then (if x4 ≤ t4 then (if t4 ≤ (x0.length : Int) then ((impl_deeper.f k ((x0.take (t4 : Int).toNat).drop (x4 : Int).toNat) (-1)).bind fun t9=>(if x3.length < 5864062014805 then ((impl_end.f k x0 x4).bind fun t15=>(impl_kids.l0 k x0 (x3 ++ [t9]) t15)) else (none))) else (none)) else (none)) else (none))) else (some x3)
def impl_kids.f (k : Nat) (l0 : List (S55)) : Option ((List (List (S55)))):=impl_kids.l0 k l0 (([] : List (List (S55)))) 1
theorem impl_kids.mono_l : ∀ k,(∀ y0 y1 y2,LeO (impl_kids.l0 k y0 y1 y2) (impl_kids.l0 (k + 1) y0 y1 y2))
 | 0=>fun _ _ _ r h=>by simp [impl_kids.l0] at h
 | k + 1=>by
  have ih0:=impl_kids.mono_l k
  ·intro y0 y1 y2
   unfold impl_kids.l0
   repeat' first
   | (with_reducible exact ih0 _ _ _)
   | (with_reducible exact impl_deeper.mono _ _ _)
   | (with_reducible exact impl_end.mono _ _ _)
   | (with_reducible exact LeO.refl _)
   | (with_reducible exact LeO.none _)
   | (with_reducible refine LeO.ite ?_ ?_)
   | (with_reducible refine LeO.bind ?_ (fun _=>?_))
   | exact ih0 _ _ _
   | exact impl_deeper.mono _ _ _
   | exact impl_end.mono _ _ _
   | exact LeO.none _
   | refine LeO.ite ?_ ?_
   | refine LeO.bind ?_ (fun _=>?_)
theorem impl_kids.mono : ∀ a0 k,LeO (impl_kids.f k a0) (impl_kids.f (k + 1) a0):=by
 intro a0 k
 have ih0:=impl_kids.mono_l k
 unfold impl_kids.f
 repeat' first
   | (with_reducible exact ih0 _ _ _)
   | (with_reducible exact impl_deeper.mono _ _ _)
   | (with_reducible exact impl_end.mono _ _ _)
   | (with_reducible exact LeO.refl _)
   | (with_reducible exact LeO.none _)
   | (with_reducible refine LeO.ite ?_ ?_)
   | (with_reducible refine LeO.bind ?_ (fun _=>?_))
   | exact ih0 _ _ _
   | exact impl_deeper.mono _ _ _
   | exact impl_end.mono _ _ _
   | exact LeO.none _
   | refine LeO.ite ?_ ?_
   | refine LeO.bind ?_ (fun _=>?_)
set_option maxHeartbeats 8000000 in
set_option maxRecDepth 100000 in
theorem impl_kids.calls (k : Nat) (A0 : Option Addr) (c0 : Nat) (l0 : List (S55)) (r : List (List (S55))) (w : World) (hr0 : Kd.C k55 w A0 l0.length l0) (hc0 : l0.length ≤ c0) (h : impl_kids.f k l0 = some r) :
  Calls Try.prog 41 #[.slice A0 l0.length c0] w fun e w'=>∃ v0_ : Value,e = .returned (v0_) ∧ Kd.S (Kd.slice 55 k55) 28 w' w.heap.size (fun _=>True) v0_ r ∧ Below w.heap.size w w':=by
 have HR0:=a0_ hr0
 have HC0:=a0_ hc0
 clear hr0 hc0
 have HB:=a0_ (Below.refl w.heap.size w)
 have H : (impl_kids.l0 k l0 (([] : List (List (S55)))) 1) = some r:=h
 clear h
 obtain ⟨y1,hy1⟩ : ∃ y_ : List (List (S55)),y_ = (([] : List (List (S55)))):=⟨_,rfl⟩
 replace H : (impl_kids.l0 k l0 y1 1) = some r:=by first | (rw [hy1];with_reducible exact H) | (have H2_:=(Option.bind_some _ _).symm.trans H;rw [hy1];with_reducible exact H2_) | (have H2_:=(Option.bind_some _ _).symm.trans H;with_reducible exact H2_) | with_reducible exact H | (rw [hy1];exact H) | exact H
 have Ny1:=a0_ hy1
 clear hy1
 have H':=a0_ H
 clear H
 go_enter Try.func41,Try.ntmps41
 go_wp2_with (first | ((with_reducible refine gate_dst (N:=5) rfl ?_);refine Kd.S_lit (Kd.slice 55 k55) _ 28 ?hg (N:=5) ?hd (xs:=([] : List (List (S55)))) (inner:=[]) (ok:=fun _=>True) (okp:=fun _=>True) ?hr ?hp (fun _ hk=>hk) trivial (Below.refl _ _) (Nat.le_refl _) (by simp) ?_;(case hd=>rfl);(case hg=>rfl);(case hr=>first | (go_simp;done) | (go_simp;rfl));(case hp=>exact (Reps.none _ _));intro v2 w2 ho3 hb hg_ hnew_;clear hg_ hnew_;(first | rw [← Ny1.out] at ho3 | (simp only [Int.reduceToNat] at ho3;rw [← Ny1.out] at ho3));have HO3:=a0_ (Kd.S_lower ho3 (below_size hb_));replace HB:=a0_ (below_step hb_ hb);clear hb ho3))
 go_loopg [3,4] k (fun kq v3 v4 w'=>∃ (x3_1 : List (List (S55))) (x4_1 : Int),v4 = .int .i64 x4_1 ∧ Aside0 (impl_kids.l0 kq l0 x3_1 x4_1 = some r) ∧ Aside0 (kq ≤ k) ∧ Aside0 (Kd.S (Kd.slice 55 k55) 28 w' w.heap.size (fun _=>True) v3 x3_1) ∧ Aside0 (Below w.heap.size w w'))
 case atStart=>exact ⟨(y1),(1),(by first | rfl | (simp;done) | (simp [*];done)),H',⟨Nat.le_refl _⟩,⟨by (with_reducible repeat (first | apply Kd.S_alloc | apply Kd.S_drewN | apply Kd.S_drew));exact HO3.out⟩,⟨hb_⟩⟩
 case round =>
  clear H'
  try clear p2
  obtain ⟨x3_1,x4_1,rfl,HA,HK1,HO_3,HB⟩:=hrel
  cases gk with
  | zero=>exact absurd HA.out (by simp [impl_kids.l0])
  | succ k1 =>
   have H:=HA.out
   clear HA
   simp only [impl_kids.l0] at H
   by_cases c4 : x4_1 < (l0.length : Int)
   ·rw [if_pos c4] at H
    have c4b0 : decide (x4_1 < (l0.length : Int)) = true:=decide_eq_true c4
    clear c4
    replace H:=Option.bind_eq_some_iff.mp H
    obtain ⟨t4,A50,H⟩:=H
    try dsimp only at H
    have A5:=a0_ A50
    clear A50
    by_cases c6 : 0 ≤ x4_1
    ·rw [if_pos c6] at H
     have c6b0:=eq_true c6
     have c6b1 : decide (0 ≤ x4_1) = true:=decide_eq_true c6
     clear c6
     by_cases c7 : x4_1 ≤ t4
     ·rw [if_pos c7] at H
      have c7b0:=eq_true c7
      have c7b1 : decide (x4_1 ≤ t4) = true:=decide_eq_true c7
      clear c7
      by_cases c8 : t4 ≤ (l0.length : Int)
      ·rw [if_pos c8] at H
       have c8b0:=eq_true c8
       have c8b1 : decide (t4 ≤ (l0.length : Int)) = true:=decide_eq_true c8
       clear c8
       obtain ⟨y5,hy5⟩ : ∃ y_ : List (S55),y_ = ((l0.take (t4 : Int).toNat).drop (x4_1 : Int).toNat):=⟨_,rfl⟩
       replace H : ((impl_deeper.f k1 y5 (-1)).bind fun t9=>(if x3_1.length < 5864062014805 then ((impl_end.f k1 l0 x4_1).bind fun t15=>(impl_kids.l0 k1 l0 (x3_1 ++ [t9]) t15)) else (none))) = some r:=by first | (rw [hy5];with_reducible exact H) | (have H2_:=(Option.bind_some _ _).symm.trans H;rw [hy5];with_reducible exact H2_) | (have H2_:=(Option.bind_some _ _).symm.trans H;with_reducible exact H2_) | with_reducible exact H | (rw [hy5];exact H) | exact H
       have Ny5:=a0_ hy5
       clear hy5
       replace H:=Option.bind_eq_some_iff.mp H
       obtain ⟨t9,A90,H⟩:=H
       try dsimp only at H
       have A9:=a0_ A90
       clear A90
       by_cases c10 : x3_1.length < 5864062014805
       ·rw [if_pos c10] at H
        have LMc10:=a0_ c10
        clear c10
        obtain ⟨y12,hy12⟩ : ∃ y_ : List (List (S55)),y_ = (x3_1 ++ [t9]):=⟨_,rfl⟩
        replace H : ((impl_end.f k1 l0 x4_1).bind fun t15=>(impl_kids.l0 k1 l0 y12 t15)) = some r:=by first | (rw [hy12];with_reducible exact H) | (have H2_:=(Option.bind_some _ _).symm.trans H;rw [hy12];with_reducible exact H2_) | (have H2_:=(Option.bind_some _ _).symm.trans H;with_reducible exact H2_) | with_reducible exact H | (rw [hy12];exact H) | exact H
        have Ny12:=a0_ hy12
        clear hy12
        replace H:=Option.bind_eq_some_iff.mp H
        obtain ⟨t15,A110,H⟩:=H
        replace H : (impl_kids.l0 k1 l0 y12 t15) = some r:=H
        have A11:=a0_ A110
        clear A110
        have H':=a0_ H
        clear H
        go_wp2_with (first | ((with_reducible refine gate_callee (f:=57) rfl ?_);refine goesL_ (some 18) rfl rfl Try.func57 (by kernel_rfl) rfl #[.slice A0 l0.length c0,.int .i64 x4_1] rfl lm_ ?_;(with_reducible refine (impl_end.calls k1 _ _ l0 x4_1 t4 _ ?side1 ?side2 A5.out).mono ?_);(case side1=>exact cc_ (Kd.C_below HR0.out HB.out));(case side2=>exact HC0.out);rintro e w' ⟨rfl,⟨nd,rfl⟩⟩;refine ⟨_,rfl,?_⟩;have q12 : (t4 : Int) ≤ ((l0.length : Int) : Int):=of_decide_eq_true (by first | (with_reducible assumption) | assumption);obtain ⟨i012,hi012,_,hsz12,_⟩:=info_parts info55;have hroom12 : l0.length ≤ c0:=HC0.out;have hC12 : Kd.C k55 _ A0 l0.length l0:=HR0.out;have ql12 : (x4_1 : Int) ≤ (t4 : Int):=of_decide_eq_true (by first | (with_reducible assumption) | assumption);have q012 : (0 : Int) ≤ (x4_1 : Int):=of_decide_eq_true (by first | (with_reducible assumption) | assumption);have hcut12:=cut_mid (P:=Try.prog) 28 55 .i64 .i64 Try.underlying28 hi012 4 hsz12 A0 l0.length c0 x4_1 t4 q012 ql12 q12 hroom12;have hr12:=Kd.C_mid (lo:=(x4_1 : Int).toNat) (hi:=(t4 : Int).toNat) (c:=c0) hC12 (by omega) (by omega) hroom12;obtain ⟨A12,hA12⟩ : ∃ AZ_,AZ_ = (if c0 = (x4_1 : Int).toNat then A0 else (A0 : Option Addr).map (·.add ((x4_1 : Int).toNat * 4))):=⟨_,rfl⟩;obtain ⟨c12,hc12⟩ : ∃ cZ_,cZ_ = c0 - (x4_1 : Int).toNat:=⟨_,rfl⟩;have hy12 : y5.length = (t4 : Int).toNat - (x4_1 : Int).toNat:=(by rw [Ny5.out,List.length_drop,List.length_take] <;> omega);rw [show ((l0).take (t4 : Int).toNat).drop (x4_1 : Int).toNat = y5 from Ny5.out.symm] at hr12;replace hr12 : Kd.C k55 _ A12 y5.length y5:=(by rw [hA12];exact hr12);rw [← hy12,← hA12,← hc12] at hcut12;have HR8:=a0_ hr12;have HC8:=a0_ (show y5.length ≤ c12 from by rw [hy12,hc12];exact Nat.sub_le_sub_right (Nat.le_trans (by omega) hroom12) _);clear hr12 hC12 hroom12 hi012 hsz12 hc12;have KY12:=a0_ hy12;have KA12:=a0_ hA12;clear hy12 hA12;replace q12:=eq_true q12) | ((with_reducible refine gate_callee (f:=56) rfl ?_);refine goesL_ (some 20) rfl rfl Try.func56 (by kernel_rfl) rfl #[.slice A12 y5.length c12,.int .i64 (-1)] rfl lm_ ?_;(with_reducible refine (impl_deeper.calls k1 _ _ y5 (-1) t9 _ ?side1 ?side2 A9.out).mono ?_);(case side1=>repeat (first | exact (Kd.C_below HR8.out hb_) | (with_reducible refine Kd.C_alloc ?_ _) | (with_reducible refine Kd.C_drewN ?_ _) | (with_reducible refine Kd.C_drew ?_)));(case side2=>exact HC8.out);rintro e w13 ⟨v10,rfl,ho0,hb⟩;refine ⟨_,rfl,?_⟩;replace HO_3:=a0_ (Kd.S_elder' (by (with_reducible repeat (first | apply Kd.S_alloc | apply Kd.S_drewN | apply Kd.S_drew));exact HO_3.out) (Kd.R_base ho0) hb);have HO11:=a0_ (Kd.R_lower ho0 (below_size hb_));replace HB:=a0_ (below_step hb_ hb);(try clear hb);(try clear ho0);obtain ⟨Ao15,co15,eo15⟩:=Kd.R_slice HO11.out;subst eo15) | ((with_reducible refine gate_builtin (b:=.append) (xs:=#[.tmp 13,.tmp 21]) rfl ?_);at_builtin;refine Kd.S_append (Kd.slice 55 k55) (w0:=w) w.heap.size rfl (.tmp 13) (.tmp 21) 44 28 (.slice none 0 0) 24 rfl Try.underlying44 info28 rfl (by decide) (by omega) u3 x3_1 t9 [.slice Ao15 t9.length co15] (fun _=>True) (fun k_=>some k_ = (.slice Ao15 t9.length co15 : Value).ownBlock) rfl rfl ?aP (fun k_ hk_=>((Kd.R_mono (ok':=fun k_=>((fun _=>True)) k_ ∧ some k_ ≠ (u3 : Value).ownBlock) (Kd.R_apart' (HO11.out) (Kd.S_typed HO_3.out) (by decide)) (fun k_ hk=>⟨trivial,hk.2⟩))).1 k_ hk_.symm) ?aF ?aO ?aB ?aS ?aL ?_;(case aP=>exact Kd.M_row (Kd.R_mono (Kd.R_tight rfl (Kd.R_mono (ok':=fun k_=>((fun _=>True)) k_ ∧ some k_ ≠ (u3 : Value).ownBlock) (Kd.R_apart' (HO11.out) (Kd.S_typed HO_3.out) (by decide)) (fun k_ hk=>⟨trivial,hk.2⟩))) (fun _ h_=>h_)));(case aB=>exact hb_);(case aF=>exact (fun _ _=>trivial));(case aO=>exact (by (with_reducible repeat (first | apply Kd.S_alloc | apply Kd.S_drewN | apply Kd.S_drew));exact Kd.S_mono HO_3.out (fun k_ hk=>⟨trivial,fun e_=>hk.2 e_⟩)));(case aS=>exact (below_size hb_));(case aL=>have:=LMc10.out;omega);intro v13 w14 ho hb hg hat;rw [← Ny12.out] at ho;have HO14:=a0_ (ho);replace HB:=a0_ (hb);clear HO_3 HO11;clear ho hb hg hat) | ((with_reducible refine gate_callee (f:=57) rfl ?_);refine goesL_ (some 12) rfl rfl Try.func57 (by kernel_rfl) rfl #[.slice A0 l0.length c0,.int .i64 x4_1] rfl lm_ ?_;(with_reducible refine (impl_end.calls k1 _ _ l0 x4_1 t15 _ ?side1 ?side2 A11.out).mono ?_);(case side1=>exact cc_ (Kd.C_below HR0.out HB.out));(case side2=>exact HC0.out);rintro e w' ⟨rfl,⟨nd,rfl⟩⟩;refine ⟨_,rfl,?_⟩))
        go_roundg k1
        case measure=>have:=HK1.out;omega
        case rel=>exact ⟨(y12),(t15),(by first | rfl | (simp;done) | (simp [*];done)),H',⟨by have:=HK1.out;omega⟩,⟨by (with_reducible repeat (first | apply Kd.S_alloc | apply Kd.S_drewN | apply Kd.S_drew));exact HO14.out⟩,⟨hb_⟩⟩
       ·rw [if_neg c10] at H
        exact absurd H (by simp)
      ·rw [if_neg c8] at H
       exact absurd H (by simp)
     ·rw [if_neg c7] at H
      exact absurd H (by simp)
    ·rw [if_neg c6] at H
     exact absurd H (by simp)
   ·rw [if_neg c4] at H
    have c4b0 : decide (x4_1 < (l0.length : Int)) = false:=decide_eq_false c4
    clear c4
    obtain rfl:=Option.some.inj H
    go_wp2_with (go_at_call 58;refine (slices_Clip_sPart.calls (fun _=>True) _ _ _ w _ HB.out HO_3.out rfl).mono ?_;rintro e w2 ⟨v2,rfl,ho2,hb2,hk2⟩)
    go_ret
    exact ⟨_,rfl,Kd.S_mono ho2 (fun _ _=>trivial),hb2⟩
theorem impl_kids_l0 (g : List Prt) (hl : g.length ≤ 1000) (hb : ∀ p ∈ g,-1000 ≤ p.f0 ∧ p.f0 ≤ 1000) : ∀ (n i : Nat) (out : List (List Prt)),g.length ≤ i + n → i ≤ g.length → out.length ≤ i → Ev (fun k=>impl_kids.l0 k g out (i : Int)) (out ++ (kidR n (g.drop i)).map (dpr (-1))):=by
 intro n
 induction n with
 | zero =>
  intro i out hn hi ho
  refine Ev.succ ?_
  simp only [impl_kids.l0]
  exact Ev.neg (by omega) (Ev.const (by simp [kidR]))
 | succ n ih =>
  intro i out hn hi ho
  refine Ev.succ ?_
  by_cases hlt : i < g.length
  ·obtain ⟨e1,e2⟩:=end_mid g i hlt
   have hE:=impl_end_ev g i hlt (by omega)
   have hle:=endG_le g i hlt
   have hD:=impl_deeper_ev (g[i] :: belw g[i] (g.drop (i + 1))) (-1) (by
    have:=(belw_sub g[i] (g.drop (i + 1))).length_le
    rw [List.length_drop] at this
    rw [List.length_cons]
    omega) (by omega) (fun p hp=>by
    have hm : p ∈ g:=by
     rcases List.mem_cons.1 hp with rfl | hp
     ·exact List.getElem_mem _
     ·exact List.mem_of_mem_drop ((belw_sub _ _).subset hp)
    have:=hb p hm
    omega)
   rw [← e1] at hD
   have hi2:=ih (endG g i) (out ++ [dpr (-1) ((g.take (endG g i)).drop i)]) (by omega) hle (by simp;omega)
   have ek : kidR (n + 1) (g.drop i) = (g.take (endG g i)).drop i :: kidR n (g.drop (endG g i)):=by
    rw [List.drop_eq_getElem_cons hlt,kidR,e1,e2,List.drop_drop]
   rw [ek,List.map_cons]
   rw [List.append_assoc,List.singleton_append] at hi2
   simp only [impl_kids.l0]
   refine Ev.pos (by omega) (Ev.bind hE (Ev.pos (by omega) (Ev.pos (by omega) (Ev.pos (by omega) ?_))))
   simp only [Int.toNat_natCast]
   exact Ev.bind hD (Ev.pos (by omega) (Ev.bind hE hi2))
  ·rw [List.drop_eq_nil_of_le (by omega)]
   simp only [impl_kids.l0]
   exact Ev.neg (by omega) (Ev.const (by simp [kidR]))
theorem impl_kids_ev (g : List Prt) (hl : g.length ≤ 1000) (h1 : 1 ≤ g.length) (hb : ∀ p ∈ g,-1000 ≤ p.f0 ∧ p.f0 ≤ 1000) : Ev (fun k=>impl_kids.f k g) (kidL g):=by
 have:=impl_kids_l0 g hl hb g.length 1 [] (by omega) h1 (by simp)
 exact this
end Go.Proofs.Ytbglafibhopleaa.P
namespace Go.Proofs.Ytbglafibhopleaa.P
open Go.RowKit Go.Proofs.YtbglafibhopleaaW.PrintWords Go.Proofs.YtbglafibhopleaaW.PrintLast Go.Proofs.YtbglafibhopleaaW.PrintMore
attribute [local go_sem] max2_int min2_int max_two min_two max_three min_three max_four min_four
set_option linter.unusedVariables false
set_option linter.unusedSimpArgs false
theorem pw_eqlnil {P : Program} {t e : TypeId} (a : Option Addr) (h : P.underlying t = some (.slice e)) : ∀ n c w,(binOp .eql t (.slice a n c) (.slice none 0 0)).run P w = .ok (.bool a.isNone) w:=by
 intro n c w
 have h1 : ∀ d,(Op.equalIn (d + 1) t (.slice a n c) (.slice none 0 0)).run P w = .ok a.isNone w:=by
  intro d
  cases a <;> simp [Op.equalIn,run_underlying h]
 have h2 : (Op.equal t (.slice a n c) (.slice none 0 0)).run P w = .ok a.isNone w:=h1 9999
 simp [binOp,h2]
end Go.Proofs.Ytbglafibhopleaa.P
namespace Go.Proofs.Ytbglafibhopleaa.P
open Go.RowKit Go.Proofs.YtbglafibhopleaaW.PrintWords Go.Proofs.YtbglafibhopleaaW.PrintLast Go.Proofs.YtbglafibhopleaaW.PrintMore
attribute [local go_sem] max2_int min2_int max_two min_two max_three min_three max_four min_four
set_option linter.unusedVariables false
set_option linter.unusedSimpArgs false
def slices_Clone_Part.f (l0 : List (S55)) : Option (List (S55)):=if l0.length < 4398046511104 then some l0 else none
set_option maxHeartbeats 2000000 in
set_option maxRecDepth 100000 in
theorem slices_Clone_Part.calls (A0 : Option Addr) (c0 : Nat) (l0 : List (S55)) (r : List (S55)) (w : World) (hr0 : Kd.C k55 w A0 l0.length l0) (hc0 : l0.length ≤ c0) (h : slices_Clone_Part.f l0 = some r) :
  Calls Try.prog 52 #[.slice A0 l0.length c0] w fun e w'=>∃ v0_ : Value,e = .returned (v0_) ∧ Kd.R k55 55 w' w.heap.size (fun _=>True) v0_ r ∧ Below w.heap.size w w':=by
 have hlm : l0.length < 4398046511104:=by
  apply Classical.byContradiction
  intro hn
  rw [slices_Clone_Part.f,if_neg hn] at h
  cases h
 rw [slices_Clone_Part.f,if_pos hlm] at h
 obtain rfl:=Option.some.inj h
 clear h
 have HR0:=a0_ hr0
 have HC0:=a0_ hc0
 have LM:=a0_ hlm
 clear hlm hc0
 have HB:=a0_ (Below.refl w.heap.size w)
 obtain ⟨y1,hy1⟩ : ∃ y_ : List (S55),y_ = (([] : List (S55))):=⟨_,rfl⟩
 have Ny1:=a0_ hy1
 obtain ⟨y4,hy4⟩ : ∃ y_ : List (S55),y_ = y1 ++ l0:=⟨_,rfl⟩
 have Ny4:=a0_ hy4
 have Ny5:=a0_ (show y4 = l0 by rw [hy4,hy1,List.nil_append])
 have Ny6:=a0_ (show y1.length = 0 by rw [hy1];rfl)
 clear hy1 hy4
 cases A0 with
 | none =>
  have e0 : l0.length = 0:=by
   apply Classical.byContradiction
   intro hn
   obtain ⟨ad,e,_⟩:=hr0.2.2 (by omega)
   cases e
  clear hr0
  have e1 : l0 = []:=List.length_eq_zero_iff.1 e0
  have hnl:=pw_eqlnil (P:=Try.prog) none Try.underlying28
  simp only [Option.isNone_none] at hnl
  go_enter Try.func52,Try.ntmps52
  go_wp2
  go_ret
  exact ⟨_,rfl,by rw [e1];exact Kd.R_nil _ _ _ _ _,HB.out⟩
 | some a0 =>
  clear hr0
  have hnl:=pw_eqlnil (P:=Try.prog) (some a0) Try.underlying28
  simp only [Option.isNone_some] at hnl
  go_enter Try.func52,Try.ntmps52
  go_wp2_with (first | ((with_reducible refine gate_dst (N:=5) rfl ?_);refine Kd.R_lit k55 _ 55 ?hg (N:=5) ?hd (xs:=([] : List (S55))) (inner:=[]) (ok:=fun _=>True) (okp:=fun _=>True) ?hr ?hp (fun _ hk=>hk) trivial (Below.refl _ _) (Nat.le_refl _) (by simp) ?_;(case hd=>rfl);(case hg=>rfl);(case hr=>first | (go_simp;done) | (go_simp;rfl));(case hp=>exact (Reps.none _ _));intro v2 w4 ho5 hb hg_ hnew_;clear hg_ hnew_;(first | rw [← Ny1.out] at ho5 | (simp only [Int.reduceToNat] at ho5;rw [← Ny1.out] at ho5));have HO3:=a0_ (Kd.R_lower ho5 (below_size hb_));replace HB:=a0_ (below_step hb_ hb);clear hb ho5) | ((with_reducible refine gate_builtin (b:=.append) (xs:=#[.tmp 5,.tmp 6]) rfl ?_);at_builtin;refine Kd.R_append_rows k55 (w0:=w) w.heap.size rfl (.tmp 5) (.tmp 6) 28 55 (.agg #[(.int .i64 0),(.bool false),(.int .i64 0),(.int .i64 0)]) 32 rfl Try.underlying28 info55 rfl (by decide) (by omega) v2 y1 l0 _ _ _ (fun _=>True) (fun _=>False) rfl rfl ?aO ?aR (fun _ _ h=>h) (fun _ h=>h.elim) ?aF ?aB ?aS ?aL ?_;(case aR=>exact cc_ (Kd.C_below HR0.out HB.out));(case aB=>exact hb_);(case aF=>exact (fun _ _=>trivial));(case aO=>exact (rr_ HO3.out));(case aS=>exact (below_size hb_));(case aL=>have:=LM.out;have:=Ny6.out;omega);intro v5 w6 ho hb hg hat;rw [← Ny4.out] at ho;have HO6:=a0_ (ho);replace HB:=a0_ (hb);clear HO3;clear ho hb hg hat))
  go_ret
  exact ⟨_,rfl,by rw [← Ny5.out];exact HO6.out,HB.out⟩
end Go.Proofs.Ytbglafibhopleaa.P
namespace Go.Proofs.Ytbglafibhopleaa.P
open Go.RowKit Go.Proofs.YtbglafibhopleaaW.PrintWords Go.Proofs.YtbglafibhopleaaW.PrintLast Go.Proofs.YtbglafibhopleaaW.PrintMore
attribute [local go_sem] max2_int min2_int max_two min_two max_three min_three max_four min_four
set_option linter.unusedVariables false
set_option linter.unusedSimpArgs false
set_option maxHeartbeats 4000000 in
set_option maxRecDepth 100000 in
theorem impl_simple.callsR : ∀ (n : Nat) (l0 : List Prt),l0.length ≤ n → okG l0 → ∀ (A0 : Option Addr) (c0 : Nat) (w : World),Kd.C k55 w A0 l0.length l0 → l0.length ≤ c0 → Calls Try.prog 32 #[.slice A0 l0.length c0] w fun e w'=>∃ v0_ : Value,e = .returned v0_ ∧ Kd.R k55 55 w' w.heap.size (fun _=>True) v0_ (simR n l0) ∧ Below w.heap.size w w':=by
 intro n
 induction n with
 | zero=>intro l0 hl hG;exact absurd (okG_pos hG) (by omega)
 | succ n ih =>
  intro l0 hl hG A0 c0 w hr0 hc0
  have hu26:=Try.underlying28
  have HR0:=a0_ hr0
  have HC0:=a0_ hc0
  have hpos:=okG_pos hG
  have hmax:=hr0.2.1
  have HB:=a0_ (Below.refl w.heap.size w)
  obtain ⟨ad,ea,hx0,hx1,hx2,hx3⟩:=at_T55 hr0 0 (by omega) (by omega)
  cases ea
  rw [show ((0 : Int)).toNat = 0 from rfl,show 0 * 4 = 0 from rfl,Addr.add_zero'] at hx1 hx3
  have hq0 : 0 < l0.length:=by omega
  have qi : (0 < l0.length) = True:=eq_true hq0
  clear hr0 hc0 hx0 hx2
  cases hf : (rd_T55 l0 0).f1 with
  | false =>
   rw [hf] at hx1
   rw [simR_leaf _ hf]
   have hcl : slices_Clone_Part.f l0 = some l0:=by rw [slices_Clone_Part.f,if_pos (by have:=hG.2.2;omega)]
   clear hx3 ih hG
   go_enter Try.func32,Try.ntmps32
   go_wp2_with (first
    | (go_at_call 52;refine (slices_Clone_Part.calls (some ad) c0 l0 l0 _ HR0.out HC0.out hcl).mono ?_;rintro e w2 ⟨v2,rfl,ho2,hb2⟩;have HO2:=a0_ ho2;replace HB:=a0_ hb2;clear ho2 hb2)
    | (go_at_call 51;refine (slices_Clip_Part.calls (fun _=>True) _ _ _ w _ HB.out HO2.out (slices_Clip_Part_ev _)).mono ?_;rintro e w3 ⟨v3,rfl,ho3,hb3,hk3⟩))
   go_ret
   exact ⟨_,rfl,Kd.R_mono ho3 (fun _ _=>trivial),hb3⟩
  | true =>
   rw [hf] at hx1
   have hne:=List.length_pos_iff.2 (kid_node hG.1 hf)
   obtain ⟨ki,hki⟩:=Ev.out (impl_kids_ev l0 (by have:=hG.2.2;omega) hpos (fun p hp=>by have:=hG.2.1 p hp;have:=okG_low hG p hp;omega))
   have hkl:=kidL_len hG.1
   have IH:=a0_ (fun (x : List Prt) (hx : x ∈ kidL l0)=>ih x (by have:=(okG_kid hG x hx).2;omega) (okG_kid hG x hx).1)
   have HALL:=a0_ (fun (x : List Prt) (hx : x ∈ kidL l0)=>simR_all n x (by have:=(okG_kid hG x hx).2;omega) (okG_kid hG x hx).1)
   have HL:=a0_ hG.2.2
   have HONE:=a0_ (fun h=>simR_one (n:=n) (g:=l0) hf h)
   have HWRA:=a0_ (fun h=>simR_wra (n:=n) (g:=l0) hf h)
   clear ih hG hf
   generalize hK : kidL l0 = K at *
   clear hK
   go_enter Try.func32,Try.ntmps32
   go_wp2_with (go_at_call 41;refine (impl_kids.calls ki (some ad) c0 l0 K _ HR0.out HC0.out hki).mono ?_;rintro e w2 ⟨v2,rfl,ho2,hb2⟩;obtain ⟨gl,cl,e2,gb,gs,cells,hcs⟩:=Kd.R_form (Kd.S_R ho2) hne;subst e2;have HO2:=a0_ (Kd.S_R ho2);replace HB:=a0_ hb2;clear ho2 hb2 hcs)
   go_loopg [4,5,18] K.length (fun gg _ _ s18 wr=>∃ kk : Nat,kk ≤ K.length ∧ K.length - kk ≤ gg ∧ s18 = .int .i64 kk ∧ Aside0 (Below w.heap.size w wr) ∧ Aside0 (Kd.R (Kd.slice 55 k55) 28 wr w.heap.size (fun _=>True) (.slice (some ⟨gl,0,none⟩) K.length cl) ((K.take kk).map (simR n) ++ K.drop kk)))
   case atStart=>exact ⟨0,Nat.zero_le _,by omega,rfl,HB,⟨by simpa using HO2.out⟩⟩
   case round =>
    obtain ⟨kk,hkk,hg,rfl,BW,HO⟩:=hrel
    by_cases hlt : kk < K.length
    ·have hltz : (kk : Int) < (K.length : Int):=by omega
     have hlen : ((K.take kk).map (simR n) ++ K.drop kk).length = K.length:=by rw [List.length_append,List.length_map,List.length_take,List.length_drop];omega
     obtain ⟨x,hx⟩ : ∃ x_,x_ = K[kk]:=⟨_,rfl⟩
     have hget : ((K.take kk).map (simR n) ++ K.drop kk).getD ((kk : Int)).toNat [] = x:=by
      rw [Int.toNat_natCast,List.getD_eq_getElem?_getD,List.getElem?_append_right (by rw [List.length_map,List.length_take];omega),List.length_map,List.length_take,Nat.min_eq_left hkk,Nat.sub_self,List.getElem?_drop,Nat.add_zero,List.getElem?_eq_getElem hlt,hx]
      rfl
     have hset : ((K.take kk).map (simR n) ++ K.drop kk).set ((kk : Int)).toNat (simR n x) = (K.take (kk + 1)).map (simR n) ++ K.drop (kk + 1):=by
      have hlm : ((K.take kk).map (simR n)).length = kk:=by rw [List.length_map,List.length_take];omega
      rw [Int.toNat_natCast,List.set_append_right _ _ (by omega),hlm,Nat.sub_self,List.drop_eq_getElem_cons hlt,s2_,List.take_succ_eq_append_getElem hlt,List.map_append,List.append_assoc,hx]
      rfl
     have hxm : x ∈ K:=by rw [hx];exact List.getElem_mem _
     obtain ⟨cs,hcl,hM,hcc,hfr⟩:=Kd.R_elem HO.out ([] : List (S55)) (kk : Int) (by omega) (by omega)
     rw [hget] at hM
     obtain ⟨vx,rfl,hRx⟩:=hM
     obtain ⟨Ax,cx,ex⟩:=Kd.R_slice hRx
     subst ex
     have hcell : wr.cell? ⟨gl,kk,none⟩ = some (.slice Ax x.length cx):=by
      have:=hcc 0 _ rfl
      rwa [Int.toNat_natCast,show kk * (Kd.slice 55 k55).sz + 0 = kk from Nat.mul_one kk] at this
     have hcall:=IH.out x hxm Ax cx wr (Kd.R_reads' hRx).2.2 (Kd.R_reads' hRx).2.1
     have hgl : gl < wr.heap.size:=Kd.R_lt HO.out gl (by simp [Value.ownBlock])
     clear hx hget hcc hfr hRx hcl
     go_wp2_with (first
      | (go_at_call 32;refine hcall.mono ?_;rintro e w3 ⟨v3,rfl,ho3,hb3⟩;obtain ⟨A3,c3,e3⟩:=Kd.R_slice ho3;subst e3;have hHO3:=Kd.R_below HO.out hb3;obtain ⟨cs3,hcl3,hM3,hcc3,hfr3⟩:=Kd.R_elem hHO3 ([] : List (S55)) (kk : Int) (by omega) (by omega);have hNew:=Kd.R_mono (ok':=fun k_=>True ∧ k_ ≠ gl) (Kd.R_lower (Kd.R_new' (u:=.slice (some ⟨gl,0,none⟩) K.length cl) ho3 (fun k_ hk_=>by simp [Value.ownBlock] at hk_;omega)) (below_size BW.out)) (fun k_ hk_=>⟨trivial,fun e_=>hk_.2 (by rw [e_];simp [Value.ownBlock])⟩);have hSeg:=Kd.R_seg hHO3 (kk : Int) (by omega) (by omega) (c:=cs3) (seg:=[.slice A3 (simR n x).length c3]) (j:=0) (x':=simR n x) hcl3 hcc3 (Nat.le_refl _) (by have hl1 : cs3.length = 1:=hcl3;rw [List.take_zero,List.nil_append,List.drop_of_length_le (by rw [hl1];exact Nat.le_refl _),List.append_nil];exact ⟨_,rfl,hNew⟩) (fun _ h_=>h_);rw [hset,Int.toNat_natCast,show kk * (Kd.slice 55 k55).sz + 0 = kk from Nat.mul_one kk] at hSeg;have hfrz : w3.frozen? ⟨gl,kk,none⟩ = false:=(by have h_:=hfr3 0;rwa [Int.toNat_natCast,show kk * (Kd.slice 55 k55).sz + 0 = kk from Nat.mul_one kk] at h_);have hcell3 : w3.cell? ⟨gl,kk,none⟩ = some (.slice Ax x.length cx):=(hb3.cell (World.block_lt_of_cell? wr _ hcell)).trans hcell;have HS:=a0_ hSeg.1;have BW3:=a0_ (below_step BW.out hb3);clear hSeg hNew hcc3 hfr3 hM3 hHO3 ho3 hb3 hcell)
      | ((with_reducible refine gate_store (t:=28) (p:=27) rfl ?_);refine store_event (t:=28) (p:=27) (v:=?vo) (w1:=w3.setCell ⟨gl,kk,none⟩ (.slice A3 (simR n x).length c3)) ?hg ?ho ?hn ?hr ?_;(case ho=>rfl);(case hg=>rfl);(case hn=>rfl);(case hr=>first | (go_simp;done) | (go_simp;rfl));intro w4 hw;have HS4 : Kd.R (Kd.slice 55 k55) 28 w4 w.heap.size (fun _=>True) (.slice (some ⟨gl,0,none⟩) K.length cl) ((K.take (kk + 1)).map (simR n) ++ K.drop (kk + 1)):=(by rw [hw];exact HS.out);have hB4 : Below w.heap.size w w4:=(by rw [hw];exact below_set BW3.out gb);clear hw HS BW3 hfrz hcell3;have HS:=a0_ HS4;have BW3:=a0_ hB4;clear HS4 hB4))
     go_roundg (K.length - (kk + 1))
     case measure=>omega
     case rel=>exact ⟨kk + 1,by omega,by omega,by go_num,BW3,HS⟩
    ·have hltz : ¬ (kk : Int) < (K.length : Int):=by omega
     have : kk = K.length:=by omega
     subst this
     rw [List.take_of_length_le (Nat.le_refl _),List.drop_of_length_le (Nat.le_refl _),List.append_nil] at HO
     have hlm : (K.map (simR n)).length = K.length:=List.length_map _
     have hk0 : 0 < K.length:=hne
     have hk0' : (0 < K.length) = True:=eq_true hne
     by_cases h1 : K.length = 1
     ·have hz : ((K.length : Int) == 1) = true:=beq_iff_eq.2 (by omega)
      obtain ⟨cs,hcl,hM,hcc,hfr⟩:=Kd.R_elem HO.out ([] : List (S55)) 0 (by omega) (by omega)
      obtain ⟨vx,rfl,hRx⟩:=hM
      have hcell : wr.cell? ⟨gl,0,none⟩ = some vx:=by
       have:=hcc 0 _ rfl
       rwa [show ((0 : Int)).toNat * (Kd.slice 55 k55).sz + 0 = 0 from rfl] at this
      clear hcc hfr hcl HWRA HALL IH
      go_wp2
      go_ret
      rw [HONE.out h1]
      exact ⟨_,rfl,Kd.R_mono hRx (fun _ _=>trivial),BW.out⟩
     ·have hz : ((K.length : Int) == 1) = false:=beq_eq_false_iff_ne.2 (by omega)
      obtain ⟨kw,hkw⟩:=Ev.out (impl_wrapped_ev (K.map (simR n)) (l0.getD 0 z55).f3 (by have:=HL.out;omega) (fun y hy=>by
       obtain ⟨x,hx,rfl⟩:=List.mem_map.1 hy
       have hA:=HALL.out x hx
       refine ⟨by have:=hA.1.2.2;omega,fun p hp=>?_⟩
       have h5:=hA.1.2.1 p hp
       have h6:=okG_low hA.1 p hp
       omega))
      have hcw:=impl_wrapped.calls kw (some ⟨gl,0,none⟩) cl (K.map (simR n)) (l0.getD 0 z55).f3 _ wr (Kd.R_reads' HO.out).2.2 (by rw [hlm];exact (Kd.R_reads' HO.out).2.1) hkw
      rw [hlm] at hcw
      have hx3' : wr.cell? ⟨ad.block,ad.off + 3,none⟩ = some (.int .i64 (l0.getD 0 z55).f3):=(BW.out.cell (World.block_lt_of_cell? w _ hx3)).trans hx3
      have hsz:=below_size BW.out
      clear HONE HALL IH hkw hx3
      generalize hcd : (l0.getD 0 z55).f3 = cd at hcw hx3'
      go_wp2_with (go_at_call 39;refine hcw.mono ?_;rintro e w5 ⟨v5,rfl,ho5,hb5⟩)
      go_ret
      rw [HWRA.out h1,hcd]
      exact ⟨_,rfl,Kd.R_lower ho5 hsz,below_step BW.out hb5⟩
end Go.Proofs.Ytbglafibhopleaa.P
namespace Go.Proofs.Ytbglafibhopleaa.P
open Go.RowKit Go.Proofs.YtbglafibhopleaaW.PrintWords Go.Proofs.YtbglafibhopleaaW.PrintLast Go.Proofs.YtbglafibhopleaaW.PrintMore
attribute [local go_sem] max2_int min2_int max_two min_two max_three min_three max_four min_four
set_option linter.unusedVariables false
set_option linter.unusedSimpArgs false
def impl_SimplifyGroup.f (l0_0 : List Cls) (l1 : List (S55)) : Option (List Prt):=if smT l0_0 = true then some (simP l0_0 l1) else none
set_option maxHeartbeats 4000000 in
set_option maxRecDepth 100000 in
theorem impl_SimplifyGroup.calls (A0_0 : Option Addr) (c0_0 : Nat) (l0_0 : List (S72)) (A1 : Option Addr) (c1 : Nat) (l1 : List (S55)) (r : List (S55)) (w : World) (hr0_0 : Kd.C k72 w A0_0 l0_0.length l0_0) (hc0_0 : l0_0.length ≤ c0_0) (hr1 : Kd.C k55 w A1 l1.length l1) (hc1 : l1.length ≤ c1) (h : impl_SimplifyGroup.f l0_0 l1 = some r) :
  Calls Try.prog 11 #[.agg #[.slice A0_0 l0_0.length c0_0],.slice A1 l1.length c1] w fun e w'=>∃ v0_ : Value,e = .returned v0_ ∧ Kd.R k55 55 w' w.heap.size (fun _=>True) v0_ r ∧ Below w.heap.size w w':=by
 have hu31:=Try.underlying32
 have hsm : smT l0_0 = true:=by
  apply Classical.byContradiction
  intro hn
  rw [impl_SimplifyGroup.f,if_neg hn] at h
  cases h
 rw [impl_SimplifyGroup.f,if_pos hsm] at h
 have hR:=Option.some.inj h
 clear h
 have BK:=a0_ (heap_new1 w (.cells #[.slice A0_0 l0_0.length c0_0] 32))
 have HB:=a0_ (below1 w (.cells #[.slice A0_0 l0_0.length c0_0] 32))
 have hcell:=(blk_cell BK.out 0).trans rfl
 obtain ⟨kG,hkG⟩:=Ev.out (impl_ValidGroup_ev l0_0 l1 hr0_0.2.1 hr1.2.1 hsm)
 have HG:=a0_ (fun (W : World) (hb : Below w.heap.size w W)=>impl_ValidGroup.calls kG A0_0 c0_0 l0_0 A1 c1 l1 (vG l0_0 l1) W (Kd.C_below hr0_0 hb) hc0_0 (Kd.C_below hr1 hb) hc1 hkG)
 have HS:=a0_ (fun (hv : vG l0_0 l1 = true) (W : World) (hb : Below w.heap.size w W)=>impl_simple.callsR 16 l1 (vG_tree hv).2.2 (okG_vG hv) A1 c1 W (Kd.C_below hr1 hb) hc1)
 clear hr0_0 hr1 hkG
 cases hv : vG l0_0 l1 with
 | true =>
  rw [simP,if_pos hv] at hR
  subst hR
  have HS2:=a0_ (HS.out hv)
  rw [hv] at HG
  clear HS hv
  go_enter Try.func11,Try.ntmps11
  go_wp2_with (first
   | (go_at_call 31;refine (HG.out _ HB.out).mono ?_;rintro e w4 ⟨rfl,hb4⟩;replace HB:=a0_ (below_step HB.out hb4);clear hb4)
   | (go_at_call 32;refine (HS2.out _ HB.out).mono ?_;rintro e w5 ⟨v5,rfl,ho5,hb5⟩))
  go_ret
  exact ⟨_,rfl,Kd.R_lower ho5 (below_size HB.out),below_step HB.out hb5⟩
 | false =>
  rw [simP,if_neg (by rw [hv];simp)] at hR
  subst hR
  rw [hv] at HG
  clear HS hv
  go_enter Try.func11,Try.ntmps11
  go_wp2_with (go_at_call 31;refine (HG.out _ HB.out).mono ?_;rintro e w4 ⟨rfl,hb4⟩;replace HB:=a0_ (below_step HB.out hb4);clear hb4)
  go_ret
  exact ⟨_,rfl,Kd.R_nil _ _ _ _ _,HB.out⟩
theorem impl_SimplifyGroup_ev (t : List Cls) (g : List Prt) (hs : smT t = true) : impl_SimplifyGroup.f t g = some (simP t g):=by rw [impl_SimplifyGroup.f,if_pos hs]
end Go.Proofs.Ytbglafibhopleaa.P
