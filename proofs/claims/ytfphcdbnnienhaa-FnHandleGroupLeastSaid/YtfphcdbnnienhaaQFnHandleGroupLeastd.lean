/- Texts under the proof of FnHandleGroupLeast: helper words, the functions' contracts and the plain laws. No condition. -/
import Derived.Test.YtfphcdbnnienhaaQFnHandleGroupLeasta
import Derived.Test.YtfphcdbnnienhaaQFnHandleGroupLeastb
import Derived.Test.YtfphcdbnnienhaaQFnHandleGroupLeastc
namespace Go.Proofs.Ytfphcdbnnienhaa.P
open Go.RowKit Go.Proofs.YtfphcdbnnienhaaW.PrintWords Go.Proofs.YtfphcdbnnienhaaW.PrintLast Go.Proofs.YtfphcdbnnienhaaW.PrintMore
attribute [local go_sem] max2_int min2_int max_two min_two max_three min_three max_four min_four
set_option linter.unusedVariables false
set_option linter.unusedSimpArgs false
def spec_keeps.l0 : Nat → List (S47) → Int → Int → Bool → Int → List (S85) → Option (Bool)
 | 0,_,_,_,_,_,_=>none
 | k + 1,x1,x2,x3,x4,x11,x2000=>(spec_endOf.f k x1 x2).bind fun t2=>(if x11 < t2 then (if 0 ≤ x11 then (if x11 < (x1.length : Int) then (if ((rd_T47 x1 x11).f1 = true) then (spec_keeps.l0 k x1 x2 x3 x4 (wrap64 (x11 + 1)) x2000) else ((spec_isA.f k x2000 ((rd_T47 x1 x11).f2) x3).bind fun t5=>(if (t5 == x4) = true then (some true) else (spec_keeps.l0 k x1 x2 x3 x4 (wrap64 (x11 + 1)) x2000)))) else (none)) else (none)) else (some false))
def spec_keeps.f (k : Nat) (l0_0 : List (S85)) (l1 : List (S47)) (a2 : Int) (a3 : Int) (a4 : Bool) : Option (Bool):=spec_keeps.l0 k l1 a2 a3 a4 a2 l0_0
theorem spec_keeps.mono_l : ∀ k,(∀ y0 y1 y2 y3 y4 y5,LeO (spec_keeps.l0 k y0 y1 y2 y3 y4 y5) (spec_keeps.l0 (k + 1) y0 y1 y2 y3 y4 y5))
 | 0=>fun _ _ _ _ _ _ r h=>by simp [spec_keeps.l0] at h
 | k + 1=>by
  have ih0:=spec_keeps.mono_l k
  ·intro y0 y1 y2 y3 y4 y5
   unfold spec_keeps.l0
   repeat' first
   | (with_reducible exact ih0 _ _ _ _ _ _)
   | (with_reducible exact spec_endOf.mono _ _ _)
   | (with_reducible exact spec_isA.mono _ _ _ _)
   | (with_reducible exact LeO.refl _)
   | (with_reducible exact LeO.none _)
   | (with_reducible refine LeO.ite ?_ ?_)
   | (with_reducible refine LeO.bind ?_ (fun _=>?_))
   | exact ih0 _ _ _ _ _ _
   | exact spec_endOf.mono _ _ _
   | exact spec_isA.mono _ _ _ _
   | exact LeO.none _
   | refine LeO.ite ?_ ?_
   | refine LeO.bind ?_ (fun _=>?_)
theorem spec_keeps.mono : ∀ a0 a1 a2 a3 a4 k,LeO (spec_keeps.f k a0 a1 a2 a3 a4) (spec_keeps.f (k + 1) a0 a1 a2 a3 a4):=by
 intro a0 a1 a2 a3 a4 k
 have ih0:=spec_keeps.mono_l k
 unfold spec_keeps.f
 repeat' first
   | (with_reducible exact ih0 _ _ _ _ _ _)
   | (with_reducible exact spec_endOf.mono _ _ _)
   | (with_reducible exact spec_isA.mono _ _ _ _)
   | (with_reducible exact LeO.refl _)
   | (with_reducible exact LeO.none _)
   | (with_reducible refine LeO.ite ?_ ?_)
   | (with_reducible refine LeO.bind ?_ (fun _=>?_))
   | exact ih0 _ _ _ _ _ _
   | exact spec_endOf.mono _ _ _
   | exact spec_isA.mono _ _ _ _
   | exact LeO.none _
   | refine LeO.ite ?_ ?_
   | refine LeO.bind ?_ (fun _=>?_)
def spec_keeps.T4 : Bool × List (List Nat × List Nat):=(true,[([],[]),([],[]),([0,1],[0,1]),([2],[2]),([3],[3]),([4],[4]),([5],[5]),([6],[6]),([6],[6]),([6],[6]),([8,9,6],[6,8,9]),([10,6],[6,10]),([11,6],[6,11]),([6],[6]),([7,12,13,6,6],[6,7,12,13]),([6],[6]),([14,15,6],[6,14,15]),([6,16],[6,16])])
def spec_keeps.B4 : List Nat:=[0,0,3,7,15,31,63,127,127,127,895,1919,3967,127,16383,127,65535,131071]
theorem spec_keeps.tab4 : rtab .any (opsOf Try.f75 4) = spec_keeps.T4:=by kernel_rfl
theorem spec_keeps.bits4 : waitsOk spec_keeps.T4.2 spec_keeps.B4 = true:=by kernel_rfl
set_option maxHeartbeats 8000000 in
set_option maxRecDepth 100000 in
theorem spec_keeps.calls (k : Nat) (A0_0 : Option Addr) (c0_0 : Nat) (l0_0 : List (S85)) (A1 : Option Addr) (c1 : Nat) (l1 : List (S47)) (a2 : Int) (a3 : Int) (a4 : Bool) (r : Bool) (w : World) (hr0_0 : Kd.C k85 w A0_0 l0_0.length l0_0) (hc0_0 : l0_0.length ≤ c0_0) (hr1 : Kd.C k47 w A1 l1.length l1) (hc1 : l1.length ≤ c1) (h : spec_keeps.f k l0_0 l1 a2 a3 a4 = some r) :
  Calls Try.prog 75 #[.agg #[.slice A0_0 l0_0.length c0_0],.slice A1 l1.length c1,.int .i64 a2,.int .i64 a3,.bool a4] w fun e w'=>e = .returned (.bool r) ∧ Below w.heap.size w w':=by
 have hu25:=Try.underlying25
 have HR0_0:=a0_ hr0_0
 have HC0_0:=a0_ hc0_0
 clear hr0_0 hc0_0
 have HR1:=a0_ hr1
 have HC1:=a0_ hc1
 clear hr1 hc1
 have HB:=a0_ (Below.refl w.heap.size w)
 have H : (spec_keeps.l0 k l1 a2 a3 a4 a2 l0_0) = some r:=h
 clear h
 have H':=a0_ H
 clear H
 go_enter Try.func75,Try.ntmps75
 go_wp2_with (first | ((with_reducible refine gate_dst (N:=5) rfl ?_);refine box_event ?hg (N:=5) ?hd (cs:=#[.slice A0_0 l0_0.length c0_0]) (t:=25) ?hr ?_;(case hd=>rfl);(case hg=>rfl);(case hr=>first | (go_simp;done) | (go_simp;rfl));intro gb1 hg w6 hbox hb;have BK1:=a0_ (hbox);have GW1:=a0_ ((by rw [hg];exact (below_size hb_) : w.heap.size ≤ gb1));have GE1:=a0_ ((by rw [hg];exact (below_size hb_) : w.heap.size ≤ gb1));replace HB:=a0_ (below_step hb_ hb);clear hb hbox hg))
 go_loopg [11] k (fun kq v11 w'=>∃ (x11_1 : Int),v11 = .int .i64 x11_1 ∧ Aside0 (spec_keeps.l0 kq l1 a2 a3 a4 x11_1 l0_0 = some r) ∧ Aside0 (kq ≤ k) ∧ Aside0 (w'.heap[gb1]? = some (.cells #[(.slice A0_0 l0_0.length c0_0)] 25 (0,0))) ∧ Aside0 (Below w.heap.size w w'))
 case atStart=>exact ⟨(a2),(by first | rfl | (simp;done) | (simp [*];done)),H',⟨Nat.le_refl _⟩,⟨by (with_reducible repeat (first | refine blk_drewN ?_ _ | refine blk_drew ?_ | refine blk_alloc ?_ _));exact BK1.out⟩,⟨hb_⟩⟩
 case round =>
  clear H'
  try clear c1
  try clear p2
  obtain ⟨x11_1,rfl,HA,HK1,BK1,HB⟩:=hrel
  cases gk with
  | zero=>exact absurd HA.out (by simp [spec_keeps.l0])
  | succ k1 =>
   have H:=HA.out
   clear HA
   simp only [spec_keeps.l0] at H
   replace H:=Option.bind_eq_some_iff.mp H
   obtain ⟨t2,A70,H⟩:=H
   try dsimp only at H
   have A7:=a0_ A70
   clear A70
   by_cases c8 : x11_1 < t2
   ·rw [if_pos c8] at H
    have c8b0 : decide (x11_1 < t2) = true:=decide_eq_true c8
    clear c8
    by_cases c9 : 0 ≤ x11_1
    ·rw [if_pos c9] at H
     have c9b0 : decide (0 ≤ x11_1) = true:=decide_eq_true c9
     clear c9
     by_cases c10 : x11_1 < (l1.length : Int)
     ·rw [if_pos c10] at H
      have c10b0 : decide (x11_1 < (l1.length : Int)) = true:=decide_eq_true c10
      clear c10
      obtain ⟨bq11,hbq11⟩ : ∃ b_ : Bool,b_ = ((rd_T47 l1 x11_1).f1):=⟨_,rfl⟩
      replace H : (if (bq11 = true) then (spec_keeps.l0 k1 l1 a2 a3 a4 (wrap64 (x11_1 + 1)) l0_0) else ((spec_isA.f k1 l0_0 ((rd_T47 l1 x11_1).f2) a3).bind fun t5=>(if (t5 == a4) = true then (some true) else (spec_keeps.l0 k1 l1 a2 a3 a4 (wrap64 (x11_1 + 1)) l0_0)))) = some r:=by rw [← hbq11] at H;exact H
      have Nbq11:=a0_ hbq11
      clear hbq11
      by_cases c12 : (bq11 = true)
      ·subst c12
       have H1 : (spec_keeps.l0 k1 l1 a2 a3 a4 (wrap64 (x11_1 + 1)) l0_0) = some r:=by rw [if_pos rfl] at H;exact H
       clear H
       have H:=H1
       clear H1
       have H':=a0_ H
       clear H
       try go_wp2_with (first | ((with_reducible refine gate_callee (f:=66) rfl ?_);refine goesL_ (some 16) rfl rfl Try.func66 (by kernel_rfl) rfl #[.slice A1 l1.length c1,.int .i64 a2] rfl lm_ ?_;(with_reducible refine (spec_endOf.calls k1 _ _ l1 a2 t2 _ ?side1 ?side2 A7.out).mono ?_);(case side1=>exact cc_ (Kd.C_below HR1.out HB.out));(case side2=>exact HC1.out);rintro e w' ⟨rfl,⟨nd,rfl⟩⟩;refine ⟨_,rfl,?_⟩))
       (try (rw [drewN_self wr];generalize hq_ : World.drewN wr _ = wr;have n0_ : Aside0 (wr.heap[gb1]? = some (.cells #[.slice A0_0 l0_0.length c0_0] 25 (0,0))):=⟨by rw [← hq_];exact (bb_ BK1.out)⟩;have n1_ : Aside0 (Below w.heap.size w wr):=⟨by rw [← hq_];exact hb_⟩;clear BK1 HB hq_;have BK1:=n0_;have HB:=n1_;clear n0_ n1_))
       have n0_:=a0_ (blk_drew BK1.out)
       have n1_:=a0_ (below_drew1 HB.out)
       clear BK1
       clear HB
       have BK1:=n0_
       have HB:=n1_
       clear n0_ n1_
       have p3 : 0 ≤ (x11_1 : Int):=of_decide_eq_true (by first | (with_reducible assumption) | assumption)
       have q3 : x11_1 < (l1.length : Int):=of_decide_eq_true (by first | (with_reducible assumption) | assumption)
       obtain ⟨ad3,e3,hx3_0,hx3_1,hx3_2,hx3_3⟩:=at_T47 HR1.out x11_1 p3 q3
       have hw3_3:=hx3_3
       have hw3_2:=hx3_2
       have hw3_1:=hx3_1
       have hw3_0:=hx3_0
       (try rw [← Nbq11.out] at hx3_1)
       cases e3
       replace hx3_0:=(HB.out.cell (World.block_lt_of_cell? w _ hx3_0)).trans hx3_0
       replace hx3_1:=(HB.out.cell (World.block_lt_of_cell? w _ hx3_1)).trans hx3_1
       replace hx3_2:=(HB.out.cell (World.block_lt_of_cell? w _ hx3_2)).trans hx3_2
       replace hx3_3:=(HB.out.cell (World.block_lt_of_cell? w _ hx3_3)).trans hx3_3
       replace p3:=eq_true p3
       replace q3:=eq_true q3
       refine start_ (n:=18) (S:=fun w'=>w'.cell? (ad3.add ((x11_1).toNat * 4)) = some (.int .i64 ((rd_T47 l1 x11_1).f0)) ∧ w'.cell? ⟨(ad3.add ((x11_1).toNat * 4)).block,(ad3.add ((x11_1).toNat * 4)).off + 1,none⟩ = some (.bool true) ∧ w'.cell? ⟨(ad3.add ((x11_1).toNat * 4)).block,(ad3.add ((x11_1).toNat * 4)).off + 2,none⟩ = some (.int .i64 ((rd_T47 l1 x11_1).f2)) ∧ w'.cell? ⟨(ad3.add ((x11_1).toNat * 4)).block,(ad3.add ((x11_1).toNat * 4)).off + 3,none⟩ = some (.int .i64 ((rd_T47 l1 x11_1).f3))) (ds:=[]) #[false,false,false,false,false,false,false,false,false,false,false,false,false,false,false,false,false,false] (by kernel_rfl) rfl rfl ⟨((HB.out.cell (World.block_lt_of_cell? w _ hw3_0)).trans hw3_0),((HB.out.cell (World.block_lt_of_cell? w _ hw3_1)).trans (by first | exact hw3_1 | exact hw3_1.trans (congrArg (fun z_=>some (Value.bool z_)) Nbq11.out.symm))),((HB.out.cell (World.block_lt_of_cell? w _ hw3_2)).trans hw3_2),((HB.out.cell (World.block_lt_of_cell? w _ hw3_3)).trans hw3_3)⟩ (fun hHeld=>?_);refine with_tabW spec_keeps.tab4 spec_keeps.bits4 (fun HT_ HW_=>?_)
       generalize wr.drew = w13 at BK1 HB hx3_0 hx3_1 hx3_2 hx3_3 hHeld ⊢
       refine pure_ (i:=0) (N:=some 20) (v:=?_) (a':=?_) #[true,false,false,false,false,false,false,false,false,false,false,false,false,false,false,false,false,false] rfl rfl (any_of HT_.out (by kernel_rfl)) (fun _ _ _ h=>h) (Or.inl ⟨by rfl,?_⟩) ?_ ?_
       rotate_left
       ·intro w'
        go_simp
        with_reducible rfl
       rotate_left
       ·simp only [Act.put,s1_,s2_,s3_,i64_w,i32_w]
        rfl
       refine pure_ (i:=1) (N:=some 21) (v:=?_) (a':=?_) #[true,true,false,false,false,false,false,false,false,false,false,false,false,false,false,false,false,false] rfl rfl (any_of HT_.out (by kernel_rfl)) (fun _ _ _ h=>h) (Or.inl ⟨by rfl,?_⟩) ?_ ?_
       rotate_left
       ·intro w'
        go_simp
        with_reducible rfl
       rotate_left
       ·simp only [Act.put,s1_,s2_,s3_,i64_w,i32_w]
        rfl
       refine pure_ (i:=2) (N:=some 22) (v:=?_) (a':=?_) #[true,true,true,false,false,false,false,false,false,false,false,false,false,false,false,false,false,false] rfl rfl (any_of HT_.out (by kernel_rfl)) (fun _ _ _ h=>h) (Or.inl ⟨by rfl,?_⟩) ?_ ?_
       rotate_left
       ·intro w'
        go_simp
        with_reducible rfl
       rotate_left
       ·simp only [Act.put,s1_,s2_,s3_,i64_w,i32_w]
        rfl
       refine pure_ (i:=3) (N:=some 23) (v:=?_) (a':=?_) #[true,true,true,true,false,false,false,false,false,false,false,false,false,false,false,false,false,false] rfl rfl (any_of HT_.out (by kernel_rfl)) (fun _ _ _ h=>h) (Or.inl ⟨by rfl,?_⟩) ?_ ?_
       rotate_left
       ·intro w'
        go_simp
        with_reducible rfl
       rotate_left
       ·simp only [Act.put,s1_,s2_,s3_,i64_w,i32_w]
        rfl
       refine take_ (i:=4) (N:=some 24) (v:=?_) (a':=?_) #[true,true,true,true,true,false,false,false,false,false,false,false,false,false,false,false,false,false] rfl rfl (take_ofW HT_.out HW_.out (by kernel_rfl)) (fun _ _ _ h=>h) (Or.inl ⟨by rfl,?_⟩) hHeld ?_ ?_
       rotate_left
       ·rintro w' ⟨s0,s1,s2,s3⟩
        go_simp
        with_reducible rfl
       rotate_left
       ·simp only [Act.put,s1_,s2_,s3_,i64_w,i32_w]
        rfl
       refine pure_ (i:=5) (N:=some 25) (v:=?_) (a':=?_) #[true,true,true,true,true,true,false,false,false,false,false,false,false,false,false,false,false,false] rfl rfl (any_of HT_.out (by kernel_rfl)) (fun _ _ _ h=>h) (Or.inl ⟨by rfl,?_⟩) ?_ ?_
       rotate_left
       ·intro w'
        go_simp
        with_reducible rfl
       rotate_left
       ·simp only [Act.put,s1_,s2_,s3_,i64_w,i32_w]
        rfl
       refine pure_ (i:=6) (N:=some 26) (v:=?_) (a':=?_) #[true,true,true,true,true,true,true,false,false,false,false,false,false,false,false,false,false,false] rfl rfl (any_of HT_.out (by kernel_rfl)) (fun _ _ _ h=>h) (Or.inl ⟨by rfl,?_⟩) ?_ ?_
       rotate_left
       ·intro w'
        go_simp
        with_reducible rfl
       rotate_left
       ·simp only [Act.put,s1_,s2_,s3_,i64_w,i32_w]
        rfl
       refine pure_ (i:=7) (N:=some 27) (v:=undef) (a':=?_) #[true,true,true,true,true,true,true,true,false,false,false,false,false,false,false,false,false,false] rfl rfl (any_of HT_.out (by kernel_rfl)) (fun _ _ _ h=>h) (Or.inr ⟨by rfl,rfl⟩) ?_ ?_
       rotate_left
       ·simp only [Act.put,s1_,s2_,s3_,i64_w,i32_w]
        rfl
       refine pure_ (i:=8) (N:=some 28) (v:=undef) (a':=?_) #[true,true,true,true,true,true,true,true,true,false,false,false,false,false,false,false,false,false] rfl rfl (any_of HT_.out (by kernel_rfl)) (fun _ _ _ h=>h) (Or.inr ⟨by rfl,rfl⟩) ?_ ?_
       rotate_left
       ·simp only [Act.put,s1_,s2_,s3_,i64_w,i32_w]
        rfl
       refine pure_ (i:=9) (N:=some 29) (v:=undef) (a':=?_) #[true,true,true,true,true,true,true,true,true,true,false,false,false,false,false,false,false,false] rfl rfl (any_of HT_.out (by kernel_rfl)) (fun _ _ _ h=>h) (Or.inr ⟨by rfl,rfl⟩) ?_ ?_
       rotate_left
       ·simp only [Act.put,s1_,s2_,s3_,i64_w,i32_w]
        rfl
       refine pure_ (i:=10) (N:=some 30) (v:=undef) (a':=?_) #[true,true,true,true,true,true,true,true,true,true,true,false,false,false,false,false,false,false] rfl rfl (any_of HT_.out (by kernel_rfl)) (fun _ _ _ h=>h) (Or.inr ⟨by rfl,rfl⟩) ?_ ?_
       rotate_left
       ·simp only [Act.put,s1_,s2_,s3_,i64_w,i32_w]
        rfl
       refine pure_ (i:=11) (N:=some 31) (v:=undef) (a':=?_) #[true,true,true,true,true,true,true,true,true,true,true,true,false,false,false,false,false,false] rfl rfl (any_of HT_.out (by kernel_rfl)) (fun _ _ _ h=>h) (Or.inr ⟨by rfl,rfl⟩) ?_ ?_
       rotate_left
       ·simp only [Act.put,s1_,s2_,s3_,i64_w,i32_w]
        rfl
       refine pure_ (i:=12) (N:=some 32) (v:=undef) (a':=?_) #[true,true,true,true,true,true,true,true,true,true,true,true,true,false,false,false,false,false] rfl rfl (any_of HT_.out (by kernel_rfl)) (fun _ _ _ h=>h) (Or.inr ⟨by rfl,rfl⟩) ?_ ?_
       rotate_left
       ·simp only [Act.put,s1_,s2_,s3_,i64_w,i32_w]
        rfl
       refine pure_ (i:=13) (N:=some 33) (v:=undef) (a':=?_) #[true,true,true,true,true,true,true,true,true,true,true,true,true,true,false,false,false,false] rfl rfl (any_of HT_.out (by kernel_rfl)) (fun _ _ _ h=>h) (Or.inr ⟨by rfl,rfl⟩) ?_ ?_
       rotate_left
       ·simp only [Act.put,s1_,s2_,s3_,i64_w,i32_w]
        rfl
       refine pure_ (i:=14) (N:=some 34) (v:=undef) (a':=?_) #[true,true,true,true,true,true,true,true,true,true,true,true,true,true,true,false,false,false] rfl rfl (any_of HT_.out (by kernel_rfl)) (fun _ _ _ h=>h) (Or.inr ⟨by rfl,rfl⟩) ?_ ?_
       rotate_left
       ·simp only [Act.put,s1_,s2_,s3_,i64_w,i32_w]
        rfl
       refine pure_ (i:=15) (N:=some 35) (v:=undef) (a':=?_) #[true,true,true,true,true,true,true,true,true,true,true,true,true,true,true,true,false,false] rfl rfl (any_of HT_.out (by kernel_rfl)) (fun _ _ _ h=>h) (Or.inr ⟨by rfl,rfl⟩) ?_ ?_
       rotate_left
       ·simp only [Act.put,s1_,s2_,s3_,i64_w,i32_w]
        rfl
       refine pure_ (i:=16) (N:=some 36) (v:=undef) (a':=?_) #[true,true,true,true,true,true,true,true,true,true,true,true,true,true,true,true,true,false] rfl rfl (any_of HT_.out (by kernel_rfl)) (fun _ _ _ h=>h) (Or.inr ⟨by rfl,rfl⟩) ?_ ?_
       rotate_left
       ·simp only [Act.put,s1_,s2_,s3_,i64_w,i32_w]
        rfl
       refine pure_ (i:=17) (N:=some 37) (v:=?_) (a':=?_) #[true,true,true,true,true,true,true,true,true,true,true,true,true,true,true,true,true,true] rfl rfl (any_of HT_.out (by kernel_rfl)) (fun _ _ _ h=>h) (Or.inl ⟨by rfl,?_⟩) ?_ ?_
       rotate_left
       ·intro w'
        go_simp
        with_reducible rfl
       rotate_left
       ·simp only [Act.put,s1_,s2_,s3_,i64_w,i32_w]
        rfl
       refine done_ (done_of HT_.out (by kernel_rfl)) ?_
       try go_wp2
       go_roundg k1
       case measure=>have:=HK1.out;omega
       case rel=>exact ⟨(wrap64 (x11_1 + 1)),(by first | rfl | (simp;done) | (simp [*];done)),H',⟨by have:=HK1.out;omega⟩,⟨by (with_reducible repeat (first | refine blk_drewN ?_ _ | refine blk_drew ?_ | refine blk_alloc ?_ _));exact BK1.out⟩,⟨hb_⟩⟩
      ·replace c12:=Bool.eq_false_iff.mpr c12
       subst c12
       have H1 : ((spec_isA.f k1 l0_0 ((rd_T47 l1 x11_1).f2) a3).bind fun t5=>(if (t5 == a4) = true then (some true) else (spec_keeps.l0 k1 l1 a2 a3 a4 (wrap64 (x11_1 + 1)) l0_0))) = some r:=by rw [if_neg (show ¬ (false = true) by decide)] at H;exact H
       clear H
       have H:=H1
       clear H1
       replace H:=Option.bind_eq_some_iff.mp H
       obtain ⟨t5,A140,H⟩:=H
       try dsimp only at H
       have A14:=a0_ A140
       clear A140
       by_cases c15 : (t5 == a4) = true
       ·rw [if_pos c15] at H
        have c15b0 : (t5 == a4) = true:=c15
        (try (have c15b1 : decide (t5 = a4) = true:=by simpa using c15))
        (try (have c15b2 : (t5 == a4) = true:=by simpa using c15))
        clear c15
        obtain rfl:=Option.some.inj H
        try go_wp2_with (first | ((with_reducible refine gate_callee (f:=66) rfl ?_);refine goesL_ (some 16) rfl rfl Try.func66 (by kernel_rfl) rfl #[.slice A1 l1.length c1,.int .i64 a2] rfl lm_ ?_;(with_reducible refine (spec_endOf.calls k1 _ _ l1 a2 t2 _ ?side1 ?side2 A7.out).mono ?_);(case side1=>exact cc_ (Kd.C_below HR1.out HB.out));(case side2=>exact HC1.out);rintro e w' ⟨rfl,⟨nd,rfl⟩⟩;refine ⟨_,rfl,?_⟩))
        (try (rw [drewN_self wr];generalize hq_ : World.drewN wr _ = wr;have n0_ : Aside0 (wr.heap[gb1]? = some (.cells #[.slice A0_0 l0_0.length c0_0] 25 (0,0))):=⟨by rw [← hq_];exact (bb_ BK1.out)⟩;have n1_ : Aside0 (Below w.heap.size w wr):=⟨by rw [← hq_];exact hb_⟩;clear BK1 HB hq_;have BK1:=n0_;have HB:=n1_;clear n0_ n1_))
        have n0_:=a0_ (blk_drew BK1.out)
        have n1_:=a0_ (below_drew1 HB.out)
        clear BK1
        clear HB
        have BK1:=n0_
        have HB:=n1_
        clear n0_ n1_
        have p3 : 0 ≤ (x11_1 : Int):=of_decide_eq_true (by first | (with_reducible assumption) | assumption)
        have q3 : x11_1 < (l1.length : Int):=of_decide_eq_true (by first | (with_reducible assumption) | assumption)
        obtain ⟨ad3,e3,hx3_0,hx3_1,hx3_2,hx3_3⟩:=at_T47 HR1.out x11_1 p3 q3
        have hw3_3:=hx3_3
        have hw3_2:=hx3_2
        have hw3_1:=hx3_1
        have hw3_0:=hx3_0
        (try rw [← Nbq11.out] at hx3_1)
        cases e3
        replace hx3_0:=(HB.out.cell (World.block_lt_of_cell? w _ hx3_0)).trans hx3_0
        replace hx3_1:=(HB.out.cell (World.block_lt_of_cell? w _ hx3_1)).trans hx3_1
        replace hx3_2:=(HB.out.cell (World.block_lt_of_cell? w _ hx3_2)).trans hx3_2
        replace hx3_3:=(HB.out.cell (World.block_lt_of_cell? w _ hx3_3)).trans hx3_3
        replace p3:=eq_true p3
        replace q3:=eq_true q3
        have p4 : 0 ≤ (x11_1 : Int):=of_decide_eq_true (by first | (with_reducible assumption) | assumption)
        have q4 : x11_1 < (l1.length : Int):=of_decide_eq_true (by first | (with_reducible assumption) | assumption)
        obtain ⟨ad4,e4,hx4_0,hx4_1,hx4_2,hx4_3⟩:=at_T47 HR1.out x11_1 p4 q4
        have hw4_3:=hx4_3
        have hw4_2:=hx4_2
        have hw4_1:=hx4_1
        have hw4_0:=hx4_0
        (try rw [← Nbq11.out] at hx4_1)
        obtain rfl : ad3 = ad4:=(by injection e4)
        replace hx4_0:=(HB.out.cell (World.block_lt_of_cell? w _ hx4_0)).trans hx4_0
        replace hx4_1:=(HB.out.cell (World.block_lt_of_cell? w _ hx4_1)).trans hx4_1
        replace hx4_2:=(HB.out.cell (World.block_lt_of_cell? w _ hx4_2)).trans hx4_2
        replace hx4_3:=(HB.out.cell (World.block_lt_of_cell? w _ hx4_3)).trans hx4_3
        replace p4:=eq_true p4
        replace q4:=eq_true q4
        refine start_ (n:=18) (S:=fun w'=>w'.cell? ⟨gb1,0,none⟩ = some (.slice A0_0 l0_0.length c0_0) ∧ w'.cell? (ad3.add ((x11_1).toNat * 4)) = some (.int .i64 ((rd_T47 l1 x11_1).f0)) ∧ w'.cell? ⟨(ad3.add ((x11_1).toNat * 4)).block,(ad3.add ((x11_1).toNat * 4)).off + 1,none⟩ = some (.bool false) ∧ w'.cell? ⟨(ad3.add ((x11_1).toNat * 4)).block,(ad3.add ((x11_1).toNat * 4)).off + 2,none⟩ = some (.int .i64 ((rd_T47 l1 x11_1).f2)) ∧ w'.cell? ⟨(ad3.add ((x11_1).toNat * 4)).block,(ad3.add ((x11_1).toNat * 4)).off + 3,none⟩ = some (.int .i64 ((rd_T47 l1 x11_1).f3)) ∧ w'.cell? (ad3.add ((x11_1).toNat * 4)) = some (.int .i64 ((rd_T47 l1 x11_1).f0)) ∧ w'.cell? ⟨(ad3.add ((x11_1).toNat * 4)).block,(ad3.add ((x11_1).toNat * 4)).off + 1,none⟩ = some (.bool (false)) ∧ w'.cell? ⟨(ad3.add ((x11_1).toNat * 4)).block,(ad3.add ((x11_1).toNat * 4)).off + 2,none⟩ = some (.int .i64 ((rd_T47 l1 x11_1).f2)) ∧ w'.cell? ⟨(ad3.add ((x11_1).toNat * 4)).block,(ad3.add ((x11_1).toNat * 4)).off + 3,none⟩ = some (.int .i64 ((rd_T47 l1 x11_1).f3))) (ds:=[]) #[false,false,false,false,false,false,false,false,false,false,false,false,false,false,false,false,false,false] (by kernel_rfl) rfl rfl ⟨(blk_cell BK1.out 0).trans rfl,((HB.out.cell (World.block_lt_of_cell? w _ hw3_0)).trans hw3_0),((HB.out.cell (World.block_lt_of_cell? w _ hw3_1)).trans (by first | exact hw3_1 | exact hw3_1.trans (congrArg (fun z_=>some (Value.bool z_)) Nbq11.out.symm))),((HB.out.cell (World.block_lt_of_cell? w _ hw3_2)).trans hw3_2),((HB.out.cell (World.block_lt_of_cell? w _ hw3_3)).trans hw3_3),((HB.out.cell (World.block_lt_of_cell? w _ hw4_0)).trans hw4_0),((HB.out.cell (World.block_lt_of_cell? w _ hw4_1)).trans (by first | exact hw4_1 | exact hw4_1.trans (congrArg (fun z_=>some (Value.bool z_)) Nbq11.out.symm))),((HB.out.cell (World.block_lt_of_cell? w _ hw4_2)).trans hw4_2),((HB.out.cell (World.block_lt_of_cell? w _ hw4_3)).trans hw4_3)⟩ (fun hHeld=>?_);refine with_tabW spec_keeps.tab4 spec_keeps.bits4 (fun HT_ HW_=>?_)
        generalize wr.drew = w16 at BK1 HB hx3_0 hx3_1 hx3_2 hx3_3 hx4_0 hx4_1 hx4_2 hx4_3 hHeld ⊢
        refine pure_ (i:=0) (N:=some 20) (v:=?_) (a':=?_) #[true,false,false,false,false,false,false,false,false,false,false,false,false,false,false,false,false,false] rfl rfl (any_of HT_.out (by kernel_rfl)) (fun _ _ _ h=>h) (Or.inl ⟨by rfl,?_⟩) ?_ ?_
        rotate_left
        ·intro w'
         go_simp
         with_reducible rfl
        rotate_left
        ·simp only [Act.put,s1_,s2_,s3_,i64_w,i32_w]
         rfl
        refine pure_ (i:=1) (N:=some 21) (v:=?_) (a':=?_) #[true,true,false,false,false,false,false,false,false,false,false,false,false,false,false,false,false,false] rfl rfl (any_of HT_.out (by kernel_rfl)) (fun _ _ _ h=>h) (Or.inl ⟨by rfl,?_⟩) ?_ ?_
        rotate_left
        ·intro w'
         go_simp
         with_reducible rfl
        rotate_left
        ·simp only [Act.put,s1_,s2_,s3_,i64_w,i32_w]
         rfl
        refine pure_ (i:=2) (N:=some 22) (v:=?_) (a':=?_) #[true,true,true,false,false,false,false,false,false,false,false,false,false,false,false,false,false,false] rfl rfl (any_of HT_.out (by kernel_rfl)) (fun _ _ _ h=>h) (Or.inl ⟨by rfl,?_⟩) ?_ ?_
        rotate_left
        ·intro w'
         go_simp
         with_reducible rfl
        rotate_left
        ·simp only [Act.put,s1_,s2_,s3_,i64_w,i32_w]
         rfl
        refine pure_ (i:=3) (N:=some 23) (v:=?_) (a':=?_) #[true,true,true,true,false,false,false,false,false,false,false,false,false,false,false,false,false,false] rfl rfl (any_of HT_.out (by kernel_rfl)) (fun _ _ _ h=>h) (Or.inl ⟨by rfl,?_⟩) ?_ ?_
        rotate_left
        ·intro w'
         go_simp
         with_reducible rfl
        rotate_left
        ·simp only [Act.put,s1_,s2_,s3_,i64_w,i32_w]
         rfl
        refine take_ (i:=4) (N:=some 24) (v:=?_) (a':=?_) #[true,true,true,true,true,false,false,false,false,false,false,false,false,false,false,false,false,false] rfl rfl (take_ofW HT_.out HW_.out (by kernel_rfl)) (fun _ _ _ h=>h) (Or.inl ⟨by rfl,?_⟩) hHeld ?_ ?_
        rotate_left
        ·rintro w' ⟨s0,s1,s2,s3,s4,s5,s6,s7,s8⟩
         go_simp
         with_reducible rfl
        rotate_left
        ·simp only [Act.put,s1_,s2_,s3_,i64_w,i32_w]
         rfl
        refine pure_ (i:=5) (N:=some 25) (v:=?_) (a':=?_) #[true,true,true,true,true,true,false,false,false,false,false,false,false,false,false,false,false,false] rfl rfl (any_of HT_.out (by kernel_rfl)) (fun _ _ _ h=>h) (Or.inl ⟨by rfl,?_⟩) ?_ ?_
        rotate_left
        ·intro w'
         go_simp
         with_reducible rfl
        rotate_left
        ·simp only [Act.put,s1_,s2_,s3_,i64_w,i32_w]
         rfl
        refine pure_ (i:=6) (N:=some 26) (v:=?_) (a':=?_) #[true,true,true,true,true,true,true,false,false,false,false,false,false,false,false,false,false,false] rfl rfl (any_of HT_.out (by kernel_rfl)) (fun _ _ _ h=>h) (Or.inl ⟨by rfl,?_⟩) ?_ ?_
        rotate_left
        ·intro w'
         go_simp
         with_reducible rfl
        rotate_left
        ·simp only [Act.put,s1_,s2_,s3_,i64_w,i32_w]
         rfl
        refine pure_ (i:=8) (N:=some 28) (v:=?_) (a':=?_) #[true,true,true,true,true,true,true,false,true,false,false,false,false,false,false,false,false,false] rfl rfl (any_of HT_.out (by kernel_rfl)) (fun _ _ _ h=>h) (Or.inl ⟨by rfl,?_⟩) ?_ ?_
        rotate_left
        ·intro w'
         go_simp
         with_reducible rfl
        rotate_left
        ·simp only [Act.put,s1_,s2_,s3_,i64_w,i32_w]
         rfl
        refine pure_ (i:=9) (N:=some 29) (v:=?_) (a':=?_) #[true,true,true,true,true,true,true,false,true,true,false,false,false,false,false,false,false,false] rfl rfl (any_of HT_.out (by kernel_rfl)) (fun _ _ _ h=>h) (Or.inl ⟨by rfl,?_⟩) ?_ ?_
        rotate_left
        ·intro w'
         go_simp
         with_reducible rfl
        rotate_left
        ·simp only [Act.put,s1_,s2_,s3_,i64_w,i32_w]
         rfl
        refine pure_ (i:=10) (N:=some 30) (v:=?_) (a':=?_) #[true,true,true,true,true,true,true,false,true,true,true,false,false,false,false,false,false,false] rfl rfl (any_of HT_.out (by kernel_rfl)) (fun _ _ _ h=>h) (Or.inl ⟨by rfl,?_⟩) ?_ ?_
        rotate_left
        ·intro w'
         go_simp
         with_reducible rfl
        rotate_left
        ·simp only [Act.put,s1_,s2_,s3_,i64_w,i32_w]
         rfl
        refine pure_ (i:=11) (N:=some 31) (v:=?_) (a':=?_) #[true,true,true,true,true,true,true,false,true,true,true,true,false,false,false,false,false,false] rfl rfl (any_of HT_.out (by kernel_rfl)) (fun _ _ _ h=>h) (Or.inl ⟨by rfl,?_⟩) ?_ ?_
        rotate_left
        ·intro w'
         go_simp
         with_reducible rfl
        rotate_left
        ·simp only [Act.put,s1_,s2_,s3_,i64_w,i32_w]
         rfl
        refine pure_ (i:=13) (N:=some 33) (v:=?_) (a':=?_) #[true,true,true,true,true,true,true,false,true,true,true,true,false,true,false,false,false,false] rfl rfl (any_of HT_.out (by kernel_rfl)) (fun _ _ _ h=>h) (Or.inl ⟨by rfl,?_⟩) ?_ ?_
        rotate_left
        ·intro w'
         go_simp
         with_reducible rfl
        rotate_left
        ·simp only [Act.put,s1_,s2_,s3_,i64_w,i32_w]
         rfl
        refine pure_ (i:=15) (N:=some 35) (v:=?_) (a':=?_) #[true,true,true,true,true,true,true,false,true,true,true,true,false,true,false,true,false,false] rfl rfl (any_of HT_.out (by kernel_rfl)) (fun _ _ _ h=>h) (Or.inl ⟨by rfl,?_⟩) ?_ ?_
        rotate_left
        ·intro w'
         go_simp
         with_reducible rfl
        rotate_left
        ·simp only [Act.put,s1_,s2_,s3_,i64_w,i32_w]
         rfl
        refine take_ (i:=7) (N:=some 27) (v:=?_) (a':=?_) #[true,true,true,true,true,true,true,true,true,true,true,true,false,true,false,true,false,false] rfl rfl (take_ofW HT_.out HW_.out (by kernel_rfl)) (fun _ _ _ h=>h) (Or.inl ⟨by rfl,?_⟩) hHeld ?_ ?_
        rotate_left
        ·rintro w' ⟨s0,s1,s2,s3,s4,s5,s6,s7,s8⟩
         go_simp
         with_reducible rfl
        rotate_left
        ·simp only [Act.put,s1_,s2_,s3_,i64_w,i32_w]
         rfl
        refine take_ (i:=12) (N:=some 32) (v:=?_) (a':=?_) #[true,true,true,true,true,true,true,true,true,true,true,true,true,true,false,true,false,false] rfl rfl (take_ofW HT_.out HW_.out (by kernel_rfl)) (fun _ _ _ h=>h) (Or.inl ⟨by rfl,?_⟩) hHeld ?_ ?_
        rotate_left
        ·rintro w' ⟨s0,s1,s2,s3,s4,s5,s6,s7,s8⟩
         go_simp
         with_reducible rfl
        rotate_left
        ·simp only [Act.put,s1_,s2_,s3_,i64_w,i32_w]
         rfl
        refine one_ (i:=14) (N:=some 34) #[true,true,true,true,true,true,true,true,true,true,true,true,true,true,true,true,false,false] rfl rfl (one_of HT_.out (by kernel_rfl)) (by decide) (fun K hK=>?_)
        refine goes_ Try.func89 (by kernel_rfl) rfl #[.agg #[.slice A0_0 l0_0.length c0_0],.int .i64 ((rd_T47 l1 x11_1).f2),.int .i64 a3] (by rfl) rfl rfl lm_ ?_
        with_reducible refine (spec_isA.calls k1 _ _ l0_0 ((rd_T47 l1 x11_1).f2) a3 t5 _ ?side1 ?side2 A14.out).mono ?_
        (case side1=>exact cc_ (Kd.C_below HR0_0.out HB.out))
        (case side2=>exact HC0_0.out)
        rintro e w17 ⟨rfl,hb⟩
        refine ⟨_,rfl,?_⟩
        have n0_:=kb_ BK1 hb
        have n1_:=a0_ (below_step hb_ hb)
        clear BK1
        clear HB
        have BK1:=n0_
        have HB:=n1_
        clear n0_ n1_
        (try clear hb)
        (try clear hb2)
        (try clear hk)
        (try clear hi)
        refine hK.out _ _ ⟨(blk_cell BK1.out 0).trans rfl,((HB.out.cell (World.block_lt_of_cell? w _ hw3_0)).trans hw3_0),((HB.out.cell (World.block_lt_of_cell? w _ hw3_1)).trans (by first | exact hw3_1 | exact hw3_1.trans (congrArg (fun z_=>some (Value.bool z_)) Nbq11.out.symm))),((HB.out.cell (World.block_lt_of_cell? w _ hw3_2)).trans hw3_2),((HB.out.cell (World.block_lt_of_cell? w _ hw3_3)).trans hw3_3),((HB.out.cell (World.block_lt_of_cell? w _ hw4_0)).trans hw4_0),((HB.out.cell (World.block_lt_of_cell? w _ hw4_1)).trans (by first | exact hw4_1 | exact hw4_1.trans (congrArg (fun z_=>some (Value.bool z_)) Nbq11.out.symm))),((HB.out.cell (World.block_lt_of_cell? w _ hw4_2)).trans hw4_2),((HB.out.cell (World.block_lt_of_cell? w _ hw4_3)).trans hw4_3)⟩ (fun hHeld=>?_)
        clear hK K
        refine norm_ (a':=?_) ?_ ?_
        rotate_left
        ·show Act.put _ (some 34) _ = _
         simp only [Act.put,s1_,s2_,s3_,i64_w,i32_w]
         rfl
        refine pure_ (i:=16) (N:=some 36) (v:=?_) (a':=?_) #[true,true,true,true,true,true,true,true,true,true,true,true,true,true,true,true,true,false] rfl rfl (any_of HT_.out (by kernel_rfl)) (fun _ _ _ h=>h) (Or.inl ⟨by rfl,?_⟩) ?_ ?_
        rotate_left
        ·intro w'
         go_simp
         with_reducible rfl
        rotate_left
        ·simp only [Act.put,s1_,s2_,s3_,i64_w,i32_w]
         rfl
        refine pure_ (i:=17) (N:=some 37) (v:=?_) (a':=?_) #[true,true,true,true,true,true,true,true,true,true,true,true,true,true,true,true,true,true] rfl rfl (any_of HT_.out (by kernel_rfl)) (fun _ _ _ h=>h) (Or.inl ⟨by rfl,?_⟩) ?_ ?_
        rotate_left
        ·intro w'
         go_simp
         with_reducible rfl
        rotate_left
        ·simp only [Act.put,s1_,s2_,s3_,i64_w,i32_w]
         rfl
        refine done_ (done_of HT_.out (by kernel_rfl)) ?_
        try go_wp2
        go_ret
        exact ⟨by first | rfl | (simp [errW_none,errW_some] <;> rfl) | (simp [*,errW_none,errW_some] <;> rfl),hb_⟩
       ·rw [if_neg c15] at H
        have c15b0 : (t5 == a4) = false:=by simpa using c15
        (try (have c15b1 : decide (t5 = a4) = false:=by simpa using c15))
        (try (have c15b2 : (t5 == a4) = false:=by simpa using c15))
        (try (have c15b3 : ¬ (t5 = a4):=by simpa using c15))
        clear c15
        have H':=a0_ H
        clear H
        try go_wp2_with (first | ((with_reducible refine gate_callee (f:=66) rfl ?_);refine goesL_ (some 16) rfl rfl Try.func66 (by kernel_rfl) rfl #[.slice A1 l1.length c1,.int .i64 a2] rfl lm_ ?_;(with_reducible refine (spec_endOf.calls k1 _ _ l1 a2 t2 _ ?side1 ?side2 A7.out).mono ?_);(case side1=>exact cc_ (Kd.C_below HR1.out HB.out));(case side2=>exact HC1.out);rintro e w' ⟨rfl,⟨nd,rfl⟩⟩;refine ⟨_,rfl,?_⟩))
        (try (rw [drewN_self wr];generalize hq_ : World.drewN wr _ = wr;have n0_ : Aside0 (wr.heap[gb1]? = some (.cells #[.slice A0_0 l0_0.length c0_0] 25 (0,0))):=⟨by rw [← hq_];exact (bb_ BK1.out)⟩;have n1_ : Aside0 (Below w.heap.size w wr):=⟨by rw [← hq_];exact hb_⟩;clear BK1 HB hq_;have BK1:=n0_;have HB:=n1_;clear n0_ n1_))
        have n0_:=a0_ (blk_drew BK1.out)
        have n1_:=a0_ (below_drew1 HB.out)
        clear BK1
        clear HB
        have BK1:=n0_
        have HB:=n1_
        clear n0_ n1_
        have p3 : 0 ≤ (x11_1 : Int):=of_decide_eq_true (by first | (with_reducible assumption) | assumption)
        have q3 : x11_1 < (l1.length : Int):=of_decide_eq_true (by first | (with_reducible assumption) | assumption)
        obtain ⟨ad3,e3,hx3_0,hx3_1,hx3_2,hx3_3⟩:=at_T47 HR1.out x11_1 p3 q3
        have hw3_3:=hx3_3
        have hw3_2:=hx3_2
        have hw3_1:=hx3_1
        have hw3_0:=hx3_0
        (try rw [← Nbq11.out] at hx3_1)
        cases e3
        replace hx3_0:=(HB.out.cell (World.block_lt_of_cell? w _ hx3_0)).trans hx3_0
        replace hx3_1:=(HB.out.cell (World.block_lt_of_cell? w _ hx3_1)).trans hx3_1
        replace hx3_2:=(HB.out.cell (World.block_lt_of_cell? w _ hx3_2)).trans hx3_2
        replace hx3_3:=(HB.out.cell (World.block_lt_of_cell? w _ hx3_3)).trans hx3_3
        replace p3:=eq_true p3
        replace q3:=eq_true q3
        have p4 : 0 ≤ (x11_1 : Int):=of_decide_eq_true (by first | (with_reducible assumption) | assumption)
        have q4 : x11_1 < (l1.length : Int):=of_decide_eq_true (by first | (with_reducible assumption) | assumption)
        obtain ⟨ad4,e4,hx4_0,hx4_1,hx4_2,hx4_3⟩:=at_T47 HR1.out x11_1 p4 q4
        have hw4_3:=hx4_3
        have hw4_2:=hx4_2
        have hw4_1:=hx4_1
        have hw4_0:=hx4_0
        (try rw [← Nbq11.out] at hx4_1)
        obtain rfl : ad3 = ad4:=(by injection e4)
        replace hx4_0:=(HB.out.cell (World.block_lt_of_cell? w _ hx4_0)).trans hx4_0
        replace hx4_1:=(HB.out.cell (World.block_lt_of_cell? w _ hx4_1)).trans hx4_1
        replace hx4_2:=(HB.out.cell (World.block_lt_of_cell? w _ hx4_2)).trans hx4_2
        replace hx4_3:=(HB.out.cell (World.block_lt_of_cell? w _ hx4_3)).trans hx4_3
        replace p4:=eq_true p4
        replace q4:=eq_true q4
        refine start_ (n:=18) (S:=fun w'=>w'.cell? ⟨gb1,0,none⟩ = some (.slice A0_0 l0_0.length c0_0) ∧ w'.cell? (ad3.add ((x11_1).toNat * 4)) = some (.int .i64 ((rd_T47 l1 x11_1).f0)) ∧ w'.cell? ⟨(ad3.add ((x11_1).toNat * 4)).block,(ad3.add ((x11_1).toNat * 4)).off + 1,none⟩ = some (.bool false) ∧ w'.cell? ⟨(ad3.add ((x11_1).toNat * 4)).block,(ad3.add ((x11_1).toNat * 4)).off + 2,none⟩ = some (.int .i64 ((rd_T47 l1 x11_1).f2)) ∧ w'.cell? ⟨(ad3.add ((x11_1).toNat * 4)).block,(ad3.add ((x11_1).toNat * 4)).off + 3,none⟩ = some (.int .i64 ((rd_T47 l1 x11_1).f3)) ∧ w'.cell? (ad3.add ((x11_1).toNat * 4)) = some (.int .i64 ((rd_T47 l1 x11_1).f0)) ∧ w'.cell? ⟨(ad3.add ((x11_1).toNat * 4)).block,(ad3.add ((x11_1).toNat * 4)).off + 1,none⟩ = some (.bool (false)) ∧ w'.cell? ⟨(ad3.add ((x11_1).toNat * 4)).block,(ad3.add ((x11_1).toNat * 4)).off + 2,none⟩ = some (.int .i64 ((rd_T47 l1 x11_1).f2)) ∧ w'.cell? ⟨(ad3.add ((x11_1).toNat * 4)).block,(ad3.add ((x11_1).toNat * 4)).off + 3,none⟩ = some (.int .i64 ((rd_T47 l1 x11_1).f3))) (ds:=[]) #[false,false,false,false,false,false,false,false,false,false,false,false,false,false,false,false,false,false] (by kernel_rfl) rfl rfl ⟨(blk_cell BK1.out 0).trans rfl,((HB.out.cell (World.block_lt_of_cell? w _ hw3_0)).trans hw3_0),((HB.out.cell (World.block_lt_of_cell? w _ hw3_1)).trans (by first | exact hw3_1 | exact hw3_1.trans (congrArg (fun z_=>some (Value.bool z_)) Nbq11.out.symm))),((HB.out.cell (World.block_lt_of_cell? w _ hw3_2)).trans hw3_2),((HB.out.cell (World.block_lt_of_cell? w _ hw3_3)).trans hw3_3),((HB.out.cell (World.block_lt_of_cell? w _ hw4_0)).trans hw4_0),((HB.out.cell (World.block_lt_of_cell? w _ hw4_1)).trans (by first | exact hw4_1 | exact hw4_1.trans (congrArg (fun z_=>some (Value.bool z_)) Nbq11.out.symm))),((HB.out.cell (World.block_lt_of_cell? w _ hw4_2)).trans hw4_2),((HB.out.cell (World.block_lt_of_cell? w _ hw4_3)).trans hw4_3)⟩ (fun hHeld=>?_);refine with_tabW spec_keeps.tab4 spec_keeps.bits4 (fun HT_ HW_=>?_)
        generalize wr.drew = w18 at BK1 HB hx3_0 hx3_1 hx3_2 hx3_3 hx4_0 hx4_1 hx4_2 hx4_3 hHeld ⊢
        refine pure_ (i:=0) (N:=some 20) (v:=?_) (a':=?_) #[true,false,false,false,false,false,false,false,false,false,false,false,false,false,false,false,false,false] rfl rfl (any_of HT_.out (by kernel_rfl)) (fun _ _ _ h=>h) (Or.inl ⟨by rfl,?_⟩) ?_ ?_
        rotate_left
        ·intro w'
         go_simp
         with_reducible rfl
        rotate_left
        ·simp only [Act.put,s1_,s2_,s3_,i64_w,i32_w]
         rfl
        refine pure_ (i:=1) (N:=some 21) (v:=?_) (a':=?_) #[true,true,false,false,false,false,false,false,false,false,false,false,false,false,false,false,false,false] rfl rfl (any_of HT_.out (by kernel_rfl)) (fun _ _ _ h=>h) (Or.inl ⟨by rfl,?_⟩) ?_ ?_
        rotate_left
        ·intro w'
         go_simp
         with_reducible rfl
        rotate_left
        ·simp only [Act.put,s1_,s2_,s3_,i64_w,i32_w]
         rfl
        refine pure_ (i:=2) (N:=some 22) (v:=?_) (a':=?_) #[true,true,true,false,false,false,false,false,false,false,false,false,false,false,false,false,false,false] rfl rfl (any_of HT_.out (by kernel_rfl)) (fun _ _ _ h=>h) (Or.inl ⟨by rfl,?_⟩) ?_ ?_
        rotate_left
        ·intro w'
         go_simp
         with_reducible rfl
        rotate_left
        ·simp only [Act.put,s1_,s2_,s3_,i64_w,i32_w]
         rfl
        refine pure_ (i:=3) (N:=some 23) (v:=?_) (a':=?_) #[true,true,true,true,false,false,false,false,false,false,false,false,false,false,false,false,false,false] rfl rfl (any_of HT_.out (by kernel_rfl)) (fun _ _ _ h=>h) (Or.inl ⟨by rfl,?_⟩) ?_ ?_
        rotate_left
        ·intro w'
         go_simp
         with_reducible rfl
        rotate_left
        ·simp only [Act.put,s1_,s2_,s3_,i64_w,i32_w]
         rfl
        refine take_ (i:=4) (N:=some 24) (v:=?_) (a':=?_) #[true,true,true,true,true,false,false,false,false,false,false,false,false,false,false,false,false,false] rfl rfl (take_ofW HT_.out HW_.out (by kernel_rfl)) (fun _ _ _ h=>h) (Or.inl ⟨by rfl,?_⟩) hHeld ?_ ?_
        rotate_left
        ·rintro w' ⟨s0,s1,s2,s3,s4,s5,s6,s7,s8⟩
         go_simp
         with_reducible rfl
        rotate_left
        ·simp only [Act.put,s1_,s2_,s3_,i64_w,i32_w]
         rfl
        refine pure_ (i:=5) (N:=some 25) (v:=?_) (a':=?_) #[true,true,true,true,true,true,false,false,false,false,false,false,false,false,false,false,false,false] rfl rfl (any_of HT_.out (by kernel_rfl)) (fun _ _ _ h=>h) (Or.inl ⟨by rfl,?_⟩) ?_ ?_
        rotate_left
        ·intro w'
         go_simp
         with_reducible rfl
        rotate_left
        ·simp only [Act.put,s1_,s2_,s3_,i64_w,i32_w]
         rfl
        refine pure_ (i:=6) (N:=some 26) (v:=?_) (a':=?_) #[true,true,true,true,true,true,true,false,false,false,false,false,false,false,false,false,false,false] rfl rfl (any_of HT_.out (by kernel_rfl)) (fun _ _ _ h=>h) (Or.inl ⟨by rfl,?_⟩) ?_ ?_
        rotate_left
        ·intro w'
         go_simp
         with_reducible rfl
        rotate_left
        ·simp only [Act.put,s1_,s2_,s3_,i64_w,i32_w]
         rfl
        refine pure_ (i:=8) (N:=some 28) (v:=?_) (a':=?_) #[true,true,true,true,true,true,true,false,true,false,false,false,false,false,false,false,false,false] rfl rfl (any_of HT_.out (by kernel_rfl)) (fun _ _ _ h=>h) (Or.inl ⟨by rfl,?_⟩) ?_ ?_
        rotate_left
        ·intro w'
         go_simp
         with_reducible rfl
        rotate_left
        ·simp only [Act.put,s1_,s2_,s3_,i64_w,i32_w]
         rfl
        refine pure_ (i:=9) (N:=some 29) (v:=?_) (a':=?_) #[true,true,true,true,true,true,true,false,true,true,false,false,false,false,false,false,false,false] rfl rfl (any_of HT_.out (by kernel_rfl)) (fun _ _ _ h=>h) (Or.inl ⟨by rfl,?_⟩) ?_ ?_
        rotate_left
        ·intro w'
         go_simp
         with_reducible rfl
        rotate_left
        ·simp only [Act.put,s1_,s2_,s3_,i64_w,i32_w]
         rfl
        refine pure_ (i:=10) (N:=some 30) (v:=?_) (a':=?_) #[true,true,true,true,true,true,true,false,true,true,true,false,false,false,false,false,false,false] rfl rfl (any_of HT_.out (by kernel_rfl)) (fun _ _ _ h=>h) (Or.inl ⟨by rfl,?_⟩) ?_ ?_
        rotate_left
        ·intro w'
         go_simp
         with_reducible rfl
        rotate_left
        ·simp only [Act.put,s1_,s2_,s3_,i64_w,i32_w]
         rfl
        refine pure_ (i:=11) (N:=some 31) (v:=?_) (a':=?_) #[true,true,true,true,true,true,true,false,true,true,true,true,false,false,false,false,false,false] rfl rfl (any_of HT_.out (by kernel_rfl)) (fun _ _ _ h=>h) (Or.inl ⟨by rfl,?_⟩) ?_ ?_
        rotate_left
        ·intro w'
         go_simp
         with_reducible rfl
        rotate_left
        ·simp only [Act.put,s1_,s2_,s3_,i64_w,i32_w]
         rfl
        refine pure_ (i:=13) (N:=some 33) (v:=?_) (a':=?_) #[true,true,true,true,true,true,true,false,true,true,true,true,false,true,false,false,false,false] rfl rfl (any_of HT_.out (by kernel_rfl)) (fun _ _ _ h=>h) (Or.inl ⟨by rfl,?_⟩) ?_ ?_
        rotate_left
        ·intro w'
         go_simp
         with_reducible rfl
        rotate_left
        ·simp only [Act.put,s1_,s2_,s3_,i64_w,i32_w]
         rfl
        refine pure_ (i:=15) (N:=some 35) (v:=?_) (a':=?_) #[true,true,true,true,true,true,true,false,true,true,true,true,false,true,false,true,false,false] rfl rfl (any_of HT_.out (by kernel_rfl)) (fun _ _ _ h=>h) (Or.inl ⟨by rfl,?_⟩) ?_ ?_
        rotate_left
        ·intro w'
         go_simp
         with_reducible rfl
        rotate_left
        ·simp only [Act.put,s1_,s2_,s3_,i64_w,i32_w]
         rfl
        refine take_ (i:=7) (N:=some 27) (v:=?_) (a':=?_) #[true,true,true,true,true,true,true,true,true,true,true,true,false,true,false,true,false,false] rfl rfl (take_ofW HT_.out HW_.out (by kernel_rfl)) (fun _ _ _ h=>h) (Or.inl ⟨by rfl,?_⟩) hHeld ?_ ?_
        rotate_left
        ·rintro w' ⟨s0,s1,s2,s3,s4,s5,s6,s7,s8⟩
         go_simp
         with_reducible rfl
        rotate_left
        ·simp only [Act.put,s1_,s2_,s3_,i64_w,i32_w]
         rfl
        refine take_ (i:=12) (N:=some 32) (v:=?_) (a':=?_) #[true,true,true,true,true,true,true,true,true,true,true,true,true,true,false,true,false,false] rfl rfl (take_ofW HT_.out HW_.out (by kernel_rfl)) (fun _ _ _ h=>h) (Or.inl ⟨by rfl,?_⟩) hHeld ?_ ?_
        rotate_left
        ·rintro w' ⟨s0,s1,s2,s3,s4,s5,s6,s7,s8⟩
         go_simp
         with_reducible rfl
        rotate_left
        ·simp only [Act.put,s1_,s2_,s3_,i64_w,i32_w]
         rfl
        refine one_ (i:=14) (N:=some 34) #[true,true,true,true,true,true,true,true,true,true,true,true,true,true,true,true,false,false] rfl rfl (one_of HT_.out (by kernel_rfl)) (by decide) (fun K hK=>?_)
        refine goes_ Try.func89 (by kernel_rfl) rfl #[.agg #[.slice A0_0 l0_0.length c0_0],.int .i64 ((rd_T47 l1 x11_1).f2),.int .i64 a3] (by rfl) rfl rfl lm_ ?_
        with_reducible refine (spec_isA.calls k1 _ _ l0_0 ((rd_T47 l1 x11_1).f2) a3 t5 _ ?side1 ?side2 A14.out).mono ?_
        (case side1=>exact cc_ (Kd.C_below HR0_0.out HB.out))
        (case side2=>exact HC0_0.out)
        rintro e w19 ⟨rfl,hb⟩
        refine ⟨_,rfl,?_⟩
        have n0_:=kb_ BK1 hb
        have n1_:=a0_ (below_step hb_ hb)
        clear BK1
        clear HB
        have BK1:=n0_
        have HB:=n1_
        clear n0_ n1_
        (try clear hb)
        (try clear hb2)
        (try clear hk)
        (try clear hi)
        refine hK.out _ _ ⟨(blk_cell BK1.out 0).trans rfl,((HB.out.cell (World.block_lt_of_cell? w _ hw3_0)).trans hw3_0),((HB.out.cell (World.block_lt_of_cell? w _ hw3_1)).trans (by first | exact hw3_1 | exact hw3_1.trans (congrArg (fun z_=>some (Value.bool z_)) Nbq11.out.symm))),((HB.out.cell (World.block_lt_of_cell? w _ hw3_2)).trans hw3_2),((HB.out.cell (World.block_lt_of_cell? w _ hw3_3)).trans hw3_3),((HB.out.cell (World.block_lt_of_cell? w _ hw4_0)).trans hw4_0),((HB.out.cell (World.block_lt_of_cell? w _ hw4_1)).trans (by first | exact hw4_1 | exact hw4_1.trans (congrArg (fun z_=>some (Value.bool z_)) Nbq11.out.symm))),((HB.out.cell (World.block_lt_of_cell? w _ hw4_2)).trans hw4_2),((HB.out.cell (World.block_lt_of_cell? w _ hw4_3)).trans hw4_3)⟩ (fun hHeld=>?_)
        clear hK K
        refine norm_ (a':=?_) ?_ ?_
        rotate_left
        ·show Act.put _ (some 34) _ = _
         simp only [Act.put,s1_,s2_,s3_,i64_w,i32_w]
         rfl
        refine pure_ (i:=16) (N:=some 36) (v:=?_) (a':=?_) #[true,true,true,true,true,true,true,true,true,true,true,true,true,true,true,true,true,false] rfl rfl (any_of HT_.out (by kernel_rfl)) (fun _ _ _ h=>h) (Or.inl ⟨by rfl,?_⟩) ?_ ?_
        rotate_left
        ·intro w'
         go_simp
         with_reducible rfl
        rotate_left
        ·simp only [Act.put,s1_,s2_,s3_,i64_w,i32_w]
         rfl
        refine pure_ (i:=17) (N:=some 37) (v:=?_) (a':=?_) #[true,true,true,true,true,true,true,true,true,true,true,true,true,true,true,true,true,true] rfl rfl (any_of HT_.out (by kernel_rfl)) (fun _ _ _ h=>h) (Or.inl ⟨by rfl,?_⟩) ?_ ?_
        rotate_left
        ·intro w'
         go_simp
         with_reducible rfl
        rotate_left
        ·simp only [Act.put,s1_,s2_,s3_,i64_w,i32_w]
         rfl
        refine done_ (done_of HT_.out (by kernel_rfl)) ?_
        try go_wp2
        go_roundg k1
        case measure=>have:=HK1.out;omega
        case rel=>exact ⟨(wrap64 (x11_1 + 1)),(by first | rfl | (simp;done) | (simp [*];done)),H',⟨by have:=HK1.out;omega⟩,⟨by (with_reducible repeat (first | refine blk_drewN ?_ _ | refine blk_drew ?_ | refine blk_alloc ?_ _));exact BK1.out⟩,⟨hb_⟩⟩
     ·rw [if_neg c10] at H
      exact absurd H (by simp)
    ·rw [if_neg c9] at H
     exact absurd H (by simp)
   ·rw [if_neg c8] at H
    have c8b0 : decide (x11_1 < t2) = false:=decide_eq_false c8
    clear c8
    obtain rfl:=Option.some.inj H
    go_wp2_with (first | ((with_reducible refine gate_callee (f:=66) rfl ?_);refine goesL_ (some 16) rfl rfl Try.func66 (by kernel_rfl) rfl #[.slice A1 l1.length c1,.int .i64 a2] rfl lm_ ?_;(with_reducible refine (spec_endOf.calls k1 _ _ l1 a2 t2 _ ?side1 ?side2 A7.out).mono ?_);(case side1=>exact cc_ (Kd.C_below HR1.out HB.out));(case side2=>exact HC1.out);rintro e w' ⟨rfl,⟨nd,rfl⟩⟩;refine ⟨_,rfl,?_⟩))
    go_ret
    exact ⟨by first | rfl | (simp [errW_none,errW_some] <;> rfl) | (simp [*,errW_none,errW_some] <;> rfl),hb_⟩
theorem spec_keeps_ev {t : List Cls} (h : vT t = true) (g : List Prt) (hg : lfOk t g) (hl : g.length ≤ 9223372036854775807) (i : Nat) (hi : i < g.length) (a : Int) (yes : Bool) : Ev (fun k=>spec_keeps.f k t g (i : Int) a yes) (keepsB t g i a yes):=by
 have he:=endG_le g i hi
 have he2:=endG_gt g i
 have key : ∀ d j,j + d = endG g i → Ev (fun k=>spec_keeps.l0 k g (i : Int) a yes (j : Int) t) (((g.drop j).take d).any (lfB t a yes)):=by
  intro d
  induction d with
  | zero =>
   intro j hj
   refine Ev.succ ?_
   simp only [spec_keeps.l0]
   refine Ev.bind (spec_endOf_ev g i hi hl) (Ev.neg (by omega) ?_)
   exact Ev.const (by simp)
  | succ d ih =>
   intro j hj
   have hlt : j < g.length:=by omega
   have hrd : rd_T47 g (j : Int) = g[j]:=by simp [rd_T47,hlt]
   have hn:=ih (j + 1) (by omega)
   rw [List.drop_eq_getElem_cons hlt,List.take_succ_cons,List.any_cons]
   refine Ev.succ ?_
   simp only [spec_keeps.l0,hrd]
   rw [wrap_succ (i:=(j : Int)) (n:=g.length) (by omega) (by omega) (by omega)]
   refine Ev.bind (spec_endOf_ev g i hi hl) (Ev.pos (by omega) (Ev.pos (by omega) (Ev.pos (by omega) ?_)))
   unfold lfB at hn ⊢
   cases h1 : g[j].f1 with
   | true =>
    refine Ev.pos rfl ?_
    simpa using hn
   | false =>
    refine Ev.neg (by simp) (Ev.bind (spec_isA_Ev h g[j].f2 a (hg _ (List.getElem_mem hlt) h1)) ?_)
    cases h2 : (isA t g[j].f2 a == yes) with
    | true=>exact Ev.pos rfl (Ev.const rfl)
    | false =>
     refine Ev.neg (by simp) ?_
     simpa using hn
 exact key (endG g i - i) i (by omega)
end Go.Proofs.Ytfphcdbnnienhaa.P
namespace Go.Proofs.Ytfphcdbnnienhaa.P
open Go.RowKit Go.Proofs.YtfphcdbnnienhaaW.PrintWords Go.Proofs.YtfphcdbnnienhaaW.PrintLast Go.Proofs.YtfphcdbnnienhaaW.PrintMore
attribute [local go_sem] max2_int min2_int max_two min_two max_three min_three max_four min_four
set_option linter.unusedVariables false
set_option linter.unusedSimpArgs false
def spec_split.l0 : Nat → List (S47) → Int → List (S47) → List (S47) → Int → List (S85) → Option ((List (S47)) × (List (S47)))
 | 0,_,_,_,_,_,_=>none
 | k + 1,x1,x2,x8,x9,x10,x2000=>if x10 < (x1.length : Int) then ((spec_keeps.f k x2000 x1 x10 x2 true).bind fun t8=>(if t8 = true then (if 0 ≤ x10 then (if x8.length < 4398046511104 then ((some (x8 ++ [(⟨(rd_T47 x1 x10).f0,(rd_T47 x1 x10).f1,(rd_T47 x1 x10).f2,(rd_T47 x1 x10).f3⟩ : S47)] : List (S47))).bind fun y10=>((spec_keeps.f k x2000 x1 x10 x2 false).bind fun t13=>(if t13 = true then (if x9.length < 4398046511104 then (spec_split.l0 k x1 x2 y10 (x9 ++ [(⟨(rd_T47 x1 x10).f0,(rd_T47 x1 x10).f1,(rd_T47 x1 x10).f2,(rd_T47 x1 x10).f3⟩ : S47)]) (wrap64 (x10 + 1)) x2000) else (none)) else (spec_split.l0 k x1 x2 y10 x9 (wrap64 (x10 + 1)) x2000)))) else (none)) else (none)) else ((spec_keeps.f k x2000 x1 x10 x2 false).bind fun t18=>(if t18 = true then (if 0 ≤ x10 then (if x9.length < 4398046511104 then (spec_split.l0 k x1 x2 x8 (x9 ++ [(⟨(rd_T47 x1 x10).f0,(rd_T47 x1 x10).f1,(rd_T47 x1 x10).f2,(rd_T47 x1 x10).f3⟩ : S47)]) (wrap64 (x10 + 1)) x2000) else (none)) else (none)) else (spec_split.l0 k x1 x2 x8 x9 (wrap64 (x10 + 1)) x2000))))) else (some (x8,x9))
def spec_split.f (k : Nat) (l0_0 : List (S85)) (l1 : List (S47)) (a2 : Int) : Option ((List (S47)) × (List (S47))):=spec_split.l0 k l1 a2 (([] : List (S47))) (([] : List (S47))) 0 l0_0
theorem spec_split.mono_l : ∀ k,(∀ y0 y1 y2 y3 y4 y5,LeO (spec_split.l0 k y0 y1 y2 y3 y4 y5) (spec_split.l0 (k + 1) y0 y1 y2 y3 y4 y5))
 | 0=>fun _ _ _ _ _ _ r h=>by simp [spec_split.l0] at h
 | k + 1=>by
  have ih0:=spec_split.mono_l k
  ·intro y0 y1 y2 y3 y4 y5
   unfold spec_split.l0
   repeat' first
   | (with_reducible exact ih0 _ _ _ _ _ _)
   | (with_reducible exact spec_keeps.mono _ _ _ _ _ _)
   | (with_reducible exact LeO.refl _)
   | (with_reducible exact LeO.none _)
   | (with_reducible refine LeO.ite ?_ ?_)
   | (with_reducible refine LeO.bind ?_ (fun _=>?_))
   | exact ih0 _ _ _ _ _ _
   | exact spec_keeps.mono _ _ _ _ _ _
   | exact LeO.none _
   | refine LeO.ite ?_ ?_
   | refine LeO.bind ?_ (fun _=>?_)
theorem spec_split.mono : ∀ a0 a1 a2 k,LeO (spec_split.f k a0 a1 a2) (spec_split.f (k + 1) a0 a1 a2):=by
 intro a0 a1 a2 k
 have ih0:=spec_split.mono_l k
 unfold spec_split.f
 repeat' first
   | (with_reducible exact ih0 _ _ _ _ _ _)
   | (with_reducible exact spec_keeps.mono _ _ _ _ _ _)
   | (with_reducible exact LeO.refl _)
   | (with_reducible exact LeO.none _)
   | (with_reducible refine LeO.ite ?_ ?_)
   | (with_reducible refine LeO.bind ?_ (fun _=>?_))
   | exact ih0 _ _ _ _ _ _
   | exact spec_keeps.mono _ _ _ _ _ _
   | exact LeO.none _
   | refine LeO.ite ?_ ?_
   | refine LeO.bind ?_ (fun _=>?_)
set_option maxHeartbeats 8000000 in
set_option maxRecDepth 100000 in
theorem spec_split.calls (k : Nat) (A0_0 : Option Addr) (c0_0 : Nat) (l0_0 : List (S85)) (A1 : Option Addr) (c1 : Nat) (l1 : List (S47)) (a2 : Int) (r1 : List (S47)) (r2 : List (S47)) (w : World) (hr0_0 : Kd.C k85 w A0_0 l0_0.length l0_0) (hc0_0 : l0_0.length ≤ c0_0) (hr1 : Kd.C k47 w A1 l1.length l1) (hc1 : l1.length ≤ c1) (h : spec_split.f k l0_0 l1 a2 = some (r1,r2)) :
  Calls Try.prog 49 #[.agg #[.slice A0_0 l0_0.length c0_0],.slice A1 l1.length c1,.int .i64 a2] w fun e w'=>∃ v0_ v1_ : Value,e = .returned (.tuple #[v0_,v1_]) ∧ Kd.R k47 47 w' w.heap.size (fun k_=>some k_ ≠ (v1_ : Value).ownBlock) v0_ r1 ∧ Kd.R k47 47 w' w.heap.size (fun k_=>some k_ ≠ (v0_ : Value).ownBlock) v1_ r2 ∧ Below w.heap.size w w':=by
 have hu25:=Try.underlying25
 have hu47:=Try.underlying47
 have HR0_0:=a0_ hr0_0
 have HC0_0:=a0_ hc0_0
 clear hr0_0 hc0_0
 have HR1:=a0_ hr1
 have HC1:=a0_ hc1
 clear hr1 hc1
 have HB:=a0_ (Below.refl w.heap.size w)
 have H : (spec_split.l0 k l1 a2 (([] : List (S47))) (([] : List (S47))) 0 l0_0) = some (r1,r2):=h
 clear h
 obtain ⟨y2,hy2⟩ : ∃ y_ : List (S47),y_ = (([] : List (S47))):=⟨_,rfl⟩
 replace H : (spec_split.l0 k l1 a2 y2 (([] : List (S47))) 0 l0_0) = some (r1,r2):=by first | (rw [hy2];with_reducible exact H) | (have H2_:=(Option.bind_some _ _).symm.trans H;rw [hy2];with_reducible exact H2_) | (have H2_:=(Option.bind_some _ _).symm.trans H;with_reducible exact H2_) | with_reducible exact H | (rw [hy2];exact H) | exact H
 have Ny2:=a0_ hy2
 clear hy2
 obtain ⟨y5,hy5⟩ : ∃ y_ : List (S47),y_ = (([] : List (S47))):=⟨_,rfl⟩
 replace H : (spec_split.l0 k l1 a2 y2 y5 0 l0_0) = some (r1,r2):=by first | (rw [hy5];with_reducible exact H) | (have H2_:=(Option.bind_some _ _).symm.trans H;rw [hy5];with_reducible exact H2_) | (have H2_:=(Option.bind_some _ _).symm.trans H;with_reducible exact H2_) | with_reducible exact H | (rw [hy5];exact H) | exact H
 have Ny5:=a0_ hy5
 clear hy5
 have H':=a0_ H
 clear H
 go_enter Try.func49,Try.ntmps49
 go_wp2_with (first | ((with_reducible refine gate_dst (N:=3) rfl ?_);refine box_event ?hg (N:=3) ?hd (cs:=#[.slice A0_0 l0_0.length c0_0]) (t:=25) ?hr ?_;(case hd=>rfl);(case hg=>rfl);(case hr=>first | (go_simp;done) | (go_simp;rfl));intro gb1 hg w4 hbox hb;have BK1:=a0_ (hbox);have GW1:=a0_ ((by rw [hg];exact (below_size hb_) : w.heap.size ≤ gb1));have GE1:=a0_ ((by rw [hg];exact (below_size hb_) : w.heap.size ≤ gb1));replace HB:=a0_ (below_step hb_ hb);clear hb hbox hg) | ((with_reducible refine gate_dst (N:=11) rfl ?_);refine Kd.R_lit k47 _ 47 ?hg (N:=11) ?hd (xs:=([] : List (S47))) (inner:=[]) (ok:=fun _=>True) (okp:=fun _=>True) ?hr ?hp (fun _ hk=>hk) trivial (Below.refl _ _) (Nat.le_refl _) (by simp) ?_;(case hd=>rfl);(case hg=>rfl);(case hr=>first | (go_simp;done) | (go_simp;rfl));(case hp=>exact (Reps.none _ _));intro v3 w5 ho6 hb hg_ hnew_;clear hg_ hnew_;(first | rw [← Ny2.out] at ho6 | (simp only [Int.reduceToNat] at ho6;rw [← Ny2.out] at ho6));have HO4:=a0_ (Kd.R_lower ho6 (below_size hb_));replace BK1:=kb_ BK1 hb;replace HB:=a0_ (below_step hb_ hb);clear hb ho6) | ((with_reducible refine gate_dst (N:=12) rfl ?_);refine Kd.R_lit k47 _ 47 ?hg (N:=12) ?hd (xs:=([] : List (S47))) (inner:=[]) (ok:=fun _=>True) (okp:=fun _=>True) ?hr ?hp (fun _ hk=>hk) trivial (Below.refl _ _) (Nat.le_refl _) (by simp) ?_;(case hd=>rfl);(case hg=>rfl);(case hr=>first | (go_simp;done) | (go_simp;rfl));(case hp=>exact (Reps.none _ _));intro v6 w7 ho8 hb hg_ hnew_;clear hg_ hnew_;(first | rw [← Ny5.out] at ho8 | (simp only [Int.reduceToNat] at ho8;rw [← Ny5.out] at ho8));have n0_:=a0_ (Kd.R_elder' (rr_ HO4.out) (Kd.R_base ho8) hb);have n1_:=a0_ (Kd.R_lower (Kd.R_new' ho8 (Kd.R_lt (rr_ HO4.out))) (below_size hb_));have n2_:=kb_ BK1 hb;have n3_:=a0_ (below_step hb_ hb);clear HO4 BK1 HB;have HO4:=n0_;have HO7:=n1_;have BK1:=n2_;have HB:=n3_;clear n0_ n1_ n2_ n3_;clear hb ho8))
 go_loopg [8,9,10] k (fun kq v8 v9 v10 w'=>∃ (x8_1 : List (S47)) (x9_1 : List (S47)) (x10_1 : Int),v10 = .int .i64 x10_1 ∧ Aside0 (spec_split.l0 kq l1 a2 x8_1 x9_1 x10_1 l0_0 = some (r1,r2)) ∧ Aside0 (kq ≤ k) ∧ Aside0 (Kd.R k47 47 w' w.heap.size (fun k_=>some k_ ≠ (v9 : Value).ownBlock) v8 x8_1) ∧ Aside0 (Kd.R k47 47 w' w.heap.size (fun k_=>some k_ ≠ (v8 : Value).ownBlock) v9 x9_1) ∧ Aside0 (w'.heap[gb1]? = some (.cells #[(.slice A0_0 l0_0.length c0_0)] 25 (0,0))) ∧ Aside0 (Below w.heap.size w w'))
 case atStart=>exact ⟨(y2),(y5),(0),(by first | rfl | (simp;done) | (simp [*];done)),H',⟨Nat.le_refl _⟩,⟨by (with_reducible repeat (first | apply Kd.R_alloc | apply Kd.R_drewN | apply Kd.R_drew));exact Kd.R_mono HO4.out (fun _ hk=>hk.2)⟩,⟨by (with_reducible repeat (first | apply Kd.R_alloc | apply Kd.R_drewN | apply Kd.R_drew));exact Kd.R_mono HO7.out (fun _ hk=>hk.2)⟩,⟨by (with_reducible repeat (first | refine blk_drewN ?_ _ | refine blk_drew ?_ | refine blk_alloc ?_ _));exact BK1.out⟩,⟨hb_⟩⟩
 case round =>
  clear H'
  try clear c1
  try clear p2
  try clear c4
  obtain ⟨x8_1,x9_1,x10_1,rfl,HA,HK1,HO_8,HO_9,BK1,HB⟩:=hrel
  cases gk with
  | zero=>exact absurd HA.out (by simp [spec_split.l0])
  | succ k1 =>
   have H:=HA.out
   clear HA
   simp only [spec_split.l0] at H
   by_cases c9 : x10_1 < (l1.length : Int)
   ·rw [if_pos c9] at H
    have c9b0 : decide (x10_1 < (l1.length : Int)) = true:=decide_eq_true c9
    clear c9
    replace H:=Option.bind_eq_some_iff.mp H
    obtain ⟨t8,A100,H⟩:=H
    try dsimp only at H
    have A10:=a0_ A100
    clear A100
    by_cases c11 : t8 = true
    ·subst c11
     have H1 : (if 0 ≤ x10_1 then (if x8_1.length < 4398046511104 then ((some (x8_1 ++ [(⟨(rd_T47 l1 x10_1).f0,(rd_T47 l1 x10_1).f1,(rd_T47 l1 x10_1).f2,(rd_T47 l1 x10_1).f3⟩ : S47)] : List (S47))).bind fun y10=>((spec_keeps.f k1 l0_0 l1 x10_1 a2 false).bind fun t13=>(if t13 = true then (if x9_1.length < 4398046511104 then (spec_split.l0 k1 l1 a2 y10 (x9_1 ++ [(⟨(rd_T47 l1 x10_1).f0,(rd_T47 l1 x10_1).f1,(rd_T47 l1 x10_1).f2,(rd_T47 l1 x10_1).f3⟩ : S47)]) (wrap64 (x10_1 + 1)) l0_0) else (none)) else (spec_split.l0 k1 l1 a2 y10 x9_1 (wrap64 (x10_1 + 1)) l0_0)))) else (none)) else (none)) = some (r1,r2):=by rw [if_pos rfl] at H;exact H
     clear H
     have H:=H1
     clear H1
     by_cases c12 : 0 ≤ x10_1
     ·rw [if_pos c12] at H
      have c12b0 : decide (0 ≤ x10_1) = true:=decide_eq_true c12
      clear c12
      by_cases c13 : x8_1.length < 4398046511104
      ·rw [if_pos c13] at H
       have LMc13:=a0_ c13
       clear c13
       obtain ⟨y10,hy10⟩ : ∃ y_ : List (S47),y_ = (x8_1 ++ [(⟨(rd_T47 l1 x10_1).f0,(rd_T47 l1 x10_1).f1,(rd_T47 l1 x10_1).f2,(rd_T47 l1 x10_1).f3⟩ : S47)]):=⟨_,rfl⟩
       replace H : ((spec_keeps.f k1 l0_0 l1 x10_1 a2 false).bind fun t13=>(if t13 = true then (if x9_1.length < 4398046511104 then (spec_split.l0 k1 l1 a2 y10 (x9_1 ++ [(⟨(rd_T47 l1 x10_1).f0,(rd_T47 l1 x10_1).f1,(rd_T47 l1 x10_1).f2,(rd_T47 l1 x10_1).f3⟩ : S47)]) (wrap64 (x10_1 + 1)) l0_0) else (none)) else (spec_split.l0 k1 l1 a2 y10 x9_1 (wrap64 (x10_1 + 1)) l0_0))) = some (r1,r2):=by first | (rw [hy10];with_reducible exact H) | (have H2_:=(Option.bind_some _ _).symm.trans H;rw [hy10];with_reducible exact H2_) | (have H2_:=(Option.bind_some _ _).symm.trans H;with_reducible exact H2_) | with_reducible exact H | (rw [hy10];exact H) | exact H
       have Ny10:=a0_ hy10
       clear hy10
       replace H:=Option.bind_eq_some_iff.mp H
       obtain ⟨t13,A140,H⟩:=H
       try dsimp only at H
       have A14:=a0_ A140
       clear A140
       by_cases c15 : t13 = true
       ·subst c15
        have H1 : (if x9_1.length < 4398046511104 then (spec_split.l0 k1 l1 a2 y10 (x9_1 ++ [(⟨(rd_T47 l1 x10_1).f0,(rd_T47 l1 x10_1).f1,(rd_T47 l1 x10_1).f2,(rd_T47 l1 x10_1).f3⟩ : S47)]) (wrap64 (x10_1 + 1)) l0_0) else (none)) = some (r1,r2):=by rw [if_pos rfl] at H;exact H
        clear H
        have H:=H1
        clear H1
        by_cases c16 : x9_1.length < 4398046511104
        ·rw [if_pos c16] at H
         have LMc16:=a0_ c16
         clear c16
         obtain ⟨y15,hy15⟩ : ∃ y_ : List (S47),y_ = (x9_1 ++ [(⟨(rd_T47 l1 x10_1).f0,(rd_T47 l1 x10_1).f1,(rd_T47 l1 x10_1).f2,(rd_T47 l1 x10_1).f3⟩ : S47)]):=⟨_,rfl⟩
         replace H : (spec_split.l0 k1 l1 a2 y10 y15 (wrap64 (x10_1 + 1)) l0_0) = some (r1,r2):=by first | (rw [hy15];with_reducible exact H) | (have H2_:=(Option.bind_some _ _).symm.trans H;rw [hy15];with_reducible exact H2_) | (have H2_:=(Option.bind_some _ _).symm.trans H;with_reducible exact H2_) | with_reducible exact H | (rw [hy15];exact H) | exact H
         have Ny15:=a0_ hy15
         clear hy15
         have H':=a0_ H
         clear H
         have hcz17_0 : wr.cell? ⟨gb1,0,none⟩ = some (.slice A0_0 l0_0.length c0_0):=(blk_cell BK1.out 0).trans rfl
         have hfz17_0:=blk_frozen BK1.out 0
         go_wp2_with (first | ((with_reducible refine gate_callee (f:=75) rfl ?_);refine goesL_ (some 23) rfl rfl Try.func75 (by kernel_rfl) rfl #[.agg #[.slice A0_0 l0_0.length c0_0],.slice A1 l1.length c1,.int .i64 x10_1,.int .i64 a2,.bool true] rfl lm_ ?_;(with_reducible refine (spec_keeps.calls k1 _ _ l0_0 _ _ l1 x10_1 a2 true true _ ?side1 ?side2 ?side3 ?side4 A10.out).mono ?_);(case side1=>exact cc_ (Kd.C_below HR0_0.out HB.out));(case side2=>exact HC0_0.out);(case side3=>exact cc_ (Kd.C_below HR1.out HB.out));(case side4=>exact HC1.out);rintro e w18 ⟨rfl,hb⟩;refine ⟨_,rfl,?_⟩;replace HO_8:=rb_ HO_8 hb;replace HO_9:=rb_ HO_9 hb;replace BK1:=kb_ BK1 hb;replace HB:=a0_ (below_step hb_ hb);(try clear hb);have p9 : 0 ≤ (x10_1 : Int):=of_decide_eq_true (by first | (with_reducible assumption) | assumption);have q9 : x10_1 < (l1.length : Int):=of_decide_eq_true (by first | (with_reducible assumption) | assumption);obtain ⟨ad9,e9,hx9_0,hx9_1,hx9_2,hx9_3⟩:=at_T47 HR1.out x10_1 p9 q9;cases e9;replace hx9_0:=(HB.out.cell (World.block_lt_of_cell? w _ hx9_0)).trans hx9_0;replace hx9_1:=(HB.out.cell (World.block_lt_of_cell? w _ hx9_1)).trans hx9_1;replace hx9_2:=(HB.out.cell (World.block_lt_of_cell? w _ hx9_2)).trans hx9_2;replace hx9_3:=(HB.out.cell (World.block_lt_of_cell? w _ hx9_3)).trans hx9_3;replace p9:=eq_true p9;replace q9:=eq_true q9) | ((with_reducible refine gate_builtin (b:=.append) (xs:=#[.tmp 24,.tmp 29]) rfl ?_);at_builtin;refine Kd.R_append k47 (w0:=w) w.heap.size rfl (.tmp 24) (.tmp 29) 26 47 (.agg #[(.int .i64 0),(.bool false),(.int .i64 0),(.int .i64 0)]) 32 rfl Try.underlying26 info47 rfl (by decide) (by omega) u8 x8_1 (⟨(rd_T47 l1 x10_1).f0,(rd_T47 l1 x10_1).f1,(rd_T47 l1 x10_1).f2,(rd_T47 l1 x10_1).f3⟩ : S47) [.int .i64 ((rd_T47 l1 x10_1).f0),.bool ((rd_T47 l1 x10_1).f1),.int .i64 ((rd_T47 l1 x10_1).f2),.int .i64 ((rd_T47 l1 x10_1).f3)] (fun k_=>some k_ ≠ (u9 : Value).ownBlock) (fun _=>False) rfl rfl ?aP (fun _ hk=>hk.elim) ?aF ?aO ?aB ?aS ?aL ?_;(case aP=>exact k47_mkM _ _ _ (⟨(rd_T47 l1 x10_1).f0,(rd_T47 l1 x10_1).f1,(rd_T47 l1 x10_1).f2,(rd_T47 l1 x10_1).f3⟩ : S47));(case aB=>exact hb_);(case aF=>exact (fun k_ hk=>Kd.fresh' (Kd.R_lt (rr_ HO_9.out)) k_ hk));(case aO=>exact (rr_ HO_8.out));(case aS=>exact (below_size hb_));(case aL=>have:=LMc13.out;omega);intro v11 w19 ho hb hg hat;rw [← Ny10.out] at ho;replace HO_9:=a0_ (Kd.R_after (ok:=(fun _=>True)) (rm_ HO_9.out (fun _ hk=>⟨trivial,hk⟩)) hg hat);replace BK1:=a0_ (blk_grown (bb_ BK1.out) hg (Kd.R_ne HO_8.out BK1.out (by decide)));have HO12:=a0_ (ho);replace HB:=a0_ (hb);clear HO_8;clear ho hb hg hat;have hcz20_0 : w19.cell? ⟨gb1,0,none⟩ = some (.slice A0_0 l0_0.length c0_0):=(blk_cell BK1.out 0).trans rfl;have hfz20_0:=blk_frozen BK1.out 0) | ((with_reducible refine gate_callee (f:=75) rfl ?_);refine goesL_ (some 35) rfl rfl Try.func75 (by kernel_rfl) rfl #[.agg #[.slice A0_0 l0_0.length c0_0],.slice (some ad9) l1.length c1,.int .i64 x10_1,.int .i64 a2,.bool false] rfl lm_ ?_;(with_reducible refine (spec_keeps.calls k1 _ _ l0_0 _ _ l1 x10_1 a2 false true _ ?side1 ?side2 ?side3 ?side4 A14.out).mono ?_);(case side1=>exact cc_ (Kd.C_below HR0_0.out HB.out));(case side2=>exact HC0_0.out);(case side3=>exact cc_ (Kd.C_below HR1.out HB.out));(case side4=>exact HC1.out);rintro e w21 ⟨rfl,hb⟩;refine ⟨_,rfl,?_⟩;replace HO_9:=rb_ HO_9 hb;replace HO12:=rb_ HO12 hb;replace BK1:=kb_ BK1 hb;replace HB:=a0_ (below_step hb_ hb);(try clear hb);have p14 : 0 ≤ (x10_1 : Int):=of_decide_eq_true (by first | (with_reducible assumption) | assumption);have q14 : x10_1 < (l1.length : Int):=of_decide_eq_true (by first | (with_reducible assumption) | assumption);obtain ⟨ad14,e14,hx14_0,hx14_1,hx14_2,hx14_3⟩:=at_T47 HR1.out x10_1 p14 q14;obtain rfl : ad9 = ad14:=(by injection e14);replace hx14_0:=(HB.out.cell (World.block_lt_of_cell? w _ hx14_0)).trans hx14_0;replace hx14_1:=(HB.out.cell (World.block_lt_of_cell? w _ hx14_1)).trans hx14_1;replace hx14_2:=(HB.out.cell (World.block_lt_of_cell? w _ hx14_2)).trans hx14_2;replace hx14_3:=(HB.out.cell (World.block_lt_of_cell? w _ hx14_3)).trans hx14_3;replace p14:=eq_true p14;replace q14:=eq_true q14) | ((with_reducible refine gate_builtin (b:=.append) (xs:=#[.tmp 36,.tmp 41]) rfl ?_);at_builtin;refine Kd.R_append k47 (w0:=w) w.heap.size rfl (.tmp 36) (.tmp 41) 26 47 (.agg #[(.int .i64 0),(.bool false),(.int .i64 0),(.int .i64 0)]) 32 rfl Try.underlying26 info47 rfl (by decide) (by omega) u9 x9_1 (⟨(rd_T47 l1 x10_1).f0,(rd_T47 l1 x10_1).f1,(rd_T47 l1 x10_1).f2,(rd_T47 l1 x10_1).f3⟩ : S47) [.int .i64 ((rd_T47 l1 x10_1).f0),.bool ((rd_T47 l1 x10_1).f1),.int .i64 ((rd_T47 l1 x10_1).f2),.int .i64 ((rd_T47 l1 x10_1).f3)] (fun k_=>some k_ ≠ (v11 : Value).ownBlock) (fun _=>False) rfl rfl ?aP (fun _ hk=>hk.elim) ?aF ?aO ?aB ?aS ?aL ?_;(case aP=>exact k47_mkM _ _ _ (⟨(rd_T47 l1 x10_1).f0,(rd_T47 l1 x10_1).f1,(rd_T47 l1 x10_1).f2,(rd_T47 l1 x10_1).f3⟩ : S47));(case aB=>exact hb_);(case aF=>exact (fun k_ hk=>Kd.fresh' (Kd.R_lt (rr_ HO12.out)) k_ hk));(case aO=>exact (rm_ HO_9.out (fun _ hk=>hk.2)));(case aS=>exact (below_size hb_));(case aL=>have:=LMc16.out;omega);intro v16 w22 ho hb hg hat;rw [← Ny15.out] at ho;replace BK1:=a0_ (blk_grown (bb_ BK1.out) hg (Kd.R_ne HO_9.out BK1.out (by decide)));replace HO12:=a0_ (Kd.R_after (ok:=(fun _=>True)) (rm_ HO12.out (fun _ hk=>⟨trivial,hk⟩)) hg hat);have HO17:=a0_ (ho);replace HB:=a0_ (hb);clear HO_9;clear ho hb hg hat))
         go_roundg k1
         case measure=>have:=HK1.out;omega
         case rel=>exact ⟨(y10),(y15),(wrap64 (x10_1 + 1)),(by first | rfl | (simp;done) | (simp [*];done)),H',⟨by have:=HK1.out;omega⟩,⟨by (with_reducible repeat (first | apply Kd.R_alloc | apply Kd.R_drewN | apply Kd.R_drew));exact Kd.R_mono HO12.out (fun _ hk=>hk.2)⟩,⟨by (with_reducible repeat (first | apply Kd.R_alloc | apply Kd.R_drewN | apply Kd.R_drew));exact HO17.out⟩,⟨by (with_reducible repeat (first | refine blk_drewN ?_ _ | refine blk_drew ?_ | refine blk_alloc ?_ _));exact BK1.out⟩,⟨hb_⟩⟩
        ·rw [if_neg c16] at H
         exact absurd H (by simp)
       ·replace c15:=Bool.eq_false_iff.mpr c15
        subst c15
        have H1 : (spec_split.l0 k1 l1 a2 y10 x9_1 (wrap64 (x10_1 + 1)) l0_0) = some (r1,r2):=by rw [if_neg (show ¬ (false = true) by decide)] at H;exact H
        clear H
        have H:=H1
        clear H1
        have H':=a0_ H
        clear H
        have hcz23_0 : wr.cell? ⟨gb1,0,none⟩ = some (.slice A0_0 l0_0.length c0_0):=(blk_cell BK1.out 0).trans rfl
        have hfz23_0:=blk_frozen BK1.out 0
        go_wp2_with (first | ((with_reducible refine gate_callee (f:=75) rfl ?_);refine goesL_ (some 23) rfl rfl Try.func75 (by kernel_rfl) rfl #[.agg #[.slice A0_0 l0_0.length c0_0],.slice A1 l1.length c1,.int .i64 x10_1,.int .i64 a2,.bool true] rfl lm_ ?_;(with_reducible refine (spec_keeps.calls k1 _ _ l0_0 _ _ l1 x10_1 a2 true true _ ?side1 ?side2 ?side3 ?side4 A10.out).mono ?_);(case side1=>exact cc_ (Kd.C_below HR0_0.out HB.out));(case side2=>exact HC0_0.out);(case side3=>exact cc_ (Kd.C_below HR1.out HB.out));(case side4=>exact HC1.out);rintro e w24 ⟨rfl,hb⟩;refine ⟨_,rfl,?_⟩;replace HO_8:=rb_ HO_8 hb;replace HO_9:=rb_ HO_9 hb;replace BK1:=kb_ BK1 hb;replace HB:=a0_ (below_step hb_ hb);(try clear hb);have p9 : 0 ≤ (x10_1 : Int):=of_decide_eq_true (by first | (with_reducible assumption) | assumption);have q9 : x10_1 < (l1.length : Int):=of_decide_eq_true (by first | (with_reducible assumption) | assumption);obtain ⟨ad9,e9,hx9_0,hx9_1,hx9_2,hx9_3⟩:=at_T47 HR1.out x10_1 p9 q9;cases e9;replace hx9_0:=(HB.out.cell (World.block_lt_of_cell? w _ hx9_0)).trans hx9_0;replace hx9_1:=(HB.out.cell (World.block_lt_of_cell? w _ hx9_1)).trans hx9_1;replace hx9_2:=(HB.out.cell (World.block_lt_of_cell? w _ hx9_2)).trans hx9_2;replace hx9_3:=(HB.out.cell (World.block_lt_of_cell? w _ hx9_3)).trans hx9_3;replace p9:=eq_true p9;replace q9:=eq_true q9) | ((with_reducible refine gate_builtin (b:=.append) (xs:=#[.tmp 24,.tmp 29]) rfl ?_);at_builtin;refine Kd.R_append k47 (w0:=w) w.heap.size rfl (.tmp 24) (.tmp 29) 26 47 (.agg #[(.int .i64 0),(.bool false),(.int .i64 0),(.int .i64 0)]) 32 rfl Try.underlying26 info47 rfl (by decide) (by omega) u8 x8_1 (⟨(rd_T47 l1 x10_1).f0,(rd_T47 l1 x10_1).f1,(rd_T47 l1 x10_1).f2,(rd_T47 l1 x10_1).f3⟩ : S47) [.int .i64 ((rd_T47 l1 x10_1).f0),.bool ((rd_T47 l1 x10_1).f1),.int .i64 ((rd_T47 l1 x10_1).f2),.int .i64 ((rd_T47 l1 x10_1).f3)] (fun k_=>some k_ ≠ (u9 : Value).ownBlock) (fun _=>False) rfl rfl ?aP (fun _ hk=>hk.elim) ?aF ?aO ?aB ?aS ?aL ?_;(case aP=>exact k47_mkM _ _ _ (⟨(rd_T47 l1 x10_1).f0,(rd_T47 l1 x10_1).f1,(rd_T47 l1 x10_1).f2,(rd_T47 l1 x10_1).f3⟩ : S47));(case aB=>exact hb_);(case aF=>exact (fun k_ hk=>Kd.fresh' (Kd.R_lt (rr_ HO_9.out)) k_ hk));(case aO=>exact (rr_ HO_8.out));(case aS=>exact (below_size hb_));(case aL=>have:=LMc13.out;omega);intro v11 w25 ho hb hg hat;rw [← Ny10.out] at ho;replace HO_9:=a0_ (Kd.R_after (ok:=(fun _=>True)) (rm_ HO_9.out (fun _ hk=>⟨trivial,hk⟩)) hg hat);replace BK1:=a0_ (blk_grown (bb_ BK1.out) hg (Kd.R_ne HO_8.out BK1.out (by decide)));have HO12:=a0_ (ho);replace HB:=a0_ (hb);clear HO_8;clear ho hb hg hat;have hcz26_0 : w25.cell? ⟨gb1,0,none⟩ = some (.slice A0_0 l0_0.length c0_0):=(blk_cell BK1.out 0).trans rfl;have hfz26_0:=blk_frozen BK1.out 0) | ((with_reducible refine gate_callee (f:=75) rfl ?_);refine goesL_ (some 35) rfl rfl Try.func75 (by kernel_rfl) rfl #[.agg #[.slice A0_0 l0_0.length c0_0],.slice (some ad9) l1.length c1,.int .i64 x10_1,.int .i64 a2,.bool false] rfl lm_ ?_;(with_reducible refine (spec_keeps.calls k1 _ _ l0_0 _ _ l1 x10_1 a2 false false _ ?side1 ?side2 ?side3 ?side4 A14.out).mono ?_);(case side1=>exact cc_ (Kd.C_below HR0_0.out HB.out));(case side2=>exact HC0_0.out);(case side3=>exact cc_ (Kd.C_below HR1.out HB.out));(case side4=>exact HC1.out);rintro e w27 ⟨rfl,hb⟩;refine ⟨_,rfl,?_⟩;replace HO_9:=rb_ HO_9 hb;replace HO12:=rb_ HO12 hb;replace BK1:=kb_ BK1 hb;replace HB:=a0_ (below_step hb_ hb);(try clear hb);(try clear hb2);(try clear hk);(try clear hi)))
        go_roundg k1
        case measure=>have:=HK1.out;omega
        case rel=>exact ⟨(y10),(x9_1),(wrap64 (x10_1 + 1)),(by first | rfl | (simp;done) | (simp [*];done)),H',⟨by have:=HK1.out;omega⟩,⟨by (with_reducible repeat (first | apply Kd.R_alloc | apply Kd.R_drewN | apply Kd.R_drew));exact HO12.out⟩,⟨by (with_reducible repeat (first | apply Kd.R_alloc | apply Kd.R_drewN | apply Kd.R_drew));exact Kd.R_mono HO_9.out (fun _ hk=>hk.2)⟩,⟨by (with_reducible repeat (first | refine blk_drewN ?_ _ | refine blk_drew ?_ | refine blk_alloc ?_ _));exact BK1.out⟩,⟨hb_⟩⟩
      ·rw [if_neg c13] at H
       exact absurd H (by simp)
     ·rw [if_neg c12] at H
      exact absurd H (by simp)
    ·replace c11:=Bool.eq_false_iff.mpr c11
     subst c11
     have H1 : ((spec_keeps.f k1 l0_0 l1 x10_1 a2 false).bind fun t18=>(if t18 = true then (if 0 ≤ x10_1 then (if x9_1.length < 4398046511104 then (spec_split.l0 k1 l1 a2 x8_1 (x9_1 ++ [(⟨(rd_T47 l1 x10_1).f0,(rd_T47 l1 x10_1).f1,(rd_T47 l1 x10_1).f2,(rd_T47 l1 x10_1).f3⟩ : S47)]) (wrap64 (x10_1 + 1)) l0_0) else (none)) else (none)) else (spec_split.l0 k1 l1 a2 x8_1 x9_1 (wrap64 (x10_1 + 1)) l0_0))) = some (r1,r2):=by rw [if_neg (show ¬ (false = true) by decide)] at H;exact H
     clear H
     have H:=H1
     clear H1
     replace H:=Option.bind_eq_some_iff.mp H
     obtain ⟨t18,A280,H⟩:=H
     try dsimp only at H
     have A28:=a0_ A280
     clear A280
     by_cases c29 : t18 = true
     ·subst c29
      have H1 : (if 0 ≤ x10_1 then (if x9_1.length < 4398046511104 then (spec_split.l0 k1 l1 a2 x8_1 (x9_1 ++ [(⟨(rd_T47 l1 x10_1).f0,(rd_T47 l1 x10_1).f1,(rd_T47 l1 x10_1).f2,(rd_T47 l1 x10_1).f3⟩ : S47)]) (wrap64 (x10_1 + 1)) l0_0) else (none)) else (none)) = some (r1,r2):=by rw [if_pos rfl] at H;exact H
      clear H
      have H:=H1
      clear H1
      by_cases c30 : 0 ≤ x10_1
      ·rw [if_pos c30] at H
       have c30b0 : decide (0 ≤ x10_1) = true:=decide_eq_true c30
       clear c30
       by_cases c31 : x9_1.length < 4398046511104
       ·rw [if_pos c31] at H
        have LMc31:=a0_ c31
        clear c31
        obtain ⟨y20,hy20⟩ : ∃ y_ : List (S47),y_ = (x9_1 ++ [(⟨(rd_T47 l1 x10_1).f0,(rd_T47 l1 x10_1).f1,(rd_T47 l1 x10_1).f2,(rd_T47 l1 x10_1).f3⟩ : S47)]):=⟨_,rfl⟩
        replace H : (spec_split.l0 k1 l1 a2 x8_1 y20 (wrap64 (x10_1 + 1)) l0_0) = some (r1,r2):=by first | (rw [hy20];with_reducible exact H) | (have H2_:=(Option.bind_some _ _).symm.trans H;rw [hy20];with_reducible exact H2_) | (have H2_:=(Option.bind_some _ _).symm.trans H;with_reducible exact H2_) | with_reducible exact H | (rw [hy20];exact H) | exact H
        have Ny20:=a0_ hy20
        clear hy20
        have H':=a0_ H
        clear H
        have hcz32_0 : wr.cell? ⟨gb1,0,none⟩ = some (.slice A0_0 l0_0.length c0_0):=(blk_cell BK1.out 0).trans rfl
        have hfz32_0:=blk_frozen BK1.out 0
        go_wp2_with (first | ((with_reducible refine gate_callee (f:=75) rfl ?_);refine goesL_ (some 23) rfl rfl Try.func75 (by kernel_rfl) rfl #[.agg #[.slice A0_0 l0_0.length c0_0],.slice A1 l1.length c1,.int .i64 x10_1,.int .i64 a2,.bool true] rfl lm_ ?_;(with_reducible refine (spec_keeps.calls k1 _ _ l0_0 _ _ l1 x10_1 a2 true false _ ?side1 ?side2 ?side3 ?side4 A10.out).mono ?_);(case side1=>exact cc_ (Kd.C_below HR0_0.out HB.out));(case side2=>exact HC0_0.out);(case side3=>exact cc_ (Kd.C_below HR1.out HB.out));(case side4=>exact HC1.out);rintro e w33 ⟨rfl,hb⟩;refine ⟨_,rfl,?_⟩;replace HO_8:=rb_ HO_8 hb;replace HO_9:=rb_ HO_9 hb;replace BK1:=kb_ BK1 hb;replace HB:=a0_ (below_step hb_ hb);(try clear hb);have hcz34_0 : w33.cell? ⟨gb1,0,none⟩ = some (.slice A0_0 l0_0.length c0_0):=(blk_cell BK1.out 0).trans rfl;have hfz34_0:=blk_frozen BK1.out 0) | ((with_reducible refine gate_callee (f:=75) rfl ?_);refine goesL_ (some 35) rfl rfl Try.func75 (by kernel_rfl) rfl #[.agg #[.slice A0_0 l0_0.length c0_0],.slice A1 l1.length c1,.int .i64 x10_1,.int .i64 a2,.bool false] rfl lm_ ?_;(with_reducible refine (spec_keeps.calls k1 _ _ l0_0 _ _ l1 x10_1 a2 false true _ ?side1 ?side2 ?side3 ?side4 A28.out).mono ?_);(case side1=>exact cc_ (Kd.C_below HR0_0.out HB.out));(case side2=>exact HC0_0.out);(case side3=>exact cc_ (Kd.C_below HR1.out HB.out));(case side4=>exact HC1.out);rintro e w35 ⟨rfl,hb⟩;refine ⟨_,rfl,?_⟩;replace HO_8:=rb_ HO_8 hb;replace HO_9:=rb_ HO_9 hb;replace BK1:=kb_ BK1 hb;replace HB:=a0_ (below_step hb_ hb);(try clear hb);have p19 : 0 ≤ (x10_1 : Int):=of_decide_eq_true (by first | (with_reducible assumption) | assumption);have q19 : x10_1 < (l1.length : Int):=of_decide_eq_true (by first | (with_reducible assumption) | assumption);obtain ⟨ad19,e19,hx19_0,hx19_1,hx19_2,hx19_3⟩:=at_T47 HR1.out x10_1 p19 q19;cases e19;replace hx19_0:=(HB.out.cell (World.block_lt_of_cell? w _ hx19_0)).trans hx19_0;replace hx19_1:=(HB.out.cell (World.block_lt_of_cell? w _ hx19_1)).trans hx19_1;replace hx19_2:=(HB.out.cell (World.block_lt_of_cell? w _ hx19_2)).trans hx19_2;replace hx19_3:=(HB.out.cell (World.block_lt_of_cell? w _ hx19_3)).trans hx19_3;replace p19:=eq_true p19;replace q19:=eq_true q19) | ((with_reducible refine gate_builtin (b:=.append) (xs:=#[.tmp 36,.tmp 41]) rfl ?_);at_builtin;refine Kd.R_append k47 (w0:=w) w.heap.size rfl (.tmp 36) (.tmp 41) 26 47 (.agg #[(.int .i64 0),(.bool false),(.int .i64 0),(.int .i64 0)]) 32 rfl Try.underlying26 info47 rfl (by decide) (by omega) u9 x9_1 (⟨(rd_T47 l1 x10_1).f0,(rd_T47 l1 x10_1).f1,(rd_T47 l1 x10_1).f2,(rd_T47 l1 x10_1).f3⟩ : S47) [.int .i64 ((rd_T47 l1 x10_1).f0),.bool ((rd_T47 l1 x10_1).f1),.int .i64 ((rd_T47 l1 x10_1).f2),.int .i64 ((rd_T47 l1 x10_1).f3)] (fun k_=>some k_ ≠ (u8 : Value).ownBlock) (fun _=>False) rfl rfl ?aP (fun _ hk=>hk.elim) ?aF ?aO ?aB ?aS ?aL ?_;(case aP=>exact k47_mkM _ _ _ (⟨(rd_T47 l1 x10_1).f0,(rd_T47 l1 x10_1).f1,(rd_T47 l1 x10_1).f2,(rd_T47 l1 x10_1).f3⟩ : S47));(case aB=>exact hb_);(case aF=>exact (fun k_ hk=>Kd.fresh' (Kd.R_lt (rr_ HO_8.out)) k_ hk));(case aO=>exact (rr_ HO_9.out));(case aS=>exact (below_size hb_));(case aL=>have:=LMc31.out;omega);intro v21 w36 ho hb hg hat;rw [← Ny20.out] at ho;replace HO_8:=a0_ (Kd.R_after (ok:=(fun _=>True)) (rm_ HO_8.out (fun _ hk=>⟨trivial,hk⟩)) hg hat);replace BK1:=a0_ (blk_grown (bb_ BK1.out) hg (Kd.R_ne HO_9.out BK1.out (by decide)));have HO22:=a0_ (ho);replace HB:=a0_ (hb);clear HO_9;clear ho hb hg hat))
        go_roundg k1
        case measure=>have:=HK1.out;omega
        case rel=>exact ⟨(x8_1),(y20),(wrap64 (x10_1 + 1)),(by first | rfl | (simp;done) | (simp [*];done)),H',⟨by have:=HK1.out;omega⟩,⟨by (with_reducible repeat (first | apply Kd.R_alloc | apply Kd.R_drewN | apply Kd.R_drew));exact Kd.R_mono HO_8.out (fun _ hk=>hk.2)⟩,⟨by (with_reducible repeat (first | apply Kd.R_alloc | apply Kd.R_drewN | apply Kd.R_drew));exact HO22.out⟩,⟨by (with_reducible repeat (first | refine blk_drewN ?_ _ | refine blk_drew ?_ | refine blk_alloc ?_ _));exact BK1.out⟩,⟨hb_⟩⟩
       ·rw [if_neg c31] at H
        exact absurd H (by simp)
      ·rw [if_neg c30] at H
       exact absurd H (by simp)
     ·replace c29:=Bool.eq_false_iff.mpr c29
      subst c29
      have H1 : (spec_split.l0 k1 l1 a2 x8_1 x9_1 (wrap64 (x10_1 + 1)) l0_0) = some (r1,r2):=by rw [if_neg (show ¬ (false = true) by decide)] at H;exact H
      clear H
      have H:=H1
      clear H1
      have H':=a0_ H
      clear H
      have hcz37_0 : wr.cell? ⟨gb1,0,none⟩ = some (.slice A0_0 l0_0.length c0_0):=(blk_cell BK1.out 0).trans rfl
      have hfz37_0:=blk_frozen BK1.out 0
      go_wp2_with (first | ((with_reducible refine gate_callee (f:=75) rfl ?_);refine goesL_ (some 23) rfl rfl Try.func75 (by kernel_rfl) rfl #[.agg #[.slice A0_0 l0_0.length c0_0],.slice A1 l1.length c1,.int .i64 x10_1,.int .i64 a2,.bool true] rfl lm_ ?_;(with_reducible refine (spec_keeps.calls k1 _ _ l0_0 _ _ l1 x10_1 a2 true false _ ?side1 ?side2 ?side3 ?side4 A10.out).mono ?_);(case side1=>exact cc_ (Kd.C_below HR0_0.out HB.out));(case side2=>exact HC0_0.out);(case side3=>exact cc_ (Kd.C_below HR1.out HB.out));(case side4=>exact HC1.out);rintro e w38 ⟨rfl,hb⟩;refine ⟨_,rfl,?_⟩;replace HO_8:=rb_ HO_8 hb;replace HO_9:=rb_ HO_9 hb;replace BK1:=kb_ BK1 hb;replace HB:=a0_ (below_step hb_ hb);(try clear hb);have hcz39_0 : w38.cell? ⟨gb1,0,none⟩ = some (.slice A0_0 l0_0.length c0_0):=(blk_cell BK1.out 0).trans rfl;have hfz39_0:=blk_frozen BK1.out 0) | ((with_reducible refine gate_callee (f:=75) rfl ?_);refine goesL_ (some 35) rfl rfl Try.func75 (by kernel_rfl) rfl #[.agg #[.slice A0_0 l0_0.length c0_0],.slice A1 l1.length c1,.int .i64 x10_1,.int .i64 a2,.bool false] rfl lm_ ?_;(with_reducible refine (spec_keeps.calls k1 _ _ l0_0 _ _ l1 x10_1 a2 false false _ ?side1 ?side2 ?side3 ?side4 A28.out).mono ?_);(case side1=>exact cc_ (Kd.C_below HR0_0.out HB.out));(case side2=>exact HC0_0.out);(case side3=>exact cc_ (Kd.C_below HR1.out HB.out));(case side4=>exact HC1.out);rintro e w40 ⟨rfl,hb⟩;refine ⟨_,rfl,?_⟩;replace HO_8:=rb_ HO_8 hb;replace HO_9:=rb_ HO_9 hb;replace BK1:=kb_ BK1 hb;replace HB:=a0_ (below_step hb_ hb);(try clear hb);(try clear hb2);(try clear hk);(try clear hi)))
      go_roundg k1
      case measure=>have:=HK1.out;omega
      case rel=>exact ⟨(x8_1),(x9_1),(wrap64 (x10_1 + 1)),(by first | rfl | (simp;done) | (simp [*];done)),H',⟨by have:=HK1.out;omega⟩,⟨by (with_reducible repeat (first | apply Kd.R_alloc | apply Kd.R_drewN | apply Kd.R_drew));exact HO_8.out⟩,⟨by (with_reducible repeat (first | apply Kd.R_alloc | apply Kd.R_drewN | apply Kd.R_drew));exact HO_9.out⟩,⟨by (with_reducible repeat (first | refine blk_drewN ?_ _ | refine blk_drew ?_ | refine blk_alloc ?_ _));exact BK1.out⟩,⟨hb_⟩⟩
   ·rw [if_neg c9] at H
    have c9b0 : decide (x10_1 < (l1.length : Int)) = false:=decide_eq_false c9
    clear c9
    simp only [Option.some.injEq,Prod.mk.injEq] at H
    obtain ⟨rfl,rfl⟩:=H
    go_wp2
    go_ret2
    exact ⟨_,_,by first | rfl | (simp [errW_none,errW_some] <;> rfl) | (simp [*,errW_none,errW_some] <;> rfl),by (with_reducible repeat (first | apply Kd.R_alloc | apply Kd.R_drewN | apply Kd.R_drew));exact HO_8.out,by (with_reducible repeat (first | apply Kd.R_alloc | apply Kd.R_drewN | apply Kd.R_drew));exact HO_9.out,hb_⟩
theorem spec_split_ev {t : List Cls} (h : vT t = true) (g : List Prt) (hg : lfOk t g) (hl : g.length ≤ 1048576) (a : Int) : Ev (fun k=>spec_split.f k t g a) (selN t g a true g.length,selN t g a false g.length):=by
 have key : ∀ d i,i + d = g.length → Ev (fun k=>spec_split.l0 k g a (selN t g a true i) (selN t g a false i) (i : Int) t) (selN t g a true g.length,selN t g a false g.length):=by
  intro d
  induction d with
  | zero =>
   intro i hi
   obtain rfl : i = g.length:=by omega
   refine Ev.succ ?_
   simp only [spec_split.l0]
   exact Ev.neg (by omega) (Ev.const rfl)
  | succ d ih =>
   intro i hi
   have hlt : i < g.length:=by omega
   have hrd : rd_T47 g (i : Int) = g.getD i z47:=by simp [rd_T47]
   have hn:=ih (i + 1) (by omega)
   rw [selN_succ t g a true i,selN_succ t g a false i] at hn
   have l1:=selN_len t g a true i
   have l2:=selN_len t g a false i
   refine Ev.succ ?_
   simp only [spec_split.l0,hrd]
   rw [wrap_succ (i:=(i : Int)) (n:=g.length) (by omega) (by omega) (by omega)]
   have k1:=spec_keeps_ev h g hg (by omega) i hlt a true
   have k2:=spec_keeps_ev h g hg (by omega) i hlt a false
   refine Ev.pos (by omega) (Ev.bind k1 ?_)
   cases h1 : keepsB t g i a true with
   | true =>
    rw [h1,if_pos rfl] at hn
    refine Ev.pos rfl (Ev.pos (by omega) (Ev.pos (by omega) (Ev.bind (Ev.const rfl) (Ev.bind k2 ?_))))
    cases h2 : keepsB t g i a false with
    | true =>
     rw [h2,if_pos rfl] at hn
     exact Ev.pos rfl (Ev.pos (by omega) hn)
    | false =>
     rw [h2,if_neg (by simp),List.append_nil] at hn
     exact Ev.neg (by simp) hn
   | false =>
    rw [h1,if_neg (by simp),List.append_nil] at hn
    refine Ev.neg (by simp) (Ev.bind k2 ?_)
    cases h2 : keepsB t g i a false with
    | true =>
     rw [h2,if_pos rfl] at hn
     exact Ev.pos rfl (Ev.pos (by omega) (Ev.pos (by omega) hn))
    | false =>
     rw [h2,if_neg (by simp),List.append_nil] at hn
     exact Ev.neg (by simp) hn
 exact key g.length 0 (by omega)
end Go.Proofs.Ytfphcdbnnienhaa.P
namespace Go.Proofs.Ytfphcdbnnienhaa.P
open Go.RowKit Go.Proofs.YtfphcdbnnienhaaW.PrintWords Go.Proofs.YtfphcdbnnienhaaW.PrintLast Go.Proofs.YtfphcdbnnienhaaW.PrintMore
attribute [local go_sem] max2_int min2_int max_two min_two max_three min_three max_four min_four
set_option linter.unusedVariables false
set_option linter.unusedSimpArgs false
def spec_goodCatches.l0 : Nat → List Int → Int → List (S85) → Option (Bool)
 | 0,_,_,_=>none
 | k + 1,x1,x5,x2000=>if x5 < (x1.length : Int) then (if 0 ≤ x5 then ((spec_hasClass.f x2000 (rd x1 x5)).bind fun t3=>(if t3 = true then (spec_goodCatches.l0 k x1 (wrap64 (x5 + 1)) x2000) else (some false))) else (none)) else ((spec_validTree.f x2000).bind fun t4=>(if t4 = true then (some (decide ((x1.length : Int) ≤ 6))) else (some false)))
def spec_goodCatches.f (k : Nat) (l0_0 : List (S85)) (l1 : List Int) : Option (Bool):=spec_goodCatches.l0 k l1 0 l0_0
theorem spec_goodCatches.mono_l : ∀ k,(∀ y0 y1 y2,LeO (spec_goodCatches.l0 k y0 y1 y2) (spec_goodCatches.l0 (k + 1) y0 y1 y2))
 | 0=>fun _ _ _ r h=>by simp [spec_goodCatches.l0] at h
 | k + 1=>by
  have ih0:=spec_goodCatches.mono_l k
  ·intro y0 y1 y2
   unfold spec_goodCatches.l0
   repeat' first
   | (with_reducible exact ih0 _ _ _)
   | (with_reducible exact LeO.refl _)
   | (with_reducible exact LeO.none _)
   | (with_reducible refine LeO.ite ?_ ?_)
   | (with_reducible refine LeO.bind ?_ (fun _=>?_))
   | exact ih0 _ _ _
   | exact LeO.none _
   | refine LeO.ite ?_ ?_
   | refine LeO.bind ?_ (fun _=>?_)
theorem spec_goodCatches.mono : ∀ a0 a1 k,LeO (spec_goodCatches.f k a0 a1) (spec_goodCatches.f (k + 1) a0 a1):=by
 intro a0 a1 k
 have ih0:=spec_goodCatches.mono_l k
 unfold spec_goodCatches.f
 repeat' first
   | (with_reducible exact ih0 _ _ _)
   | (with_reducible exact LeO.refl _)
   | (with_reducible exact LeO.none _)
   | (with_reducible refine LeO.ite ?_ ?_)
   | (with_reducible refine LeO.bind ?_ (fun _=>?_))
   | exact ih0 _ _ _
   | exact LeO.none _
   | refine LeO.ite ?_ ?_
   | refine LeO.bind ?_ (fun _=>?_)
set_option maxHeartbeats 8000000 in
set_option maxRecDepth 100000 in
theorem spec_goodCatches.calls (k : Nat) (A0_0 : Option Addr) (c0_0 : Nat) (l0_0 : List (S85)) (A1 : Option Addr) (c1 : Nat) (l1 : List Int) (r : Bool) (w : World) (hr0_0 : Kd.C k85 w A0_0 l0_0.length l0_0) (hc0_0 : l0_0.length ≤ c0_0) (hr1 : Kd.C (Kd.int .i64) w A1 l1.length l1) (hc1 : l1.length ≤ c1) (h : spec_goodCatches.f k l0_0 l1 = some r) :
  Calls Try.prog 54 #[.agg #[.slice A0_0 l0_0.length c0_0],.slice A1 l1.length c1] w fun e w'=>e = .returned (.bool r) ∧ Below w.heap.size w w':=by
 have hu25:=Try.underlying25
 have HR0_0:=a0_ hr0_0
 have HC0_0:=a0_ hc0_0
 clear hr0_0 hc0_0
 have HR1:=a0_ hr1
 have HC1:=a0_ hc1
 clear hr1 hc1
 have HB:=a0_ (Below.refl w.heap.size w)
 have H : (spec_goodCatches.l0 k l1 0 l0_0) = some r:=h
 clear h
 have H':=a0_ H
 clear H
 go_enter Try.func54,Try.ntmps54
 go_wp2_with (first | ((with_reducible refine gate_dst (N:=2) rfl ?_);(try (refine gate_guard (by rfl) ?_;dsimp only));refine box_event ?hg (N:=2) ?hd (cs:=#[.slice A0_0 l0_0.length c0_0]) (t:=25) ?hr ?_;(case hd=>rfl);(case hg=>rfl);(case hr=>first | (go_simp;done) | (go_simp;rfl));intro gb1 hg w3 hbox hb;have BK1:=a0_ (hbox);have GW1:=a0_ ((by rw [hg];exact (below_size hb_) : w.heap.size ≤ gb1));have GE1:=a0_ ((by rw [hg];exact (below_size hb_) : w.heap.size ≤ gb1));replace HB:=a0_ (below_step hb_ hb);clear hb hbox hg))
 go_loopg [5] k (fun kq v5 w'=>∃ (x5_1 : Int),v5 = .int .i64 x5_1 ∧ Aside0 (spec_goodCatches.l0 kq l1 x5_1 l0_0 = some r) ∧ Aside0 (kq ≤ k) ∧ Aside0 (w'.heap[gb1]? = some (.cells #[(.slice A0_0 l0_0.length c0_0)] 25 (0,0))) ∧ Aside0 (Below w.heap.size w w'))
 case atStart=>exact ⟨(0),(by first | rfl | (simp;done) | (simp [*];done)),H',⟨Nat.le_refl _⟩,⟨by (with_reducible repeat (first | refine blk_drewN ?_ _ | refine blk_drew ?_ | refine blk_alloc ?_ _));exact BK1.out⟩,⟨hb_⟩⟩
 case round =>
  clear H'
  try clear c1
  try clear p2
  obtain ⟨x5_1,rfl,HA,HK1,BK1,HB⟩:=hrel
  cases gk with
  | zero=>exact absurd HA.out (by simp [spec_goodCatches.l0])
  | succ k1 =>
   have H:=HA.out
   clear HA
   simp only [spec_goodCatches.l0] at H
   by_cases c4 : x5_1 < (l1.length : Int)
   ·rw [if_pos c4] at H
    have c4b0 : decide (x5_1 < (l1.length : Int)) = true:=decide_eq_true c4
    clear c4
    by_cases c5 : 0 ≤ x5_1
    ·rw [if_pos c5] at H
     have c5b0 : decide (0 ≤ x5_1) = true:=decide_eq_true c5
     clear c5
     replace H:=Option.bind_eq_some_iff.mp H
     obtain ⟨t3,A60,H⟩:=H
     try dsimp only at H
     have A6:=a0_ A60
     clear A60
     by_cases c7 : t3 = true
     ·subst c7
      have H1 : (spec_goodCatches.l0 k1 l1 (wrap64 (x5_1 + 1)) l0_0) = some r:=by rw [if_pos rfl] at H;exact H
      clear H
      have H:=H1
      clear H1
      have H':=a0_ H
      clear H
      try go_wp2
      have n0_:=a0_ (blk_drew BK1.out)
      have n1_:=a0_ (below_drew1 HB.out)
      clear BK1
      clear HB
      have BK1:=n0_
      have HB:=n1_
      clear n0_ n1_
      have p2 : 0 ≤ (x5_1 : Int):=of_decide_eq_true (by first | (with_reducible assumption) | assumption)
      have q2 : x5_1 < (l1.length : Int):=of_decide_eq_true (by first | (with_reducible assumption) | assumption)
      obtain ⟨ad2,e2,hx2_0⟩:=Kd.at_int HR1.out x5_1 p2 q2
      have hw2_0:=hx2_0
      cases e2
      replace hx2_0:=(HB.out.cell (World.block_lt_of_cell? w _ hx2_0)).trans hx2_0
      replace p2:=eq_true p2
      replace q2:=eq_true q2
      refine start_ (n:=7) (S:=fun w'=>w'.cell? ⟨gb1,0,none⟩ = some (.slice A0_0 l0_0.length c0_0) ∧ w'.cell? (ad2.add (x5_1).toNat) = some (.int .i64 (rd l1 x5_1))) (ds:=[]) #[false,false,false,false,false,false,false] (by kernel_rfl) rfl rfl ⟨(blk_cell BK1.out 0).trans rfl,((HB.out.cell (World.block_lt_of_cell? w _ hw2_0)).trans hw2_0)⟩ (fun hHeld=>?_)
      generalize wr.drew = w8 at BK1 HB hx2_0 hHeld ⊢
      refine pure_ (i:=1) (N:=some 13) (v:=?_) (a':=?_) #[false,true,false,false,false,false,false] rfl rfl (by kernel_rfl) (fun _ _ _ h=>h) (Or.inl ⟨by rfl,?_⟩) ?_ ?_
      rotate_left
      ·intro w'
       go_simp
       with_reducible rfl
      rotate_left
      ·simp only [Act.put,s1_,s2_,s3_,i64_w,i32_w]
       rfl
      refine pure_ (i:=2) (N:=some 14) (v:=?_) (a':=?_) #[false,true,true,false,false,false,false] rfl rfl (by kernel_rfl) (fun _ _ _ h=>h) (Or.inl ⟨by rfl,?_⟩) ?_ ?_
      rotate_left
      ·intro w'
       go_simp
       with_reducible rfl
      rotate_left
      ·simp only [Act.put,s1_,s2_,s3_,i64_w,i32_w]
       rfl
      refine pure_ (i:=3) (N:=some 15) (v:=?_) (a':=?_) #[false,true,true,true,false,false,false] rfl rfl (by kernel_rfl) (fun _ _ _ h=>h) (Or.inl ⟨by rfl,?_⟩) ?_ ?_
      rotate_left
      ·intro w'
       go_simp
       with_reducible rfl
      rotate_left
      ·simp only [Act.put,s1_,s2_,s3_,i64_w,i32_w]
       rfl
      refine take_ (i:=0) (N:=some 12) (v:=?_) (a':=?_) #[true,true,true,true,false,false,false] rfl rfl (by kernel_rfl) (fun _ _ _ h=>h) (Or.inl ⟨by rfl,?_⟩) hHeld ?_ ?_
      rotate_left
      ·rintro w' ⟨s0,s1⟩
       go_simp
       with_reducible rfl
      rotate_left
      ·simp only [Act.put,s1_,s2_,s3_,i64_w,i32_w]
       rfl
      refine take_ (i:=4) (N:=some 16) (v:=?_) (a':=?_) #[true,true,true,true,true,false,false] rfl rfl (by kernel_rfl) (fun _ _ _ h=>h) (Or.inl ⟨by rfl,?_⟩) hHeld ?_ ?_
      rotate_left
      ·rintro w' ⟨s0,s1⟩
       go_simp
       with_reducible rfl
      rotate_left
      ·simp only [Act.put,s1_,s2_,s3_,i64_w,i32_w]
       rfl
      refine one_ (i:=5) (N:=some 17) #[true,true,true,true,true,true,false] rfl rfl (by kernel_rfl) (by decide) (fun K hK=>?_)
      refine goes_ Try.func48 (by kernel_rfl) rfl #[.agg #[.slice A0_0 l0_0.length c0_0],.int .i64 (rd l1 x5_1)] (by rfl) rfl rfl lm_ ?_
      with_reducible refine (spec_hasClass.calls _ _ l0_0 (rd l1 x5_1) true _ ?side1 ?side2 A6.out).mono ?_
      (case side1=>exact cc_ (Kd.C_below HR0_0.out HB.out))
      (case side2=>exact HC0_0.out)
      rintro e w9 ⟨rfl,hb⟩
      refine ⟨_,rfl,?_⟩
      have n0_:=kb_ BK1 hb
      have n1_:=a0_ (below_step hb_ hb)
      clear BK1
      clear HB
      have BK1:=n0_
      have HB:=n1_
      clear n0_ n1_
      (try clear hb)
      (try clear hb2)
      (try clear hk)
      (try clear hi)
      refine hK.out _ _ ⟨(blk_cell BK1.out 0).trans rfl,((HB.out.cell (World.block_lt_of_cell? w _ hw2_0)).trans hw2_0)⟩ (fun hHeld=>?_)
      clear hK K
      refine norm_ (a':=?_) ?_ ?_
      rotate_left
      ·show Act.put _ (some 17) _ = _
       simp only [Act.put,s1_,s2_,s3_,i64_w,i32_w]
       rfl
      refine pure_ (i:=6) (N:=some 18) (v:=?_) (a':=?_) #[true,true,true,true,true,true,true] rfl rfl (by kernel_rfl) (fun _ _ _ h=>h) (Or.inl ⟨by rfl,?_⟩) ?_ ?_
      rotate_left
      ·intro w'
       go_simp
       with_reducible rfl
      rotate_left
      ·simp only [Act.put,s1_,s2_,s3_,i64_w,i32_w]
       rfl
      refine done_ (by kernel_rfl) ?_
      try go_wp2
      go_roundg k1
      case measure=>have:=HK1.out;omega
      case rel=>exact ⟨(wrap64 (x5_1 + 1)),(by first | rfl | (simp;done) | (simp [*];done)),H',⟨by have:=HK1.out;omega⟩,⟨by (with_reducible repeat (first | refine blk_drewN ?_ _ | refine blk_drew ?_ | refine blk_alloc ?_ _));exact BK1.out⟩,⟨hb_⟩⟩
     ·replace c7:=Bool.eq_false_iff.mpr c7
      subst c7
      have H1 : (some false) = some r:=by rw [if_neg (show ¬ (false = true) by decide)] at H;exact H
      clear H
      have H:=H1
      clear H1
      obtain rfl:=Option.some.inj H
      try go_wp2
      have n0_:=a0_ (blk_drew BK1.out)
      have n1_:=a0_ (below_drew1 HB.out)
      clear BK1
      clear HB
      have BK1:=n0_
      have HB:=n1_
      clear n0_ n1_
      have p2 : 0 ≤ (x5_1 : Int):=of_decide_eq_true (by first | (with_reducible assumption) | assumption)
      have q2 : x5_1 < (l1.length : Int):=of_decide_eq_true (by first | (with_reducible assumption) | assumption)
      obtain ⟨ad2,e2,hx2_0⟩:=Kd.at_int HR1.out x5_1 p2 q2
      have hw2_0:=hx2_0
      cases e2
      replace hx2_0:=(HB.out.cell (World.block_lt_of_cell? w _ hx2_0)).trans hx2_0
      replace p2:=eq_true p2
      replace q2:=eq_true q2
      refine start_ (n:=7) (S:=fun w'=>w'.cell? ⟨gb1,0,none⟩ = some (.slice A0_0 l0_0.length c0_0) ∧ w'.cell? (ad2.add (x5_1).toNat) = some (.int .i64 (rd l1 x5_1))) (ds:=[]) #[false,false,false,false,false,false,false] (by kernel_rfl) rfl rfl ⟨(blk_cell BK1.out 0).trans rfl,((HB.out.cell (World.block_lt_of_cell? w _ hw2_0)).trans hw2_0)⟩ (fun hHeld=>?_)
      generalize wr.drew = w10 at BK1 HB hx2_0 hHeld ⊢
      refine pure_ (i:=1) (N:=some 13) (v:=?_) (a':=?_) #[false,true,false,false,false,false,false] rfl rfl (by kernel_rfl) (fun _ _ _ h=>h) (Or.inl ⟨by rfl,?_⟩) ?_ ?_
      rotate_left
      ·intro w'
       go_simp
       with_reducible rfl
      rotate_left
      ·simp only [Act.put,s1_,s2_,s3_,i64_w,i32_w]
       rfl
      refine pure_ (i:=2) (N:=some 14) (v:=?_) (a':=?_) #[false,true,true,false,false,false,false] rfl rfl (by kernel_rfl) (fun _ _ _ h=>h) (Or.inl ⟨by rfl,?_⟩) ?_ ?_
      rotate_left
      ·intro w'
       go_simp
       with_reducible rfl
      rotate_left
      ·simp only [Act.put,s1_,s2_,s3_,i64_w,i32_w]
       rfl
      refine pure_ (i:=3) (N:=some 15) (v:=?_) (a':=?_) #[false,true,true,true,false,false,false] rfl rfl (by kernel_rfl) (fun _ _ _ h=>h) (Or.inl ⟨by rfl,?_⟩) ?_ ?_
      rotate_left
      ·intro w'
       go_simp
       with_reducible rfl
      rotate_left
      ·simp only [Act.put,s1_,s2_,s3_,i64_w,i32_w]
       rfl
      refine take_ (i:=0) (N:=some 12) (v:=?_) (a':=?_) #[true,true,true,true,false,false,false] rfl rfl (by kernel_rfl) (fun _ _ _ h=>h) (Or.inl ⟨by rfl,?_⟩) hHeld ?_ ?_
      rotate_left
      ·rintro w' ⟨s0,s1⟩
       go_simp
       with_reducible rfl
      rotate_left
      ·simp only [Act.put,s1_,s2_,s3_,i64_w,i32_w]
       rfl
      refine take_ (i:=4) (N:=some 16) (v:=?_) (a':=?_) #[true,true,true,true,true,false,false] rfl rfl (by kernel_rfl) (fun _ _ _ h=>h) (Or.inl ⟨by rfl,?_⟩) hHeld ?_ ?_
      rotate_left
      ·rintro w' ⟨s0,s1⟩
       go_simp
       with_reducible rfl
      rotate_left
      ·simp only [Act.put,s1_,s2_,s3_,i64_w,i32_w]
       rfl
      refine one_ (i:=5) (N:=some 17) #[true,true,true,true,true,true,false] rfl rfl (by kernel_rfl) (by decide) (fun K hK=>?_)
      refine goes_ Try.func48 (by kernel_rfl) rfl #[.agg #[.slice A0_0 l0_0.length c0_0],.int .i64 (rd l1 x5_1)] (by rfl) rfl rfl lm_ ?_
      with_reducible refine (spec_hasClass.calls _ _ l0_0 (rd l1 x5_1) false _ ?side1 ?side2 A6.out).mono ?_
      (case side1=>exact cc_ (Kd.C_below HR0_0.out HB.out))
      (case side2=>exact HC0_0.out)
      rintro e w11 ⟨rfl,hb⟩
      refine ⟨_,rfl,?_⟩
      have n0_:=kb_ BK1 hb
      have n1_:=a0_ (below_step hb_ hb)
      clear BK1
      clear HB
      have BK1:=n0_
      have HB:=n1_
      clear n0_ n1_
      (try clear hb)
      (try clear hb2)
      (try clear hk)
      (try clear hi)
      refine hK.out _ _ ⟨(blk_cell BK1.out 0).trans rfl,((HB.out.cell (World.block_lt_of_cell? w _ hw2_0)).trans hw2_0)⟩ (fun hHeld=>?_)
      clear hK K
      refine norm_ (a':=?_) ?_ ?_
      rotate_left
      ·show Act.put _ (some 17) _ = _
       simp only [Act.put,s1_,s2_,s3_,i64_w,i32_w]
       rfl
      refine pure_ (i:=6) (N:=some 18) (v:=?_) (a':=?_) #[true,true,true,true,true,true,true] rfl rfl (by kernel_rfl) (fun _ _ _ h=>h) (Or.inl ⟨by rfl,?_⟩) ?_ ?_
      rotate_left
      ·intro w'
       go_simp
       with_reducible rfl
      rotate_left
      ·simp only [Act.put,s1_,s2_,s3_,i64_w,i32_w]
       rfl
      refine done_ (by kernel_rfl) ?_
      try go_wp2
      go_ret
      exact ⟨by first | rfl | (simp [errW_none,errW_some] <;> rfl) | (simp [*,errW_none,errW_some] <;> rfl),hb_⟩
    ·rw [if_neg c5] at H
     exact absurd H (by simp)
   ·rw [if_neg c4] at H
    have c4b0 : decide (x5_1 < (l1.length : Int)) = false:=decide_eq_false c4
    clear c4
    replace H:=Option.bind_eq_some_iff.mp H
    obtain ⟨t4,A120,H⟩:=H
    try dsimp only at H
    have A12:=a0_ A120
    clear A120
    by_cases c13 : t4 = true
    ·subst c13
     have H1 : (some (decide ((l1.length : Int) ≤ 6))) = some r:=by rw [if_pos rfl] at H;exact H
     clear H
     have H:=H1
     clear H1
     obtain rfl:=Option.some.inj H
     have hcz14_0 : wr.cell? ⟨gb1,0,none⟩ = some (.slice A0_0 l0_0.length c0_0):=(blk_cell BK1.out 0).trans rfl
     have hfz14_0:=blk_frozen BK1.out 0
     go_wp2_with (first | ((with_reducible refine gate_callee (f:=67) rfl ?_);refine goesL_ (some 20) rfl rfl Try.func67 (by kernel_rfl) rfl #[.agg #[.slice A0_0 l0_0.length c0_0]] rfl lm_ ?_;(with_reducible refine (spec_validTree.calls _ _ l0_0 true _ ?side1 ?side2 A12.out).mono ?_);(case side1=>exact cc_ (Kd.C_below HR0_0.out HB.out));(case side2=>exact HC0_0.out);rintro e w15 ⟨rfl,hb⟩;refine ⟨_,rfl,?_⟩;replace BK1:=kb_ BK1 hb;replace HB:=a0_ (below_step hb_ hb);(try clear hb);(try clear hb2);(try clear hk);(try clear hi)))
     go_ret
     exact ⟨by first | rfl | (simp [errW_none,errW_some] <;> rfl) | (simp [*,errW_none,errW_some] <;> rfl),hb_⟩
    ·replace c13:=Bool.eq_false_iff.mpr c13
     subst c13
     have H1 : (some false) = some r:=by rw [if_neg (show ¬ (false = true) by decide)] at H;exact H
     clear H
     have H:=H1
     clear H1
     obtain rfl:=Option.some.inj H
     have hcz16_0 : wr.cell? ⟨gb1,0,none⟩ = some (.slice A0_0 l0_0.length c0_0):=(blk_cell BK1.out 0).trans rfl
     have hfz16_0:=blk_frozen BK1.out 0
     go_wp2_with (first | ((with_reducible refine gate_callee (f:=67) rfl ?_);refine goesL_ (some 20) rfl rfl Try.func67 (by kernel_rfl) rfl #[.agg #[.slice A0_0 l0_0.length c0_0]] rfl lm_ ?_;(with_reducible refine (spec_validTree.calls _ _ l0_0 false _ ?side1 ?side2 A12.out).mono ?_);(case side1=>exact cc_ (Kd.C_below HR0_0.out HB.out));(case side2=>exact HC0_0.out);rintro e w17 ⟨rfl,hb⟩;refine ⟨_,rfl,?_⟩;replace BK1:=kb_ BK1 hb;replace HB:=a0_ (below_step hb_ hb);(try clear hb);(try clear hb2);(try clear hk);(try clear hi)))
     go_ret
     exact ⟨by first | rfl | (simp [errW_none,errW_some] <;> rfl) | (simp [*,errW_none,errW_some] <;> rfl),hb_⟩
theorem spec_goodCatches_ev (t : List Cls) (l : List Int) (ht : t.length ≤ 9223372036854775807) (hl : l.length ≤ 9223372036854775807) (hs : smT t = true) : Ev (fun k=>spec_goodCatches.f k t l) (okCat t l):=by
 have key : ∀ d i,i + d = l.length → Ev (fun k=>spec_goodCatches.l0 k l (i : Int) t) ((l.drop i).all (hasC t) && (vT t && decide (l.length ≤ 6))):=by
  intro d
  induction d with
  | zero =>
   intro i hi
   refine Ev.succ (Ev.congr (F:=fun _=>some ((l.drop i).all (hasC t) && (vT t && decide (l.length ≤ 6)))) (Ev.const rfl) (fun k=>?_))
   simp only [spec_goodCatches.l0,spec_validTree.f]
   rw [if_neg (by omega),if_pos hs,List.drop_eq_nil_of_le (by omega)]
   cases hv : vT t with
   | false=>rfl
   | true =>
    simp only [Option.bind_some,List.all_nil,Bool.true_and,if_pos]
    congr 1
    exact decide_eq_decide.2 (by omega)
  | succ d ih =>
   intro i hi
   have hlt : i < l.length:=by omega
   refine Ev.succ (Ev.congr (F:=fun k=>if hasC t l[i] = true then spec_goodCatches.l0 k l ((i + 1 : Nat) : Int) t else some false) ?_ (fun k=>?_))
   ·rw [List.drop_eq_getElem_cons hlt,List.all_cons]
    cases hb : hasC t l[i] with
    | true=>simpa using Ev.pos (G:=fun _=>some false) (c:=True) trivial (ih (i + 1) (by omega))
    | false=>exact Ev.neg (by simp) (Ev.const rfl)
   ·simp only [spec_goodCatches.l0]
    rw [if_pos (by omega),if_pos (by omega),show rd l (i : Int) = l[i] by simp [rd,hlt],spec_hasClass_ev t _ ht,wrap_succ (i:=(i : Int)) (n:=l.length) (by omega) (by omega) (by omega)]
    rfl
 have h:=key l.length 0 (by omega)
 rw [List.drop_zero] at h
 have e : okCat t l = (l.all (hasC t) && (vT t && decide (l.length ≤ 6))):=by
  unfold okCat
  cases vT t <;> cases l.all (hasC t) <;> simp
 rw [e]
 exact h
end Go.Proofs.Ytfphcdbnnienhaa.P
namespace Go.Proofs.Ytfphcdbnnienhaa.P
open Go.RowKit Go.Proofs.YtfphcdbnnienhaaW.PrintWords Go.Proofs.YtfphcdbnnienhaaW.PrintLast Go.Proofs.YtfphcdbnnienhaaW.PrintMore
attribute [local go_sem] max2_int min2_int max_two min_two max_three min_three max_four min_four
set_option linter.unusedVariables false
set_option linter.unusedSimpArgs false
mutual
def spec_HandleGroup.j0 : Nat → List (S47) → List Int → Bool → List (S85) → Option ((List (List (S47))) × (List (S47)))
 | 0,_,_,_,_=>none
 | k + 1,x1,x2,x22,x2000=>if x22 = true then (some (([] : List (List (S47))),([] : List (S47)))) else ((some (([] : List (S47)) : List (S47))).bind fun y7=>(if y7.length + x1.length < 4398046511104 then (spec_HandleGroup.l0 k x2 (([] : List (List (S47)))) (y7 ++ x1) 0 x2000) else (none)))
def spec_HandleGroup.l0 : Nat → List Int → List (List (S47)) → List (S47) → Int → List (S85) → Option ((List (List (S47))) × (List (S47)))
 | 0,_,_,_,_,_=>none
 | k + 1,x2,x8,x9,x10,x2000=>if x10 < (x2.length : Int) then (if 0 ≤ x10 then ((spec_split.f k x2000 x9 (rd x2 x10)).bind fun bt14=>(if x8.length < 5864062014805 then (spec_HandleGroup.l0 k x2 (x8 ++ [bt14.1]) bt14.2 (wrap64 (x10 + 1)) x2000) else (none))) else (none)) else (some (x8,x9))
end
def spec_HandleGroup.f (k : Nat) (l0_0 : List (S85)) (l1 : List (S47)) (l2 : List Int) : Option ((List (List (S47))) × (List (S47))):=(spec_validGroup.f l0_0 l1).bind fun t2=>(if t2 = true then ((spec_goodCatches.f k l0_0 l2).bind fun t3=>(spec_HandleGroup.j0 k l1 l2 (!t3) l0_0)) else (spec_HandleGroup.j0 k l1 l2 true l0_0))
theorem spec_HandleGroup.mono_l : ∀ k,(∀ y0 y1 y2 y3,LeO (spec_HandleGroup.j0 k y0 y1 y2 y3) (spec_HandleGroup.j0 (k + 1) y0 y1 y2 y3)) ∧ (∀ y0 y1 y2 y3 y4,LeO (spec_HandleGroup.l0 k y0 y1 y2 y3 y4) (spec_HandleGroup.l0 (k + 1) y0 y1 y2 y3 y4))
 | 0=>⟨fun _ _ _ _ r h=>by simp [spec_HandleGroup.j0] at h,fun _ _ _ _ _ r h=>by simp [spec_HandleGroup.l0] at h⟩
 | k + 1=>by
  obtain ⟨ih0,ih1⟩:=spec_HandleGroup.mono_l k
  refine ⟨?_,?_⟩
  ·intro y0 y1 y2 y3
   unfold spec_HandleGroup.j0
   repeat' first
   | (with_reducible exact ih0 _ _ _ _)
   | (with_reducible exact ih1 _ _ _ _ _)
   | (with_reducible exact spec_goodCatches.mono _ _ _)
   | (with_reducible exact spec_split.mono _ _ _ _)
   | (with_reducible exact LeO.refl _)
   | (with_reducible exact LeO.none _)
   | (with_reducible refine LeO.ite ?_ ?_)
   | (with_reducible refine LeO.bind ?_ (fun _=>?_))
   | exact ih0 _ _ _ _
   | exact ih1 _ _ _ _ _
   | exact spec_goodCatches.mono _ _ _
   | exact spec_split.mono _ _ _ _
   | exact LeO.none _
   | refine LeO.ite ?_ ?_
   | refine LeO.bind ?_ (fun _=>?_)
  ·intro y0 y1 y2 y3 y4
   unfold spec_HandleGroup.l0
   repeat' first
   | (with_reducible exact ih0 _ _ _ _)
   | (with_reducible exact ih1 _ _ _ _ _)
   | (with_reducible exact spec_goodCatches.mono _ _ _)
   | (with_reducible exact spec_split.mono _ _ _ _)
   | (with_reducible exact LeO.refl _)
   | (with_reducible exact LeO.none _)
   | (with_reducible refine LeO.ite ?_ ?_)
   | (with_reducible refine LeO.bind ?_ (fun _=>?_))
   | exact ih0 _ _ _ _
   | exact ih1 _ _ _ _ _
   | exact spec_goodCatches.mono _ _ _
   | exact spec_split.mono _ _ _ _
   | exact LeO.none _
   | refine LeO.ite ?_ ?_
   | refine LeO.bind ?_ (fun _=>?_)
theorem spec_HandleGroup.mono : ∀ a0 a1 a2 k,LeO (spec_HandleGroup.f k a0 a1 a2) (spec_HandleGroup.f (k + 1) a0 a1 a2):=by
 intro a0 a1 a2 k
 obtain ⟨ih0,ih1⟩:=spec_HandleGroup.mono_l k
 unfold spec_HandleGroup.f
 repeat' first
   | (with_reducible exact ih0 _ _ _ _)
   | (with_reducible exact ih1 _ _ _ _ _)
   | (with_reducible exact spec_goodCatches.mono _ _ _)
   | (with_reducible exact spec_split.mono _ _ _ _)
   | (with_reducible exact LeO.refl _)
   | (with_reducible exact LeO.none _)
   | (with_reducible refine LeO.ite ?_ ?_)
   | (with_reducible refine LeO.bind ?_ (fun _=>?_))
   | exact ih0 _ _ _ _
   | exact ih1 _ _ _ _ _
   | exact spec_goodCatches.mono _ _ _
   | exact spec_split.mono _ _ _ _
   | exact LeO.none _
   | refine LeO.ite ?_ ?_
   | refine LeO.bind ?_ (fun _=>?_)
def spec_HandleGroup.T8 : Bool × List (List Nat × List Nat):=(true,[([],[]),([],[]),([],[]),([],[]),([2,3],[2,3]),([4],[4]),([0,1,5],[0,1,5]),([6],[6]),([7],[7]),([7],[7]),([8,6,0,1,2,3,4,5,6,7,8],[8]),([9,10,0,1,2,3,4,5,6,7,8,9,10],[9])])
def spec_HandleGroup.B8 : List Nat:=[0,0,0,0,12,28,63,127,255,255,511,2047]
theorem spec_HandleGroup.tab8 : rtab .any (opsOf Try.f30 8) = spec_HandleGroup.T8:=by kernel_rfl
theorem spec_HandleGroup.bits8 : waitsOk spec_HandleGroup.T8.2 spec_HandleGroup.B8 = true:=by kernel_rfl
set_option maxHeartbeats 8000000 in
set_option maxRecDepth 100000 in
theorem spec_HandleGroup.calls (k : Nat) (A0_0 : Option Addr) (c0_0 : Nat) (l0_0 : List (S85)) (A1 : Option Addr) (c1 : Nat) (l1 : List (S47)) (A2 : Option Addr) (c2 : Nat) (l2 : List Int) (r1 : List (List (S47))) (r2 : List (S47)) (w : World) (hr0_0 : Kd.C k85 w A0_0 l0_0.length l0_0) (hc0_0 : l0_0.length ≤ c0_0) (hr1 : Kd.C k47 w A1 l1.length l1) (hc1 : l1.length ≤ c1) (hr2 : Kd.C (Kd.int .i64) w A2 l2.length l2) (hc2 : l2.length ≤ c2) (h : spec_HandleGroup.f k l0_0 l1 l2 = some (r1,r2)) :
  Calls Try.prog 30 #[.agg #[.slice A0_0 l0_0.length c0_0],.slice A1 l1.length c1,.slice A2 l2.length c2] w fun e w'=>∃ v0_ v1_ : Value,e = .returned (.tuple #[v0_,v1_]) ∧ Kd.S (Kd.slice 47 k47) 26 w' w.heap.size (fun k_=>some k_ ≠ (v1_ : Value).ownBlock) v0_ r1 ∧ Kd.R k47 47 w' w.heap.size (fun _=>True) v1_ r2 ∧ Below w.heap.size w w':=by
 have hu25:=Try.underlying25
 have HR0_0:=a0_ hr0_0
 have HC0_0:=a0_ hc0_0
 clear hr0_0 hc0_0
 have HR1:=a0_ hr1
 have HC1:=a0_ hc1
 clear hr1 hc1
 have HR2:=a0_ hr2
 have HC2:=a0_ hc2
 clear hr2 hc2
 have HB:=a0_ (Below.refl w.heap.size w)
 have H : ((spec_validGroup.f l0_0 l1).bind fun t2=>(if t2 = true then ((spec_goodCatches.f k l0_0 l2).bind fun t3=>(spec_HandleGroup.j0 k l1 l2 (!t3) l0_0)) else (spec_HandleGroup.j0 k l1 l2 true l0_0))) = some (r1,r2):=h
 clear h
 have HC4:=a0_ H
 clear H
 go_enter Try.func30,Try.ntmps30
 go_upto_region 1 with (first | ((with_reducible refine gate_dst (N:=3) rfl ?_);refine box_event ?hg (N:=3) ?hd (cs:=#[.slice A0_0 l0_0.length c0_0]) (t:=25) ?hr ?_;(case hd=>rfl);(case hg=>rfl);(case hr=>first | (go_simp;done) | (go_simp;rfl));intro gb1 hg w5 hbox hb;have BK1:=a0_ (hbox);have GW1:=a0_ ((by rw [hg];exact (below_size hb_) : w.heap.size ≤ gb1));have GE1:=a0_ ((by rw [hg];exact (below_size hb_) : w.heap.size ≤ gb1));replace HB:=a0_ (below_step hb_ hb);clear hb hbox hg))
 (try simp only [Act.put,s1_,s2_,s3_])
 go_cut [22] (fun v22 wc=>∃ (kq : Nat) (x22_3 : Bool),v22 = .bool x22_3 ∧ Aside0 (spec_HandleGroup.j0 kq l1 l2 x22_3 l0_0 = some (r1,r2)) ∧ Aside0 (kq ≤ k) ∧ Aside0 (wc.heap[gb1]? = some (.cells #[(.slice A0_0 l0_0.length c0_0)] 25 (0,0))) ∧ Aside0 (Below w.heap.size w wc))
 case first =>
  have H:=HC4.out
  clear HC4
  replace H:=Option.bind_eq_some_iff.mp H
  obtain ⟨t2,A60,H⟩:=H
  try dsimp only at H
  have A6:=a0_ A60
  clear A60
  by_cases c7 : t2 = true
  ·subst c7
   have H1 : ((spec_goodCatches.f k l0_0 l2).bind fun t3=>(spec_HandleGroup.j0 k l1 l2 (!t3) l0_0)) = some (r1,r2):=by rw [if_pos rfl] at H;exact H
   clear H
   have H:=H1
   clear H1
   replace H:=Option.bind_eq_some_iff.mp H
   obtain ⟨t3,A80,H⟩:=H
   replace H : (spec_HandleGroup.j0 k l1 l2 (!t3) l0_0) = some (r1,r2):=H
   have A8:=a0_ A80
   clear A80
   have H':=a0_ H
   clear H
   have hcz9_0 : w5.cell? ⟨gb1,0,none⟩ = some (.slice A0_0 l0_0.length c0_0):=(blk_cell BK1.out 0).trans rfl
   have hfz9_0:=blk_frozen BK1.out 0
   go_wp2_with (first | ((with_reducible refine gate_callee (f:=40) rfl ?_);refine goesL_ (some 15) rfl rfl Try.func40 (by kernel_rfl) rfl #[.agg #[.slice A0_0 l0_0.length c0_0],.slice A1 l1.length c1] rfl lm_ ?_;(with_reducible refine (spec_validGroup.calls _ _ l0_0 _ _ l1 true _ ?side1 ?side2 ?side3 ?side4 A6.out).mono ?_);(case side1=>exact cc_ (Kd.C_below HR0_0.out HB.out));(case side2=>exact HC0_0.out);(case side3=>exact cc_ (Kd.C_below HR1.out HB.out));(case side4=>exact HC1.out);rintro e w10 ⟨rfl,hb⟩;refine ⟨_,rfl,?_⟩;replace BK1:=kb_ BK1 hb;replace HB:=a0_ (below_step hb_ hb);(try clear hb);have hcz11_0 : w10.cell? ⟨gb1,0,none⟩ = some (.slice A0_0 l0_0.length c0_0):=(blk_cell BK1.out 0).trans rfl;have hfz11_0:=blk_frozen BK1.out 0) | (go_at_call 54;(with_reducible refine (spec_goodCatches.calls k _ _ l0_0 _ _ l2 t3 _ ?side1 ?side2 ?side3 ?side4 A8.out).mono ?_);(case side1=>exact cc_ (Kd.C_below HR0_0.out HB.out));(case side2=>exact HC0_0.out);(case side3=>exact cc_ (Kd.C_below HR2.out HB.out));(case side4=>exact HC2.out);rintro e w12 ⟨rfl,hb⟩;replace BK1:=kb_ BK1 hb;replace HB:=a0_ (below_step hb_ hb);(try clear hb);(try clear hb2);(try clear hk);(try clear hi)))
   go_meet
   case rel=>exact ⟨_,(!t3),(by first | rfl | (simp;done) | (simp [*];done)),H',⟨by first | omega | exact Nat.le_refl _⟩,⟨by (with_reducible repeat (first | refine blk_drewN ?_ _ | refine blk_drew ?_ | refine blk_alloc ?_ _));exact BK1.out⟩,⟨hb_⟩⟩
  ·replace c7:=Bool.eq_false_iff.mpr c7
   subst c7
   have H1 : (spec_HandleGroup.j0 k l1 l2 true l0_0) = some (r1,r2):=by rw [if_neg (show ¬ (false = true) by decide)] at H;exact H
   clear H
   have H:=H1
   clear H1
   have H':=a0_ H
   clear H
   have hcz13_0 : w5.cell? ⟨gb1,0,none⟩ = some (.slice A0_0 l0_0.length c0_0):=(blk_cell BK1.out 0).trans rfl
   have hfz13_0:=blk_frozen BK1.out 0
   go_wp2_with (first | ((with_reducible refine gate_callee (f:=40) rfl ?_);refine goesL_ (some 15) rfl rfl Try.func40 (by kernel_rfl) rfl #[.agg #[.slice A0_0 l0_0.length c0_0],.slice A1 l1.length c1] rfl lm_ ?_;(with_reducible refine (spec_validGroup.calls _ _ l0_0 _ _ l1 false _ ?side1 ?side2 ?side3 ?side4 A6.out).mono ?_);(case side1=>exact cc_ (Kd.C_below HR0_0.out HB.out));(case side2=>exact HC0_0.out);(case side3=>exact cc_ (Kd.C_below HR1.out HB.out));(case side4=>exact HC1.out);rintro e w14 ⟨rfl,hb⟩;refine ⟨_,rfl,?_⟩;replace BK1:=kb_ BK1 hb;replace HB:=a0_ (below_step hb_ hb);(try clear hb);(try clear hb2);(try clear hk);(try clear hi)))
   go_meet
   case rel=>exact ⟨_,(true),(by first | rfl | (simp;done) | (simp [*];done)),H',⟨by first | omega | exact Nat.le_refl _⟩,⟨by (with_reducible repeat (first | refine blk_drewN ?_ _ | refine blk_drew ?_ | refine blk_alloc ?_ _));exact BK1.out⟩,⟨hb_⟩⟩
 case rest =>
  clear HC4
  try clear c1
  try clear c2
  try clear p2
  try clear c3
  try clear c4
  try clear c7
  try clear hcz11_0
  try clear hcz13_0
  try clear hcz9_0
  try clear hfz11_0
  try clear hfz13_0
  try clear hfz9_0
  obtain ⟨kq,x22_3,rfl,HA,HJ3,BK1,HB⟩:=hcut
  cases kq with
  | zero=>exact absurd HA.out (by simp [spec_HandleGroup.j0])
  | succ kj3 =>
   have H:=HA.out
   clear HA
   simp only [spec_HandleGroup.j0] at H
   by_cases c15 : x22_3 = true
   ·subst c15
    have H1 : (some (([] : List (List (S47))),([] : List (S47)))) = some (r1,r2):=by rw [if_pos rfl] at H;exact H
    clear H
    have H:=H1
    clear H1
    simp only [Option.some.injEq,Prod.mk.injEq] at H
    obtain ⟨rfl,rfl⟩:=H
    go_wp2
    go_ret2
    exact ⟨_,_,by first | rfl | (simp [errW_none,errW_some] <;> rfl) | (simp [*,errW_none,errW_some] <;> rfl),by first | exact Kd.S_nil _ _ _ _ _ | exact Kd.N_nil _ _ _ _ _ | exact Kd.V_nil _ _ _ _ _ | exact Kd.Q_nil _ _ _ _ _ | exact Kd.R_nil _ _ _ _ _,by first | exact Kd.R_nil _ _ _ _ _ | exact Kd.N_nil _ _ _ _ _ | exact Kd.V_nil _ _ _ _ _ | exact Kd.Q_nil _ _ _ _ _ | exact Kd.S_nil _ _ _ _ _,hb_⟩
   ·replace c15:=Bool.eq_false_iff.mpr c15
    subst c15
    have H1 : ((some (([] : List (S47)) : List (S47))).bind fun y7=>(if y7.length + l1.length < 4398046511104 then (spec_HandleGroup.l0 kj3 l2 (([] : List (List (S47)))) (y7 ++ l1) 0 l0_0) else (none))) = some (r1,r2):=by rw [if_neg (show ¬ (false = true) by decide)] at H;exact H
    clear H
    have H:=H1
    clear H1
    obtain ⟨y4,hy4⟩ : ∃ y_ : List (List (S47)),y_ = (([] : List (List (S47)))):=⟨_,rfl⟩
    replace H : ((some (([] : List (S47)) : List (S47))).bind fun y7=>(if y7.length + l1.length < 4398046511104 then (spec_HandleGroup.l0 kj3 l2 y4 (y7 ++ l1) 0 l0_0) else (none))) = some (r1,r2):=by first | (rw [hy4];with_reducible exact H) | (have H2_:=(Option.bind_some _ _).symm.trans H;rw [hy4];with_reducible exact H2_) | (have H2_:=(Option.bind_some _ _).symm.trans H;with_reducible exact H2_) | with_reducible exact H | (rw [hy4];exact H) | exact H
    have Ny4:=a0_ hy4
    clear hy4
    obtain ⟨y7,hy7⟩ : ∃ y_ : List (S47),y_ = (([] : List (S47))):=⟨_,rfl⟩
    replace H : (if y7.length + l1.length < 4398046511104 then (spec_HandleGroup.l0 kj3 l2 y4 (y7 ++ l1) 0 l0_0) else (none)) = some (r1,r2):=by first | (rw [hy7];with_reducible exact H) | (have H2_:=(Option.bind_some _ _).symm.trans H;rw [hy7];with_reducible exact H2_) | (have H2_:=(Option.bind_some _ _).symm.trans H;with_reducible exact H2_) | with_reducible exact H | (rw [hy7];exact H) | exact H
    have Ny7:=a0_ hy7
    clear hy7
    by_cases c16 : y7.length + l1.length < 4398046511104
    ·rw [if_pos c16] at H
     have LMc16:=a0_ c16
     clear c16
     obtain ⟨y10,hy10⟩ : ∃ y_ : List (S47),y_ = (y7 ++ l1):=⟨_,rfl⟩
     replace H : (spec_HandleGroup.l0 kj3 l2 y4 y10 0 l0_0) = some (r1,r2):=by first | (rw [hy10];with_reducible exact H) | (have H2_:=(Option.bind_some _ _).symm.trans H;rw [hy10];with_reducible exact H2_) | (have H2_:=(Option.bind_some _ _).symm.trans H;with_reducible exact H2_) | with_reducible exact H | (rw [hy10];exact H) | exact H
     have Ny10:=a0_ hy10
     clear hy10
     have H':=a0_ H
     clear H
     go_wp2_with (first | ((with_reducible refine gate_dst (N:=23) rfl ?_);refine Kd.S_lit (Kd.slice 47 k47) _ 26 ?hg (N:=23) ?hd (xs:=([] : List (List (S47)))) (inner:=[]) (ok:=fun _=>True) (okp:=fun _=>True) ?hr ?hp (fun _ hk=>hk) trivial (Below.refl _ _) (Nat.le_refl _) (by simp) ?_;(case hd=>rfl);(case hg=>rfl);(case hr=>first | (go_simp;done) | (go_simp;rfl));(case hp=>exact (Reps.none _ _));intro v5 w17 ho18 hb hg_ hnew_;clear hg_ hnew_;(first | rw [← Ny4.out] at ho18 | (simp only [Int.reduceToNat] at ho18;rw [← Ny4.out] at ho18));have HO6:=a0_ (Kd.S_lower ho18 (below_size hb_));replace BK1:=kb_ BK1 hb;replace HB:=a0_ (below_step hb_ hb);clear hb ho18) | ((with_reducible refine gate_dst (N:=24) rfl ?_);refine Kd.R_lit k47 _ 47 ?hg (N:=24) ?hd (xs:=([] : List (S47))) (inner:=[]) (ok:=fun _=>True) (okp:=fun _=>True) ?hr ?hp (fun _ hk=>hk) trivial (Below.refl _ _) (Nat.le_refl _) (by simp) ?_;(case hd=>rfl);(case hg=>rfl);(case hr=>first | (go_simp;done) | (go_simp;rfl));(case hp=>exact (Reps.none _ _));intro v8 w19 ho20 hb hg_ hnew_;clear hg_ hnew_;(first | rw [← Ny7.out] at ho20 | (simp only [Int.reduceToNat] at ho20;rw [← Ny7.out] at ho20));replace HO6:=a0_ (Kd.S_elder' (by (with_reducible repeat (first | apply Kd.S_alloc | apply Kd.S_drewN | apply Kd.S_drew));exact HO6.out) (Kd.R_base ho20) hb);have HO9:=a0_ (Kd.R_lower ho20 (below_size hb_));replace BK1:=kb_ BK1 hb;replace HB:=a0_ (below_step hb_ hb);clear hb ho20) | ((with_reducible refine gate_builtin (b:=.append) (xs:=#[.tmp 24,.tmp 25]) rfl ?_);at_builtin;refine Kd.R_append_rows k47 (w0:=w) w.heap.size rfl (.tmp 24) (.tmp 25) 26 47 (.agg #[(.int .i64 0),(.bool false),(.int .i64 0),(.int .i64 0)]) 32 rfl Try.underlying26 info47 rfl (by decide) (by omega) v8 y7 l1 _ _ _ (fun _=>True) (fun _=>False) rfl rfl ?aO ?aR (fun _ _ h=>h) (fun _ h=>h.elim) ?aF ?aB ?aS ?aL ?_;(case aR=>exact cc_ (Kd.C_below HR1.out HB.out));(case aB=>exact hb_);(case aF=>exact (fun _ _=>trivial));(case aO=>exact (rr_ HO9.out));(case aS=>exact (below_size hb_));(case aL=>have:=LMc16.out;omega);intro v11 w21 ho hb hg hat;rw [← Ny10.out] at ho;replace BK1:=a0_ (blk_grown (bb_ BK1.out) hg (Kd.R_ne HO9.out BK1.out (by decide)));replace HO6:=a0_ (Kd.S_after (ok:=(fun _=>True)) (by (with_reducible repeat (first | apply Kd.S_alloc | apply Kd.S_drewN | apply Kd.S_drew));exact HO6.out) hg hat);have HO12:=a0_ (ho);replace HB:=a0_ (hb);clear HO9;clear ho hb hg hat))
     go_loopg [8,9,10] kj3 (fun kq v8 v9 v10 w'=>∃ (x8_2 : List (List (S47))) (x9_2 : List (S47)) (x10_2 : Int),v10 = .int .i64 x10_2 ∧ Aside0 (spec_HandleGroup.l0 kq l2 x8_2 x9_2 x10_2 l0_0 = some (r1,r2)) ∧ Aside0 (kq ≤ kj3) ∧ Aside0 (Kd.S (Kd.slice 47 k47) 26 w' w.heap.size (fun k_=>some k_ ≠ (v9 : Value).ownBlock) v8 x8_2) ∧ Aside0 (Kd.R k47 47 w' w.heap.size (fun _=>True) v9 x9_2) ∧ Aside0 (w'.heap[gb1]? = some (.cells #[(.slice A0_0 l0_0.length c0_0)] 25 (0,0))) ∧ Aside0 (Below w.heap.size w w'))
     case atStart=>exact ⟨(y4),(y10),(0),(by first | rfl | (simp;done) | (simp [*];done)),H',⟨Nat.le_refl _⟩,⟨by (with_reducible repeat (first | apply Kd.S_alloc | apply Kd.S_drewN | apply Kd.S_drew));exact Kd.S_mono HO6.out (fun _ hk=>hk.2)⟩,⟨by (with_reducible repeat (first | apply Kd.R_alloc | apply Kd.R_drewN | apply Kd.R_drew));exact HO12.out⟩,⟨by (with_reducible repeat (first | refine blk_drewN ?_ _ | refine blk_drew ?_ | refine blk_alloc ?_ _));exact BK1.out⟩,⟨hb_⟩⟩
     case round =>
      clear H'
      try clear c1
      try clear c2
      try clear p2
      try clear c3
      try clear c4
      try clear c7
      try clear c15
      try clear c16
      try clear hcz11_0
      try clear hcz13_0
      try clear hcz9_0
      try clear hfz11_0
      try clear hfz13_0
      try clear hfz9_0
      try clear p2
      obtain ⟨x8_2,x9_2,x10_2,rfl,HA,HK2,HO_8,HO_9,BK1,HB⟩:=hrel
      cases gk with
      | zero=>exact absurd HA.out (by simp [spec_HandleGroup.l0])
      | succ k2 =>
       have H:=HA.out
       clear HA
       simp only [spec_HandleGroup.l0] at H
       by_cases c22 : x10_2 < (l2.length : Int)
       ·rw [if_pos c22] at H
        have c22b0 : decide (x10_2 < (l2.length : Int)) = true:=decide_eq_true c22
        clear c22
        by_cases c23 : 0 ≤ x10_2
        ·rw [if_pos c23] at H
         have c23b0 : decide (0 ≤ x10_2) = true:=decide_eq_true c23
         clear c23
         replace H:=Option.bind_eq_some_iff.mp H
         obtain ⟨⟨t14,t17⟩,A240,H⟩:=H
         try dsimp only at H
         have A24:=a0_ A240
         clear A240
         by_cases c25 : x8_2.length < 5864062014805
         ·rw [if_pos c25] at H
          have LMc25:=a0_ c25
          clear c25
          obtain ⟨y20,hy20⟩ : ∃ y_ : List (List (S47)),y_ = (x8_2 ++ [t14]):=⟨_,rfl⟩
          replace H : (spec_HandleGroup.l0 k2 l2 y20 t17 (wrap64 (x10_2 + 1)) l0_0) = some (r1,r2):=by first | (rw [hy20];with_reducible exact H) | (have H2_:=(Option.bind_some _ _).symm.trans H;rw [hy20];with_reducible exact H2_) | (have H2_:=(Option.bind_some _ _).symm.trans H;with_reducible exact H2_) | with_reducible exact H | (rw [hy20];exact H) | exact H
          have Ny20:=a0_ hy20
          clear hy20
          have H':=a0_ H
          clear H
          try go_wp2
          have n0_:=a0_ (Kd.S_drew HO_8.out)
          have n1_:=a0_ (Kd.R_drew HO_9.out)
          have n2_:=a0_ (blk_drew BK1.out)
          have n3_:=a0_ (below_drew1 HB.out)
          clear HO_8
          clear HO_9
          clear BK1
          clear HB
          have HO_8:=n0_
          have HO_9:=n1_
          have BK1:=n2_
          have HB:=n3_
          clear n0_ n1_ n2_ n3_
          have p13 : 0 ≤ (x10_2 : Int):=of_decide_eq_true (by first | (with_reducible assumption) | assumption)
          have q13 : x10_2 < (l2.length : Int):=of_decide_eq_true (by first | (with_reducible assumption) | assumption)
          obtain ⟨ad13,e13,hx13_0⟩:=Kd.at_int HR2.out x10_2 p13 q13
          have hw13_0:=hx13_0
          cases e13
          replace hx13_0:=(HB.out.cell (World.block_lt_of_cell? w _ hx13_0)).trans hx13_0
          replace p13:=eq_true p13
          replace q13:=eq_true q13
          obtain ⟨Ao27,co27,eo27⟩:=Kd.R_slice HO_9.out
          (first | subst eo27 | (injection eo27 with f1_ f2_ f3_;have f4_:=f1_.symm;have f5_:=f3_.symm;clear f1_ f2_ f3_;subst f4_;subst f5_))
          refine start_ (n:=12) (S:=fun w'=>w'.cell? ⟨gb1,0,none⟩ = some (.slice A0_0 l0_0.length c0_0) ∧ w'.cell? (ad13.add (x10_2).toNat) = some (.int .i64 (rd l2 x10_2))) (ds:=[]) #[false,false,false,false,false,false,false,false,false,false,false,false] (by kernel_rfl) rfl rfl ⟨(blk_cell BK1.out 0).trans rfl,((HB.out.cell (World.block_lt_of_cell? w _ hw13_0)).trans hw13_0)⟩ (fun hHeld=>?_);refine with_tabW spec_HandleGroup.tab8 spec_HandleGroup.bits8 (fun HT_ HW_=>?_)
          generalize wr.drew = w26 at HO_8 HO_9 BK1 HB hx13_0 hHeld ⊢
          refine pure_ (i:=1) (N:=some 35) (v:=?_) (a':=?_) #[false,true,false,false,false,false,false,false,false,false,false,false] rfl rfl (any_of HT_.out (by kernel_rfl)) (fun _ _ _ h=>h) (Or.inl ⟨by rfl,?_⟩) ?_ ?_
          rotate_left
          ·intro w'
           go_simp
           with_reducible rfl
          rotate_left
          ·simp only [Act.put,s1_,s2_,s3_,i64_w,i32_w]
           rfl
          refine pure_ (i:=2) (N:=some 36) (v:=?_) (a':=?_) #[false,true,true,false,false,false,false,false,false,false,false,false] rfl rfl (any_of HT_.out (by kernel_rfl)) (fun _ _ _ h=>h) (Or.inl ⟨by rfl,?_⟩) ?_ ?_
          rotate_left
          ·intro w'
           go_simp
           with_reducible rfl
          rotate_left
          ·simp only [Act.put,s1_,s2_,s3_,i64_w,i32_w]
           rfl
          refine pure_ (i:=3) (N:=some 37) (v:=?_) (a':=?_) #[false,true,true,true,false,false,false,false,false,false,false,false] rfl rfl (any_of HT_.out (by kernel_rfl)) (fun _ _ _ h=>h) (Or.inl ⟨by rfl,?_⟩) ?_ ?_
          rotate_left
          ·intro w'
           go_simp
           with_reducible rfl
          rotate_left
          ·simp only [Act.put,s1_,s2_,s3_,i64_w,i32_w]
           rfl
          refine pure_ (i:=4) (N:=some 38) (v:=?_) (a':=?_) #[false,true,true,true,true,false,false,false,false,false,false,false] rfl rfl (any_of HT_.out (by kernel_rfl)) (fun _ _ _ h=>h) (Or.inl ⟨by rfl,?_⟩) ?_ ?_
          rotate_left
          ·intro w'
           go_simp
           with_reducible rfl
          rotate_left
          ·simp only [Act.put,s1_,s2_,s3_,i64_w,i32_w]
           rfl
          refine take_ (i:=0) (N:=some 34) (v:=?_) (a':=?_) #[true,true,true,true,true,false,false,false,false,false,false,false] rfl rfl (take_ofW HT_.out HW_.out (by kernel_rfl)) (fun _ _ _ h=>h) (Or.inl ⟨by rfl,?_⟩) hHeld ?_ ?_
          rotate_left
          ·rintro w' ⟨s0,s1⟩
           go_simp
           with_reducible rfl
          rotate_left
          ·simp only [Act.put,s1_,s2_,s3_,i64_w,i32_w]
           rfl
          refine take_ (i:=5) (N:=some 39) (v:=?_) (a':=?_) #[true,true,true,true,true,true,false,false,false,false,false,false] rfl rfl (take_ofW HT_.out HW_.out (by kernel_rfl)) (fun _ _ _ h=>h) (Or.inl ⟨by rfl,?_⟩) hHeld ?_ ?_
          rotate_left
          ·rintro w' ⟨s0,s1⟩
           go_simp
           with_reducible rfl
          rotate_left
          ·simp only [Act.put,s1_,s2_,s3_,i64_w,i32_w]
           rfl
          refine one_ (i:=6) (N:=some 40) #[true,true,true,true,true,true,true,false,false,false,false,false] rfl rfl (one_of HT_.out (by kernel_rfl)) (by decide) (fun K hK=>?_)
          refine goes_ Try.func49 (by kernel_rfl) rfl #[.agg #[.slice A0_0 l0_0.length c0_0],.slice Ao27 x9_2.length co27,.int .i64 (rd l2 x10_2)] (by rfl) rfl rfl lm_ ?_
          with_reducible refine (spec_split.calls k2 _ _ l0_0 _ _ x9_2 (rd l2 x10_2) t14 t17 _ ?side1 ?side2 ?side3 ?side4 A24.out).mono ?_
          (case side1=>exact cc_ (Kd.C_below HR0_0.out HB.out))
          (case side2=>exact HC0_0.out)
          (case side3=>exact cc_ (Kd.R_reads' HO_9.out).2.2)
          (case side4=>exact (Kd.R_reads' HO_9.out).2.1)
          rintro e w28 ⟨v15,v18,rfl,ho0,ho1,hb⟩
          refine ⟨_,rfl,?_⟩
          have n0_:=a0_ (Kd.S_mono (Kd.S_told (Kd.S_told (Kd.S_old (by (with_reducible repeat (first | apply Kd.S_alloc | apply Kd.S_drewN | apply Kd.S_drew));exact HO_8.out) hb) (Kd.R_base ho0)) (Kd.R_base ho1)) (fun _ h_=>h_.1))
          have n1_:=a0_ (Kd.R_mono (Kd.R_told (Kd.R_told (Kd.R_old (rr_ HO_9.out) hb) (Kd.R_base ho0)) (Kd.R_base ho1)) (fun _ h_=>h_.1))
          have n2_:=a0_ (Kd.R_lower (Kd.R_new' ho0 (Kd.R_lt (rr_ HO_9.out))) (below_size hb_))
          have n3_:=a0_ (Kd.R_lower (Kd.R_new' ho1 (Kd.R_lt (rr_ HO_9.out))) (below_size hb_))
          have n4_:=kb_ BK1 hb
          have n5_:=a0_ (below_step hb_ hb)
          clear HO_8
          clear HO_9
          clear BK1
          clear HB
          have HO_8:=n0_
          have HO_9:=n1_
          have HO16:=n2_
          have HO19:=n3_
          have BK1:=n4_
          have HB:=n5_
          clear n0_ n1_ n2_ n3_ n4_ n5_
          (try clear hb)
          (try clear hb2)
          (try clear hk)
          (try clear hi)
          (try clear ho0)
          (try clear ho1)
          refine hK.out _ _ ⟨(blk_cell BK1.out 0).trans rfl,((HB.out.cell (World.block_lt_of_cell? w _ hw13_0)).trans hw13_0)⟩ (fun hHeld=>?_)
          clear hK K
          refine norm_ (a':=?_) ?_ ?_
          rotate_left
          ·show Act.put _ (some 40) _ = _
           simp only [Act.put,s1_,s2_,s3_,i64_w,i32_w]
           rfl
          refine pure_ (i:=7) (N:=some 33) (v:=?_) (a':=?_) #[true,true,true,true,true,true,true,true,false,false,false,false] rfl rfl (any_of HT_.out (by kernel_rfl)) (fun _ _ _ h=>h) (Or.inl ⟨by rfl,?_⟩) ?_ ?_
          rotate_left
          ·intro w'
           go_simp
           with_reducible rfl
          rotate_left
          ·simp only [Act.put,s1_,s2_,s3_,i64_w,i32_w]
           rfl
          refine pure_ (i:=8) (N:=some 41) (v:=?_) (a':=?_) #[true,true,true,true,true,true,true,true,true,false,false,false] rfl rfl (any_of HT_.out (by kernel_rfl)) (fun _ _ _ h=>h) (Or.inl ⟨by rfl,?_⟩) ?_ ?_
          rotate_left
          ·intro w'
           go_simp
           with_reducible rfl
          rotate_left
          ·simp only [Act.put,s1_,s2_,s3_,i64_w,i32_w]
           rfl
          refine pure_ (i:=9) (N:=some 42) (v:=?_) (a':=?_) #[true,true,true,true,true,true,true,true,true,true,false,false] rfl rfl (any_of HT_.out (by kernel_rfl)) (fun _ _ _ h=>h) (Or.inl ⟨by rfl,?_⟩) ?_ ?_
          rotate_left
          ·intro w'
           go_simp
           with_reducible rfl
          rotate_left
          ·simp only [Act.put,s1_,s2_,s3_,i64_w,i32_w]
           rfl
          refine pure_ (i:=10) (N:=some 11) (v:=?_) (a':=?_) #[true,true,true,true,true,true,true,true,true,true,true,false] rfl rfl (any_of HT_.out (by kernel_rfl)) (fun _ _ _ h=>h) (Or.inl ⟨by rfl,?_⟩) ?_ ?_
          rotate_left
          ·intro w'
           go_simp
           with_reducible rfl
          rotate_left
          ·simp only [Act.put,s1_,s2_,s3_,i64_w,i32_w]
           rfl
          refine pure_ (i:=11) (N:=some 12) (v:=?_) (a':=?_) #[true,true,true,true,true,true,true,true,true,true,true,true] rfl rfl (any_of HT_.out (by kernel_rfl)) (fun _ _ _ h=>h) (Or.inl ⟨by rfl,?_⟩) ?_ ?_
          rotate_left
          ·intro w'
           go_simp
           with_reducible rfl
          rotate_left
          ·simp only [Act.put,s1_,s2_,s3_,i64_w,i32_w]
           rfl
          refine done_ (done_of HT_.out (by kernel_rfl)) ?_
          obtain ⟨Ao30,co30,eo30⟩:=Kd.R_slice HO16.out
          subst eo30
          try go_wp2_with (first | ((with_reducible refine gate_builtin (b:=.append) (xs:=#[.tmp 43,.tmp 45]) rfl ?_);at_builtin;refine Kd.S_append (Kd.slice 47 k47) (w0:=w) w.heap.size rfl (.tmp 43) (.tmp 45) 52 26 (.slice none 0 0) 24 rfl Try.underlying52 info26 rfl (by decide) (by omega) u8 x8_2 t14 [.slice Ao30 t14.length co30] (fun k_=>some k_ ≠ (.slice Ao27 x9_2.length co27 : Value).ownBlock ∧ some k_ ≠ (v18 : Value).ownBlock) (fun k_=>some k_ = (.slice Ao30 t14.length co30 : Value).ownBlock) rfl rfl ?aP (fun k_ hk_=>((Kd.R_mono (ok':=fun k_=>((fun k_=>some k_ ≠ (.slice Ao27 x9_2.length co27 : Value).ownBlock ∧ some k_ ≠ (v18 : Value).ownBlock)) k_ ∧ some k_ ≠ (u8 : Value).ownBlock) (Kd.R_apart' (HO16.out) (Kd.S_typed HO_8.out) (by decide)) (fun k_ hk=>⟨⟨hk.1.2,hk.1.1⟩,hk.2⟩))).1 k_ hk_.symm) ?aF ?aO ?aB ?aS ?aL ?_;(case aP=>exact Kd.M_row (Kd.R_mono (Kd.R_tight rfl (Kd.R_mono (ok':=fun k_=>((fun k_=>some k_ ≠ (.slice Ao27 x9_2.length co27 : Value).ownBlock ∧ some k_ ≠ (v18 : Value).ownBlock)) k_ ∧ some k_ ≠ (u8 : Value).ownBlock) (Kd.R_apart' (HO16.out) (Kd.S_typed HO_8.out) (by decide)) (fun k_ hk=>⟨⟨hk.1.2,hk.1.1⟩,hk.2⟩))) (fun _ h_=>h_)));(case aB=>exact hb_);(case aF=>exact (fun k_ hk=>⟨Kd.fresh' (Kd.R_lt (rr_ HO_9.out)) k_ hk,Kd.fresh' (Kd.R_lt (rr_ HO19.out)) k_ hk⟩));(case aO=>exact (by (with_reducible repeat (first | apply Kd.S_alloc | apply Kd.S_drewN | apply Kd.S_drew));exact Kd.S_mono HO_8.out (fun k_ hk=>⟨⟨hk.1.1,hk.2⟩,fun e_=>hk.1.2 e_⟩)));(case aS=>exact (below_size hb_));(case aL=>have:=LMc25.out;omega);intro v21 w29 ho hb hg hat;rw [← Ny20.out] at ho;replace HO_9:=a0_ (Kd.R_over' (rr_ HO_9.out) (Kd.S_typed (by (with_reducible repeat (first | apply Kd.S_alloc | apply Kd.S_drewN | apply Kd.S_drew));exact HO_8.out)) (by decide) hg);replace BK1:=a0_ (blk_grown (bb_ BK1.out) hg (Kd.S_ne HO_8.out BK1.out (by decide)));replace HO19:=a0_ (Kd.R_over' (rr_ HO19.out) (Kd.S_typed (by (with_reducible repeat (first | apply Kd.S_alloc | apply Kd.S_drewN | apply Kd.S_drew));exact HO_8.out)) (by decide) hg);have HO22:=a0_ (ho);replace HB:=a0_ (hb);clear HO_8 HO16;clear ho hb hg hat))
          go_roundg k2
          case measure=>have:=HJ3.out;have:=HK2.out;omega
          case rel=>exact ⟨(y20),(t17),(wrap64 (x10_2 + 1)),(by first | rfl | (simp;done) | (simp [*];done)),H',⟨by have:=HJ3.out;have:=HK2.out;omega⟩,⟨by (with_reducible repeat (first | apply Kd.S_alloc | apply Kd.S_drewN | apply Kd.S_drew));exact Kd.S_mono HO22.out (fun _ hk=>hk.2)⟩,⟨by (with_reducible repeat (first | apply Kd.R_alloc | apply Kd.R_drewN | apply Kd.R_drew));exact Kd.R_mono HO19.out (fun _ hk=>trivial)⟩,⟨by (with_reducible repeat (first | refine blk_drewN ?_ _ | refine blk_drew ?_ | refine blk_alloc ?_ _));exact BK1.out⟩,⟨hb_⟩⟩
         ·rw [if_neg c25] at H
          exact absurd H (by simp)
        ·rw [if_neg c23] at H
         exact absurd H (by simp)
       ·rw [if_neg c22] at H
        have c22b0 : decide (x10_2 < (l2.length : Int)) = false:=decide_eq_false c22
        clear c22
        simp only [Option.some.injEq,Prod.mk.injEq] at H
        obtain ⟨rfl,rfl⟩:=H
        go_wp2
        go_ret2
        exact ⟨_,_,by first | rfl | (simp [errW_none,errW_some] <;> rfl) | (simp [*,errW_none,errW_some] <;> rfl),by (with_reducible repeat (first | apply Kd.S_alloc | apply Kd.S_drewN | apply Kd.S_drew));exact HO_8.out,by (with_reducible repeat (first | apply Kd.R_alloc | apply Kd.R_drewN | apply Kd.R_drew));exact HO_9.out,hb_⟩
    ·rw [if_neg c16] at H
     exact absurd H (by simp)
theorem spec_HandleGroup_l0 {t : List Cls} (hv : vT t = true) (l : List Int) (hl : l.length ≤ 1000) : ∀ (d j : Nat) (out : List (List Prt)) (g : List Prt),j + d = l.length → out.length ≤ j → lfOk t g → g.length ≤ 1048576 → Ev (fun k=>spec_HandleGroup.l0 k l out g (j : Int) t) (out ++ takP t (l.drop j) g,lefP t (l.drop j) g):=by
 intro d
 induction d with
 | zero =>
  intro j out g hj ho hg hgl
  refine Ev.succ ?_
  simp only [spec_HandleGroup.l0]
  rw [List.drop_eq_nil_of_le (by omega)]
  exact Ev.neg (by omega) (Ev.const (by simp [takP,lefP]))
 | succ d ih =>
  intro j out g hj ho hg hgl
  refine Ev.succ ?_
  have hlt : j < l.length:=by omega
  have hr : rd l (j : Int) = l[j]:=by simp [rd,hlt]
  have hs:=spec_split_ev hv g hg hgl l[j]
  rw [selN_selR,selN_selR] at hs
  have hsub:=selR_sub (fun q=>isA t q.f2 l[j] == false) g
  have hi:=ih (j + 1) (out ++ [selR (fun q=>isA t q.f2 l[j] == true) g]) (selR (fun q=>isA t q.f2 l[j] == false) g) (by omega) (by simp;omega) (fun p hp h1=>hg p (hsub.subset hp) h1) (Nat.le_trans hsub.length_le hgl)
  simp only [spec_HandleGroup.l0,hr]
  rw [wrap_succ (i:=(j : Int)) (n:=l.length) (by omega) (by omega) (by omega),List.drop_eq_getElem_cons hlt,takP,lefP]
  rw [List.append_assoc,List.singleton_append] at hi
  exact Ev.pos (by omega) (Ev.pos (by omega) (Ev.bind hs (Ev.pos (by omega) hi)))
theorem spec_HandleGroup_ev (t : List Cls) (g : List Prt) (l : List Int) (hs : smT t = true) (ht : t.length ≤ 9223372036854775807) (hl : l.length ≤ 1000) (hg : g.length ≤ 1048576) : Ev (fun k=>spec_HandleGroup.f k t g l) (hanP t g l):=by
 have no : Ev (fun k=>spec_HandleGroup.j0 k g l true t) ([],[]):=by
  refine Ev.succ ?_
  simp only [spec_HandleGroup.j0]
  exact Ev.pos trivial (Ev.const rfl)
 refine Ev.bind (Ev.const (show spec_validGroup.f t g = some (vG t g) by rw [spec_validGroup.f,if_pos hs])) ?_
 unfold hanP
 cases hv : vG t g with
 | false=>exact Ev.neg (by simp) no
 | true =>
  refine Ev.pos rfl (Ev.bind (spec_goodCatches_ev t l ht (by omega) hs) ?_)
  cases hk : okCat t l with
  | false=>exact no
  | true =>
   have hT:=(vG_tree hv).1
   rw [Bool.true_and,if_pos rfl]
   refine Ev.succ ?_
   simp only [spec_HandleGroup.j0]
   exact Ev.neg (by simp) (Ev.bind (Ev.const rfl) (Ev.pos (by simp;omega) (spec_HandleGroup_l0 hT l hl l.length 0 [] g (by omega) (by simp) (fun p hp h1=>(vG_leaf hv p hp h1).2) hg)))
end Go.Proofs.Ytfphcdbnnienhaa.P
namespace Go.Proofs.Ytfphcdbnnienhaa.P
open Go.RowKit Go.Proofs.YtfphcdbnnienhaaW.PrintWords Go.Proofs.YtfphcdbnnienhaaW.PrintLast Go.Proofs.YtfphcdbnnienhaaW.PrintMore
attribute [local go_sem] max2_int min2_int max_two min_two max_three min_three max_four min_four
set_option linter.unusedVariables false
set_option linter.unusedSimpArgs false
def laws_equalGroups.l0 : Nat → List (List (S47)) → List (List (S47)) → Int → Option (Bool)
 | 0,_,_,_=>none
 | k + 1,x0,x1,x5=>if x5 < (x0.length : Int) then (if 0 ≤ x5 then (if x5 < (x1.length : Int) then ((laws_equalGroup.f k (rd_L8 x0 x5) (rd_L8 x1 x5)).bind fun t3=>(if t3 = true then (laws_equalGroups.l0 k x0 x1 (wrap64 (x5 + 1))) else (some false))) else (none)) else (none)) else (some true)
def laws_equalGroups.f (k : Nat) (l0 : List (List (S47))) (l1 : List (List (S47))) : Option (Bool):=if (l0.length : Int) = (l1.length : Int) then (laws_equalGroups.l0 k l0 l1 0) else (some false)
theorem laws_equalGroups.mono_l : ∀ k,(∀ y0 y1 y2,LeO (laws_equalGroups.l0 k y0 y1 y2) (laws_equalGroups.l0 (k + 1) y0 y1 y2))
 | 0=>fun _ _ _ r h=>by simp [laws_equalGroups.l0] at h
 | k + 1=>by
  have ih0:=laws_equalGroups.mono_l k
  ·intro y0 y1 y2
   unfold laws_equalGroups.l0
   repeat' first
   | (with_reducible exact ih0 _ _ _)
   | (with_reducible exact laws_equalGroup.mono _ _ _)
   | (with_reducible exact LeO.refl _)
   | (with_reducible exact LeO.none _)
   | (with_reducible refine LeO.ite ?_ ?_)
   | (with_reducible refine LeO.bind ?_ (fun _=>?_))
   | exact ih0 _ _ _
   | exact laws_equalGroup.mono _ _ _
   | exact LeO.none _
   | refine LeO.ite ?_ ?_
   | refine LeO.bind ?_ (fun _=>?_)
theorem laws_equalGroups.mono : ∀ a0 a1 k,LeO (laws_equalGroups.f k a0 a1) (laws_equalGroups.f (k + 1) a0 a1):=by
 intro a0 a1 k
 have ih0:=laws_equalGroups.mono_l k
 unfold laws_equalGroups.f
 repeat' first
   | (with_reducible exact ih0 _ _ _)
   | (with_reducible exact laws_equalGroup.mono _ _ _)
   | (with_reducible exact LeO.refl _)
   | (with_reducible exact LeO.none _)
   | (with_reducible refine LeO.ite ?_ ?_)
   | (with_reducible refine LeO.bind ?_ (fun _=>?_))
   | exact ih0 _ _ _
   | exact laws_equalGroup.mono _ _ _
   | exact LeO.none _
   | refine LeO.ite ?_ ?_
   | refine LeO.bind ?_ (fun _=>?_)
set_option maxHeartbeats 8000000 in
set_option maxRecDepth 100000 in
theorem laws_equalGroups.calls (k : Nat) (A0 : Option Addr) (c0 : Nat) (l0 : List (List (S47))) (A1 : Option Addr) (c1 : Nat) (l1 : List (List (S47))) (r : Bool) (w : World) (hr0 : Kd.C (Kd.slice 47 k47) w A0 l0.length l0) (hc0 : l0.length ≤ c0) (hr1 : Kd.C (Kd.slice 47 k47) w A1 l1.length l1) (hc1 : l1.length ≤ c1) (h : laws_equalGroups.f k l0 l1 = some r) :
  Calls Try.prog 31 #[.slice A0 l0.length c0,.slice A1 l1.length c1] w fun e w'=>e = .returned (.bool r) ∧ Drawn0 w w':=by
 have HR0:=a0_ hr0
 have HC0:=a0_ hc0
 clear hr0 hc0
 have HR1:=a0_ hr1
 have HC1:=a0_ hc1
 clear hr1 hc1
 have H : (if (l0.length : Int) = (l1.length : Int) then (laws_equalGroups.l0 k l0 l1 0) else (some false)) = some r:=h
 clear h
 by_cases c3 : (l0.length : Int) = (l1.length : Int)
 ·rw [if_pos c3] at H
  have c3b0 : ((l0.length : Int) == (l1.length : Int)) = true:=beq_iff_eq.mpr c3
  have c3b1 : ((l0.length : Int) != (l1.length : Int)) = false:=bne_eq_false_iff_eq.mpr c3
  have c3b2 : (l0.length == l1.length) = true:=by first | simpa using c3 | (simp at c3 ⊢;omega)
  clear c3
  have H':=a0_ H
  clear H
  go_enter Try.func31,Try.ntmps31
  go_wp2
  repeat (go_quiet (fail);try go_wp2)
  go_loopg [5] k (fun kq v5 w'=>∃ (x5_1 : Int),v5 = .int .i64 x5_1 ∧ Aside0 (laws_equalGroups.l0 kq l0 l1 x5_1 = some r) ∧ Aside0 (kq ≤ k) ∧ Drawn0 w w')
  case atStart=>exact ⟨(0),(by first | rfl | (simp;done) | (simp [*];done)),H',⟨Nat.le_refl _⟩,by repeat (first | exact Drawn0.refl _ | apply Drawn0.step)⟩
  case round =>
   clear H'
   try clear c1
   try clear p2
   try clear c3
   try clear c3b0
   try clear c3b1
   try clear c3b2
   obtain ⟨x5_1,rfl,HA,HK1,⟨m1,rfl⟩⟩:=hrel
   cases gk with
   | zero=>exact absurd HA.out (by simp [laws_equalGroups.l0])
   | succ k1 =>
    have H:=HA.out
    clear HA
    simp only [laws_equalGroups.l0] at H
    by_cases c4 : x5_1 < (l0.length : Int)
    ·rw [if_pos c4] at H
     have c4b0 : decide (x5_1 < (l0.length : Int)) = true:=decide_eq_true c4
     clear c4
     by_cases c5 : 0 ≤ x5_1
     ·rw [if_pos c5] at H
      have c5b0 : decide (0 ≤ x5_1) = true:=decide_eq_true c5
      clear c5
      by_cases c6 : x5_1 < (l1.length : Int)
      ·rw [if_pos c6] at H
       have c6b0 : decide (x5_1 < (l1.length : Int)) = true:=decide_eq_true c6
       clear c6
       replace H:=Option.bind_eq_some_iff.mp H
       obtain ⟨t3,A70,H⟩:=H
       try dsimp only at H
       have A7:=a0_ A70
       clear A70
       by_cases c8 : t3 = true
       ·subst c8
        have H1 : (laws_equalGroups.l0 k1 l0 l1 (wrap64 (x5_1 + 1))) = some r:=by rw [if_pos rfl] at H;exact H
        clear H
        have H:=H1
        clear H1
        have H':=a0_ H
        clear H
        have p1 : 0 ≤ (x5_1 : Int):=of_decide_eq_true (by first | (with_reducible assumption) | assumption)
        have q1 : x5_1 < (l0.length : Int):=of_decide_eq_true (by first | (with_reducible assumption) | assumption)
        obtain ⟨ad1,A1_0,c1_0,e1,hx1_0,hl1_0,hi1_0⟩:=at_L8 HR0.out x5_1 p1 q1
        cases e1
        have HR1_0:=a0_ hi1_0
        have HC1_0:=a0_ hl1_0
        clear hi1_0 hl1_0
        replace p1:=eq_true p1
        replace q1:=eq_true q1
        have p2 : 0 ≤ (x5_1 : Int):=of_decide_eq_true (by first | (with_reducible assumption) | assumption)
        have q2 : x5_1 < (l1.length : Int):=of_decide_eq_true (by first | (with_reducible assumption) | assumption)
        obtain ⟨ad2,A2_0,c2_0,e2,hx2_0,hl2_0,hi2_0⟩:=at_L8 HR1.out x5_1 p2 q2
        cases e2
        have HR2_0:=a0_ hi2_0
        have HC2_0:=a0_ hl2_0
        clear hi2_0 hl2_0
        replace p2:=eq_true p2
        replace q2:=eq_true q2
        go_wp2_with (first | (go_at_call 13;(with_reducible refine (laws_equalGroup.calls k1 _ _ (rd_L8 l0 x5_1) _ _ (rd_L8 l1 x5_1) true _ ?side1 ?side2 ?side3 ?side4 A7.out).mono ?_);(case side1=>repeat (first | exact HR1_0.out | (with_reducible refine Kd.C_alloc ?_ _) | (with_reducible refine Kd.C_drewN ?_ _) | (with_reducible refine Kd.C_drew ?_)));(case side2=>exact HC1_0.out);(case side3=>repeat (first | exact HR2_0.out | (with_reducible refine Kd.C_alloc ?_ _) | (with_reducible refine Kd.C_drewN ?_ _) | (with_reducible refine Kd.C_drew ?_)));(case side4=>exact HC2_0.out);rintro e w' ⟨rfl,⟨nd,rfl⟩⟩;(try first | exact ⟨rfl,_,World.drewN_drewN _ _ _⟩ | exact ⟨rfl,_,Eq.trans (World.drewN_drewN _ _ _) (congrArg (World.drewN _) (Nat.add_assoc _ _ _))⟩)))
        repeat (go_quiet (first | (go_at_call 13;(with_reducible refine (laws_equalGroup.calls k1 _ _ (rd_L8 l0 x5_1) _ _ (rd_L8 l1 x5_1) true _ ?side1 ?side2 ?side3 ?side4 A7.out).mono ?_);(case side1=>repeat (first | exact HR1_0.out | (with_reducible refine Kd.C_alloc ?_ _) | (with_reducible refine Kd.C_drewN ?_ _) | (with_reducible refine Kd.C_drew ?_)));(case side2=>exact HC1_0.out);(case side3=>repeat (first | exact HR2_0.out | (with_reducible refine Kd.C_alloc ?_ _) | (with_reducible refine Kd.C_drewN ?_ _) | (with_reducible refine Kd.C_drew ?_)));(case side4=>exact HC2_0.out);rintro e w' ⟨rfl,⟨nd,rfl⟩⟩;(try first | exact ⟨rfl,_,World.drewN_drewN _ _ _⟩ | exact ⟨rfl,_,Eq.trans (World.drewN_drewN _ _ _) (congrArg (World.drewN _) (Nat.add_assoc _ _ _))⟩)));try go_wp2_with (first | (go_at_call 13;(with_reducible refine (laws_equalGroup.calls k1 _ _ (rd_L8 l0 x5_1) _ _ (rd_L8 l1 x5_1) true _ ?side1 ?side2 ?side3 ?side4 A7.out).mono ?_);(case side1=>repeat (first | exact HR1_0.out | (with_reducible refine Kd.C_alloc ?_ _) | (with_reducible refine Kd.C_drewN ?_ _) | (with_reducible refine Kd.C_drew ?_)));(case side2=>exact HC1_0.out);(case side3=>repeat (first | exact HR2_0.out | (with_reducible refine Kd.C_alloc ?_ _) | (with_reducible refine Kd.C_drewN ?_ _) | (with_reducible refine Kd.C_drew ?_)));(case side4=>exact HC2_0.out);rintro e w' ⟨rfl,⟨nd,rfl⟩⟩;(try first | exact ⟨rfl,_,World.drewN_drewN _ _ _⟩ | exact ⟨rfl,_,Eq.trans (World.drewN_drewN _ _ _) (congrArg (World.drewN _) (Nat.add_assoc _ _ _))⟩))))
        go_roundg k1
        case measure=>have:=HK1.out;omega
        case rel=>exact ⟨(wrap64 (x5_1 + 1)),(by first | rfl | (simp;done) | (simp [*];done)),H',⟨by have:=HK1.out;omega⟩,by repeat (first | exact Drawn0.refl _ | apply Drawn0.step)⟩
       ·replace c8:=Bool.eq_false_iff.mpr c8
        subst c8
        have H1 : (some false) = some r:=by rw [if_neg (show ¬ (false = true) by decide)] at H;exact H
        clear H
        have H:=H1
        clear H1
        obtain rfl:=Option.some.inj H
        have p1 : 0 ≤ (x5_1 : Int):=of_decide_eq_true (by first | (with_reducible assumption) | assumption)
        have q1 : x5_1 < (l0.length : Int):=of_decide_eq_true (by first | (with_reducible assumption) | assumption)
        obtain ⟨ad1,A1_0,c1_0,e1,hx1_0,hl1_0,hi1_0⟩:=at_L8 HR0.out x5_1 p1 q1
        cases e1
        have HR1_0:=a0_ hi1_0
        have HC1_0:=a0_ hl1_0
        clear hi1_0 hl1_0
        replace p1:=eq_true p1
        replace q1:=eq_true q1
        have p2 : 0 ≤ (x5_1 : Int):=of_decide_eq_true (by first | (with_reducible assumption) | assumption)
        have q2 : x5_1 < (l1.length : Int):=of_decide_eq_true (by first | (with_reducible assumption) | assumption)
        obtain ⟨ad2,A2_0,c2_0,e2,hx2_0,hl2_0,hi2_0⟩:=at_L8 HR1.out x5_1 p2 q2
        cases e2
        have HR2_0:=a0_ hi2_0
        have HC2_0:=a0_ hl2_0
        clear hi2_0 hl2_0
        replace p2:=eq_true p2
        replace q2:=eq_true q2
        go_wp2_with (first | (go_at_call 13;(with_reducible refine (laws_equalGroup.calls k1 _ _ (rd_L8 l0 x5_1) _ _ (rd_L8 l1 x5_1) false _ ?side1 ?side2 ?side3 ?side4 A7.out).mono ?_);(case side1=>repeat (first | exact HR1_0.out | (with_reducible refine Kd.C_alloc ?_ _) | (with_reducible refine Kd.C_drewN ?_ _) | (with_reducible refine Kd.C_drew ?_)));(case side2=>exact HC1_0.out);(case side3=>repeat (first | exact HR2_0.out | (with_reducible refine Kd.C_alloc ?_ _) | (with_reducible refine Kd.C_drewN ?_ _) | (with_reducible refine Kd.C_drew ?_)));(case side4=>exact HC2_0.out);rintro e w' ⟨rfl,⟨nd,rfl⟩⟩;(try first | exact ⟨rfl,_,World.drewN_drewN _ _ _⟩ | exact ⟨rfl,_,Eq.trans (World.drewN_drewN _ _ _) (congrArg (World.drewN _) (Nat.add_assoc _ _ _))⟩)))
        repeat (go_quiet (first | (go_at_call 13;(with_reducible refine (laws_equalGroup.calls k1 _ _ (rd_L8 l0 x5_1) _ _ (rd_L8 l1 x5_1) false _ ?side1 ?side2 ?side3 ?side4 A7.out).mono ?_);(case side1=>repeat (first | exact HR1_0.out | (with_reducible refine Kd.C_alloc ?_ _) | (with_reducible refine Kd.C_drewN ?_ _) | (with_reducible refine Kd.C_drew ?_)));(case side2=>exact HC1_0.out);(case side3=>repeat (first | exact HR2_0.out | (with_reducible refine Kd.C_alloc ?_ _) | (with_reducible refine Kd.C_drewN ?_ _) | (with_reducible refine Kd.C_drew ?_)));(case side4=>exact HC2_0.out);rintro e w' ⟨rfl,⟨nd,rfl⟩⟩;(try first | exact ⟨rfl,_,World.drewN_drewN _ _ _⟩ | exact ⟨rfl,_,Eq.trans (World.drewN_drewN _ _ _) (congrArg (World.drewN _) (Nat.add_assoc _ _ _))⟩)));try go_wp2_with (first | (go_at_call 13;(with_reducible refine (laws_equalGroup.calls k1 _ _ (rd_L8 l0 x5_1) _ _ (rd_L8 l1 x5_1) false _ ?side1 ?side2 ?side3 ?side4 A7.out).mono ?_);(case side1=>repeat (first | exact HR1_0.out | (with_reducible refine Kd.C_alloc ?_ _) | (with_reducible refine Kd.C_drewN ?_ _) | (with_reducible refine Kd.C_drew ?_)));(case side2=>exact HC1_0.out);(case side3=>repeat (first | exact HR2_0.out | (with_reducible refine Kd.C_alloc ?_ _) | (with_reducible refine Kd.C_drewN ?_ _) | (with_reducible refine Kd.C_drew ?_)));(case side4=>exact HC2_0.out);rintro e w' ⟨rfl,⟨nd,rfl⟩⟩;(try first | exact ⟨rfl,_,World.drewN_drewN _ _ _⟩ | exact ⟨rfl,_,Eq.trans (World.drewN_drewN _ _ _) (congrArg (World.drewN _) (Nat.add_assoc _ _ _))⟩))))
        go_ret
        exact ⟨by first | rfl | (simp;done) | (simp [*];done),by repeat (first | exact Drawn0.refl _ | apply Drawn0.step)⟩
      ·rw [if_neg c6] at H
       exact absurd H (by simp)
     ·rw [if_neg c5] at H
      exact absurd H (by simp)
    ·rw [if_neg c4] at H
     have c4b0 : decide (x5_1 < (l0.length : Int)) = false:=decide_eq_false c4
     clear c4
     obtain rfl:=Option.some.inj H
     go_wp2
     repeat (go_quiet (fail);try go_wp2)
     go_ret
     exact ⟨by first | rfl | (simp;done) | (simp [*];done),by repeat (first | exact Drawn0.refl _ | apply Drawn0.step)⟩
 ·rw [if_neg c3] at H
  have c3b0 : ((l0.length : Int) == (l1.length : Int)) = false:=beq_eq_false_iff_ne.mpr c3
  have c3b1 : ((l0.length : Int) != (l1.length : Int)) = true:=bne_iff_ne.mpr c3
  have c3b2 : (l0.length == l1.length) = false:=by first | simpa using c3 | (simp at c3 ⊢;omega)
  obtain rfl:=Option.some.inj H
  go_enter Try.func31,Try.ntmps31
  go_wp2
  repeat (go_quiet (fail);try go_wp2)
  go_ret
  exact ⟨by first | rfl | (simp;done) | (simp [*];done),by repeat (first | exact Drawn0.refl _ | apply Drawn0.step)⟩
theorem laws_equalGroups_ev (l : List (List Prt)) (hl : l.length ≤ 9223372036854775806) (hx : ∀ x ∈ l,x.length ≤ 9223372036854775806) : Ev (fun k=>laws_equalGroups.f k l l) true:=by
 have key : ∀ d j,j + d = l.length → Ev (fun k=>laws_equalGroups.l0 k l l (j : Int)) true:=by
  intro d
  induction d with
  | zero =>
   intro j hj
   refine Ev.succ ?_
   simp only [laws_equalGroups.l0]
   exact Ev.neg (by omega) (Ev.const rfl)
  | succ d ih =>
   intro j hj
   refine Ev.succ ?_
   have hlt : j < l.length:=by omega
   have hm : l.getD ((j : Int)).toNat [] ∈ l:=by
    rw [Int.toNat_natCast,List.getD_eq_getElem?_getD,List.getElem?_eq_getElem hlt]
    exact List.getElem_mem _
   simp only [laws_equalGroups.l0]
   refine Ev.pos (by omega) (Ev.pos (by omega) (Ev.pos (by omega) (Ev.bind (laws_equalGroup_ev _ (hx _ hm)) (Ev.pos rfl ?_))))
   rw [wrap_succ (i:=(j : Int)) (n:=l.length) (by omega) (by omega) (by omega)]
   exact ih (j + 1) (by omega)
 exact Ev.pos rfl (key l.length 0 (by omega))
end Go.Proofs.Ytfphcdbnnienhaa.P
namespace Go.Proofs.Ytfphcdbnnienhaa.P
open Go.RowKit Go.Proofs.YtfphcdbnnienhaaW.PrintWords Go.Proofs.YtfphcdbnnienhaaW.PrintLast Go.Proofs.YtfphcdbnnienhaaW.PrintMore
attribute [local go_sem] max2_int min2_int max_two min_two max_three min_three max_four min_four
set_option linter.unusedVariables false
set_option linter.unusedSimpArgs false
set_option maxHeartbeats 4000000 in
set_option maxRecDepth 100000 in
theorem impl_Tree_filter.callsF (A : Option Addr) (c : Nat) (t : List Cls) (g : Nat) (lb : Array Value) (p : Int → Bool) (w : World) (eg : ∀ args w,(callFunc g args).run Try.prog w = .ok (.enter g args) w)
  (hr : Kd.C k85 w A t.length t) (hc : t.length ≤ c) (hl : t.length ≤ 1000) (hp : ∀ (i : Nat),i < t.length → ∀ W,Below w.heap.size w W → Calls Try.prog g (#[.int .i64 (i : Int)] ++ lb) W fun e w'=>e = .returned (.bool (p (i : Int))) ∧ Below W.heap.size W w') :
  Calls Try.prog 56 #[.agg #[.slice A t.length c],.func (.func g) #[] lb] w fun e w'=>∃ v : Value,e = .returned v ∧ Kd.R (Kd.int .i64) 3 w' w.heap.size (fun _=>True) v (fil t p) ∧ Below w.heap.size w w':=by
 have hu31:=Try.underlying25
 have HP:=a0_ hp
 clear hp hr
 have HB:=a0_ (below1 w (.cells #[.slice A t.length c] 25))
 go_enter Try.func56,Try.ntmps56
 go_upto_region 2 with ((with_reducible refine gate_dst (N:=10) rfl ?_);refine Kd.R_make0 (Kd.int .i64) _ 3 rfl (N:=10) rfl 49 _ _ rfl ((t.length : Nat) : Int) rfl rfl Try.underlying49 (.int .i64 0) 8 info3 rfl (by decide) (by omega) 0 (ok:=fun _=>True) (okp:=fun _=>True) rfl (fun _ hk=>hk) trivial (by omega) (by simp;omega) HB.out (by simp) ?_;intro v1 w1 ho hb hg hat)
 have HB1:=a0_ hb
 have BK1:=a0_ (blk_keptB (heap_new1 w (.cells #[.slice A t.length c] 25)) (below_of_none hg))
 have HO:=a0_ ho
 clear hb hg hat ho HB
 have hcz : w1.cell? ⟨w.heap.size,0,none⟩ = some (.slice A t.length c):=(blk_cell BK1.out 0).trans rfl
 go_wp2
 clear hcz
 go_loopg [5,14] t.length (fun gg s5 s14 wr=>∃ kk : Nat,kk ≤ t.length ∧ t.length - kk ≤ gg ∧ s14 = .int .i64 kk ∧ Aside0 (Kd.R (Kd.int .i64) 3 wr w.heap.size (fun _=>True) s5 (((List.range kk).map (fun i : Nat=>(i : Int))).filter p)) ∧ Aside0 (Below w.heap.size w wr))
 case atStart=>exact ⟨0,Nat.zero_le _,by omega,rfl,HO,HB1⟩
 case round =>
  clear BK1 HB1 HO
  obtain ⟨kk,hkk,hg,rfl,HO,HB⟩:=hrel
  by_cases hlt : kk < t.length
  ·have hltz : (kk : Int) < (t.length : Int):=by omega
   have hcall:=HP.out kk hlt wr HB.out
   have hst:=fil_step t p kk
   have hln:=a0_ (fil_len p kk)
   cases hq : p (kk : Int) with
   | true =>
    rw [hq] at hcall hst
    have HST:=a0_ hst
    clear hst
    go_wp2_with (first
     | (go_at_fn g;refine hcall.mono ?_;rintro e w2 ⟨rfl,hb2⟩;replace HO:=a0_ (Kd.R_below HO.out hb2);replace HB:=a0_ (below_step HB.out hb2);clear hb2)
     | ((with_reducible refine gate_builtin (b:=.append) (xs:=#[.tmp 20,.tmp 22]) rfl ?_);at_builtin;refine Kd.R_append (Kd.int .i64) (w0:=w) w.heap.size rfl (.tmp 20) (.tmp 22) 49 3 (.int .i64 0) 8 rfl Try.underlying49 info3 rfl (by decide) (by omega) u5 _ (kk : Int) [.int .i64 (kk : Int)] (fun _=>True) (fun _=>False) rfl rfl rfl (fun _ hk=>hk.elim) (fun _ _=>trivial) HO.out HB.out (below_size HB.out) (by have:=hln.out;omega) ?_;intro v3 w3 ho hb hg3 hat;replace HO:=a0_ ho;replace HB:=a0_ hb;clear ho hb hg3 hat))
    go_roundg (t.length - (kk + 1))
    case measure=>omega
    case rel=>exact ⟨kk + 1,by omega,by omega,by go_num,⟨by rw [HST.out];exact HO.out⟩,HB⟩
   | false =>
    rw [hq] at hcall hst
    have HST:=a0_ hst
    clear hst
    go_wp2_with (go_at_fn g;refine hcall.mono ?_;rintro e w2 ⟨rfl,hb2⟩;replace HO:=a0_ (Kd.R_below HO.out hb2);replace HB:=a0_ (below_step HB.out hb2);clear hb2)
    go_roundg (t.length - (kk + 1))
    case measure=>omega
    case rel=>exact ⟨kk + 1,by omega,by omega,by go_num,⟨by rw [HST.out];simpa using HO.out⟩,HB⟩
  ·have hltz : ¬ (kk : Int) < (t.length : Int):=by omega
   have : kk = t.length:=by omega
   subst this
   obtain ⟨Ao,co,eo⟩:=Kd.R_slice HO.out
   subst eo
   have hcap:=(Kd.R_reads' HO.out).2.1
   go_wp2
   go_ret
   exact ⟨_,rfl,Kd.R_clip HO.out,HB.out⟩
end Go.Proofs.Ytfphcdbnnienhaa.P
namespace Go.Proofs.Ytfphcdbnnienhaa.P
open Go.RowKit Go.Proofs.YtfphcdbnnienhaaW.PrintWords Go.Proofs.YtfphcdbnnienhaaW.PrintLast Go.Proofs.YtfphcdbnnienhaaW.PrintMore
attribute [local go_sem] max2_int min2_int max_two min_two max_three min_three max_four min_four
set_option linter.unusedVariables false
set_option linter.unusedSimpArgs false
theorem impl_LeastCatches_1_1.callsF (B D : Nat) (A : Option Addr) (c : Nat) (t : List Cls) (a b : Int) (w : World) (hv : vT t = true) (ha : a < (t.length : Int)) (hB : w.heap[B]? = some (.cells #[.int .i64 a] 3 (0,0))) (hD : w.heap[D]? = some (.cells #[.slice A t.length c] 25 (0,0))) (hr : Kd.C k85 w A t.length t) (hc : t.length ≤ c) :
  Calls Try.prog 60 #[.int .i64 b,.pointer (some ⟨B,0,none⟩),.pointer (some ⟨D,0,none⟩)] w fun e w'=>e = .returned (.bool (!decide (b = a) && isA t a b)) ∧ Below w.heap.size w w':=by
 have hu31:=Try.underlying25
 have hcell : w.cell? ⟨D,0,none⟩ = some (.slice A t.length c):=(blk_cell hD 0).trans rfl
 have hcell2 : w.cell? ⟨B,0,none⟩ = some (.int .i64 a):=(blk_cell hB 0).trans rfl
 have hcon:=impl_Tree_is.calls 10 A c t a b (isA t a b) w hr hc (impl_Tree_is_ev hv a b ha 10 (by omega) (by omega))
 clear hB hD hr hv
 generalize isA t a b = r at hcon ⊢
 by_cases hq : b = a
 ·have hd1 : (b == a) = true:=beq_iff_eq.2 hq
  have hd2 : (b != a) = false:=bne_eq_false_iff_eq.2 hq
  rw [decide_eq_true hq]
  clear hq
  go_enter Try.func60,Try.ntmps60
  go_wp2_with (go_at_call 47;refine hcon.mono ?_;rintro e w' ⟨rfl,hb'⟩)
  go_ret
  exact ⟨rfl,Below.refl _ w⟩
 ·have hd1 : (b == a) = false:=beq_eq_false_iff_ne.2 hq
  have hd2 : (b != a) = true:=bne_iff_ne.2 hq
  rw [decide_eq_false hq]
  clear hq
  go_enter Try.func60,Try.ntmps60
  go_wp2_with (go_at_call 47;refine hcon.mono ?_;rintro e w' ⟨rfl,hb'⟩)
  go_ret
  exact ⟨by simp,hb'⟩
end Go.Proofs.Ytfphcdbnnienhaa.P
namespace Go.Proofs.Ytfphcdbnnienhaa.P
open Go.RowKit Go.Proofs.YtfphcdbnnienhaaW.PrintWords Go.Proofs.YtfphcdbnnienhaaW.PrintLast Go.Proofs.YtfphcdbnnienhaaW.PrintMore
attribute [local go_sem] max2_int min2_int max_two min_two max_three min_three max_four min_four
set_option linter.unusedVariables false
set_option linter.unusedSimpArgs false
set_option maxHeartbeats 1000000 in
theorem impl_LeastCatches_1.callsF (B D : Nat) (A : Option Addr) (c : Nat) (t : List Cls) (A1 : Option Addr) (c1 : Nat) (l : List Int) (a : Int) (w : World) (hv : vT t = true) (ha : a < (t.length : Int)) (hB : w.heap[B]? = some (.cells #[.slice A1 l.length c1] 49 (0,0))) (hD : w.heap[D]? = some (.cells #[.slice A t.length c] 25 (0,0))) (hr : Kd.C k85 w A t.length t) (hc : t.length ≤ c) (hr1 : Kd.C (Kd.int .i64) w A1 l.length l) (hc1 : l.length ≤ c1) :
  Calls Try.prog 57 #[.int .i64 a,.pointer (some ⟨B,0,none⟩),.pointer (some ⟨D,0,none⟩)] w fun e w'=>e = .returned (.bool (l.contains a && !(l.any fun b=>!decide (b = a) && isA t a b))) ∧ Below w.heap.size w w':=by
 have hu31:=Try.underlying25
 have HCO:=a0_ (fun (W : World) (hb : Below w.heap.size w W)=>slices_Contains_int.calls (l.length + 1) A1 c1 l a (l.contains a) W (Kd.C_below hr1 hb) hc1 (slices_Contains_int_ev l a hr1.2.1 _ (by omega)))
 have eg : ∀ args w,(callFunc 60 args).run Try.prog w = .ok (.enter 60 args) w:=enters_of Try.func60 (by kernel_rfl) rfl
 have HC:=a0_ (fun (W : World) (hb : Below w.heap.size w W) (hG : W.heap[w.heap.size]? = some (.cells #[.int .i64 a] 3 (0,0))) (hE : W.heap[D]? = some (.cells #[.slice A t.length c] 25 (0,0)))=>slices_ContainsFunc_int.callsF A1 c1 l 60 #[.pointer (some ⟨w.heap.size,0,none⟩),.pointer (some ⟨D,0,none⟩)] (fun b=>!decide (b = a) && isA t a b) W eg (Kd.C_below hr1 hb) hc1 (fun b _ W' hW=>impl_LeastCatches_1_1.callsF w.heap.size D A c t a b W' hv ha (blk_keptB hG hW) (blk_keptB hE hW) (Kd.C_below (Kd.C_below hr hb) hW) hc))
 have HB:=a0_ (below1 w (.cells #[.int .i64 a] 3))
 have BK1:=a0_ (heap_new1 w (.cells #[.int .i64 a] 3))
 have hBw:=blk_keptB hB HB.out
 have BKD:=a0_ (blk_keptB hD HB.out)
 have hcell : (w.alloc (.cells #[.int .i64 a] 3)).cell? ⟨B,0,none⟩ = some (.slice A1 l.length c1):=(blk_cell hBw 0).trans rfl
 have hcell2 : (w.alloc (.cells #[.int .i64 a] 3)).cell? ⟨w.heap.size,0,none⟩ = some (.int .i64 a):=(blk_cell BK1.out 0).trans rfl
 clear hB hD hr hr1 hv eg hBw
 generalize (l.any fun b=>!decide (b = a) && isA t a b) = q at HC ⊢
 cases hq : l.contains a with
 | false =>
  rw [hq] at HCO
  clear hq
  go_enter Try.func57,Try.ntmps57
  go_wp2_with (go_at_call 58;refine (HCO.out _ HB.out).mono ?_;rintro e w' ⟨rfl,hd'⟩;have hb':=hd'.below;replace HB:=a0_ (below_step HB.out hb'))
  go_ret
  exact ⟨rfl,HB.out⟩
 | true =>
  rw [hq] at HCO
  clear hq
  go_enter Try.func57,Try.ntmps57
  go_wp2_with (first
   | (go_at_call 58;refine (HCO.out _ HB.out).mono ?_;rintro e w' ⟨rfl,hd'⟩;have hb':=hd'.below;replace HB:=a0_ (below_step HB.out hb');replace BK1:=a0_ (blk_keptB BK1.out hb');replace BKD:=a0_ (blk_keptB BKD.out hb');replace hcell:=pw_cell_below hb' hcell)
   | (go_at_call 59;refine (HC.out _ HB.out BK1.out BKD.out).mono ?_;rintro e w2 ⟨rfl,hb2⟩;replace HB:=a0_ (below_step HB.out hb2)))
  go_ret
  exact ⟨by simp,HB.out⟩
end Go.Proofs.Ytfphcdbnnienhaa.P
namespace Go.Proofs.Ytfphcdbnnienhaa.P
open Go.RowKit Go.Proofs.YtfphcdbnnienhaaW.PrintWords Go.Proofs.YtfphcdbnnienhaaW.PrintLast Go.Proofs.YtfphcdbnnienhaaW.PrintMore
attribute [local go_sem] max2_int min2_int max_two min_two max_three min_three max_four min_four
set_option linter.unusedVariables false
set_option linter.unusedSimpArgs false
def impl_LeastCatches.f (l0_0 : List Cls) (l1 : List Int) : Option (List Int):=if smT l0_0 = true then some (leastP l0_0 l1) else none
set_option maxHeartbeats 2000000 in
set_option maxRecDepth 100000 in
theorem impl_LeastCatches.calls (A0_0 : Option Addr) (c0_0 : Nat) (l0_0 : List (S85)) (A1 : Option Addr) (c1 : Nat) (l1 : List Int) (r : List Int) (w : World) (hr0_0 : Kd.C k85 w A0_0 l0_0.length l0_0) (hc0_0 : l0_0.length ≤ c0_0) (hr1 : Kd.C (Kd.int .i64) w A1 l1.length l1) (hc1 : l1.length ≤ c1) (h : impl_LeastCatches.f l0_0 l1 = some r) :
  Calls Try.prog 34 #[.agg #[.slice A0_0 l0_0.length c0_0],.slice A1 l1.length c1] w fun e w'=>∃ v0_ : Value,e = .returned (v0_) ∧ Kd.R (Kd.int .i64) 3 w' w.heap.size (fun _=>True) v0_ r ∧ Below w.heap.size w w':=by
 have hu31:=Try.underlying25
 have hsm : smT l0_0 = true:=by
  apply Classical.byContradiction
  intro hn
  rw [impl_LeastCatches.f,if_neg hn] at h
  cases h
 rw [impl_LeastCatches.f,if_pos hsm] at h
 obtain rfl:=Option.some.inj h
 clear h
 have HK:=a0_ (fun (W : World) (hb : Below w.heap.size w W)=>impl_catchesOk.calls A0_0 c0_0 l0_0 A1 c1 l1 (okCat l0_0 l1) W (Kd.C_below hr0_0 hb) hc0_0 (Kd.C_below hr1 hb) hc1 (impl_catchesOk_ev l0_0 l1 hsm))
 have eg : ∀ args w,(callFunc 57 args).run Try.prog w = .ok (.enter 57 args) w:=enters_of Try.func57 (by kernel_rfl) rfl
 have hcell:=(blk_cell (heap_old2 w (.cells #[.slice A0_0 l0_0.length c0_0] 25) (.cells #[.slice A1 l1.length c1] 49)) 0).trans rfl
 have hcell2:=(blk_cell (heap_new2 w (.cells #[.slice A0_0 l0_0.length c0_0] 25) (.cells #[.slice A1 l1.length c1] 49)) 0).trans rfl
 unfold leastP
 cases hb1 : okCat l0_0 l1 with
 | false =>
  rw [hb1] at HK
  rw [if_neg (by simp)]
  clear hr0_0 hr1 hsm eg hb1
  go_enter Try.func34,Try.ntmps34
  go_wp2_with (go_at_call 53;refine (HK.out _ (below2 w _ _)).mono ?_;rintro e w' ⟨rfl,hb'⟩)
  go_ret
  exact ⟨_,rfl,Kd.R_nil _ _ _ _ _,(below2 w _ _).trans (hb'.mono (by simp;omega))⟩
 | true =>
  rw [hb1] at HK
  have hv : vT l0_0 = true:=by unfold okCat at hb1;simp only [Bool.and_eq_true] at hb1;exact hb1.1
  have hlen:=vT_len hv
  have HC:=a0_ (fun (W : World) (hb : Below w.heap.size w W) (hB : W.heap[w.heap.size]? = some (.cells #[.slice A0_0 l0_0.length c0_0] 25 (0,0))) (hD : W.heap[w.heap.size + 1]? = some (.cells #[.slice A1 l1.length c1] 49 (0,0)))=>impl_Tree_filter.callsF A0_0 c0_0 l0_0 57 #[.pointer (some ⟨w.heap.size + 1,0,none⟩),.pointer (some ⟨w.heap.size,0,none⟩)] (fun a=>l1.contains a && !(l1.any fun b=>!decide (b = a) && isA l0_0 a b)) W eg (Kd.C_below hr0_0 hb) hc0_0 (by omega) (fun i hi W' hW=>impl_LeastCatches_1.callsF (w.heap.size + 1) w.heap.size A0_0 c0_0 l0_0 A1 c1 l1 (i : Int) W' hv (by omega) (blk_keptB hD hW) (blk_keptB hB hW) (Kd.C_below (Kd.C_below hr0_0 hb) hW) hc0_0 (Kd.C_below (Kd.C_below hr1 hb) hW) hc1))
  rw [if_pos rfl]
  clear hr0_0 hr1 hsm eg hb1 hv
  generalize fil l0_0 (fun a=>l1.contains a && !(l1.any fun b=>!decide (b = a) && isA l0_0 a b)) = res at HC ⊢
  go_enter Try.func34,Try.ntmps34
  go_wp2_with (first
   | (go_at_call 53;refine (HK.out _ (below2 w _ _)).mono ?_;rintro e w1 ⟨rfl,hb1⟩;replace hcell:=pw_cell_below hb1 hcell;replace hcell2:=pw_cell_below hb1 hcell2)
   | (go_at_call 56;refine (HC.out _ ((below2 w _ _).trans (hb1.mono (by simp;omega))) (blk_keptB (heap_old2 w _ _) hb1) (blk_keptB (heap_new2 w _ _) hb1)).mono ?_;rintro e w2 ⟨v2,rfl,ho2,hb2⟩))
  go_ret
  exact ⟨_,rfl,Kd.R_lower ho2 (by have:=hb1.size;simp at this;omega),below_step ((below2 w _ _).trans (hb1.mono (by simp;omega))) hb2⟩
theorem impl_LeastCatches_ev (t : List Cls) (l : List Int) (hs : smT t = true) : Ev (fun _=>impl_LeastCatches.f t l) (leastP t l):=by
 refine Ev.const ?_
 unfold impl_LeastCatches.f
 rw [if_pos hs]
end Go.Proofs.Ytfphcdbnnienhaa.P
namespace Go.Proofs.Ytfphcdbnnienhaa.P
open Go.RowKit Go.Proofs.YtfphcdbnnienhaaW.PrintWords Go.Proofs.YtfphcdbnnienhaaW.PrintLast Go.Proofs.YtfphcdbnnienhaaW.PrintMore
attribute [local go_sem] max2_int min2_int max_two min_two max_three min_three max_four min_four
set_option linter.unusedVariables false
set_option linter.unusedSimpArgs false
theorem impl_Tree_first_1.callsF (B D : Nat) (A : Option Addr) (c : Nat) (t : List Cls) (a b : Int) (w : World) (hv : vT t = true) (ha : a < (t.length : Int)) (hB : w.heap[B]? = some (.cells #[.slice A t.length c] 25 (0,0))) (hD : w.heap[D]? = some (.cells #[.int .i64 a] 3 (0,0))) (hr : Kd.C k85 w A t.length t) (hc : t.length ≤ c) :
  Calls Try.prog 81 #[.int .i64 b,.pointer (some ⟨B,0,none⟩),.pointer (some ⟨D,0,none⟩)] w fun e w'=>e = .returned (.bool (isA t a b)) ∧ Below w.heap.size w w':=by
 have hu31:=Try.underlying25
 have hcell : w.cell? ⟨B,0,none⟩ = some (.slice A t.length c):=(blk_cell hB 0).trans rfl
 have hcell2 : w.cell? ⟨D,0,none⟩ = some (.int .i64 a):=(blk_cell hD 0).trans rfl
 have hcon:=impl_Tree_is.calls 10 A c t a b (isA t a b) w hr hc (impl_Tree_is_ev hv a b ha 10 (by omega) (by omega))
 clear hB hD hr hv
 generalize isA t a b = r at hcon ⊢
 go_enter Try.func81,Try.ntmps81
 go_wp2_with (go_at_call 47;refine hcon.mono ?_;rintro e w' ⟨rfl,hb'⟩)
 go_ret
 exact ⟨rfl,hb'⟩
end Go.Proofs.Ytfphcdbnnienhaa.P
namespace Go.Proofs.Ytfphcdbnnienhaa.P
open Go.RowKit Go.Proofs.YtfphcdbnnienhaaW.PrintWords Go.Proofs.YtfphcdbnnienhaaW.PrintLast Go.Proofs.YtfphcdbnnienhaaW.PrintMore
attribute [local go_sem] max2_int min2_int max_two min_two max_three min_three max_four min_four
set_option linter.unusedVariables false
set_option linter.unusedSimpArgs false
def impl_Tree_first.f (l0_0 : List Cls) (l1 : List Int) (a2 : Int) : Option Int:=if vT l0_0 = true ∧ a2 < (l0_0.length : Int) then some (idxP (fun b=>isA l0_0 a2 b) l1) else none
set_option maxHeartbeats 2000000 in
theorem impl_Tree_first.calls (A0_0 : Option Addr) (c0_0 : Nat) (l0_0 : List (S85)) (A1 : Option Addr) (c1 : Nat) (l1 : List Int) (a2 : Int) (r : Int) (w : World) (hr0_0 : Kd.C k85 w A0_0 l0_0.length l0_0) (hc0_0 : l0_0.length ≤ c0_0) (hr1 : Kd.C (Kd.int .i64) w A1 l1.length l1) (hc1 : l1.length ≤ c1) (h : impl_Tree_first.f l0_0 l1 a2 = some r) :
  Calls Try.prog 55 #[.agg #[.slice A0_0 l0_0.length c0_0],.slice A1 l1.length c1,.int .i64 a2] w fun e w'=>e = .returned (.int .i64 r) ∧ Below w.heap.size w w':=by
 have hu31:=Try.underlying25
 have hsm : vT l0_0 = true ∧ a2 < (l0_0.length : Int):=by
  apply Classical.byContradiction
  intro hn
  rw [impl_Tree_first.f,if_neg hn] at h
  cases h
 rw [impl_Tree_first.f,if_pos hsm] at h
 obtain rfl:=Option.some.inj h
 have eg : ∀ args w,(callFunc 81 args).run Try.prog w = .ok (.enter 81 args) w:=enters_of Try.func81 (by kernel_rfl) rfl
 have HC:=a0_ (fun (W : World) (hb : Below w.heap.size w W) (hB : W.heap[w.heap.size]? = some (.cells #[.slice A0_0 l0_0.length c0_0] 25 (0,0))) (hD : W.heap[w.heap.size + 1]? = some (.cells #[.int .i64 a2] 3 (0,0)))=>slices_IndexFunc_int.callsF A1 c1 l1 81 #[.pointer (some ⟨w.heap.size,0,none⟩),.pointer (some ⟨w.heap.size + 1,0,none⟩)] (fun b=>isA l0_0 a2 b) W eg (Kd.C_below hr1 hb) hc1 (fun x _ W' hW=>impl_Tree_first_1.callsF w.heap.size (w.heap.size + 1) A0_0 c0_0 l0_0 a2 x W' hsm.1 hsm.2 (blk_keptB hB hW) (blk_keptB hD hW) (Kd.C_below (Kd.C_below hr0_0 hb) hW) hc0_0))
 clear h hr0_0 hr1 hsm eg
 generalize idxP (fun b=>isA l0_0 a2 b) l1 = r at HC ⊢
 go_enter Try.func55,Try.ntmps55
 go_wp2_with (go_at_call 80;refine (HC.out _ (below2 w _ _) (heap_old2 w _ _) (heap_new2 w _ _)).mono ?_;rintro e w2 ⟨rfl,hb2⟩)
 go_ret
 exact ⟨rfl,(below2 w _ _).trans (hb2.mono (by simp;omega))⟩
end Go.Proofs.Ytfphcdbnnienhaa.P
namespace Go.Proofs.Ytfphcdbnnienhaa.P
open Go.RowKit Go.Proofs.YtfphcdbnnienhaaW.PrintWords Go.Proofs.YtfphcdbnnienhaaW.PrintLast Go.Proofs.YtfphcdbnnienhaaW.PrintMore
attribute [local go_sem] max2_int min2_int max_two min_two max_three min_three max_four min_four
set_option linter.unusedVariables false
set_option linter.unusedSimpArgs false
def impl_FirstCatch.f (l0_0 : List (S85)) (l1 : List Int) (a2 : Int) : Option (Int):=(impl_catchesOk.f l0_0 l1).bind fun t2=>(if t2 = true then ((impl_Tree_has.f l0_0 a2).bind fun t3=>(if t3 = true then ((impl_Tree_first.f l0_0 l1 a2).bind fun t4=>(some t4)) else (some (-2)))) else (some (-2)))
set_option maxHeartbeats 8000000 in
set_option maxRecDepth 100000 in
theorem impl_FirstCatch.calls (A0_0 : Option Addr) (c0_0 : Nat) (l0_0 : List (S85)) (A1 : Option Addr) (c1 : Nat) (l1 : List Int) (a2 : Int) (r : Int) (w : World) (hr0_0 : Kd.C k85 w A0_0 l0_0.length l0_0) (hc0_0 : l0_0.length ≤ c0_0) (hr1 : Kd.C (Kd.int .i64) w A1 l1.length l1) (hc1 : l1.length ≤ c1) (h : impl_FirstCatch.f l0_0 l1 a2 = some r) :
  Calls Try.prog 35 #[.agg #[.slice A0_0 l0_0.length c0_0],.slice A1 l1.length c1,.int .i64 a2] w fun e w'=>e = .returned (.int .i64 r) ∧ Below w.heap.size w w':=by
 have hu25:=Try.underlying25
 have HR0_0:=a0_ hr0_0
 have HC0_0:=a0_ hc0_0
 clear hr0_0 hc0_0
 have HR1:=a0_ hr1
 have HC1:=a0_ hc1
 clear hr1 hc1
 have HB:=a0_ (Below.refl w.heap.size w)
 have H : ((impl_catchesOk.f l0_0 l1).bind fun t2=>(if t2 = true then ((impl_Tree_has.f l0_0 a2).bind fun t3=>(if t3 = true then ((impl_Tree_first.f l0_0 l1 a2).bind fun t4=>(some t4)) else (some (-2)))) else (some (-2)))) = some r:=h
 clear h
 replace H:=Option.bind_eq_some_iff.mp H
 obtain ⟨t2,A40,H⟩:=H
 try dsimp only at H
 have A4:=a0_ A40
 clear A40
 by_cases c5 : t2 = true
 ·subst c5
  have H1 : ((impl_Tree_has.f l0_0 a2).bind fun t3=>(if t3 = true then ((impl_Tree_first.f l0_0 l1 a2).bind fun t4=>(some t4)) else (some (-2)))) = some r:=by rw [if_pos rfl] at H;exact H
  clear H
  have H:=H1
  clear H1
  replace H:=Option.bind_eq_some_iff.mp H
  obtain ⟨t3,A60,H⟩:=H
  try dsimp only at H
  have A6:=a0_ A60
  clear A60
  by_cases c7 : t3 = true
  ·subst c7
   have H1 : ((impl_Tree_first.f l0_0 l1 a2).bind fun t4=>(some t4)) = some r:=by rw [if_pos rfl] at H;exact H
   clear H
   have H:=H1
   clear H1
   replace H:=Option.bind_eq_some_iff.mp H
   obtain ⟨t4,A80,H⟩:=H
   replace H : (some t4) = some r:=H
   have A8:=a0_ A80
   clear A80
   obtain rfl:=Option.some.inj H
   go_enter Try.func35,Try.ntmps35
   go_wp2_with (first | ((with_reducible refine gate_dst (N:=3) rfl ?_);refine box_event ?hg (N:=3) ?hd (cs:=#[.slice A0_0 l0_0.length c0_0]) (t:=25) ?hr ?_;(case hd=>rfl);(case hg=>rfl);(case hr=>first | (go_simp;done) | (go_simp;rfl));intro gb1 hg w9 hbox hb;have BK1:=a0_ (hbox);have GW1:=a0_ ((by rw [hg];exact (below_size hb_) : w.heap.size ≤ gb1));have GE1:=a0_ ((by rw [hg];exact (below_size hb_) : w.heap.size ≤ gb1));replace HB:=a0_ (below_step hb_ hb);clear hb hbox hg;have hcz10_0 : w9.cell? ⟨gb1,0,none⟩ = some (.slice A0_0 l0_0.length c0_0):=(blk_cell BK1.out 0).trans rfl;have hfz10_0:=blk_frozen BK1.out 0) | ((with_reducible refine gate_callee (f:=53) rfl ?_);refine goesL_ (some 9) rfl rfl Try.func53 (by kernel_rfl) rfl #[.agg #[.slice A0_0 l0_0.length c0_0],.slice A1 l1.length c1] rfl lm_ ?_;(with_reducible refine (impl_catchesOk.calls _ _ l0_0 _ _ l1 true _ ?side1 ?side2 ?side3 ?side4 A4.out).mono ?_);(case side1=>exact cc_ (Kd.C_below HR0_0.out HB.out));(case side2=>exact HC0_0.out);(case side3=>exact cc_ (Kd.C_below HR1.out HB.out));(case side4=>exact HC1.out);rintro e w11 ⟨rfl,hb⟩;refine ⟨_,rfl,?_⟩;replace BK1:=kb_ BK1 hb;replace HB:=a0_ (below_step hb_ hb);(try clear hb);have hcz12_0 : w11.cell? ⟨gb1,0,none⟩ = some (.slice A0_0 l0_0.length c0_0):=(blk_cell BK1.out 0).trans rfl;have hfz12_0:=blk_frozen BK1.out 0) | (go_at_call 44;(with_reducible refine (impl_Tree_has.calls _ _ l0_0 a2 true _ ?side1 ?side2 A6.out).mono ?_);(case side1=>exact cc_ (Kd.C_below HR0_0.out HB.out));(case side2=>exact HC0_0.out);rintro e w13 ⟨rfl,hb⟩;replace BK1:=kb_ BK1 hb;replace HB:=a0_ (below_step hb_ hb);(try clear hb);have hcz14_0 : w13.cell? ⟨gb1,0,none⟩ = some (.slice A0_0 l0_0.length c0_0):=(blk_cell BK1.out 0).trans rfl;have hfz14_0:=blk_frozen BK1.out 0) | ((with_reducible refine gate_callee (f:=55) rfl ?_);refine goesL_ (some 20) rfl rfl Try.func55 (by kernel_rfl) rfl #[.agg #[.slice A0_0 l0_0.length c0_0],.slice A1 l1.length c1,.int .i64 a2] rfl lm_ ?_;(with_reducible refine (impl_Tree_first.calls _ _ l0_0 _ _ l1 a2 t4 _ ?side1 ?side2 ?side3 ?side4 A8.out).mono ?_);(case side1=>exact cc_ (Kd.C_below HR0_0.out HB.out));(case side2=>exact HC0_0.out);(case side3=>exact cc_ (Kd.C_below HR1.out HB.out));(case side4=>exact HC1.out);rintro e w15 ⟨rfl,hb⟩;refine ⟨_,rfl,?_⟩;replace BK1:=kb_ BK1 hb;replace HB:=a0_ (below_step hb_ hb);(try clear hb);(try clear hb2);(try clear hk);(try clear hi)))
   go_ret
   exact ⟨by first | rfl | (simp [errW_none,errW_some] <;> rfl) | (simp [*,errW_none,errW_some] <;> rfl),hb_⟩
  ·replace c7:=Bool.eq_false_iff.mpr c7
   subst c7
   have H1 : (some (-2)) = some r:=by rw [if_neg (show ¬ (false = true) by decide)] at H;exact H
   clear H
   have H:=H1
   clear H1
   obtain rfl:=Option.some.inj H
   go_enter Try.func35,Try.ntmps35
   go_wp2_with (first | ((with_reducible refine gate_dst (N:=3) rfl ?_);refine box_event ?hg (N:=3) ?hd (cs:=#[.slice A0_0 l0_0.length c0_0]) (t:=25) ?hr ?_;(case hd=>rfl);(case hg=>rfl);(case hr=>first | (go_simp;done) | (go_simp;rfl));intro gb1 hg w16 hbox hb;have BK1:=a0_ (hbox);have GW1:=a0_ ((by rw [hg];exact (below_size hb_) : w.heap.size ≤ gb1));have GE1:=a0_ ((by rw [hg];exact (below_size hb_) : w.heap.size ≤ gb1));replace HB:=a0_ (below_step hb_ hb);clear hb hbox hg;have hcz17_0 : w16.cell? ⟨gb1,0,none⟩ = some (.slice A0_0 l0_0.length c0_0):=(blk_cell BK1.out 0).trans rfl;have hfz17_0:=blk_frozen BK1.out 0) | ((with_reducible refine gate_callee (f:=53) rfl ?_);refine goesL_ (some 9) rfl rfl Try.func53 (by kernel_rfl) rfl #[.agg #[.slice A0_0 l0_0.length c0_0],.slice A1 l1.length c1] rfl lm_ ?_;(with_reducible refine (impl_catchesOk.calls _ _ l0_0 _ _ l1 true _ ?side1 ?side2 ?side3 ?side4 A4.out).mono ?_);(case side1=>exact cc_ (Kd.C_below HR0_0.out HB.out));(case side2=>exact HC0_0.out);(case side3=>exact cc_ (Kd.C_below HR1.out HB.out));(case side4=>exact HC1.out);rintro e w18 ⟨rfl,hb⟩;refine ⟨_,rfl,?_⟩;replace BK1:=kb_ BK1 hb;replace HB:=a0_ (below_step hb_ hb);(try clear hb);have hcz19_0 : w18.cell? ⟨gb1,0,none⟩ = some (.slice A0_0 l0_0.length c0_0):=(blk_cell BK1.out 0).trans rfl;have hfz19_0:=blk_frozen BK1.out 0) | (go_at_call 44;(with_reducible refine (impl_Tree_has.calls _ _ l0_0 a2 false _ ?side1 ?side2 A6.out).mono ?_);(case side1=>exact cc_ (Kd.C_below HR0_0.out HB.out));(case side2=>exact HC0_0.out);rintro e w20 ⟨rfl,hb⟩;replace BK1:=kb_ BK1 hb;replace HB:=a0_ (below_step hb_ hb);(try clear hb);(try clear hb2);(try clear hk);(try clear hi)))
   go_ret
   exact ⟨by first | rfl | (simp [errW_none,errW_some] <;> rfl) | (simp [*,errW_none,errW_some] <;> rfl),hb_⟩
 ·replace c5:=Bool.eq_false_iff.mpr c5
  subst c5
  have H1 : (some (-2)) = some r:=by rw [if_neg (show ¬ (false = true) by decide)] at H;exact H
  clear H
  have H:=H1
  clear H1
  obtain rfl:=Option.some.inj H
  go_enter Try.func35,Try.ntmps35
  go_wp2_with (first | ((with_reducible refine gate_dst (N:=3) rfl ?_);refine box_event ?hg (N:=3) ?hd (cs:=#[.slice A0_0 l0_0.length c0_0]) (t:=25) ?hr ?_;(case hd=>rfl);(case hg=>rfl);(case hr=>first | (go_simp;done) | (go_simp;rfl));intro gb1 hg w21 hbox hb;have BK1:=a0_ (hbox);have GW1:=a0_ ((by rw [hg];exact (below_size hb_) : w.heap.size ≤ gb1));have GE1:=a0_ ((by rw [hg];exact (below_size hb_) : w.heap.size ≤ gb1));replace HB:=a0_ (below_step hb_ hb);clear hb hbox hg;have hcz22_0 : w21.cell? ⟨gb1,0,none⟩ = some (.slice A0_0 l0_0.length c0_0):=(blk_cell BK1.out 0).trans rfl;have hfz22_0:=blk_frozen BK1.out 0) | ((with_reducible refine gate_callee (f:=53) rfl ?_);refine goesL_ (some 9) rfl rfl Try.func53 (by kernel_rfl) rfl #[.agg #[.slice A0_0 l0_0.length c0_0],.slice A1 l1.length c1] rfl lm_ ?_;(with_reducible refine (impl_catchesOk.calls _ _ l0_0 _ _ l1 false _ ?side1 ?side2 ?side3 ?side4 A4.out).mono ?_);(case side1=>exact cc_ (Kd.C_below HR0_0.out HB.out));(case side2=>exact HC0_0.out);(case side3=>exact cc_ (Kd.C_below HR1.out HB.out));(case side4=>exact HC1.out);rintro e w23 ⟨rfl,hb⟩;refine ⟨_,rfl,?_⟩;replace BK1:=kb_ BK1 hb;replace HB:=a0_ (below_step hb_ hb);(try clear hb);(try clear hb2);(try clear hk);(try clear hi)))
  go_ret
  exact ⟨by first | rfl | (simp [errW_none,errW_some] <;> rfl) | (simp [*,errW_none,errW_some] <;> rfl),hb_⟩
end Go.Proofs.Ytfphcdbnnienhaa.P
namespace Go.Proofs.Ytfphcdbnnienhaa.P
open Go.RowKit Go.Proofs.YtfphcdbnnienhaaW.PrintWords Go.Proofs.YtfphcdbnnienhaaW.PrintLast Go.Proofs.YtfphcdbnnienhaaW.PrintMore
attribute [local go_sem] max2_int min2_int max_two min_two max_three min_three max_four min_four
set_option linter.unusedVariables false
set_option linter.unusedSimpArgs false
def laws_FnHandleGroupLeast.j0 : Nat → List (S47) → List Int → List (List (S47)) → List (S47) → List (List (S47)) → List (S47) → Bool → List (S85) → Option (Bool)
 | 0,_,_,_,_,_,_,_,_=>none
 | k + 1,x4,x5,x6,x7,x8,x9,x57,x11000=>if x57 = true then ((laws_equalGroups.f k x6 x8).bind fun t26=>(if t26 = true then ((laws_equalGroup.f k x7 x9).bind fun t27=>(some t27)) else (some false))) else ((impl_LeastCatches.f x11000 x5).bind fun t28=>((impl_HandleGroup.f k x11000 x4 t28).bind fun bt31=>((impl_FirstCatch.f x11000 x5 0).bind fun t37=>(if t37 = (-2) then (some true) else ((laws_equalGroup.f k bt31.2 x7).bind fun t38=>(some t38))))))
def laws_FnHandleGroupLeast.f (k : Nat) (l0 : List Int) : Option (Bool):=if (l0.length : Int) > 1048576 then (some true) else ((spec_DrawHandleGroup.f k l0).bind fun bt1=>((impl_HandleGroup.f k bt1.1 bt1.2.1 bt1.2.2).bind fun bt11=>((spec_HandleGroup.f k bt1.1 bt1.2.1 bt1.2.2).bind fun bt17=>((laws_equalGroups.f k bt11.1 bt17.1).bind fun t23=>(if t23 = true then ((laws_equalGroup.f k bt11.2 bt17.2).bind fun t24=>(if t24 = true then (if (bt11.1.length : Int) = (bt1.2.2.length : Int) then ((impl_ValidGroup.f k bt1.1 bt1.2.1).bind fun t25=>(laws_FnHandleGroupLeast.j0 k bt1.2.1 bt1.2.2 bt11.1 bt11.2 bt17.1 bt17.2 (!t25) bt1.1)) else (laws_FnHandleGroupLeast.j0 k bt1.2.1 bt1.2.2 bt11.1 bt11.2 bt17.1 bt17.2 true bt1.1)) else (laws_FnHandleGroupLeast.j0 k bt1.2.1 bt1.2.2 bt11.1 bt11.2 bt17.1 bt17.2 true bt1.1))) else (laws_FnHandleGroupLeast.j0 k bt1.2.1 bt1.2.2 bt11.1 bt11.2 bt17.1 bt17.2 true bt1.1))))))
theorem laws_FnHandleGroupLeast.mono_l : ∀ k,(∀ y0 y1 y2 y3 y4 y5 y6 y7,LeO (laws_FnHandleGroupLeast.j0 k y0 y1 y2 y3 y4 y5 y6 y7) (laws_FnHandleGroupLeast.j0 (k + 1) y0 y1 y2 y3 y4 y5 y6 y7))
 | 0=>fun _ _ _ _ _ _ _ _ r h=>by simp [laws_FnHandleGroupLeast.j0] at h
 | k + 1=>by
  have ih0:=laws_FnHandleGroupLeast.mono_l k
  ·intro y0 y1 y2 y3 y4 y5 y6 y7
   unfold laws_FnHandleGroupLeast.j0
   repeat' first
   | (with_reducible exact ih0 _ _ _ _ _ _ _ _)
   | (with_reducible exact impl_HandleGroup.mono _ _ _ _)
   | (with_reducible exact impl_ValidGroup.mono _ _ _)
   | (with_reducible exact laws_equalGroup.mono _ _ _)
   | (with_reducible exact laws_equalGroups.mono _ _ _)
   | (with_reducible exact spec_DrawHandleGroup.mono _ _)
   | (with_reducible exact spec_HandleGroup.mono _ _ _ _)
   | (with_reducible exact LeO.refl _)
   | (with_reducible exact LeO.none _)
   | (with_reducible refine LeO.ite ?_ ?_)
   | (with_reducible refine LeO.bind ?_ (fun _=>?_))
   | exact ih0 _ _ _ _ _ _ _ _
   | exact impl_HandleGroup.mono _ _ _ _
   | exact impl_ValidGroup.mono _ _ _
   | exact laws_equalGroup.mono _ _ _
   | exact laws_equalGroups.mono _ _ _
   | exact spec_DrawHandleGroup.mono _ _
   | exact spec_HandleGroup.mono _ _ _ _
   | exact LeO.none _
   | refine LeO.ite ?_ ?_
   | refine LeO.bind ?_ (fun _=>?_)
theorem laws_FnHandleGroupLeast.mono : ∀ a0 k,LeO (laws_FnHandleGroupLeast.f k a0) (laws_FnHandleGroupLeast.f (k + 1) a0):=by
 intro a0 k
 have ih0:=laws_FnHandleGroupLeast.mono_l k
 unfold laws_FnHandleGroupLeast.f
 repeat' first
   | (with_reducible exact ih0 _ _ _ _ _ _ _ _)
   | (with_reducible exact impl_HandleGroup.mono _ _ _ _)
   | (with_reducible exact impl_ValidGroup.mono _ _ _)
   | (with_reducible exact laws_equalGroup.mono _ _ _)
   | (with_reducible exact laws_equalGroups.mono _ _ _)
   | (with_reducible exact spec_DrawHandleGroup.mono _ _)
   | (with_reducible exact spec_HandleGroup.mono _ _ _ _)
   | (with_reducible exact LeO.refl _)
   | (with_reducible exact LeO.none _)
   | (with_reducible refine LeO.ite ?_ ?_)
   | (with_reducible refine LeO.bind ?_ (fun _=>?_))
   | exact ih0 _ _ _ _ _ _ _ _
   | exact impl_HandleGroup.mono _ _ _ _
   | exact impl_ValidGroup.mono _ _ _
   | exact laws_equalGroup.mono _ _ _
   | exact laws_equalGroups.mono _ _ _
   | exact spec_DrawHandleGroup.mono _ _
   | exact spec_HandleGroup.mono _ _ _ _
   | exact LeO.none _
   | refine LeO.ite ?_ ?_
   | refine LeO.bind ?_ (fun _=>?_)
def laws_FnHandleGroupLeast.T8 : Bool × List (List Nat × List Nat):=(true,[([],[]),([],[]),([],[]),([],[]),([2,3],[2,3]),([0,1,4,4],[0,1,4]),([5],[5]),([6],[6]),([6],[6]),([7,5,0,1,2,3,4,5,6,7],[7]),([8,9,0,1,2,3,4,5,6,7,8,9],[8])])
def laws_FnHandleGroupLeast.B8 : List Nat:=[0,0,0,0,12,31,63,127,127,255,1023]
theorem laws_FnHandleGroupLeast.tab8 : rtab .any (opsOf Try.f10 8) = laws_FnHandleGroupLeast.T8:=by kernel_rfl
theorem laws_FnHandleGroupLeast.bits8 : waitsOk laws_FnHandleGroupLeast.T8.2 laws_FnHandleGroupLeast.B8 = true:=by kernel_rfl
set_option maxHeartbeats 8000000 in
set_option maxRecDepth 100000 in
theorem laws_FnHandleGroupLeast.calls (k : Nat) (A0 : Option Addr) (c0 : Nat) (l0 : List Int) (r : Bool) (w : World) (hr0 : Kd.C (Kd.int .u8) w A0 l0.length l0) (hc0 : l0.length ≤ c0) (h : laws_FnHandleGroupLeast.f k l0 = some r) :
  Calls Try.prog 10 #[.slice A0 l0.length c0] w fun e w'=>e = .returned (.bool r) ∧ Below w.heap.size w w':=by
 have hu25:=Try.underlying25
 have HR0:=a0_ hr0
 have HC0:=a0_ hc0
 clear hr0 hc0
 have HB:=a0_ (Below.refl w.heap.size w)
 have H : (if (l0.length : Int) > 1048576 then (some true) else ((spec_DrawHandleGroup.f k l0).bind fun bt1=>((impl_HandleGroup.f k bt1.1 bt1.2.1 bt1.2.2).bind fun bt11=>((spec_HandleGroup.f k bt1.1 bt1.2.1 bt1.2.2).bind fun bt17=>((laws_equalGroups.f k bt11.1 bt17.1).bind fun t23=>(if t23 = true then ((laws_equalGroup.f k bt11.2 bt17.2).bind fun t24=>(if t24 = true then (if (bt11.1.length : Int) = (bt1.2.2.length : Int) then ((impl_ValidGroup.f k bt1.1 bt1.2.1).bind fun t25=>(laws_FnHandleGroupLeast.j0 k bt1.2.1 bt1.2.2 bt11.1 bt11.2 bt17.1 bt17.2 (!t25) bt1.1)) else (laws_FnHandleGroupLeast.j0 k bt1.2.1 bt1.2.2 bt11.1 bt11.2 bt17.1 bt17.2 true bt1.1)) else (laws_FnHandleGroupLeast.j0 k bt1.2.1 bt1.2.2 bt11.1 bt11.2 bt17.1 bt17.2 true bt1.1))) else (laws_FnHandleGroupLeast.j0 k bt1.2.1 bt1.2.2 bt11.1 bt11.2 bt17.1 bt17.2 true bt1.1))))))) = some r:=h
 clear h
 by_cases c2 : (l0.length : Int) > 1048576
 ·rw [if_pos c2] at H
  have c2b0 : decide (1048576 < (l0.length : Int)) = true:=decide_eq_true c2
  have c2b1 : decide (1048576 < l0.length) = true:=decide_eq_true (by omega)
  clear c2
  obtain rfl:=Option.some.inj H
  go_enter Try.func10,Try.ntmps10
  go_wp2
  go_ret
  exact ⟨by first | rfl | (simp [errW_none,errW_some] <;> rfl) | (simp [*,errW_none,errW_some] <;> rfl),hb_⟩
 ·rw [if_neg c2] at H
  have c2b0 : decide (1048576 < (l0.length : Int)) = false:=decide_eq_false c2
  have c2b1 : decide (1048576 < l0.length) = false:=decide_eq_false (by omega)
  clear c2
  replace H:=Option.bind_eq_some_iff.mp H
  obtain ⟨⟨t1,t4,t7⟩,A30,H⟩:=H
  try dsimp only at H
  have A3:=a0_ A30
  clear A30
  replace H:=Option.bind_eq_some_iff.mp H
  obtain ⟨⟨t11,t14⟩,A40,H⟩:=H
  try dsimp only at H
  have A4:=a0_ A40
  clear A40
  replace H:=Option.bind_eq_some_iff.mp H
  obtain ⟨⟨t17,t20⟩,A50,H⟩:=H
  try dsimp only at H
  have A5:=a0_ A50
  clear A50
  have HC6:=a0_ H
  clear H
  go_enter Try.func10,Try.ntmps10
  go_upto_region 6 with (first | ((with_reducible refine gate_callee (f:=28) rfl ?_);refine goesL_ (some 17) rfl rfl Try.func28 (by kernel_rfl) rfl #[.slice A0 l0.length c0] rfl lm_ ?_;(with_reducible refine (spec_DrawHandleGroup.calls k _ _ l0 t1 t4 t7 _ ?side1 ?side2 A3.out).mono ?_);(case side1=>repeat (first | exact HR0.out | (with_reducible refine Kd.C_alloc ?_ _) | (with_reducible refine Kd.C_drewN ?_ _) | (with_reducible refine Kd.C_drew ?_)));(case side2=>exact HC0.out);rintro e w7 ⟨v2,v5,v8,rfl,ho0,ho1,ho2,hb⟩;refine ⟨_,rfl,?_⟩;have HO3:=a0_ (Kd.R_lower ho0 (below_size hb_));have HO6:=a0_ (Kd.R_lower ho1 (below_size hb_));have HO9:=a0_ (Kd.R_lower ho2 (below_size hb_));replace HB:=a0_ (below_step hb_ hb);(try clear hb);(try clear ho0);(try clear ho1);(try clear ho2)) | ((with_reducible refine gate_dst (N:=3) rfl ?_);(try (refine gate_guard (by rfl) ?_;dsimp only));refine box_event ?hg (N:=3) ?hd (cs:=#[.slice none 0 0]) (t:=25) ?hr ?_;(case hd=>rfl);(case hg=>rfl);(case hr=>first | (go_simp;done) | (go_simp;rfl));intro gb10 hg w8 hbox hb;replace HO3:=rb_ HO3 hb;replace HO6:=rb_ HO6 hb;replace HO9:=rb_ HO9 hb;have BK10:=a0_ (hbox);have GW10:=a0_ ((by rw [hg];exact (below_size hb_) : w.heap.size ≤ gb10));have GE10:=a0_ ((by rw [hg];exact (below_size hb_) : w.heap.size ≤ gb10));replace HB:=a0_ (below_step hb_ hb);clear hb hbox hg;obtain ⟨Ao9,co9,eo9⟩:=Kd.R_slice HO3.out;subst eo9;have hcz10_0 : w8.cell? ⟨gb10,0,none⟩ = some (.slice none 0 0):=(blk_cell BK10.out 0).trans rfl;have hfz10_0:=blk_frozen BK10.out 0;obtain ⟨Ao11,co11,eo11⟩:=Kd.R_slice HO6.out;subst eo11;obtain ⟨Ao12,co12,eo12⟩:=Kd.R_slice HO9.out;subst eo12) | ((with_reducible refine gate_callee (f:=29) rfl ?_);refine goesL_ (some 25) rfl rfl Try.func29 (by kernel_rfl) rfl #[.agg #[.slice Ao9 t1.length co9],.slice Ao11 t4.length co11,.slice Ao12 t7.length co12] rfl lm_ ?_;(with_reducible refine (impl_HandleGroup.calls k _ _ t1 _ _ t4 _ _ t7 t11 t14 _ ?side1 ?side2 ?side3 ?side4 ?side5 ?side6 A4.out).mono ?_);(case side1=>refine (Kd.R_reads' (e:=85) (base:=w.heap.size) (ok:=fun k_=>True) (n:=t1.length) (c:=co9) ?_).2.2;exact (by (with_reducible repeat (first | apply Kd.R_alloc | apply Kd.R_drewN | apply Kd.R_drew));exact (Kd.R_mono (Kd.R_far (p:=⟨gb10,0,none⟩) (Kd.R_types HO3.out BK10.out (by decide)) (fun _ hk=>hk.2) (.slice Ao9 t1.length co9)) (fun _ h_=>h_.1))));(case side2=>exact (Kd.R_reads' HO3.out).2.1);(case side3=>refine (Kd.R_reads' (e:=47) (base:=w.heap.size) (ok:=fun k_=>True) (n:=t4.length) (c:=co11) ?_).2.2;exact (by (with_reducible repeat (first | apply Kd.R_alloc | apply Kd.R_drewN | apply Kd.R_drew));exact (Kd.R_mono (Kd.R_far (p:=⟨gb10,0,none⟩) (Kd.R_types HO6.out BK10.out (by decide)) (fun _ hk=>hk.2) (.slice Ao9 t1.length co9)) (fun _ h_=>h_.1))));(case side4=>exact (Kd.R_reads' HO6.out).2.1);(case side5=>refine (Kd.R_reads' (e:=3) (base:=w.heap.size) (ok:=fun k_=>True) (n:=t7.length) (c:=co12) ?_).2.2;exact (by (with_reducible repeat (first | apply Kd.R_alloc | apply Kd.R_drewN | apply Kd.R_drew));exact (Kd.R_mono (Kd.R_far (p:=⟨gb10,0,none⟩) (Kd.R_types HO9.out BK10.out (by decide)) (fun _ hk=>hk.2) (.slice Ao9 t1.length co9)) (fun _ h_=>h_.1))));(case side6=>exact (Kd.R_reads' HO9.out).2.1);rintro e w13 ⟨v12,v15,rfl,ho0,ho1,hb⟩;refine ⟨_,rfl,?_⟩;have n0_:=a0_ (Kd.R_below (by (with_reducible repeat (first | apply Kd.R_alloc | apply Kd.R_drewN | apply Kd.R_drew));exact (Kd.R_mono (Kd.R_far (p:=⟨gb10,0,none⟩) (Kd.R_types HO3.out BK10.out (by decide)) (fun _ hk=>hk.2) (.slice Ao9 t1.length co9)) (fun _ h_=>h_.1))) hb);have n1_:=a0_ (Kd.R_elder' (by (with_reducible repeat (first | apply Kd.R_alloc | apply Kd.R_drewN | apply Kd.R_drew));exact (Kd.R_mono (Kd.R_far (p:=⟨gb10,0,none⟩) (Kd.R_types HO6.out BK10.out (by decide)) (fun _ hk=>hk.2) (.slice Ao9 t1.length co9)) (fun _ h_=>h_.1))) (Kd.R_base ho1) hb);have n2_:=a0_ (Kd.R_below (by (with_reducible repeat (first | apply Kd.R_alloc | apply Kd.R_drewN | apply Kd.R_drew));exact (Kd.R_mono (Kd.R_far (p:=⟨gb10,0,none⟩) (Kd.R_types HO9.out BK10.out (by decide)) (fun _ hk=>hk.2) (.slice Ao9 t1.length co9)) (fun _ h_=>h_.1))) hb);have n3_:=a0_ (Kd.S_lower (Kd.S_new' ho0 (Kd.R_lt (by (with_reducible repeat (first | apply Kd.R_alloc | apply Kd.R_drewN | apply Kd.R_drew));exact (Kd.R_mono (Kd.R_far (p:=⟨gb10,0,none⟩) (Kd.R_types HO6.out BK10.out (by decide)) (fun _ hk=>hk.2) (.slice Ao9 t1.length co9)) (fun _ h_=>h_.1))))) (below_size hb_));have n4_:=a0_ (Kd.R_lower (Kd.R_new' ho1 (Kd.R_lt (by (with_reducible repeat (first | apply Kd.R_alloc | apply Kd.R_drewN | apply Kd.R_drew));exact (Kd.R_mono (Kd.R_far (p:=⟨gb10,0,none⟩) (Kd.R_types HO6.out BK10.out (by decide)) (fun _ hk=>hk.2) (.slice Ao9 t1.length co9)) (fun _ h_=>h_.1))))) (below_size hb_));have n5_:=a0_ (blk_below (g:=gb10) (o:=.cells #[.slice Ao9 t1.length co9] 25 (0,0)) (by (with_reducible repeat (first | refine blk_drewN ?_ _ | refine blk_drew ?_ | refine blk_alloc ?_ _));refine blk_put (cs:=#[.slice none 0 0]) ?_ 0 _ rfl;(with_reducible repeat (first | refine blk_drewN ?_ _ | refine blk_drew ?_ | refine blk_alloc ?_ _));exact BK10.out) hb);have n6_:=a0_ (below_step hb_ hb);clear HO3 HO6;clear HO9 BK10 HB;have HO3:=n0_;have HO6:=n1_;have HO9:=n2_;have HO13:=n3_;have HO16:=n4_;have BK10:=n5_;have HB:=n6_;clear n0_ n1_ n2_ n3_ n4_ n5_ n6_;(try clear hb);(try clear ho0);(try clear ho1);have hcz14_0 : w13.cell? ⟨gb10,0,none⟩ = some (.slice Ao9 t1.length co9):=(blk_cell BK10.out 0).trans rfl;have hfz14_0:=blk_frozen BK10.out 0) | ((with_reducible refine gate_callee (f:=30) rfl ?_);refine goesL_ (some 32) rfl rfl Try.func30 (by kernel_rfl) rfl #[.agg #[.slice Ao9 t1.length co9],.slice Ao11 t4.length co11,.slice Ao12 t7.length co12] rfl lm_ ?_;(with_reducible refine (spec_HandleGroup.calls k _ _ t1 _ _ t4 _ _ t7 t17 t20 _ ?side1 ?side2 ?side3 ?side4 ?side5 ?side6 A5.out).mono ?_);(case side1=>exact cc_ (Kd.R_reads' HO3.out).2.2);(case side2=>exact (Kd.R_reads' HO3.out).2.1);(case side3=>exact cc_ (Kd.R_reads' HO6.out).2.2);(case side4=>exact (Kd.R_reads' HO6.out).2.1);(case side5=>exact cc_ (Kd.R_reads' HO9.out).2.2);(case side6=>exact (Kd.R_reads' HO9.out).2.1);rintro e w15 ⟨v18,v21,rfl,ho0,ho1,hb⟩;refine ⟨_,rfl,?_⟩;have n0_:=rb_ HO3 hb;have n1_:=a0_ (Kd.R_elder' (rr_ HO6.out) (Kd.R_base ho1) hb);have n2_:=rb_ HO9 hb;have n3_:=a0_ (Kd.S_mono (Kd.S_told (Kd.S_told (Kd.S_old (by (with_reducible repeat (first | apply Kd.S_alloc | apply Kd.S_drewN | apply Kd.S_drew));exact HO13.out) hb) (Kd.S_base ho0)) (Kd.R_base ho1)) (fun _ h_=>h_.1));have n4_:=a0_ (Kd.R_elder' (rr_ HO16.out) (Kd.R_base ho1) hb);have n5_:=a0_ (Kd.S_lower (Kd.S_new' (Kd.S_new' (Kd.S_new' ho0 (Kd.R_lt (rr_ HO6.out))) (Kd.S_lt (by (with_reducible repeat (first | apply Kd.S_alloc | apply Kd.S_drewN | apply Kd.S_drew));exact HO13.out))) (Kd.R_lt (rr_ HO16.out))) (below_size hb_));have n6_:=a0_ (Kd.R_lower (Kd.R_new' (Kd.R_new' ho1 (Kd.R_lt (rr_ HO6.out))) (Kd.R_lt (rr_ HO16.out))) (below_size hb_));have n7_:=kb_ BK10 hb;have n8_:=a0_ (below_step hb_ hb);clear HO3 HO6;clear HO9 HO13;clear HO16 BK10 HB;have HO3:=n0_;have HO6:=n1_;have HO9:=n2_;have HO13:=n3_;have HO16:=n4_;have HO19:=n5_;have HO22:=n6_;have BK10:=n7_;have HB:=n8_;clear n0_ n1_ n2_ n3_ n4_ n5_ n6_ n7_ n8_;(try clear hb);(try clear ho0);(try clear ho1)))
  (try simp only [Act.put,s1_,s2_,s3_])
  go_cut [57] (fun v57 wc=>∃ (kq : Nat) (x57_5 : Bool),v57 = .bool x57_5 ∧ Aside0 (laws_FnHandleGroupLeast.j0 kq t4 t7 t11 t14 t17 t20 x57_5 t1 = some r) ∧ Aside0 (kq ≤ k) ∧ Aside0 (Kd.R k47 47 wc w.heap.size (fun k_=>some k_ ≠ (v15 : Value).ownBlock ∧ some k_ ≠ (v21 : Value).ownBlock) (.slice Ao11 t4.length co11) t4) ∧ Aside0 (Kd.R (Kd.int .i64) 3 wc w.heap.size (fun _=>True) (.slice Ao12 t7.length co12) t7) ∧ Aside0 (Kd.S (Kd.slice 47 k47) 26 wc w.heap.size (fun k_=>some k_ ≠ ((.slice Ao11 t4.length co11) : Value).ownBlock ∧ some k_ ≠ (v15 : Value).ownBlock ∧ some k_ ≠ (v18 : Value).ownBlock ∧ some k_ ≠ (v21 : Value).ownBlock) v12 t11) ∧ Aside0 (Kd.R k47 47 wc w.heap.size (fun k_=>some k_ ≠ ((.slice Ao11 t4.length co11) : Value).ownBlock ∧ some k_ ≠ (v21 : Value).ownBlock) v15 t14) ∧ Aside0 (Kd.S (Kd.slice 47 k47) 26 wc w.heap.size (fun k_=>some k_ ≠ ((.slice Ao11 t4.length co11) : Value).ownBlock ∧ some k_ ≠ (v12 : Value).ownBlock ∧ some k_ ≠ (v15 : Value).ownBlock ∧ some k_ ≠ (v21 : Value).ownBlock) v18 t17) ∧ Aside0 (Kd.R k47 47 wc w.heap.size (fun k_=>some k_ ≠ ((.slice Ao11 t4.length co11) : Value).ownBlock ∧ some k_ ≠ (v15 : Value).ownBlock) v21 t20) ∧ Aside0 (Kd.R k85 85 wc w.heap.size (fun _=>True) (.slice Ao9 t1.length co9) t1) ∧ Aside0 (wc.heap[gb10]? = some (.cells #[(.slice Ao9 t1.length co9)] 25 (0,0))) ∧ Aside0 (Below w.heap.size w wc))
  case first =>
   have H:=HC6.out
   clear HC6
   replace H:=Option.bind_eq_some_iff.mp H
   obtain ⟨t23,A160,H⟩:=H
   try dsimp only at H
   have A16:=a0_ A160
   clear A160
   by_cases c17 : t23 = true
   ·subst c17
    have H1 : ((laws_equalGroup.f k t14 t20).bind fun t24=>(if t24 = true then (if (t11.length : Int) = (t7.length : Int) then ((impl_ValidGroup.f k t1 t4).bind fun t25=>(laws_FnHandleGroupLeast.j0 k t4 t7 t11 t14 t17 t20 (!t25) t1)) else (laws_FnHandleGroupLeast.j0 k t4 t7 t11 t14 t17 t20 true t1)) else (laws_FnHandleGroupLeast.j0 k t4 t7 t11 t14 t17 t20 true t1))) = some r:=by rw [if_pos rfl] at H;exact H
    clear H
    have H:=H1
    clear H1
    replace H:=Option.bind_eq_some_iff.mp H
    obtain ⟨t24,A180,H⟩:=H
    try dsimp only at H
    have A18:=a0_ A180
    clear A180
    by_cases c19 : t24 = true
    ·subst c19
     have H1 : (if (t11.length : Int) = (t7.length : Int) then ((impl_ValidGroup.f k t1 t4).bind fun t25=>(laws_FnHandleGroupLeast.j0 k t4 t7 t11 t14 t17 t20 (!t25) t1)) else (laws_FnHandleGroupLeast.j0 k t4 t7 t11 t14 t17 t20 true t1)) = some r:=by rw [if_pos rfl] at H;exact H
     clear H
     have H:=H1
     clear H1
     by_cases c20 : (t11.length : Int) = (t7.length : Int)
     ·rw [if_pos c20] at H
      have c20b0 : ((t11.length : Int) == (t7.length : Int)) = true:=beq_iff_eq.mpr c20
      have c20b1 : ((t11.length : Int) != (t7.length : Int)) = false:=bne_eq_false_iff_eq.mpr c20
      have c20b2 : (t11.length == t7.length) = true:=by first | simpa using c20 | (simp at c20 ⊢;omega)
      clear c20
      (first | rw [c20b0] | (simp only [i64_w,i32_w];rw [c20b0]) | skip)
      replace H:=Option.bind_eq_some_iff.mp H
      obtain ⟨t25,A210,H⟩:=H
      try dsimp only at H
      have A21:=a0_ A210
      clear A210
      have H':=a0_ H
      clear H
      obtain ⟨Ao22,co22,eo22⟩:=Kd.S_slice HO13.out
      subst eo22
      obtain ⟨Ao23,co23,eo23⟩:=Kd.S_slice HO19.out
      subst eo23
      go_wp2_with (first | ((with_reducible refine gate_callee (f:=31) rfl ?_);refine goesL_ (some 37) rfl rfl Try.func31 (by kernel_rfl) rfl #[.slice Ao22 t11.length co22,.slice Ao23 t17.length co23] rfl lm_ ?_;(with_reducible refine (laws_equalGroups.calls k _ _ t11 _ _ t17 true _ ?side1 ?side2 ?side3 ?side4 A16.out).mono ?_);(case side1=>repeat (first | exact (Kd.S_reads' HO13.out).2.2 | (with_reducible refine Kd.C_alloc ?_ _) | (with_reducible refine Kd.C_drewN ?_ _) | (with_reducible refine Kd.C_drew ?_)));(case side2=>exact (Kd.S_reads' HO13.out).2.1);(case side3=>repeat (first | exact (Kd.S_reads' HO19.out).2.2 | (with_reducible refine Kd.C_alloc ?_ _) | (with_reducible refine Kd.C_drewN ?_ _) | (with_reducible refine Kd.C_drew ?_)));(case side4=>exact (Kd.S_reads' HO19.out).2.1);rintro e w' ⟨rfl,⟨nd,rfl⟩⟩;refine ⟨_,rfl,?_⟩;obtain ⟨Ao24,co24,eo24⟩:=Kd.R_slice HO16.out;subst eo24;obtain ⟨Ao25,co25,eo25⟩:=Kd.R_slice HO22.out;subst eo25) | (go_at_call 13;(with_reducible refine (laws_equalGroup.calls k _ _ t14 _ _ t20 true _ ?side1 ?side2 ?side3 ?side4 A18.out).mono ?_);(case side1=>exact cc_ (Kd.R_reads' HO16.out).2.2);(case side2=>exact (Kd.R_reads' HO16.out).2.1);(case side3=>exact cc_ (Kd.R_reads' HO22.out).2.2);(case side4=>exact (Kd.R_reads' HO22.out).2.1);rintro e w' ⟨rfl,⟨nd,rfl⟩⟩;have hcz26_0 : w15.cell? ⟨gb10,0,none⟩ = some (.slice Ao9 t1.length co9):=(blk_cell BK10.out 0).trans rfl;have hfz26_0:=blk_frozen BK10.out 0) | (go_at_call 15;(with_reducible refine (impl_ValidGroup.calls k _ _ t1 _ _ t4 t25 _ ?side1 ?side2 ?side3 ?side4 A21.out).mono ?_);(case side1=>exact cc_ (Kd.R_reads' HO3.out).2.2);(case side2=>exact (Kd.R_reads' HO3.out).2.1);(case side3=>exact cc_ (Kd.R_reads' HO6.out).2.2);(case side4=>exact (Kd.R_reads' HO6.out).2.1);rintro e w27 ⟨rfl,hb⟩;replace HO3:=rb_ HO3 hb;replace HO6:=rb_ HO6 hb;replace HO9:=rb_ HO9 hb;replace HO13:=a0_ (Kd.S_below (by (with_reducible repeat (first | apply Kd.S_alloc | apply Kd.S_drewN | apply Kd.S_drew));exact HO13.out) hb);replace HO16:=rb_ HO16 hb;replace HO19:=a0_ (Kd.S_below (by (with_reducible repeat (first | apply Kd.S_alloc | apply Kd.S_drewN | apply Kd.S_drew));exact HO19.out) hb);replace HO22:=rb_ HO22 hb;replace BK10:=kb_ BK10 hb;replace HB:=a0_ (below_step hb_ hb);(try clear hb);(try clear hb2);(try clear hk);(try clear hi)))
      go_meet
      case rel=>exact ⟨_,(!t25),(by first | rfl | (simp;done) | (simp [*];done)),H',⟨by first | omega | exact Nat.le_refl _⟩,⟨by (with_reducible repeat (first | apply Kd.R_alloc | apply Kd.R_drewN | apply Kd.R_drew));exact Kd.R_mono HO6.out (fun _ hk=>⟨hk.1.2,hk.2⟩)⟩,⟨by (with_reducible repeat (first | apply Kd.R_alloc | apply Kd.R_drewN | apply Kd.R_drew));exact HO9.out⟩,⟨by (with_reducible repeat (first | apply Kd.S_alloc | apply Kd.S_drewN | apply Kd.S_drew));exact Kd.S_mono HO13.out (fun _ hk=>⟨hk.1.1.2,⟨hk.1.1.1,⟨hk.1.2,hk.2⟩⟩⟩)⟩,⟨by (with_reducible repeat (first | apply Kd.R_alloc | apply Kd.R_drewN | apply Kd.R_drew));exact Kd.R_mono HO16.out (fun _ hk=>⟨hk.1.2,hk.2⟩)⟩,⟨by (with_reducible repeat (first | apply Kd.S_alloc | apply Kd.S_drewN | apply Kd.S_drew));exact Kd.S_mono HO19.out (fun _ hk=>⟨hk.1.1.2,⟨hk.1.2,⟨hk.2,hk.1.1.1⟩⟩⟩)⟩,⟨by (with_reducible repeat (first | apply Kd.R_alloc | apply Kd.R_drewN | apply Kd.R_drew));exact Kd.R_mono HO22.out (fun _ hk=>⟨hk.1.2,hk.2⟩)⟩,⟨by (with_reducible repeat (first | apply Kd.R_alloc | apply Kd.R_drewN | apply Kd.R_drew));exact HO3.out⟩,⟨by (with_reducible repeat (first | refine blk_drewN ?_ _ | refine blk_drew ?_ | refine blk_alloc ?_ _));exact BK10.out⟩,⟨hb_⟩⟩
     ·rw [if_neg c20] at H
      have c20b0 : ((t11.length : Int) == (t7.length : Int)) = false:=beq_eq_false_iff_ne.mpr c20
      have c20b1 : ((t11.length : Int) != (t7.length : Int)) = true:=bne_iff_ne.mpr c20
      have c20b2 : (t11.length == t7.length) = false:=by first | simpa using c20 | (simp at c20 ⊢;omega)
      (first | rw [c20b0] | (simp only [i64_w,i32_w];rw [c20b0]) | skip)
      have H':=a0_ H
      clear H
      obtain ⟨Ao28,co28,eo28⟩:=Kd.S_slice HO13.out
      subst eo28
      obtain ⟨Ao29,co29,eo29⟩:=Kd.S_slice HO19.out
      subst eo29
      go_wp2_with (first | ((with_reducible refine gate_callee (f:=31) rfl ?_);refine goesL_ (some 37) rfl rfl Try.func31 (by kernel_rfl) rfl #[.slice Ao28 t11.length co28,.slice Ao29 t17.length co29] rfl lm_ ?_;(with_reducible refine (laws_equalGroups.calls k _ _ t11 _ _ t17 true _ ?side1 ?side2 ?side3 ?side4 A16.out).mono ?_);(case side1=>repeat (first | exact (Kd.S_reads' HO13.out).2.2 | (with_reducible refine Kd.C_alloc ?_ _) | (with_reducible refine Kd.C_drewN ?_ _) | (with_reducible refine Kd.C_drew ?_)));(case side2=>exact (Kd.S_reads' HO13.out).2.1);(case side3=>repeat (first | exact (Kd.S_reads' HO19.out).2.2 | (with_reducible refine Kd.C_alloc ?_ _) | (with_reducible refine Kd.C_drewN ?_ _) | (with_reducible refine Kd.C_drew ?_)));(case side4=>exact (Kd.S_reads' HO19.out).2.1);rintro e w' ⟨rfl,⟨nd,rfl⟩⟩;refine ⟨_,rfl,?_⟩;obtain ⟨Ao30,co30,eo30⟩:=Kd.R_slice HO16.out;subst eo30;obtain ⟨Ao31,co31,eo31⟩:=Kd.R_slice HO22.out;subst eo31) | (go_at_call 13;(with_reducible refine (laws_equalGroup.calls k _ _ t14 _ _ t20 true _ ?side1 ?side2 ?side3 ?side4 A18.out).mono ?_);(case side1=>exact cc_ (Kd.R_reads' HO16.out).2.2);(case side2=>exact (Kd.R_reads' HO16.out).2.1);(case side3=>exact cc_ (Kd.R_reads' HO22.out).2.2);(case side4=>exact (Kd.R_reads' HO22.out).2.1);rintro e w' ⟨rfl,⟨nd,rfl⟩⟩))
      go_meet
      case rel=>exact ⟨_,(true),(by first | rfl | (simp;done) | (simp [*];done)),H',⟨by first | omega | exact Nat.le_refl _⟩,⟨by (with_reducible repeat (first | apply Kd.R_alloc | apply Kd.R_drewN | apply Kd.R_drew));exact Kd.R_mono HO6.out (fun _ hk=>⟨hk.1.2,hk.2⟩)⟩,⟨by (with_reducible repeat (first | apply Kd.R_alloc | apply Kd.R_drewN | apply Kd.R_drew));exact HO9.out⟩,⟨by (with_reducible repeat (first | apply Kd.S_alloc | apply Kd.S_drewN | apply Kd.S_drew));exact Kd.S_mono HO13.out (fun _ hk=>⟨hk.1.1.2,⟨hk.1.1.1,⟨hk.1.2,hk.2⟩⟩⟩)⟩,⟨by (with_reducible repeat (first | apply Kd.R_alloc | apply Kd.R_drewN | apply Kd.R_drew));exact Kd.R_mono HO16.out (fun _ hk=>⟨hk.1.2,hk.2⟩)⟩,⟨by (with_reducible repeat (first | apply Kd.S_alloc | apply Kd.S_drewN | apply Kd.S_drew));exact Kd.S_mono HO19.out (fun _ hk=>⟨hk.1.1.2,⟨hk.1.2,⟨hk.2,hk.1.1.1⟩⟩⟩)⟩,⟨by (with_reducible repeat (first | apply Kd.R_alloc | apply Kd.R_drewN | apply Kd.R_drew));exact Kd.R_mono HO22.out (fun _ hk=>⟨hk.1.2,hk.2⟩)⟩,⟨by (with_reducible repeat (first | apply Kd.R_alloc | apply Kd.R_drewN | apply Kd.R_drew));exact HO3.out⟩,⟨by (with_reducible repeat (first | refine blk_drewN ?_ _ | refine blk_drew ?_ | refine blk_alloc ?_ _));exact BK10.out⟩,⟨hb_⟩⟩
    ·replace c19:=Bool.eq_false_iff.mpr c19
     subst c19
     have H1 : (laws_FnHandleGroupLeast.j0 k t4 t7 t11 t14 t17 t20 true t1) = some r:=by rw [if_neg (show ¬ (false = true) by decide)] at H;exact H
     clear H
     have H:=H1
     clear H1
     have H':=a0_ H
     clear H
     obtain ⟨Ao32,co32,eo32⟩:=Kd.S_slice HO13.out
     subst eo32
     obtain ⟨Ao33,co33,eo33⟩:=Kd.S_slice HO19.out
     subst eo33
     go_wp2_with (first | ((with_reducible refine gate_callee (f:=31) rfl ?_);refine goesL_ (some 37) rfl rfl Try.func31 (by kernel_rfl) rfl #[.slice Ao32 t11.length co32,.slice Ao33 t17.length co33] rfl lm_ ?_;(with_reducible refine (laws_equalGroups.calls k _ _ t11 _ _ t17 true _ ?side1 ?side2 ?side3 ?side4 A16.out).mono ?_);(case side1=>repeat (first | exact (Kd.S_reads' HO13.out).2.2 | (with_reducible refine Kd.C_alloc ?_ _) | (with_reducible refine Kd.C_drewN ?_ _) | (with_reducible refine Kd.C_drew ?_)));(case side2=>exact (Kd.S_reads' HO13.out).2.1);(case side3=>repeat (first | exact (Kd.S_reads' HO19.out).2.2 | (with_reducible refine Kd.C_alloc ?_ _) | (with_reducible refine Kd.C_drewN ?_ _) | (with_reducible refine Kd.C_drew ?_)));(case side4=>exact (Kd.S_reads' HO19.out).2.1);rintro e w' ⟨rfl,⟨nd,rfl⟩⟩;refine ⟨_,rfl,?_⟩;obtain ⟨Ao34,co34,eo34⟩:=Kd.R_slice HO16.out;subst eo34;obtain ⟨Ao35,co35,eo35⟩:=Kd.R_slice HO22.out;subst eo35) | (go_at_call 13;(with_reducible refine (laws_equalGroup.calls k _ _ t14 _ _ t20 false _ ?side1 ?side2 ?side3 ?side4 A18.out).mono ?_);(case side1=>exact cc_ (Kd.R_reads' HO16.out).2.2);(case side2=>exact (Kd.R_reads' HO16.out).2.1);(case side3=>exact cc_ (Kd.R_reads' HO22.out).2.2);(case side4=>exact (Kd.R_reads' HO22.out).2.1);rintro e w' ⟨rfl,⟨nd,rfl⟩⟩))
     go_meet
     case rel=>exact ⟨_,(true),(by first | rfl | (simp;done) | (simp [*];done)),H',⟨by first | omega | exact Nat.le_refl _⟩,⟨by (with_reducible repeat (first | apply Kd.R_alloc | apply Kd.R_drewN | apply Kd.R_drew));exact Kd.R_mono HO6.out (fun _ hk=>⟨hk.1.2,hk.2⟩)⟩,⟨by (with_reducible repeat (first | apply Kd.R_alloc | apply Kd.R_drewN | apply Kd.R_drew));exact HO9.out⟩,⟨by (with_reducible repeat (first | apply Kd.S_alloc | apply Kd.S_drewN | apply Kd.S_drew));exact Kd.S_mono HO13.out (fun _ hk=>⟨hk.1.1.2,⟨hk.1.1.1,⟨hk.1.2,hk.2⟩⟩⟩)⟩,⟨by (with_reducible repeat (first | apply Kd.R_alloc | apply Kd.R_drewN | apply Kd.R_drew));exact Kd.R_mono HO16.out (fun _ hk=>⟨hk.1.2,hk.2⟩)⟩,⟨by (with_reducible repeat (first | apply Kd.S_alloc | apply Kd.S_drewN | apply Kd.S_drew));exact Kd.S_mono HO19.out (fun _ hk=>⟨hk.1.1.2,⟨hk.1.2,⟨hk.2,hk.1.1.1⟩⟩⟩)⟩,⟨by (with_reducible repeat (first | apply Kd.R_alloc | apply Kd.R_drewN | apply Kd.R_drew));exact Kd.R_mono HO22.out (fun _ hk=>⟨hk.1.2,hk.2⟩)⟩,⟨by (with_reducible repeat (first | apply Kd.R_alloc | apply Kd.R_drewN | apply Kd.R_drew));exact HO3.out⟩,⟨by (with_reducible repeat (first | refine blk_drewN ?_ _ | refine blk_drew ?_ | refine blk_alloc ?_ _));exact BK10.out⟩,⟨hb_⟩⟩
   ·replace c17:=Bool.eq_false_iff.mpr c17
    subst c17
    have H1 : (laws_FnHandleGroupLeast.j0 k t4 t7 t11 t14 t17 t20 true t1) = some r:=by rw [if_neg (show ¬ (false = true) by decide)] at H;exact H
    clear H
    have H:=H1
    clear H1
    have H':=a0_ H
    clear H
    obtain ⟨Ao36,co36,eo36⟩:=Kd.S_slice HO13.out
    subst eo36
    obtain ⟨Ao37,co37,eo37⟩:=Kd.S_slice HO19.out
    subst eo37
    go_wp2_with (first | ((with_reducible refine gate_callee (f:=31) rfl ?_);refine goesL_ (some 37) rfl rfl Try.func31 (by kernel_rfl) rfl #[.slice Ao36 t11.length co36,.slice Ao37 t17.length co37] rfl lm_ ?_;(with_reducible refine (laws_equalGroups.calls k _ _ t11 _ _ t17 false _ ?side1 ?side2 ?side3 ?side4 A16.out).mono ?_);(case side1=>repeat (first | exact (Kd.S_reads' HO13.out).2.2 | (with_reducible refine Kd.C_alloc ?_ _) | (with_reducible refine Kd.C_drewN ?_ _) | (with_reducible refine Kd.C_drew ?_)));(case side2=>exact (Kd.S_reads' HO13.out).2.1);(case side3=>repeat (first | exact (Kd.S_reads' HO19.out).2.2 | (with_reducible refine Kd.C_alloc ?_ _) | (with_reducible refine Kd.C_drewN ?_ _) | (with_reducible refine Kd.C_drew ?_)));(case side4=>exact (Kd.S_reads' HO19.out).2.1);rintro e w' ⟨rfl,⟨nd,rfl⟩⟩;refine ⟨_,rfl,?_⟩))
    go_meet
    case rel=>exact ⟨_,(true),(by first | rfl | (simp;done) | (simp [*];done)),H',⟨by first | omega | exact Nat.le_refl _⟩,⟨by (with_reducible repeat (first | apply Kd.R_alloc | apply Kd.R_drewN | apply Kd.R_drew));exact Kd.R_mono HO6.out (fun _ hk=>⟨hk.1.2,hk.2⟩)⟩,⟨by (with_reducible repeat (first | apply Kd.R_alloc | apply Kd.R_drewN | apply Kd.R_drew));exact HO9.out⟩,⟨by (with_reducible repeat (first | apply Kd.S_alloc | apply Kd.S_drewN | apply Kd.S_drew));exact Kd.S_mono HO13.out (fun _ hk=>⟨hk.1.1.2,⟨hk.1.1.1,⟨hk.1.2,hk.2⟩⟩⟩)⟩,⟨by (with_reducible repeat (first | apply Kd.R_alloc | apply Kd.R_drewN | apply Kd.R_drew));exact Kd.R_mono HO16.out (fun _ hk=>⟨hk.1.2,hk.2⟩)⟩,⟨by (with_reducible repeat (first | apply Kd.S_alloc | apply Kd.S_drewN | apply Kd.S_drew));exact Kd.S_mono HO19.out (fun _ hk=>⟨hk.1.1.2,⟨hk.1.2,⟨hk.2,hk.1.1.1⟩⟩⟩)⟩,⟨by (with_reducible repeat (first | apply Kd.R_alloc | apply Kd.R_drewN | apply Kd.R_drew));exact Kd.R_mono HO22.out (fun _ hk=>⟨hk.1.2,hk.2⟩)⟩,⟨by (with_reducible repeat (first | apply Kd.R_alloc | apply Kd.R_drewN | apply Kd.R_drew));exact HO3.out⟩,⟨by (with_reducible repeat (first | refine blk_drewN ?_ _ | refine blk_drew ?_ | refine blk_alloc ?_ _));exact BK10.out⟩,⟨hb_⟩⟩
  case rest =>
   clear HC6
   try clear c1
   try clear c2
   try clear c2b0
   try clear c2b1
   try clear p2
   try clear c3
   try clear c10
   try clear c17
   try clear c19
   try clear c20
   try clear c20b0
   try clear c20b1
   try clear c20b2
   try clear c28
   try clear c29
   try clear c30
   try clear c31
   try clear hcz10_0
   try clear hcz14_0
   try clear hcz26_0
   try clear hfz10_0
   try clear hfz14_0
   try clear hfz26_0
   obtain ⟨kq,x57_5,rfl,HA,HJ5,HO_4,HO_5,HO_6,HO_7,HO_8,HO_9,Z11,BK10,HB⟩:=hcut
   cases kq with
   | zero=>exact absurd HA.out (by simp [laws_FnHandleGroupLeast.j0])
   | succ kj5 =>
    have H:=HA.out
    clear HA
    simp only [laws_FnHandleGroupLeast.j0] at H
    by_cases c38 : x57_5 = true
    ·subst c38
     have H1 : ((laws_equalGroups.f kj5 t11 t17).bind fun t26=>(if t26 = true then ((laws_equalGroup.f kj5 t14 t20).bind fun t27=>(some t27)) else (some false))) = some r:=by rw [if_pos rfl] at H;exact H
     clear H
     have H:=H1
     clear H1
     replace H:=Option.bind_eq_some_iff.mp H
     obtain ⟨t26,A390,H⟩:=H
     try dsimp only at H
     have A39:=a0_ A390
     clear A390
     by_cases c40 : t26 = true
     ·subst c40
      have H1 : ((laws_equalGroup.f kj5 t14 t20).bind fun t27=>(some t27)) = some r:=by rw [if_pos rfl] at H;exact H
      clear H
      have H:=H1
      clear H1
      replace H:=Option.bind_eq_some_iff.mp H
      obtain ⟨t27,A410,H⟩:=H
      replace H : (some t27) = some r:=H
      have A41:=a0_ A410
      clear A410
      obtain rfl:=Option.some.inj H
      obtain ⟨Ao42,co42,eo42⟩:=Kd.S_slice HO_6.out
      subst eo42
      obtain ⟨Ao43,co43,eo43⟩:=Kd.S_slice HO_8.out
      subst eo43
      go_wp2_with (first | ((with_reducible refine gate_callee (f:=31) rfl ?_);refine goesL_ (some 60) rfl rfl Try.func31 (by kernel_rfl) rfl #[.slice Ao42 t11.length co42,.slice Ao43 t17.length co43] rfl lm_ ?_;(with_reducible refine (laws_equalGroups.calls kj5 _ _ t11 _ _ t17 true _ ?side1 ?side2 ?side3 ?side4 A39.out).mono ?_);(case side1=>repeat (first | exact (Kd.S_reads' HO_6.out).2.2 | (with_reducible refine Kd.C_alloc ?_ _) | (with_reducible refine Kd.C_drewN ?_ _) | (with_reducible refine Kd.C_drew ?_)));(case side2=>exact (Kd.S_reads' HO_6.out).2.1);(case side3=>repeat (first | exact (Kd.S_reads' HO_8.out).2.2 | (with_reducible refine Kd.C_alloc ?_ _) | (with_reducible refine Kd.C_drewN ?_ _) | (with_reducible refine Kd.C_drew ?_)));(case side4=>exact (Kd.S_reads' HO_8.out).2.1);rintro e w' ⟨rfl,⟨nd,rfl⟩⟩;refine ⟨_,rfl,?_⟩;obtain ⟨Ao44,co44,eo44⟩:=Kd.R_slice HO_7.out;subst eo44;obtain ⟨Ao45,co45,eo45⟩:=Kd.R_slice HO_9.out;subst eo45) | (go_at_call 13;(with_reducible refine (laws_equalGroup.calls kj5 _ _ t14 _ _ t20 t27 _ ?side1 ?side2 ?side3 ?side4 A41.out).mono ?_);(case side1=>exact cc_ (Kd.R_reads' HO_7.out).2.2);(case side2=>exact (Kd.R_reads' HO_7.out).2.1);(case side3=>exact cc_ (Kd.R_reads' HO_9.out).2.2);(case side4=>exact (Kd.R_reads' HO_9.out).2.1);rintro e w' ⟨rfl,⟨nd,rfl⟩⟩))
      go_ret
      exact ⟨by first | rfl | (simp [errW_none,errW_some] <;> rfl) | (simp [*,errW_none,errW_some] <;> rfl),hb_⟩
     ·replace c40:=Bool.eq_false_iff.mpr c40
      subst c40
      have H1 : (some false) = some r:=by rw [if_neg (show ¬ (false = true) by decide)] at H;exact H
      clear H
      have H:=H1
      clear H1
      obtain rfl:=Option.some.inj H
      obtain ⟨Ao46,co46,eo46⟩:=Kd.S_slice HO_6.out
      subst eo46
      obtain ⟨Ao47,co47,eo47⟩:=Kd.S_slice HO_8.out
      subst eo47
      go_wp2_with (first | ((with_reducible refine gate_callee (f:=31) rfl ?_);refine goesL_ (some 60) rfl rfl Try.func31 (by kernel_rfl) rfl #[.slice Ao46 t11.length co46,.slice Ao47 t17.length co47] rfl lm_ ?_;(with_reducible refine (laws_equalGroups.calls kj5 _ _ t11 _ _ t17 false _ ?side1 ?side2 ?side3 ?side4 A39.out).mono ?_);(case side1=>repeat (first | exact (Kd.S_reads' HO_6.out).2.2 | (with_reducible refine Kd.C_alloc ?_ _) | (with_reducible refine Kd.C_drewN ?_ _) | (with_reducible refine Kd.C_drew ?_)));(case side2=>exact (Kd.S_reads' HO_6.out).2.1);(case side3=>repeat (first | exact (Kd.S_reads' HO_8.out).2.2 | (with_reducible refine Kd.C_alloc ?_ _) | (with_reducible refine Kd.C_drewN ?_ _) | (with_reducible refine Kd.C_drew ?_)));(case side4=>exact (Kd.S_reads' HO_8.out).2.1);rintro e w' ⟨rfl,⟨nd,rfl⟩⟩;refine ⟨_,rfl,?_⟩))
      go_ret
      exact ⟨by first | rfl | (simp [errW_none,errW_some] <;> rfl) | (simp [*,errW_none,errW_some] <;> rfl),hb_⟩
    ·replace c38:=Bool.eq_false_iff.mpr c38
     subst c38
     have H1 : ((impl_LeastCatches.f t1 t7).bind fun t28=>((impl_HandleGroup.f kj5 t1 t4 t28).bind fun bt31=>((impl_FirstCatch.f t1 t7 0).bind fun t37=>(if t37 = (-2) then (some true) else ((laws_equalGroup.f kj5 bt31.2 t14).bind fun t38=>(some t38)))))) = some r:=by rw [if_neg (show ¬ (false = true) by decide)] at H;exact H
     clear H
     have H:=H1
     clear H1
     replace H:=Option.bind_eq_some_iff.mp H
     obtain ⟨t28,A480,H⟩:=H
     try dsimp only at H
     have A48:=a0_ A480
     clear A480
     replace H:=Option.bind_eq_some_iff.mp H
     obtain ⟨⟨t31,t34⟩,A490,H⟩:=H
     try dsimp only at H
     have A49:=a0_ A490
     clear A490
     replace H:=Option.bind_eq_some_iff.mp H
     obtain ⟨t37,A500,H⟩:=H
     try dsimp only at H
     have A50:=a0_ A500
     clear A500
     by_cases c51 : t37 = (-2)
     ·rw [if_pos c51] at H
      have c51b0 : (t37 == (-2)) = true:=beq_iff_eq.mpr c51
      have c51b1 : (t37 != (-2)) = false:=bne_eq_false_iff_eq.mpr c51
      clear c51
      obtain rfl:=Option.some.inj H
      try go_wp2
      have n0_:=a0_ (Kd.R_drew HO_4.out)
      have n1_:=a0_ (Kd.R_drew HO_5.out)
      have n2_:=a0_ (Kd.S_drew HO_6.out)
      have n3_:=a0_ (Kd.R_drew HO_7.out)
      have n4_:=a0_ (Kd.S_drew HO_8.out)
      have n5_:=a0_ (Kd.R_drew HO_9.out)
      have n6_:=a0_ (Kd.R_drew Z11.out)
      have n7_:=a0_ (blk_drew BK10.out)
      have n8_:=a0_ (below_drew1 HB.out)
      clear HO_4
      clear HO_5
      clear HO_6
      clear HO_7
      clear HO_8
      clear HO_9
      clear Z11
      clear BK10
      clear HB
      have HO_4:=n0_
      have HO_5:=n1_
      have HO_6:=n2_
      have HO_7:=n3_
      have HO_8:=n4_
      have HO_9:=n5_
      have Z11:=n6_
      have BK10:=n7_
      have HB:=n8_
      clear n0_ n1_ n2_ n3_ n4_ n5_ n6_ n7_ n8_
      refine start_ (n:=11) (S:=fun w'=>w'.cell? ⟨gb10,0,none⟩ = some (.slice Ao9 t1.length co9)) (ds:=[]) #[false,false,false,false,false,false,false,false,false,false,false] (by kernel_rfl) rfl rfl ((blk_cell BK10.out 0).trans rfl) (fun hHeld=>?_);refine with_tabW laws_FnHandleGroupLeast.tab8 laws_FnHandleGroupLeast.bits8 (fun HT_ HW_=>?_)
      generalize wc.drew = w52 at HO_4 HO_5 HO_6 HO_7 HO_8 HO_9 Z11 BK10 HB hHeld ⊢
      refine pure_ (i:=1) (N:=some 68) (v:=?_) (a':=?_) #[false,true,false,false,false,false,false,false,false,false,false] rfl rfl (any_of HT_.out (by kernel_rfl)) (fun _ _ _ h=>h) (Or.inl ⟨by rfl,?_⟩) ?_ ?_
      rotate_left
      ·intro w'
       go_simp
       with_reducible rfl
      rotate_left
      ·simp only [Act.put,s1_,s2_,s3_,i64_w,i32_w]
       rfl
      refine pure_ (i:=3) (N:=some 70) (v:=?_) (a':=?_) #[false,true,false,true,false,false,false,false,false,false,false] rfl rfl (any_of HT_.out (by kernel_rfl)) (fun _ _ _ h=>h) (Or.inl ⟨by rfl,?_⟩) ?_ ?_
      rotate_left
      ·intro w'
       go_simp
       with_reducible rfl
      rotate_left
      ·simp only [Act.put,s1_,s2_,s3_,i64_w,i32_w]
       rfl
      refine take_ (i:=0) (N:=some 67) (v:=?_) (a':=?_) #[true,true,false,true,false,false,false,false,false,false,false] rfl rfl (take_ofW HT_.out HW_.out (by kernel_rfl)) (fun _ _ _ h=>h) (Or.inl ⟨by rfl,?_⟩) hHeld ?_ ?_
      rotate_left
      ·intro w' s0
       go_simp
       with_reducible rfl
      rotate_left
      ·simp only [Act.put,s1_,s2_,s3_,i64_w,i32_w]
       rfl
      refine take_ (i:=2) (N:=some 69) (v:=?_) (a':=?_) #[true,true,true,true,false,false,false,false,false,false,false] rfl rfl (take_ofW HT_.out HW_.out (by kernel_rfl)) (fun _ _ _ h=>h) (Or.inl ⟨by rfl,?_⟩) hHeld ?_ ?_
      rotate_left
      ·intro w' s0
       go_simp
       with_reducible rfl
      rotate_left
      ·simp only [Act.put,s1_,s2_,s3_,i64_w,i32_w]
       rfl
      refine one_ (i:=4) (N:=some 71) #[true,true,true,true,true,false,false,false,false,false,false] rfl rfl (one_of HT_.out (by kernel_rfl)) (by decide) (fun K hK=>?_)
      refine goes_ Try.func34 (by kernel_rfl) rfl #[.agg #[.slice Ao9 t1.length co9],.slice Ao12 t7.length co12] (by rfl) rfl rfl lm_ ?_
      with_reducible refine (impl_LeastCatches.calls _ _ t1 _ _ t7 t28 _ ?side1 ?side2 ?side3 ?side4 A48.out).mono ?_
      (case side1=>exact cc_ (Kd.R_reads' Z11.out).2.2)
      (case side2=>exact (Kd.R_reads' Z11.out).2.1)
      (case side3=>exact cc_ (Kd.R_reads' HO_5.out).2.2)
      (case side4=>exact (Kd.R_reads' HO_5.out).2.1)
      rintro e w53 ⟨v29,rfl,ho0,hb⟩
      refine ⟨_,rfl,?_⟩
      have n0_:=rb_ HO_4 hb
      have n1_:=a0_ (Kd.R_elder' (rr_ HO_5.out) (Kd.R_base ho0) hb)
      have n2_:=a0_ (Kd.S_below (by (with_reducible repeat (first | apply Kd.S_alloc | apply Kd.S_drewN | apply Kd.S_drew));exact HO_6.out) hb)
      have n3_:=rb_ HO_7 hb
      have n4_:=a0_ (Kd.S_below (by (with_reducible repeat (first | apply Kd.S_alloc | apply Kd.S_drewN | apply Kd.S_drew));exact HO_8.out) hb)
      have n5_:=rb_ HO_9 hb
      have n6_:=rb_ Z11 hb
      have n7_:=a0_ (Kd.R_lower (Kd.R_new' ho0 (Kd.R_lt (rr_ HO_5.out))) (below_size hb_))
      have n8_:=kb_ BK10 hb
      have n9_:=a0_ (below_step hb_ hb)
      clear HO_4
      clear HO_5
      clear HO_6
      clear HO_7
      clear HO_8
      clear HO_9
      clear Z11
      clear BK10
      clear HB
      have HO_4:=n0_
      have HO_5:=n1_
      have HO_6:=n2_
      have HO_7:=n3_
      have HO_8:=n4_
      have HO_9:=n5_
      have Z11:=n6_
      have HO30:=n7_
      have BK10:=n8_
      have HB:=n9_
      clear n0_ n1_ n2_ n3_ n4_ n5_ n6_ n7_ n8_ n9_
      (try clear hb)
      (try clear hb2)
      (try clear hk)
      (try clear hi)
      (try clear ho0)
      obtain ⟨Ao54,co54,eo54⟩:=Kd.R_slice HO30.out
      (first | subst eo54 | (injection eo54 with f1_ f2_ f3_;have f4_:=f1_.symm;have f5_:=f3_.symm;clear f1_ f2_ f3_;subst f4_;subst f5_))
      refine hK.out _ _ ((blk_cell BK10.out 0).trans rfl) (fun hHeld=>?_)
      clear hK K
      refine norm_ (a':=?_) ?_ ?_
      rotate_left
      ·show Act.put _ (some 71) _ = _
       simp only [Act.put,s1_,s2_,s3_,i64_w,i32_w]
       rfl
      refine one_ (i:=5) (N:=some 72) #[true,true,true,true,true,true,false,false,false,false,false] rfl rfl (one_of HT_.out (by kernel_rfl)) (by decide) (fun K hK=>?_)
      refine goes_ Try.func29 (by kernel_rfl) rfl #[.agg #[.slice Ao9 t1.length co9],.slice Ao11 t4.length co11,.slice Ao54 t28.length co54] (by rfl) rfl rfl lm_ ?_
      with_reducible refine (impl_HandleGroup.calls kj5 _ _ t1 _ _ t4 _ _ t28 t31 t34 _ ?side1 ?side2 ?side3 ?side4 ?side5 ?side6 A49.out).mono ?_
      (case side1=>exact cc_ (Kd.R_reads' Z11.out).2.2)
      (case side2=>exact (Kd.R_reads' Z11.out).2.1)
      (case side3=>exact cc_ (Kd.R_reads' HO_4.out).2.2)
      (case side4=>exact (Kd.R_reads' HO_4.out).2.1)
      (case side5=>exact cc_ (Kd.R_reads' HO30.out).2.2)
      (case side6=>exact (Kd.R_reads' HO30.out).2.1)
      rintro e w55 ⟨v32,v35,rfl,ho0,ho1,hb⟩
      refine ⟨_,rfl,?_⟩
      have n0_:=a0_ (Kd.R_elder' (rr_ HO_4.out) (Kd.R_base ho1) hb)
      have n1_:=rb_ HO_5 hb
      have n2_:=a0_ (Kd.S_mono (Kd.S_told (Kd.S_told (Kd.S_old (by (with_reducible repeat (first | apply Kd.S_alloc | apply Kd.S_drewN | apply Kd.S_drew));exact HO_6.out) hb) (Kd.S_base ho0)) (Kd.R_base ho1)) (fun _ h_=>h_.1))
      have n3_:=a0_ (Kd.R_elder' (rr_ HO_7.out) (Kd.R_base ho1) hb)
      have n4_:=a0_ (Kd.S_mono (Kd.S_told (Kd.S_told (Kd.S_old (by (with_reducible repeat (first | apply Kd.S_alloc | apply Kd.S_drewN | apply Kd.S_drew));exact HO_8.out) hb) (Kd.S_base ho0)) (Kd.R_base ho1)) (fun _ h_=>h_.1))
      have n5_:=a0_ (Kd.R_elder' (rr_ HO_9.out) (Kd.R_base ho1) hb)
      have n6_:=rb_ Z11 hb
      have n7_:=rb_ HO30 hb
      have n8_:=a0_ (Kd.S_lower (Kd.S_new' (Kd.S_new' (Kd.S_new' (Kd.S_new' (Kd.S_new' ho0 (Kd.R_lt (rr_ HO_4.out))) (Kd.S_lt (by (with_reducible repeat (first | apply Kd.S_alloc | apply Kd.S_drewN | apply Kd.S_drew));exact HO_6.out))) (Kd.R_lt (rr_ HO_7.out))) (Kd.S_lt (by (with_reducible repeat (first | apply Kd.S_alloc | apply Kd.S_drewN | apply Kd.S_drew));exact HO_8.out))) (Kd.R_lt (rr_ HO_9.out))) (below_size hb_))
      have n9_:=a0_ (Kd.R_lower (Kd.R_new' (Kd.R_new' (Kd.R_new' ho1 (Kd.R_lt (rr_ HO_4.out))) (Kd.R_lt (rr_ HO_7.out))) (Kd.R_lt (rr_ HO_9.out))) (below_size hb_))
      have n10_:=kb_ BK10 hb
      have n11_:=a0_ (below_step hb_ hb)
      clear HO_4
      clear HO_5
      clear HO_6
      clear HO_7
      clear HO_8
      clear HO_9
      clear Z11
      clear HO30
      clear BK10
      clear HB
      have HO_4:=n0_
      have HO_5:=n1_
      have HO_6:=n2_
      have HO_7:=n3_
      have HO_8:=n4_
      have HO_9:=n5_
      have Z11:=n6_
      have HO30:=n7_
      have HO33:=n8_
      have HO36:=n9_
      have BK10:=n10_
      have HB:=n11_
      clear n0_ n1_ n2_ n3_ n4_ n5_ n6_ n7_ n8_ n9_ n10_ n11_
      (try clear hb)
      (try clear hb2)
      (try clear hk)
      (try clear hi)
      (try clear ho0)
      (try clear ho1)
      refine hK.out _ _ ((blk_cell BK10.out 0).trans rfl) (fun hHeld=>?_)
      clear hK K
      refine norm_ (a':=?_) ?_ ?_
      rotate_left
      ·show Act.put _ (some 72) _ = _
       simp only [Act.put,s1_,s2_,s3_,i64_w,i32_w]
       rfl
      refine pure_ (i:=6) (N:=some 66) (v:=?_) (a':=?_) #[true,true,true,true,true,true,true,false,false,false,false] rfl rfl (any_of HT_.out (by kernel_rfl)) (fun _ _ _ h=>h) (Or.inl ⟨by rfl,?_⟩) ?_ ?_
      rotate_left
      ·intro w'
       go_simp
       with_reducible rfl
      rotate_left
      ·simp only [Act.put,s1_,s2_,s3_,i64_w,i32_w]
       rfl
      refine pure_ (i:=7) (N:=some 73) (v:=?_) (a':=?_) #[true,true,true,true,true,true,true,true,false,false,false] rfl rfl (any_of HT_.out (by kernel_rfl)) (fun _ _ _ h=>h) (Or.inl ⟨by rfl,?_⟩) ?_ ?_
      rotate_left
      ·intro w'
       go_simp
       with_reducible rfl
      rotate_left
      ·simp only [Act.put,s1_,s2_,s3_,i64_w,i32_w]
       rfl
      refine pure_ (i:=8) (N:=some 74) (v:=?_) (a':=?_) #[true,true,true,true,true,true,true,true,true,false,false] rfl rfl (any_of HT_.out (by kernel_rfl)) (fun _ _ _ h=>h) (Or.inl ⟨by rfl,?_⟩) ?_ ?_
      rotate_left
      ·intro w'
       go_simp
       with_reducible rfl
      rotate_left
      ·simp only [Act.put,s1_,s2_,s3_,i64_w,i32_w]
       rfl
      refine pure_ (i:=9) (N:=some 10) (v:=?_) (a':=?_) #[true,true,true,true,true,true,true,true,true,true,false] rfl rfl (any_of HT_.out (by kernel_rfl)) (fun _ _ _ h=>h) (Or.inl ⟨by rfl,?_⟩) ?_ ?_
      rotate_left
      ·intro w'
       go_simp
       with_reducible rfl
      rotate_left
      ·simp only [Act.put,s1_,s2_,s3_,i64_w,i32_w]
       rfl
      refine pure_ (i:=10) (N:=some 11) (v:=?_) (a':=?_) #[true,true,true,true,true,true,true,true,true,true,true] rfl rfl (any_of HT_.out (by kernel_rfl)) (fun _ _ _ h=>h) (Or.inl ⟨by rfl,?_⟩) ?_ ?_
      rotate_left
      ·intro w'
       go_simp
       with_reducible rfl
      rotate_left
      ·simp only [Act.put,s1_,s2_,s3_,i64_w,i32_w]
       rfl
      refine done_ (done_of HT_.out (by kernel_rfl)) ?_
      have hcz56_0 : w55.cell? ⟨gb10,0,none⟩ = some (.slice Ao9 t1.length co9):=(blk_cell BK10.out 0).trans rfl
      have hfz56_0:=blk_frozen BK10.out 0
      try go_wp2_with (first | ((with_reducible refine gate_callee (f:=35) rfl ?_);refine goesL_ (some 77) rfl rfl Try.func35 (by kernel_rfl) rfl #[.agg #[.slice Ao9 t1.length co9],.slice Ao12 t7.length co12,.int .i64 0] rfl lm_ ?_;(with_reducible refine (impl_FirstCatch.calls _ _ t1 _ _ t7 0 t37 _ ?side1 ?side2 ?side3 ?side4 A50.out).mono ?_);(case side1=>exact cc_ (Kd.R_reads' Z11.out).2.2);(case side2=>exact (Kd.R_reads' Z11.out).2.1);(case side3=>exact cc_ (Kd.R_reads' HO_5.out).2.2);(case side4=>exact (Kd.R_reads' HO_5.out).2.1);rintro e w57 ⟨rfl,hb⟩;refine ⟨_,rfl,?_⟩;replace HO_4:=rb_ HO_4 hb;replace HO_5:=rb_ HO_5 hb;replace HO_6:=a0_ (Kd.S_below (by (with_reducible repeat (first | apply Kd.S_alloc | apply Kd.S_drewN | apply Kd.S_drew));exact HO_6.out) hb);replace HO_7:=rb_ HO_7 hb;replace HO_8:=a0_ (Kd.S_below (by (with_reducible repeat (first | apply Kd.S_alloc | apply Kd.S_drewN | apply Kd.S_drew));exact HO_8.out) hb);replace HO_9:=rb_ HO_9 hb;replace Z11:=rb_ Z11 hb;replace HO30:=rb_ HO30 hb;replace HO33:=a0_ (Kd.S_below (by (with_reducible repeat (first | apply Kd.S_alloc | apply Kd.S_drewN | apply Kd.S_drew));exact HO33.out) hb);replace HO36:=rb_ HO36 hb;replace BK10:=kb_ BK10 hb;replace HB:=a0_ (below_step hb_ hb);(try clear hb);(try clear hb2);(try clear hk);(try clear hi)))
      go_ret
      exact ⟨by first | rfl | (simp [errW_none,errW_some] <;> rfl) | (simp [*,errW_none,errW_some] <;> rfl),hb_⟩
     ·rw [if_neg c51] at H
      have c51b0 : (t37 == (-2)) = false:=beq_eq_false_iff_ne.mpr c51
      have c51b1 : (t37 != (-2)) = true:=bne_iff_ne.mpr c51
      replace H:=Option.bind_eq_some_iff.mp H
      obtain ⟨t38,A580,H⟩:=H
      replace H : (some t38) = some r:=H
      have A58:=a0_ A580
      clear A580
      obtain rfl:=Option.some.inj H
      try go_wp2
      have n0_:=a0_ (Kd.R_drew HO_4.out)
      have n1_:=a0_ (Kd.R_drew HO_5.out)
      have n2_:=a0_ (Kd.S_drew HO_6.out)
      have n3_:=a0_ (Kd.R_drew HO_7.out)
      have n4_:=a0_ (Kd.S_drew HO_8.out)
      have n5_:=a0_ (Kd.R_drew HO_9.out)
      have n6_:=a0_ (Kd.R_drew Z11.out)
      have n7_:=a0_ (blk_drew BK10.out)
      have n8_:=a0_ (below_drew1 HB.out)
      clear HO_4
      clear HO_5
      clear HO_6
      clear HO_7
      clear HO_8
      clear HO_9
      clear Z11
      clear BK10
      clear HB
      have HO_4:=n0_
      have HO_5:=n1_
      have HO_6:=n2_
      have HO_7:=n3_
      have HO_8:=n4_
      have HO_9:=n5_
      have Z11:=n6_
      have BK10:=n7_
      have HB:=n8_
      clear n0_ n1_ n2_ n3_ n4_ n5_ n6_ n7_ n8_
      refine start_ (n:=11) (S:=fun w'=>w'.cell? ⟨gb10,0,none⟩ = some (.slice Ao9 t1.length co9)) (ds:=[]) #[false,false,false,false,false,false,false,false,false,false,false] (by kernel_rfl) rfl rfl ((blk_cell BK10.out 0).trans rfl) (fun hHeld=>?_);refine with_tabW laws_FnHandleGroupLeast.tab8 laws_FnHandleGroupLeast.bits8 (fun HT_ HW_=>?_)
      generalize wc.drew = w59 at HO_4 HO_5 HO_6 HO_7 HO_8 HO_9 Z11 BK10 HB hHeld ⊢
      refine pure_ (i:=1) (N:=some 68) (v:=?_) (a':=?_) #[false,true,false,false,false,false,false,false,false,false,false] rfl rfl (any_of HT_.out (by kernel_rfl)) (fun _ _ _ h=>h) (Or.inl ⟨by rfl,?_⟩) ?_ ?_
      rotate_left
      ·intro w'
       go_simp
       with_reducible rfl
      rotate_left
      ·simp only [Act.put,s1_,s2_,s3_,i64_w,i32_w]
       rfl
      refine pure_ (i:=3) (N:=some 70) (v:=?_) (a':=?_) #[false,true,false,true,false,false,false,false,false,false,false] rfl rfl (any_of HT_.out (by kernel_rfl)) (fun _ _ _ h=>h) (Or.inl ⟨by rfl,?_⟩) ?_ ?_
      rotate_left
      ·intro w'
       go_simp
       with_reducible rfl
      rotate_left
      ·simp only [Act.put,s1_,s2_,s3_,i64_w,i32_w]
       rfl
      refine take_ (i:=0) (N:=some 67) (v:=?_) (a':=?_) #[true,true,false,true,false,false,false,false,false,false,false] rfl rfl (take_ofW HT_.out HW_.out (by kernel_rfl)) (fun _ _ _ h=>h) (Or.inl ⟨by rfl,?_⟩) hHeld ?_ ?_
      rotate_left
      ·intro w' s0
       go_simp
       with_reducible rfl
      rotate_left
      ·simp only [Act.put,s1_,s2_,s3_,i64_w,i32_w]
       rfl
      refine take_ (i:=2) (N:=some 69) (v:=?_) (a':=?_) #[true,true,true,true,false,false,false,false,false,false,false] rfl rfl (take_ofW HT_.out HW_.out (by kernel_rfl)) (fun _ _ _ h=>h) (Or.inl ⟨by rfl,?_⟩) hHeld ?_ ?_
      rotate_left
      ·intro w' s0
       go_simp
       with_reducible rfl
      rotate_left
      ·simp only [Act.put,s1_,s2_,s3_,i64_w,i32_w]
       rfl
      refine one_ (i:=4) (N:=some 71) #[true,true,true,true,true,false,false,false,false,false,false] rfl rfl (one_of HT_.out (by kernel_rfl)) (by decide) (fun K hK=>?_)
      refine goes_ Try.func34 (by kernel_rfl) rfl #[.agg #[.slice Ao9 t1.length co9],.slice Ao12 t7.length co12] (by rfl) rfl rfl lm_ ?_
      with_reducible refine (impl_LeastCatches.calls _ _ t1 _ _ t7 t28 _ ?side1 ?side2 ?side3 ?side4 A48.out).mono ?_
      (case side1=>exact cc_ (Kd.R_reads' Z11.out).2.2)
      (case side2=>exact (Kd.R_reads' Z11.out).2.1)
      (case side3=>exact cc_ (Kd.R_reads' HO_5.out).2.2)
      (case side4=>exact (Kd.R_reads' HO_5.out).2.1)
      rintro e w60 ⟨v29,rfl,ho0,hb⟩
      refine ⟨_,rfl,?_⟩
      have n0_:=rb_ HO_4 hb
      have n1_:=a0_ (Kd.R_elder' (rr_ HO_5.out) (Kd.R_base ho0) hb)
      have n2_:=a0_ (Kd.S_below (by (with_reducible repeat (first | apply Kd.S_alloc | apply Kd.S_drewN | apply Kd.S_drew));exact HO_6.out) hb)
      have n3_:=rb_ HO_7 hb
      have n4_:=a0_ (Kd.S_below (by (with_reducible repeat (first | apply Kd.S_alloc | apply Kd.S_drewN | apply Kd.S_drew));exact HO_8.out) hb)
      have n5_:=rb_ HO_9 hb
      have n6_:=rb_ Z11 hb
      have n7_:=a0_ (Kd.R_lower (Kd.R_new' ho0 (Kd.R_lt (rr_ HO_5.out))) (below_size hb_))
      have n8_:=kb_ BK10 hb
      have n9_:=a0_ (below_step hb_ hb)
      clear HO_4
      clear HO_5
      clear HO_6
      clear HO_7
      clear HO_8
      clear HO_9
      clear Z11
      clear BK10
      clear HB
      have HO_4:=n0_
      have HO_5:=n1_
      have HO_6:=n2_
      have HO_7:=n3_
      have HO_8:=n4_
      have HO_9:=n5_
      have Z11:=n6_
      have HO30:=n7_
      have BK10:=n8_
      have HB:=n9_
      clear n0_ n1_ n2_ n3_ n4_ n5_ n6_ n7_ n8_ n9_
      (try clear hb)
      (try clear hb2)
      (try clear hk)
      (try clear hi)
      (try clear ho0)
      obtain ⟨Ao61,co61,eo61⟩:=Kd.R_slice HO30.out
      (first | subst eo61 | (injection eo61 with f1_ f2_ f3_;have f4_:=f1_.symm;have f5_:=f3_.symm;clear f1_ f2_ f3_;subst f4_;subst f5_))
      refine hK.out _ _ ((blk_cell BK10.out 0).trans rfl) (fun hHeld=>?_)
      clear hK K
      refine norm_ (a':=?_) ?_ ?_
      rotate_left
      ·show Act.put _ (some 71) _ = _
       simp only [Act.put,s1_,s2_,s3_,i64_w,i32_w]
       rfl
      refine one_ (i:=5) (N:=some 72) #[true,true,true,true,true,true,false,false,false,false,false] rfl rfl (one_of HT_.out (by kernel_rfl)) (by decide) (fun K hK=>?_)
      refine goes_ Try.func29 (by kernel_rfl) rfl #[.agg #[.slice Ao9 t1.length co9],.slice Ao11 t4.length co11,.slice Ao61 t28.length co61] (by rfl) rfl rfl lm_ ?_
      with_reducible refine (impl_HandleGroup.calls kj5 _ _ t1 _ _ t4 _ _ t28 t31 t34 _ ?side1 ?side2 ?side3 ?side4 ?side5 ?side6 A49.out).mono ?_
      (case side1=>exact cc_ (Kd.R_reads' Z11.out).2.2)
      (case side2=>exact (Kd.R_reads' Z11.out).2.1)
      (case side3=>exact cc_ (Kd.R_reads' HO_4.out).2.2)
      (case side4=>exact (Kd.R_reads' HO_4.out).2.1)
      (case side5=>exact cc_ (Kd.R_reads' HO30.out).2.2)
      (case side6=>exact (Kd.R_reads' HO30.out).2.1)
      rintro e w62 ⟨v32,v35,rfl,ho0,ho1,hb⟩
      refine ⟨_,rfl,?_⟩
      have n0_:=a0_ (Kd.R_elder' (rr_ HO_4.out) (Kd.R_base ho1) hb)
      have n1_:=rb_ HO_5 hb
      have n2_:=a0_ (Kd.S_mono (Kd.S_told (Kd.S_told (Kd.S_old (by (with_reducible repeat (first | apply Kd.S_alloc | apply Kd.S_drewN | apply Kd.S_drew));exact HO_6.out) hb) (Kd.S_base ho0)) (Kd.R_base ho1)) (fun _ h_=>h_.1))
      have n3_:=a0_ (Kd.R_elder' (rr_ HO_7.out) (Kd.R_base ho1) hb)
      have n4_:=a0_ (Kd.S_mono (Kd.S_told (Kd.S_told (Kd.S_old (by (with_reducible repeat (first | apply Kd.S_alloc | apply Kd.S_drewN | apply Kd.S_drew));exact HO_8.out) hb) (Kd.S_base ho0)) (Kd.R_base ho1)) (fun _ h_=>h_.1))
      have n5_:=a0_ (Kd.R_elder' (rr_ HO_9.out) (Kd.R_base ho1) hb)
      have n6_:=rb_ Z11 hb
      have n7_:=rb_ HO30 hb
      have n8_:=a0_ (Kd.S_lower (Kd.S_new' (Kd.S_new' (Kd.S_new' (Kd.S_new' (Kd.S_new' ho0 (Kd.R_lt (rr_ HO_4.out))) (Kd.S_lt (by (with_reducible repeat (first | apply Kd.S_alloc | apply Kd.S_drewN | apply Kd.S_drew));exact HO_6.out))) (Kd.R_lt (rr_ HO_7.out))) (Kd.S_lt (by (with_reducible repeat (first | apply Kd.S_alloc | apply Kd.S_drewN | apply Kd.S_drew));exact HO_8.out))) (Kd.R_lt (rr_ HO_9.out))) (below_size hb_))
      have n9_:=a0_ (Kd.R_lower (Kd.R_new' (Kd.R_new' (Kd.R_new' ho1 (Kd.R_lt (rr_ HO_4.out))) (Kd.R_lt (rr_ HO_7.out))) (Kd.R_lt (rr_ HO_9.out))) (below_size hb_))
      have n10_:=kb_ BK10 hb
      have n11_:=a0_ (below_step hb_ hb)
      clear HO_4
      clear HO_5
      clear HO_6
      clear HO_7
      clear HO_8
      clear HO_9
      clear Z11
      clear HO30
      clear BK10
      clear HB
      have HO_4:=n0_
      have HO_5:=n1_
      have HO_6:=n2_
      have HO_7:=n3_
      have HO_8:=n4_
      have HO_9:=n5_
      have Z11:=n6_
      have HO30:=n7_
      have HO33:=n8_
      have HO36:=n9_
      have BK10:=n10_
      have HB:=n11_
      clear n0_ n1_ n2_ n3_ n4_ n5_ n6_ n7_ n8_ n9_ n10_ n11_
      (try clear hb)
      (try clear hb2)
      (try clear hk)
      (try clear hi)
      (try clear ho0)
      (try clear ho1)
      refine hK.out _ _ ((blk_cell BK10.out 0).trans rfl) (fun hHeld=>?_)
      clear hK K
      refine norm_ (a':=?_) ?_ ?_
      rotate_left
      ·show Act.put _ (some 72) _ = _
       simp only [Act.put,s1_,s2_,s3_,i64_w,i32_w]
       rfl
      refine pure_ (i:=6) (N:=some 66) (v:=?_) (a':=?_) #[true,true,true,true,true,true,true,false,false,false,false] rfl rfl (any_of HT_.out (by kernel_rfl)) (fun _ _ _ h=>h) (Or.inl ⟨by rfl,?_⟩) ?_ ?_
      rotate_left
      ·intro w'
       go_simp
       with_reducible rfl
      rotate_left
      ·simp only [Act.put,s1_,s2_,s3_,i64_w,i32_w]
       rfl
      refine pure_ (i:=7) (N:=some 73) (v:=?_) (a':=?_) #[true,true,true,true,true,true,true,true,false,false,false] rfl rfl (any_of HT_.out (by kernel_rfl)) (fun _ _ _ h=>h) (Or.inl ⟨by rfl,?_⟩) ?_ ?_
      rotate_left
      ·intro w'
       go_simp
       with_reducible rfl
      rotate_left
      ·simp only [Act.put,s1_,s2_,s3_,i64_w,i32_w]
       rfl
      refine pure_ (i:=8) (N:=some 74) (v:=?_) (a':=?_) #[true,true,true,true,true,true,true,true,true,false,false] rfl rfl (any_of HT_.out (by kernel_rfl)) (fun _ _ _ h=>h) (Or.inl ⟨by rfl,?_⟩) ?_ ?_
      rotate_left
      ·intro w'
       go_simp
       with_reducible rfl
      rotate_left
      ·simp only [Act.put,s1_,s2_,s3_,i64_w,i32_w]
       rfl
      refine pure_ (i:=9) (N:=some 10) (v:=?_) (a':=?_) #[true,true,true,true,true,true,true,true,true,true,false] rfl rfl (any_of HT_.out (by kernel_rfl)) (fun _ _ _ h=>h) (Or.inl ⟨by rfl,?_⟩) ?_ ?_
      rotate_left
      ·intro w'
       go_simp
       with_reducible rfl
      rotate_left
      ·simp only [Act.put,s1_,s2_,s3_,i64_w,i32_w]
       rfl
      refine pure_ (i:=10) (N:=some 11) (v:=?_) (a':=?_) #[true,true,true,true,true,true,true,true,true,true,true] rfl rfl (any_of HT_.out (by kernel_rfl)) (fun _ _ _ h=>h) (Or.inl ⟨by rfl,?_⟩) ?_ ?_
      rotate_left
      ·intro w'
       go_simp
       with_reducible rfl
      rotate_left
      ·simp only [Act.put,s1_,s2_,s3_,i64_w,i32_w]
       rfl
      refine done_ (done_of HT_.out (by kernel_rfl)) ?_
      have hcz63_0 : w62.cell? ⟨gb10,0,none⟩ = some (.slice Ao9 t1.length co9):=(blk_cell BK10.out 0).trans rfl
      have hfz63_0:=blk_frozen BK10.out 0
      try go_wp2_with (first | ((with_reducible refine gate_callee (f:=35) rfl ?_);refine goesL_ (some 77) rfl rfl Try.func35 (by kernel_rfl) rfl #[.agg #[.slice Ao9 t1.length co9],.slice Ao12 t7.length co12,.int .i64 0] rfl lm_ ?_;(with_reducible refine (impl_FirstCatch.calls _ _ t1 _ _ t7 0 t37 _ ?side1 ?side2 ?side3 ?side4 A50.out).mono ?_);(case side1=>exact cc_ (Kd.R_reads' Z11.out).2.2);(case side2=>exact (Kd.R_reads' Z11.out).2.1);(case side3=>exact cc_ (Kd.R_reads' HO_5.out).2.2);(case side4=>exact (Kd.R_reads' HO_5.out).2.1);rintro e w64 ⟨rfl,hb⟩;refine ⟨_,rfl,?_⟩;replace HO_4:=rb_ HO_4 hb;replace HO_5:=rb_ HO_5 hb;replace HO_6:=a0_ (Kd.S_below (by (with_reducible repeat (first | apply Kd.S_alloc | apply Kd.S_drewN | apply Kd.S_drew));exact HO_6.out) hb);replace HO_7:=rb_ HO_7 hb;replace HO_8:=a0_ (Kd.S_below (by (with_reducible repeat (first | apply Kd.S_alloc | apply Kd.S_drewN | apply Kd.S_drew));exact HO_8.out) hb);replace HO_9:=rb_ HO_9 hb;replace Z11:=rb_ Z11 hb;replace HO30:=rb_ HO30 hb;replace HO33:=a0_ (Kd.S_below (by (with_reducible repeat (first | apply Kd.S_alloc | apply Kd.S_drewN | apply Kd.S_drew));exact HO33.out) hb);replace HO36:=rb_ HO36 hb;replace BK10:=kb_ BK10 hb;replace HB:=a0_ (below_step hb_ hb);(try clear hb);obtain ⟨Ao65,co65,eo65⟩:=Kd.R_slice HO36.out;subst eo65;obtain ⟨Ao66,co66,eo66⟩:=Kd.R_slice HO_7.out;subst eo66) | (go_at_call 13;(with_reducible refine (laws_equalGroup.calls kj5 _ _ t34 _ _ t14 t38 _ ?side1 ?side2 ?side3 ?side4 A58.out).mono ?_);(case side1=>exact cc_ (Kd.R_reads' HO36.out).2.2);(case side2=>exact (Kd.R_reads' HO36.out).2.1);(case side3=>exact cc_ (Kd.R_reads' HO_7.out).2.2);(case side4=>exact (Kd.R_reads' HO_7.out).2.1);rintro e w' ⟨rfl,⟨nd,rfl⟩⟩))
      go_ret
      exact ⟨by first | rfl | (simp [errW_none,errW_some] <;> rfl) | (simp [*,errW_none,errW_some] <;> rfl),hb_⟩
def laws_FnHandleGroupLeast.Pure : Prop:=∀ (l0 : List Int),l0.length ≤ maxLen → l0.length * 1 ≤ 140737488351232 → (∀ x ∈ l0,(Lit.int .u8 x).wf = true) → ∃ k,laws_FnHandleGroupLeast.f k l0 = some true
theorem laws_FnHandleGroupLeast.walk (P : laws_FnHandleGroupLeast.Pure) (a0 : Option Addr) (len0 cap0 : Nat) (z0 : List Int) (w : World) (w0 : (a0 = none ∧ len0 = 0 ∧ cap0 = 0 ∧ z0 = []) ∨ ∃ x,a0 = some x ∧ len0 ≤ cap0 ∧ cap0 ≤ maxLen ∧ z0.length = cap0 ∧ (∀ i,i < z0.length → w.cell? (x.add i) = some (.int .u8 (z0.getD i 0))) ∧ ∀ n ∈ z0,(Lit.int .u8 n).wf = true) (y0 : len0 * 1 ≤ 140737488351232) :
  Calls Try.prog 10 #[.slice a0 len0 cap0] w fun e w'=>e = .returned (.bool true) ∧ Below w.heap.size w w':=by
 obtain ⟨l0,rfl,hr0,hm0,hw0,hc0⟩:=ReadsInt.ofRowC w0
 obtain ⟨k,h⟩:=P l0 hm0 y0 hw0
 refine (laws_FnHandleGroupLeast.calls k _ _ l0 true w (Kd.C_of_reads (d:=(0 : Int)) (h1:=fun _=>rfl) hr0) hc0 h).mono ?_
 rintro e w' ⟨rfl,hd⟩
 exact ⟨rfl,hd⟩
end Go.Proofs.Ytfphcdbnnienhaa.P
namespace Go.Proofs.Ytfphcdbnnienhaa.P
open Go.RowKit Go.Proofs.YtfphcdbnnienhaaW.PrintWords Go.Proofs.YtfphcdbnnienhaaW.PrintLast Go.Proofs.YtfphcdbnnienhaaW.PrintMore
attribute [local go_sem] max2_int min2_int max_two min_two max_three min_three max_four min_four
set_option linter.unusedVariables false
set_option linter.unusedSimpArgs false
theorem isA_self {t : List Cls} (hv : vT t = true) (a : Int) (h0 : 0 ≤ a) (h1 : a < (t.length : Int)) : isA t a a = true:=by
 unfold isA
 rw [abv_step hv a h0 h1,List.contains_iff_mem]
 exact List.mem_cons_self
theorem isA_up {t : List Cls} (hv : vT t = true) (a b : Int) (h0 : 0 ≤ a) (h1 : a < (t.length : Int)) (hne : b ≠ a) : isA t a b = isA t (rd_T85 t a).f1 b:=by
 unfold isA
 rw [abv_step hv a h0 h1,List.contains_cons,beq_eq_false_iff_ne.2 hne,Bool.false_or]
theorem isA_neg (t : List Cls) (a b : Int) (h0 : a < 0) : isA t a b = false:=by
 unfold isA
 rw [abv_neg t a h0]
 rfl
theorem isA_le {t : List Cls} (hv : vT t = true) : ∀ (n : Nat) (a b : Int),a < (n : Int) → a < (t.length : Int) → isA t a b = true → 0 ≤ b ∧ b ≤ a:=by
 intro n
 induction n with
 | zero =>
  intro a b hn _ h
  rw [isA_neg t a b (by omega)] at h
  cases h
 | succ n ih =>
  intro a b hn h1 h
  by_cases h0 : 0 ≤ a
  ·by_cases e : b = a
   ·omega
   ·rw [isA_up hv a b h0 h1 e] at h
    have hp:=vT_par' hv a h0 h1
    have:=ih _ b (by omega) (by omega) h
    omega
  ·rw [isA_neg t a b (by omega)] at h
   cases h
theorem isA_trans {t : List Cls} (hv : vT t = true) : ∀ (n : Nat) (a b c : Int),a < (n : Int) → a < (t.length : Int) → isA t a b = true → isA t b c = true → isA t a c = true:=by
 intro n
 induction n with
 | zero =>
  intro a b c hn _ h _
  rw [isA_neg t a b (by omega)] at h
  cases h
 | succ n ih =>
  intro a b c hn h1 h hbc
  by_cases h0 : 0 ≤ a
  ·by_cases e : b = a
   ·rw [← e];exact hbc
   ·have hle:=isA_le hv (n + 1) a b hn h1 h
    rw [isA_up hv a b h0 h1 e] at h
    have hp:=vT_par' hv a h0 h1
    have hbc2:=isA_le hv (b.toNat + 1) b c (by omega) (by omega) hbc
    by_cases e2 : c = a
    ·omega
    ·rw [isA_up hv a c h0 h1 e2]
     exact ih _ b c (by omega) (by omega) h hbc
  ·rw [isA_neg t a b (by omega)] at h
   cases h
theorem isA_root {t : List Cls} (hv : vT t = true) : ∀ (n : Nat) (a : Int),a < (n : Int) → 0 ≤ a → a < (t.length : Int) → isA t a 0 = true:=by
 intro n
 induction n with
 | zero=>intro a hn h0 _;omega
 | succ n ih =>
  intro a hn h0 h1
  by_cases e : a = 0
  ·subst e
   exact isA_self hv 0 h0 h1
  ·rw [isA_up hv a 0 h0 h1 (fun hh=>e hh.symm)]
   have hp:=vT_par hv a.toNat (by omega) (by omega)
   have hp2:=vT_par' hv a h0 h1
   have e3 : (rd_T85 t a).f1 = (t.getD a.toNat z85).f1:=rfl
   exact ih _ (by omega) (by omega) (by omega)
end Go.Proofs.Ytfphcdbnnienhaa.P
namespace Go.Proofs.Ytfphcdbnnienhaa.Pure
open Go.RowKit Go.Proofs.Ytfphcdbnnienhaa.P
open Go.Proofs.YtfphcdbnnienhaaW.PrintWords (rd rdOf wrap_succ wrap_pred wrap_in toL_beq idxP)
set_option linter.unusedVariables false
theorem idxP_neg2 {α : Type} (p : α → Bool) (l : List α) : ¬ idxP p l = -2:=by
 unfold idxP
 cases l.findIdx? p with
 | none=>simp
 | some i=>simp only;omega
theorem sub_len {xs : List Int} : ∀ ys : List Int,xs.Nodup → (∀ x ∈ xs,x ∈ ys) → xs.length ≤ ys.length:=by
 induction xs with
 | nil=>intro ys _ _;simp
 | cons x xs ih =>
  intro ys hn hs
  have hx:=hs x (by simp)
  have hn2:=List.nodup_cons.1 hn
  have h1:=ih (ys.erase x) hn2.2 (fun y hy=>(List.mem_erase_of_ne (fun e=>hn2.1 (by rw [← e];exact hy))).2 (hs y (by simp [hy])))
  have h2:=List.length_erase_of_mem hx
  have h3:=List.length_pos_of_mem hx
  rw [List.length_cons]
  omega
theorem fil_mem {t : List Cls} {p : Int → Bool} {a : Int} : a ∈ fil t p ↔ (0 ≤ a ∧ a < (t.length : Int)) ∧ p a = true:=by
 unfold fil clss
 rw [List.mem_filter,List.mem_map]
 constructor
 ·rintro ⟨⟨i,hi,rfl⟩,h⟩
  rw [List.mem_range] at hi
  exact ⟨by omega,h⟩
 ·rintro ⟨h,h2⟩
  exact ⟨⟨a.toNat,by rw [List.mem_range];omega,by omega⟩,h2⟩
theorem fil_nodup (t : List Cls) (p : Int → Bool) : (fil t p).Nodup:=by
 unfold fil clss
 refine List.Pairwise.filter _ ?_
 rw [List.pairwise_map]
 refine List.Pairwise.imp (fun h=>?_) (List.pairwise_lt_range (n:=t.length))
 omega
theorem least_of (p : Int → Bool) : ∀ (n : Nat) (l : List Int),l.length ≤ n → l.any p = true → ∃ b ∈ l,p b = true ∧ ∀ c ∈ l,p c = true → b ≤ c:=by
 intro n
 induction n with
 | zero =>
  intro l hl h
  have : l = []:=List.length_eq_zero_iff.1 (by omega)
  rw [this] at h
  simp at h
 | succ n ih =>
  intro l hl h
  cases l with
  | nil=>simp at h
  | cons x l =>
   rw [List.length_cons] at hl
   by_cases hr : l.any p = true
   ·obtain ⟨b,hb,h1,h2⟩:=ih l (by omega) hr
    by_cases hx : p x = true ∧ x ≤ b
    ·refine ⟨x,by simp,hx.1,fun c hc hp=>?_⟩
     rcases List.mem_cons.1 hc with rfl | hc
     ·exact Int.le_refl _
     ·exact Int.le_trans hx.2 (h2 c hc hp)
    ·refine ⟨b,by simp [hb],h1,fun c hc hp=>?_⟩
     rcases List.mem_cons.1 hc with rfl | hc
     ·have : ¬ c ≤ b:=fun hh=>hx ⟨hp,hh⟩
      omega
     ·exact h2 c hc hp
   ·rw [List.any_cons] at h
    have hx : p x = true:=by
     rw [Bool.or_eq_true] at h
     rcases h with h | h
     ·exact h
     ·exact absurd h hr
    refine ⟨x,by simp,hx,fun c hc hp=>?_⟩
    rcases List.mem_cons.1 hc with rfl | hc
    ·exact Int.le_refl _
    ·exact absurd (List.any_eq_true.2 ⟨c,hc,hp⟩) hr
theorem least_any {t : List Cls} (hv : vT t = true) (l : List Int) (hall : ∀ x ∈ l,hasC t x = true) (a : Int) (ha : a < (t.length : Int)) : (fil t (fun a=>l.contains a && !(l.any fun b=>!decide (b = a) && isA t a b))).any (isA t a) = l.any (isA t a):=by
 cases h : l.any (isA t a) with
 | false =>
  rw [List.any_eq_false] at h ⊢
  intro x hx
  have:=(fil_mem.1 hx).2
  rw [Bool.and_eq_true,List.contains_iff_mem] at this
  exact h x this.1
 | true =>
  obtain ⟨b,hb,h1,h2⟩:=least_of (isA t a) l.length l (Nat.le_refl _) h
  refine List.any_eq_true.2 ⟨b,fil_mem.2 ⟨hasC_iff.1 (hall b hb),?_⟩,h1⟩
  rw [Bool.and_eq_true,List.contains_iff_mem]
  refine ⟨hb,?_⟩
  rw [Bool.not_eq_true',List.any_eq_false]
  intro c hc hcc
  rw [Bool.and_eq_true] at hcc
  have hcb:=hcc.1
  have hne : ¬ c = b:=by simpa using hcb
  have hbr:=hasC_iff.1 (hall b hb)
  have h3:=isA_le hv (b.toNat + 1) b c (by omega) hbr.2 hcc.2
  have h4:=h2 c hc (isA_trans hv (a.toNat + 1) a b c (by omega) ha h1 hcc.2)
  omega
theorem FnHandleGroupLeast : laws_FnHandleGroupLeast.Pure:=by
 intro l0 _ _ hw
 refine Ev.out (F:=fun k=>laws_FnHandleGroupLeast.f k l0) ?_
 unfold laws_FnHandleGroupLeast.f
 by_cases hbig : (l0.length : Int) > 1048576
 ·exact Ev.pos hbig (Ev.const rfl)
 refine Ev.neg hbig ?_
 obtain ⟨t,g,l,hd,ht,hs,hg,hl⟩:=spec_DrawHandleGroup_ev l0 hw
 have hI:=impl_HandleGroup_ev t g l hs (by omega) (by omega) (by omega)
 have hS:=spec_HandleGroup_ev t g l hs (by omega) (by omega) (by omega)
 have hV:=impl_ValidGroup_ev t g (by omega) (by omega) hs
 have no : ∀ (a : List (List Prt)) (b : List Prt),Ev (fun k=>laws_equalGroups.f k a a) true → Ev (fun k=>laws_equalGroup.f k b b) true → Ev (fun k=>laws_FnHandleGroupLeast.j0 k g l a b a b true t) true:=by
  intro a b h1 h2
  refine Ev.succ ?_
  simp only [laws_FnHandleGroupLeast.j0]
  exact Ev.pos trivial (Ev.bind h1 (Ev.pos rfl (Ev.bind h2 (Ev.const rfl))))
 by_cases hc : (vG t g && okCat t l) = true
 ·have hr : hanP t g l = (takP t l g,lefP t l g):=by unfold hanP;rw [if_pos hc]
  rw [hr] at hI hS
  rw [Bool.and_eq_true] at hc
  obtain ⟨hv,hk⟩:=hc
  rw [hv] at hV
  have hT:=(vG_tree hv).1
  have hF:=Tre_Fr (vG_tre hv).1
  have htl:=takP_len t l g
  have hls:=lefP_sub t l g
  have e1:=laws_equalGroups_ev (takP t l g) (by omega) (fun x hx=>Nat.le_trans (takP_sub t l g x hx).length_le (by omega))
  have e2:=laws_equalGroup_ev (lefP t l g) (Nat.le_trans hls.length_le (by omega))
  have hk2:=hk
  unfold okCat at hk2
  simp only [Bool.and_eq_true,decide_eq_true_eq,List.all_eq_true] at hk2
  obtain ⟨_,hl6,hall⟩:=hk2
  have hLC:=impl_LeastCatches_ev t l hs
  have hlp : leastP t l = fil t (fun a=>l.contains a && !(l.any fun b=>!decide (b = a) && isA t a b)):=by unfold leastP;rw [if_pos hk]
  rw [hlp] at hLC
  have hsub : ∀ x ∈ fil t (fun a=>l.contains a && !(l.any fun b=>!decide (b = a) && isA t a b)),x ∈ l:=by
   intro x hx
   have:=(fil_mem.1 hx).2
   rw [Bool.and_eq_true,List.contains_iff_mem] at this
   exact this.1
  have hlen:=sub_len l (fil_nodup t _) hsub
  have hcat : okCat t (fil t (fun a=>l.contains a && !(l.any fun b=>!decide (b = a) && isA t a b))) = true:=by
   unfold okCat
   simp only [Bool.and_eq_true,decide_eq_true_eq,List.all_eq_true]
   exact ⟨hT,by omega,fun x hx=>hall x (hsub x hx)⟩
  have hI2:=impl_HandleGroup_ev t g (fil t (fun a=>l.contains a && !(l.any fun b=>!decide (b = a) && isA t a b))) hs (by omega) (by omega) (by omega)
  have hr2 : hanP t g (fil t (fun a=>l.contains a && !(l.any fun b=>!decide (b = a) && isA t a b))) = (takP t (fil t (fun a=>l.contains a && !(l.any fun b=>!decide (b = a) && isA t a b))) g,lefP t l g):=by
   unfold hanP
   rw [if_pos (by rw [hv,hcat];rfl)]
   congr 1
   rw [lefP_sel t _ g hF,lefP_sel t _ g hF]
   refine selR_congr _ _ _ (fun q hq=>?_)
   unfold lfQ
   cases h1 : q.f1 with
   | true=>rfl
   | false =>
    have hqr:=vG_leaf hv q hq h1
    have:=least_any hT l hall q.f2 hqr.2
    simp only [Bool.not_false,Bool.true_and]
    rw [this]
  rw [hr2] at hI2
  have hFC : impl_FirstCatch.f t l 0 = some (idxP (fun b=>isA t 0 b) l):=by
   unfold impl_FirstCatch.f
   rw [impl_catchesOk_ev t l hs,hk]
   have h1:=vT_len hT
   simp only [Option.bind_some]
   rw [if_pos trivial,impl_Tree_has_ev t 0 (by omega)]
   have h0 : hasC t 0 = true:=hasC_iff.2 ⟨Int.le_refl _,by omega⟩
   rw [h0]
   simp only [Option.bind_some]
   rw [if_pos trivial,impl_Tree_first.f,if_pos ⟨hT,by omega⟩]
   rfl
  refine Ev.bind hd (Ev.bind hI (Ev.bind hS (Ev.bind e1 (Ev.pos rfl (Ev.bind e2 (Ev.pos rfl (Ev.pos (by simp only;omega) (Ev.bind hV (Ev.succ ?_)))))))))
  simp only [laws_FnHandleGroupLeast.j0]
  exact Ev.neg (by simp) (Ev.bind hLC (Ev.bind hI2 (Ev.bind (Ev.const hFC) (Ev.neg (idxP_neg2 _ _) (Ev.bind e2 (Ev.const rfl))))))
 ·have hr : hanP t g l = ([],[]):=by unfold hanP;rw [if_neg hc]
  rw [hr] at hI hS
  have e1:=laws_equalGroups_ev [] (by simp) (fun x hx=>absurd hx (by simp))
  have e2:=laws_equalGroup_ev [] (by simp)
  refine Ev.bind hd (Ev.bind hI (Ev.bind hS (Ev.bind e1 (Ev.pos rfl (Ev.bind e2 (Ev.pos rfl ?_))))))
  by_cases hz : ((([] : List (List Prt)).length : Nat) : Int) = (l.length : Int)
  ·refine Ev.pos hz (Ev.bind hV ?_)
   cases hv : vG t g with
   | false=>exact no [] [] e1 e2
   | true =>
    have h0 : l = []:=List.length_eq_zero_iff.1 (by simp at hz;omega)
    rw [hv,h0] at hc
    have hT:=(vG_tree hv).1
    refine absurd ?_ hc
    unfold okCat
    rw [hT]
    rfl
  ·exact Ev.neg hz (no [] [] e1 e2)
end Go.Proofs.Ytfphcdbnnienhaa.Pure
