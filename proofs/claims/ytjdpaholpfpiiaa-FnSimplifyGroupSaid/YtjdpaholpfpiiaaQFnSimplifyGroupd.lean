/- Texts under the proof of FnSimplifyGroup: helper words, the functions' contracts and the plain laws. No condition. -/
import Derived.Test.YtjdpaholpfpiiaaQFnSimplifyGroupa
import Derived.Test.YtjdpaholpfpiiaaQFnSimplifyGroupc
namespace Go.Proofs.Ytjdpaholpfpiiaa.P
open Go.RowKit Go.Proofs.YtjdpaholpfpiiaaW.PrintWords Go.Proofs.YtjdpaholpfpiiaaW.PrintLast Go.Proofs.YtjdpaholpfpiiaaW.PrintMore
attribute [local go_sem] max2_int min2_int max_two min_two max_three min_three max_four min_four
set_option linter.unusedVariables false
set_option linter.unusedSimpArgs false
def spec_kids.l0 : Nat → List (S35) → List (List (S35)) → Int → Option ((List (List (S35))))
 | 0,_,_,_=>none
 | k + 1,x0,x3,x4=>if x4 < (x0.length : Int) then ((spec_endOf.f k x0 x4).bind fun t4=>(if 0 ≤ x4 then (if x4 ≤ t4 then (if t4 ≤ (x0.length : Int) then ((spec_deeper.f k ((x0.take (t4 : Int).toNat).drop (x4 : Int).toNat) (wrap64 (-((rd_T35 x0 x4).f0)))).bind fun t10=>(if x3.length < 5864062014805 then ((spec_endOf.f k x0 x4).bind fun t16=>(spec_kids.l0 k x0 (x3 ++ [t10]) t16)) else (none))) else (none)) else (none)) else (none))) else (some x3)
def spec_kids.f (k : Nat) (l0 : List (S35)) : Option ((List (List (S35)))):=spec_kids.l0 k l0 (([] : List (List (S35)))) 1
theorem spec_kids.mono_l : ∀ k,(∀ y0 y1 y2,LeO (spec_kids.l0 k y0 y1 y2) (spec_kids.l0 (k + 1) y0 y1 y2))
 | 0=>fun _ _ _ r h=>by simp [spec_kids.l0] at h
 | k + 1=>by
  have ih0:=spec_kids.mono_l k
  ·intro y0 y1 y2
   unfold spec_kids.l0
   repeat' first
   | (with_reducible exact ih0 _ _ _)
   | (with_reducible exact spec_deeper.mono _ _ _)
   | (with_reducible exact spec_endOf.mono _ _ _)
   | (with_reducible exact LeO.refl _)
   | (with_reducible exact LeO.none _)
   | (with_reducible refine LeO.ite ?_ ?_)
   | (with_reducible refine LeO.bind ?_ (fun _=>?_))
   | exact ih0 _ _ _
   | exact spec_deeper.mono _ _ _
   | exact spec_endOf.mono _ _ _
   | exact LeO.none _
   | refine LeO.ite ?_ ?_
   | refine LeO.bind ?_ (fun _=>?_)
theorem spec_kids.mono : ∀ a0 k,LeO (spec_kids.f k a0) (spec_kids.f (k + 1) a0):=by
 intro a0 k
 have ih0:=spec_kids.mono_l k
 unfold spec_kids.f
 repeat' first
   | (with_reducible exact ih0 _ _ _)
   | (with_reducible exact spec_deeper.mono _ _ _)
   | (with_reducible exact spec_endOf.mono _ _ _)
   | (with_reducible exact LeO.refl _)
   | (with_reducible exact LeO.none _)
   | (with_reducible refine LeO.ite ?_ ?_)
   | (with_reducible refine LeO.bind ?_ (fun _=>?_))
   | exact ih0 _ _ _
   | exact spec_deeper.mono _ _ _
   | exact spec_endOf.mono _ _ _
   | exact LeO.none _
   | refine LeO.ite ?_ ?_
   | refine LeO.bind ?_ (fun _=>?_)
def spec_kids.T5 : Bool × List (List Nat × List Nat):=(true,[([],[]),([],[]),([],[]),([],[]),([],[]),([3,4],[3,4]),([1,2,5],[1,2,5]),([],[]),([],[]),([7,8],[7,8]),([9],[9]),([10],[10]),([11],[11]),([6,12,5],[6,12]),([13],[13]),([0,14,13],[0,14]),([15,15,0,1,2,3,4,5,6,7,8,9,10,11,12,13,14,15],[0,15])])
def spec_kids.B5 : List Nat:=[0,0,0,0,0,24,62,0,0,384,896,1920,3968,8190,16382,32767,65535]
theorem spec_kids.tab5 : rtab .any (opsOf Try.f24 5) = spec_kids.T5:=by kernel_rfl
theorem spec_kids.bits5 : waitsOk spec_kids.T5.2 spec_kids.B5 = true:=by kernel_rfl
set_option maxHeartbeats 8000000 in
set_option maxRecDepth 100000 in
theorem spec_kids.calls (k : Nat) (A0 : Option Addr) (c0 : Nat) (l0 : List (S35)) (r : List (List (S35))) (w : World) (hr0 : Kd.C k35 w A0 l0.length l0) (hc0 : l0.length ≤ c0) (h : spec_kids.f k l0 = some r) :
  Calls Try.prog 24 #[.slice A0 l0.length c0] w fun e w'=>∃ v0_ : Value,e = .returned (v0_) ∧ Kd.S (Kd.slice 35 k35) 26 w' w.heap.size (fun _=>True) v0_ r ∧ Below w.heap.size w w':=by
 have HR0:=a0_ hr0
 have HC0:=a0_ hc0
 clear hr0 hc0
 have HB:=a0_ (Below.refl w.heap.size w)
 have H : (spec_kids.l0 k l0 (([] : List (List (S35)))) 1) = some r:=h
 clear h
 obtain ⟨y1,hy1⟩ : ∃ y_ : List (List (S35)),y_ = (([] : List (List (S35)))):=⟨_,rfl⟩
 replace H : (spec_kids.l0 k l0 y1 1) = some r:=by first | (rw [hy1];with_reducible exact H) | (have H2_:=(Option.bind_some _ _).symm.trans H;rw [hy1];with_reducible exact H2_) | (have H2_:=(Option.bind_some _ _).symm.trans H;with_reducible exact H2_) | with_reducible exact H | (rw [hy1];exact H) | exact H
 have Ny1:=a0_ hy1
 clear hy1
 have H':=a0_ H
 clear H
 go_enter Try.func24,Try.ntmps24
 go_wp2_with (first | ((with_reducible refine gate_dst (N:=5) rfl ?_);refine Kd.S_lit (Kd.slice 35 k35) _ 26 ?hg (N:=5) ?hd (xs:=([] : List (List (S35)))) (inner:=[]) (ok:=fun _=>True) (okp:=fun _=>True) ?hr ?hp (fun _ hk=>hk) trivial (Below.refl _ _) (Nat.le_refl _) (by simp) ?_;(case hd=>rfl);(case hg=>rfl);(case hr=>first | (go_simp;done) | (go_simp;rfl));(case hp=>exact (Reps.none _ _));intro v2 w2 ho3 hb hg_ hnew_;clear hg_ hnew_;(first | rw [← Ny1.out] at ho3 | (simp only [Int.reduceToNat] at ho3;rw [← Ny1.out] at ho3));have HO3:=a0_ (Kd.S_lower ho3 (below_size hb_));replace HB:=a0_ (below_step hb_ hb);clear hb ho3))
 go_loopg [3,4] k (fun kq v3 v4 w'=>∃ (x3_1 : List (List (S35))) (x4_1 : Int),v4 = .int .i64 x4_1 ∧ Aside0 (spec_kids.l0 kq l0 x3_1 x4_1 = some r) ∧ Aside0 (kq ≤ k) ∧ Aside0 (Kd.S (Kd.slice 35 k35) 26 w' w.heap.size (fun _=>True) v3 x3_1) ∧ Aside0 (Below w.heap.size w w'))
 case atStart=>exact ⟨(y1),(1),(by first | rfl | (simp;done) | (simp [*];done)),H',⟨Nat.le_refl _⟩,⟨by (with_reducible repeat (first | apply Kd.S_alloc | apply Kd.S_drewN | apply Kd.S_drew));exact HO3.out⟩,⟨hb_⟩⟩
 case round =>
  clear H'
  try clear c2
  try clear p2
  obtain ⟨x3_1,x4_1,rfl,HA,HK1,HO_3,HB⟩:=hrel
  cases gk with
  | zero=>exact absurd HA.out (by simp [spec_kids.l0])
  | succ k1 =>
   have H:=HA.out
   clear HA
   simp only [spec_kids.l0] at H
   by_cases c4 : x4_1 < (l0.length : Int)
   ·rw [if_pos c4] at H
    have c4b0 : decide (x4_1 < (l0.length : Int)) = true:=decide_eq_true c4
    clear c4
    replace H:=Option.bind_eq_some_iff.mp H
    obtain ⟨t4,A50,H⟩:=H
    try dsimp only at H
    have A5:=a0_ A50
    clear A50
    by_cases c6 : 0 ≤ x4_1
    ·rw [if_pos c6] at H
     have c6b0:=eq_true c6
     have c6b1 : decide (0 ≤ x4_1) = true:=decide_eq_true c6
     clear c6
     by_cases c7 : x4_1 ≤ t4
     ·rw [if_pos c7] at H
      have c7b0:=eq_true c7
      have c7b1 : decide (x4_1 ≤ t4) = true:=decide_eq_true c7
      clear c7
      by_cases c8 : t4 ≤ (l0.length : Int)
      ·rw [if_pos c8] at H
       have c8b0:=eq_true c8
       have c8b1 : decide (t4 ≤ (l0.length : Int)) = true:=decide_eq_true c8
       clear c8
       obtain ⟨y5,hy5⟩ : ∃ y_ : List (S35),y_ = ((l0.take (t4 : Int).toNat).drop (x4_1 : Int).toNat):=⟨_,rfl⟩
       replace H : ((spec_deeper.f k1 y5 (wrap64 (-((rd_T35 l0 x4_1).f0)))).bind fun t10=>(if x3_1.length < 5864062014805 then ((spec_endOf.f k1 l0 x4_1).bind fun t16=>(spec_kids.l0 k1 l0 (x3_1 ++ [t10]) t16)) else (none))) = some r:=by first | (rw [hy5];with_reducible exact H) | (have H2_:=(Option.bind_some _ _).symm.trans H;rw [hy5];with_reducible exact H2_) | (have H2_:=(Option.bind_some _ _).symm.trans H;with_reducible exact H2_) | with_reducible exact H | (rw [hy5];exact H) | exact H
       have Ny5:=a0_ hy5
       clear hy5
       replace H:=Option.bind_eq_some_iff.mp H
       obtain ⟨t10,A90,H⟩:=H
       try dsimp only at H
       have A9:=a0_ A90
       clear A90
       by_cases c10 : x3_1.length < 5864062014805
       ·rw [if_pos c10] at H
        have LMc10:=a0_ c10
        clear c10
        obtain ⟨y13,hy13⟩ : ∃ y_ : List (List (S35)),y_ = (x3_1 ++ [t10]):=⟨_,rfl⟩
        replace H : ((spec_endOf.f k1 l0 x4_1).bind fun t16=>(spec_kids.l0 k1 l0 y13 t16)) = some r:=by first | (rw [hy13];with_reducible exact H) | (have H2_:=(Option.bind_some _ _).symm.trans H;rw [hy13];with_reducible exact H2_) | (have H2_:=(Option.bind_some _ _).symm.trans H;with_reducible exact H2_) | with_reducible exact H | (rw [hy13];exact H) | exact H
        have Ny13:=a0_ hy13
        clear hy13
        replace H:=Option.bind_eq_some_iff.mp H
        obtain ⟨t16,A110,H⟩:=H
        replace H : (spec_kids.l0 k1 l0 y13 t16) = some r:=H
        have A11:=a0_ A110
        clear A110
        have H':=a0_ H
        clear H
        try go_wp2
        have n0_:=a0_ (Kd.S_drew HO_3.out)
        have n1_:=a0_ (below_drew1 HB.out)
        clear HO_3
        clear HB
        have HO_3:=n0_
        have HB:=n1_
        clear n0_ n1_
        have p9 : 0 ≤ (x4_1 : Int):=of_decide_eq_true (by first | (with_reducible assumption) | assumption)
        have q9 : x4_1 < (l0.length : Int):=of_decide_eq_true (by first | (with_reducible assumption) | assumption)
        obtain ⟨ad9,e9,hx9_0,hx9_1,hx9_2,hx9_3⟩:=at_T35 HR0.out x4_1 p9 q9
        have hw9_3:=hx9_3
        have hw9_2:=hx9_2
        have hw9_1:=hx9_1
        have hw9_0:=hx9_0
        cases e9
        replace hx9_0:=(HB.out.cell (World.block_lt_of_cell? w _ hx9_0)).trans hx9_0
        replace hx9_1:=(HB.out.cell (World.block_lt_of_cell? w _ hx9_1)).trans hx9_1
        replace hx9_2:=(HB.out.cell (World.block_lt_of_cell? w _ hx9_2)).trans hx9_2
        replace hx9_3:=(HB.out.cell (World.block_lt_of_cell? w _ hx9_3)).trans hx9_3
        replace p9:=eq_true p9
        replace q9:=eq_true q9
        refine start_ (n:=17) (S:=fun w'=>w'.cell? (ad9.add ((x4_1).toNat * 4)) = some (.int .i64 ((rd_T35 l0 x4_1).f0)) ∧ w'.cell? ⟨(ad9.add ((x4_1).toNat * 4)).block,(ad9.add ((x4_1).toNat * 4)).off + 1,none⟩ = some (.bool ((rd_T35 l0 x4_1).f1)) ∧ w'.cell? ⟨(ad9.add ((x4_1).toNat * 4)).block,(ad9.add ((x4_1).toNat * 4)).off + 2,none⟩ = some (.int .i64 ((rd_T35 l0 x4_1).f2)) ∧ w'.cell? ⟨(ad9.add ((x4_1).toNat * 4)).block,(ad9.add ((x4_1).toNat * 4)).off + 3,none⟩ = some (.int .i64 ((rd_T35 l0 x4_1).f3))) (ds:=[]) #[false,false,false,false,false,false,false,false,false,false,false,false,false,false,false,false,false] (by kernel_rfl) rfl rfl ⟨((HB.out.cell (World.block_lt_of_cell? w _ hw9_0)).trans hw9_0),((HB.out.cell (World.block_lt_of_cell? w _ hw9_1)).trans hw9_1),((HB.out.cell (World.block_lt_of_cell? w _ hw9_2)).trans hw9_2),((HB.out.cell (World.block_lt_of_cell? w _ hw9_3)).trans hw9_3)⟩ (fun hHeld=>?_);refine with_tabW spec_kids.tab5 spec_kids.bits5 (fun HT_ HW_=>?_)
        generalize wr.drew = w12 at HO_3 HB hx9_0 hx9_1 hx9_2 hx9_3 hHeld ⊢
        refine pure_ (i:=0) (N:=some 13) (v:=?_) (a':=?_) #[true,false,false,false,false,false,false,false,false,false,false,false,false,false,false,false,false] rfl rfl (any_of HT_.out (by kernel_rfl)) (fun _ _ _ h=>h) (Or.inl ⟨by rfl,?_⟩) ?_ ?_
        rotate_left
        ·intro w'
         go_simp
         with_reducible rfl
        rotate_left
        ·simp only [Act.put,s1_,s2_,s3_,i64_w,i32_w]
         rfl
        refine pure_ (i:=1) (N:=some 14) (v:=?_) (a':=?_) #[true,true,false,false,false,false,false,false,false,false,false,false,false,false,false,false,false] rfl rfl (any_of HT_.out (by kernel_rfl)) (fun _ _ _ h=>h) (Or.inl ⟨by rfl,?_⟩) ?_ ?_
        rotate_left
        ·intro w'
         go_simp
         with_reducible rfl
        rotate_left
        ·simp only [Act.put,s1_,s2_,s3_,i64_w,i32_w]
         rfl
        refine pure_ (i:=2) (N:=some 15) (v:=?_) (a':=?_) #[true,true,true,false,false,false,false,false,false,false,false,false,false,false,false,false,false] rfl rfl (any_of HT_.out (by kernel_rfl)) (fun _ _ _ h=>h) (Or.inl ⟨by rfl,?_⟩) ?_ ?_
        rotate_left
        ·intro w'
         go_simp
         with_reducible rfl
        rotate_left
        ·simp only [Act.put,s1_,s2_,s3_,i64_w,i32_w]
         rfl
        refine pure_ (i:=3) (N:=some 16) (v:=?_) (a':=?_) #[true,true,true,true,false,false,false,false,false,false,false,false,false,false,false,false,false] rfl rfl (any_of HT_.out (by kernel_rfl)) (fun _ _ _ h=>h) (Or.inl ⟨by rfl,?_⟩) ?_ ?_
        rotate_left
        ·intro w'
         go_simp
         with_reducible rfl
        rotate_left
        ·simp only [Act.put,s1_,s2_,s3_,i64_w,i32_w]
         rfl
        refine pure_ (i:=4) (N:=some 17) (v:=?_) (a':=?_) #[true,true,true,true,true,false,false,false,false,false,false,false,false,false,false,false,false] rfl rfl (any_of HT_.out (by kernel_rfl)) (fun _ _ _ h=>h) (Or.inl ⟨by rfl,?_⟩) ?_ ?_
        rotate_left
        ·intro w'
         go_simp
         with_reducible rfl
        rotate_left
        ·simp only [Act.put,s1_,s2_,s3_,i64_w,i32_w]
         rfl
        refine pure_ (i:=7) (N:=some 20) (v:=?_) (a':=?_) #[true,true,true,true,true,false,false,true,false,false,false,false,false,false,false,false,false] rfl rfl (any_of HT_.out (by kernel_rfl)) (fun _ _ _ h=>h) (Or.inl ⟨by rfl,?_⟩) ?_ ?_
        rotate_left
        ·intro w'
         go_simp
         with_reducible rfl
        rotate_left
        ·simp only [Act.put,s1_,s2_,s3_,i64_w,i32_w]
         rfl
        refine pure_ (i:=8) (N:=some 21) (v:=?_) (a':=?_) #[true,true,true,true,true,false,false,true,true,false,false,false,false,false,false,false,false] rfl rfl (any_of HT_.out (by kernel_rfl)) (fun _ _ _ h=>h) (Or.inl ⟨by rfl,?_⟩) ?_ ?_
        rotate_left
        ·intro w'
         go_simp
         with_reducible rfl
        rotate_left
        ·simp only [Act.put,s1_,s2_,s3_,i64_w,i32_w]
         rfl
        refine pure_ (i:=9) (N:=some 22) (v:=?_) (a':=?_) #[true,true,true,true,true,false,false,true,true,true,false,false,false,false,false,false,false] rfl rfl (any_of HT_.out (by kernel_rfl)) (fun _ _ _ h=>h) (Or.inl ⟨by rfl,?_⟩) ?_ ?_
        rotate_left
        ·intro w'
         go_simp
         with_reducible rfl
        rotate_left
        ·simp only [Act.put,s1_,s2_,s3_,i64_w,i32_w]
         rfl
        refine pure_ (i:=10) (N:=some 23) (v:=?_) (a':=?_) #[true,true,true,true,true,false,false,true,true,true,true,false,false,false,false,false,false] rfl rfl (any_of HT_.out (by kernel_rfl)) (fun _ _ _ h=>h) (Or.inl ⟨by rfl,?_⟩) ?_ ?_
        rotate_left
        ·intro w'
         go_simp
         with_reducible rfl
        rotate_left
        ·simp only [Act.put,s1_,s2_,s3_,i64_w,i32_w]
         rfl
        refine take_ (i:=11) (N:=some 24) (v:=?_) (a':=?_) #[true,true,true,true,true,false,false,true,true,true,true,true,false,false,false,false,false] rfl rfl (take_ofW HT_.out HW_.out (by kernel_rfl)) (fun _ _ _ h=>h) (Or.inl ⟨by rfl,?_⟩) hHeld ?_ ?_
        rotate_left
        ·rintro w' ⟨s0,s1,s2,s3⟩
         go_simp
         with_reducible rfl
        rotate_left
        ·simp only [Act.put,s1_,s2_,s3_,i64_w,i32_w]
         rfl
        refine pure_ (i:=12) (N:=some 25) (v:=?_) (a':=?_) #[true,true,true,true,true,false,false,true,true,true,true,true,true,false,false,false,false] rfl rfl (any_of HT_.out (by kernel_rfl)) (fun _ _ _ h=>h) (Or.inl ⟨by rfl,?_⟩) ?_ ?_
        rotate_left
        ·intro w'
         go_simp
         with_reducible rfl
        rotate_left
        ·simp only [Act.put,s1_,s2_,s3_,i64_w,i32_w]
         rfl
        refine one_ (i:=5) (N:=some 18) #[true,true,true,true,true,true,false,true,true,true,true,true,true,false,false,false,false] rfl rfl (one_of HT_.out (by kernel_rfl)) (by decide) (fun K hK=>?_)
        refine goes_ Try.func43 (by kernel_rfl) rfl #[.slice (some ad9) l0.length c0,.int .i64 x4_1] (by rfl) rfl rfl lm_ ?_
        with_reducible refine (spec_endOf.calls k1 _ _ l0 x4_1 t4 _ ?side1 ?side2 A5.out).mono ?_
        (case side1=>exact cc_ (Kd.C_below HR0.out HB.out))
        (case side2=>exact HC0.out)
        rintro e w' ⟨rfl,⟨nd,rfl⟩⟩
        refine ⟨_,rfl,?_⟩
        have q13 : (t4 : Int) ≤ ((l0.length : Int) : Int):=of_decide_eq_true (by first | (with_reducible assumption) | assumption)
        obtain ⟨i013,hi013,_,hsz13,_⟩:=info_parts info35
        have hroom13 : l0.length ≤ c0:=HC0.out
        have hC13 : Kd.C k35 _ (some ad9) l0.length l0:=HR0.out
        have ql13 : (x4_1 : Int) ≤ (t4 : Int):=of_decide_eq_true (by first | (with_reducible assumption) | assumption)
        have q013 : (0 : Int) ≤ (x4_1 : Int):=of_decide_eq_true (by first | (with_reducible assumption) | assumption)
        have hcut13:=cut_mid (P:=Try.prog) 26 35 .i64 .i64 Try.underlying26 hi013 4 hsz13 (some ad9) l0.length c0 x4_1 t4 q013 ql13 q13 hroom13
        have hr13:=Kd.C_mid (lo:=(x4_1 : Int).toNat) (hi:=(t4 : Int).toNat) (c:=c0) hC13 (by omega) (by omega) hroom13
        obtain ⟨A13,hA13⟩ : ∃ AZ_,AZ_ = (if c0 = (x4_1 : Int).toNat then (some ad9) else ((some ad9) : Option Addr).map (·.add ((x4_1 : Int).toNat * 4))):=⟨_,rfl⟩
        obtain ⟨c13,hc13⟩ : ∃ cZ_,cZ_ = c0 - (x4_1 : Int).toNat:=⟨_,rfl⟩
        have hy13 : y5.length = (t4 : Int).toNat - (x4_1 : Int).toNat:=(by rw [Ny5.out,List.length_drop,List.length_take] <;> omega)
        rw [show ((l0).take (t4 : Int).toNat).drop (x4_1 : Int).toNat = y5 from Ny5.out.symm] at hr13
        replace hr13 : Kd.C k35 _ A13 y5.length y5:=(by rw [hA13];exact hr13)
        rw [← hy13,← hA13,← hc13] at hcut13
        have HR8:=a0_ hr13
        have HC8:=a0_ (show y5.length ≤ c13 from by rw [hy13,hc13];exact Nat.sub_le_sub_right (Nat.le_trans (by omega) hroom13) _)
        clear hr13 hC13 hroom13 hi013 hsz13 hc13
        have KY13:=a0_ hy13
        have KA13:=a0_ hA13
        clear hy13 hA13
        replace q13:=eq_true q13
        refine hK.out _ _ ⟨((HB.out.cell (World.block_lt_of_cell? w _ hw9_0)).trans hw9_0),((HB.out.cell (World.block_lt_of_cell? w _ hw9_1)).trans hw9_1),((HB.out.cell (World.block_lt_of_cell? w _ hw9_2)).trans hw9_2),((HB.out.cell (World.block_lt_of_cell? w _ hw9_3)).trans hw9_3)⟩ (fun hHeld=>?_)
        clear hK K
        refine norm_ (a':=?_) ?_ ?_
        rotate_left
        ·show Act.put _ (some 18) _ = _
         simp only [Act.put,s1_,s2_,s3_,i64_w,i32_w]
         rfl
        refine pure_ (i:=6) (N:=some 19) (v:=?_) (a':=?_) #[true,true,true,true,true,true,true,true,true,true,true,true,true,false,false,false,false] rfl rfl (any_of HT_.out (by kernel_rfl)) (fun _ _ _ h=>h) (Or.inl ⟨by rfl,?_⟩) ?_ ?_
        rotate_left
        ·intro w'
         go_simp
         with_reducible rfl
        rotate_left
        ·simp only [Act.put,s1_,s2_,s3_,i64_w,i32_w]
         rfl
        refine one_ (i:=13) (N:=some 26) #[true,true,true,true,true,true,true,true,true,true,true,true,true,true,false,false,false] rfl rfl (one_of HT_.out (by kernel_rfl)) (by decide) (fun K hK=>?_)
        refine goes_ Try.func29 (by kernel_rfl) rfl #[.slice A13 y5.length c13,.int .i64 (wrap64 (-((rd_T35 l0 x4_1).f0)))] (by rfl) rfl rfl lm_ ?_
        with_reducible refine (spec_deeper.calls k1 _ _ y5 (wrap64 (-((rd_T35 l0 x4_1).f0))) t10 _ ?side1 ?side2 A9.out).mono ?_
        (case side1=>repeat (first | exact (Kd.C_below HR8.out hb_) | (with_reducible refine Kd.C_alloc ?_ _) | (with_reducible refine Kd.C_drewN ?_ _) | (with_reducible refine Kd.C_drew ?_)))
        (case side2=>exact HC8.out)
        rintro e w14 ⟨v11,rfl,ho0,hb⟩
        refine ⟨_,rfl,?_⟩
        have n0_:=a0_ (Kd.S_elder' (by (with_reducible repeat (first | apply Kd.S_alloc | apply Kd.S_drewN | apply Kd.S_drew));exact HO_3.out) (Kd.R_base ho0) hb)
        have n1_:=a0_ (Kd.R_lower ho0 (below_size hb_))
        have n2_:=a0_ (below_step hb_ hb)
        clear HO_3
        clear HB
        have HO_3:=n0_
        have HO12:=n1_
        have HB:=n2_
        clear n0_ n1_ n2_
        (try clear hb)
        (try clear hb2)
        (try clear hk)
        (try clear hi)
        (try clear ho0)
        obtain ⟨Ao16,co16,eo16⟩:=Kd.R_slice HO12.out
        (first | subst eo16 | (injection eo16 with f1_ f2_ f3_;have f4_:=f1_.symm;have f5_:=f3_.symm;clear f1_ f2_ f3_;subst f4_;subst f5_))
        refine hK.out _ _ ⟨((HB.out.cell (World.block_lt_of_cell? w _ hw9_0)).trans hw9_0),((HB.out.cell (World.block_lt_of_cell? w _ hw9_1)).trans hw9_1),((HB.out.cell (World.block_lt_of_cell? w _ hw9_2)).trans hw9_2),((HB.out.cell (World.block_lt_of_cell? w _ hw9_3)).trans hw9_3)⟩ (fun hHeld=>?_)
        clear hK K
        refine norm_ (a':=?_) ?_ ?_
        rotate_left
        ·show Act.put _ (some 26) _ = _
         simp only [Act.put,s1_,s2_,s3_,i64_w,i32_w]
         rfl
        refine one_ (i:=14) (N:=some 27) #[true,true,true,true,true,true,true,true,true,true,true,true,true,true,true,false,false] rfl rfl (one_of HT_.out (by kernel_rfl)) (by decide) (fun K hK=>?_)
        refine value_ (w1:=?_) (v:=?_) (by rfl) rfl ?_ ?_
        rotate_left 2
        ·go_simp
         constructor
         ·rfl
         ·rfl
        refine hK.out _ _ ⟨(World.cell?_alloc_lt _ _ _ (World.block_lt_of_cell? _ _ (((HB.out.cell (World.block_lt_of_cell? w _ hw9_0)).trans hw9_0)))).trans (((HB.out.cell (World.block_lt_of_cell? w _ hw9_0)).trans hw9_0)),(World.cell?_alloc_lt _ _ _ (World.block_lt_of_cell? _ _ (((HB.out.cell (World.block_lt_of_cell? w _ hw9_1)).trans hw9_1)))).trans (((HB.out.cell (World.block_lt_of_cell? w _ hw9_1)).trans hw9_1)),(World.cell?_alloc_lt _ _ _ (World.block_lt_of_cell? _ _ (((HB.out.cell (World.block_lt_of_cell? w _ hw9_2)).trans hw9_2)))).trans (((HB.out.cell (World.block_lt_of_cell? w _ hw9_2)).trans hw9_2)),(World.cell?_alloc_lt _ _ _ (World.block_lt_of_cell? _ _ (((HB.out.cell (World.block_lt_of_cell? w _ hw9_3)).trans hw9_3)))).trans (((HB.out.cell (World.block_lt_of_cell? w _ hw9_3)).trans hw9_3))⟩ (fun hHeld=>?_)
        clear hK K
        refine norm_ (a':=?_) ?_ ?_
        rotate_left
        ·show Act.put _ (some 27) _ = _
         simp only [Act.put,s1_,s2_,s3_,i64_w,i32_w]
         rfl
        refine one_ (i:=15) (N:=some 28) #[true,true,true,true,true,true,true,true,true,true,true,true,true,true,true,true,false] rfl rfl (one_of HT_.out (by kernel_rfl)) (by decide) (fun K hK=>?_)
        refine Kd.S_append_step (Kd.slice 35 k35) (w0:=w) w.heap.size (by rfl) (.tmp 13) (.tmp 27) 29 26 (.slice none 0 0) 24 rfl Try.underlying29 info26 rfl (by decide) (by omega) u3 x3_1 t10 [.slice Ao16 t10.length co16] (fun _=>True) (fun k_=>some k_ = (.slice Ao16 t10.length co16 : Value).ownBlock) rfl rfl ?aP (fun k_ hk_=>((Kd.R_mono (ok':=fun k_=>((fun _=>True)) k_ ∧ some k_ ≠ (u3 : Value).ownBlock) (Kd.R_apart' (HO12.out) (Kd.S_typed HO_3.out) (by decide)) (fun k_ hk=>⟨trivial,hk.2⟩))).1 k_ hk_.symm) ?aF ?aO ?aB ?aS ?aL ?_
        (case aP=>exact Kd.M_row (Kd.R_mono (Kd.R_tight rfl (Kd.R_mono (ok':=fun k_=>((fun _=>True)) k_ ∧ some k_ ≠ (u3 : Value).ownBlock) (Kd.R_apart' (HO12.out) (Kd.S_typed HO_3.out) (by decide)) (fun k_ hk=>⟨trivial,hk.2⟩))) (fun _ h_=>h_)))
        (case aB=>exact hb_)
        (case aF=>exact (fun _ _=>trivial))
        (case aO=>exact (by (with_reducible repeat (first | apply Kd.S_alloc | apply Kd.S_drewN | apply Kd.S_drew));exact Kd.S_mono HO_3.out (fun k_ hk=>⟨trivial,fun e_=>hk.2 e_⟩)))
        (case aS=>exact (below_size hb_))
        (case aL=>have:=LMc10.out;omega)
        intro v14 w15 ho hb hg hat
        rw [← Ny13.out] at ho
        have n0_:=a0_ (hb)
        have n1_:=a0_ (ho)
        clear HB
        clear HO_3
        clear HO12
        have HB:=n0_
        have HO15:=n1_
        clear n0_ n1_
        clear ho hb hg hat
        refine hK.out _ _ ⟨((HB.out.cell (World.block_lt_of_cell? w _ hw9_0)).trans hw9_0),((HB.out.cell (World.block_lt_of_cell? w _ hw9_1)).trans hw9_1),((HB.out.cell (World.block_lt_of_cell? w _ hw9_2)).trans hw9_2),((HB.out.cell (World.block_lt_of_cell? w _ hw9_3)).trans hw9_3)⟩ (fun hHeld=>?_)
        clear hK K
        refine norm_ (a':=?_) ?_ ?_
        rotate_left
        ·show Act.put _ (some 28) _ = _
         simp only [Act.put,s1_,s2_,s3_,i64_w,i32_w]
         rfl
        refine pure_ (i:=16) (N:=some 3) (v:=?_) (a':=?_) #[true,true,true,true,true,true,true,true,true,true,true,true,true,true,true,true,true] rfl rfl (any_of HT_.out (by kernel_rfl)) (fun _ _ _ h=>h) (Or.inl ⟨by rfl,?_⟩) ?_ ?_
        rotate_left
        ·intro w'
         go_simp
         with_reducible rfl
        rotate_left
        ·simp only [Act.put,s1_,s2_,s3_,i64_w,i32_w]
         rfl
        refine done_ (done_of HT_.out (by kernel_rfl)) ?_
        try go_wp2_with (first | ((with_reducible refine gate_callee (f:=43) rfl ?_);refine goesL_ (some 12) rfl rfl Try.func43 (by kernel_rfl) rfl #[.slice (some ad9) l0.length c0,.int .i64 x4_1] rfl lm_ ?_;(with_reducible refine (spec_endOf.calls k1 _ _ l0 x4_1 t16 _ ?side1 ?side2 A11.out).mono ?_);(case side1=>exact cc_ (Kd.C_below HR0.out HB.out));(case side2=>exact HC0.out);rintro e w' ⟨rfl,⟨nd,rfl⟩⟩;refine ⟨_,rfl,?_⟩))
        go_roundg k1
        case measure=>have:=HK1.out;omega
        case rel=>exact ⟨(y13),(t16),(by first | rfl | (simp;done) | (simp [*];done)),H',⟨by have:=HK1.out;omega⟩,⟨by (with_reducible repeat (first | apply Kd.S_alloc | apply Kd.S_drewN | apply Kd.S_drew));exact HO15.out⟩,⟨hb_⟩⟩
       ·rw [if_neg c10] at H
        exact absurd H (by simp)
      ·rw [if_neg c8] at H
       exact absurd H (by simp)
     ·rw [if_neg c7] at H
      exact absurd H (by simp)
    ·rw [if_neg c6] at H
     exact absurd H (by simp)
   ·rw [if_neg c4] at H
    have c4b0 : decide (x4_1 < (l0.length : Int)) = false:=decide_eq_false c4
    clear c4
    obtain rfl:=Option.some.inj H
    go_wp2
    go_ret
    exact ⟨_,by first | rfl | (simp [errW_none,errW_some] <;> rfl) | (simp [*,errW_none,errW_some] <;> rfl),by (with_reducible repeat (first | apply Kd.S_alloc | apply Kd.S_drewN | apply Kd.S_drew));exact HO_3.out,hb_⟩
theorem spec_kids_l0 (g : List Prt) (hl : g.length ≤ 1000) (hb : ∀ p ∈ g,-1000 ≤ p.f0 ∧ p.f0 ≤ 1000) : ∀ (n i : Nat) (out : List (List Prt)),g.length ≤ i + n → i ≤ g.length → out.length ≤ i → Fr 1 (g.drop i) → Ev (fun k=>spec_kids.l0 k g out (i : Int)) (out ++ (kidR n (g.drop i)).map (dpr (-1))):=by
 intro n
 induction n with
 | zero =>
  intro i out hn hi ho _
  refine Ev.succ ?_
  simp only [spec_kids.l0]
  exact Ev.neg (by omega) (Ev.const (by simp [kidR]))
 | succ n ih =>
  intro i out hn hi ho hF
  refine Ev.succ ?_
  by_cases hlt : i < g.length
  ·obtain ⟨e1,e2⟩:=end_mid g i hlt
   have hE:=spec_endOf_ev g i hlt (by omega)
   have hle:=endG_le g i hlt
   rw [List.drop_eq_getElem_cons hlt] at hF
   obtain ⟨h0,h1,_⟩:=Fr_head hF _ _ rfl
   rw [List.drop_drop,← e2] at h1
   have hr : rd_T35 g (i : Int) = g[i]:=by simp [rd_T35,hlt]
   have ew : wrap64 (-(rd_T35 g (i : Int)).f0) = -1:=by rw [hr,h0];exact wrap_in (by omega) (by omega)
   have hD:=spec_deeper_ev (g[i] :: belw g[i] (g.drop (i + 1))) (-1) (by
    have:=(belw_sub g[i] (g.drop (i + 1))).length_le
    rw [List.length_drop] at this
    rw [List.length_cons]
    omega) (by omega) (fun p hp=>by
    have hm : p ∈ g:=by
     rcases List.mem_cons.1 hp with rfl | hp
     ·exact List.getElem_mem _
     ·exact List.mem_of_mem_drop ((belw_sub _ _).subset hp)
    have:=hb p hm
    omega)
   rw [← e1] at hD
   have hi2:=ih (endG g i) (out ++ [dpr (-1) ((g.take (endG g i)).drop i)]) (by omega) hle (by simp;omega) h1
   have ek : kidR (n + 1) (g.drop i) = (g.take (endG g i)).drop i :: kidR n (g.drop (endG g i)):=by
    rw [List.drop_eq_getElem_cons hlt,kidR,e1,e2,List.drop_drop]
   rw [ek,List.map_cons]
   rw [List.append_assoc,List.singleton_append] at hi2
   simp only [spec_kids.l0,ew]
   refine Ev.pos (by omega) (Ev.bind hE (Ev.pos (by omega) (Ev.pos (by omega) (Ev.pos (by omega) ?_))))
   simp only [Int.toNat_natCast]
   exact Ev.bind hD (Ev.pos (by omega) (Ev.bind hE hi2))
  ·rw [List.drop_eq_nil_of_le (by omega)]
   simp only [spec_kids.l0]
   exact Ev.neg (by omega) (Ev.const (by simp [kidR]))
theorem spec_kids_ev (g : List Prt) (hl : g.length ≤ 1000) (hT : Tre g) (hb : ∀ p ∈ g,-1000 ≤ p.f0 ∧ p.f0 ≤ 1000) : Ev (fun k=>spec_kids.f k g) (kidL g):=by
 have h1 : 1 ≤ g.length:=by obtain ⟨p,r,rfl,_⟩:=hT;simp
 have:=spec_kids_l0 g hl hb g.length 1 [] (by omega) h1 (by simp) (Tre_rest hT)
 exact this
end Go.Proofs.Ytjdpaholpfpiiaa.P
namespace Go.Proofs.Ytjdpaholpfpiiaa.P
open Go.RowKit Go.Proofs.YtjdpaholpfpiiaaW.PrintWords Go.Proofs.YtjdpaholpfpiiaaW.PrintLast Go.Proofs.YtjdpaholpfpiiaaW.PrintMore
attribute [local go_sem] max2_int min2_int max_two min_two max_three min_three max_four min_four
set_option linter.unusedVariables false
set_option linter.unusedSimpArgs false
mutual
def spec_simple.l0 : Nat → List (List (S35)) → List (S35) → Int → Option ((List (S35)))
 | 0,_,_,_=>none
 | k + 1,x3,x4,x5=>if x5 < (x3.length : Int) then (if 0 ≤ x5 then ((spec_simple.f k (rd_L8 x3 x5)).bind fun t13=>((spec_deeper.f k t13 1).bind fun t16=>(if x4.length + t16.length < 4398046511104 then (spec_simple.l0 k x3 (x4 ++ t16) (wrap64 (x5 + 1))) else (none)))) else (none)) else (some x4)
def spec_simple.f : Nat → List (S35) → Option ((List (S35)))
 | 0,_=>none
 | k + 1,l0=>(spec_kids.f k l0).bind fun t1=>(if (t1.length : Int) = 1 then (if 0 < (t1.length : Int) then ((spec_simple.f k (rd_L8 t1 0)).bind fun t5=>(some t5)) else (none)) else (if 0 < (l0.length : Int) then (spec_simple.l0 k t1 (([(⟨(rd_T35 l0 0).f0,(rd_T35 l0 0).f1,(rd_T35 l0 0).f2,(rd_T35 l0 0).f3⟩ : S35)] : List (S35))) 0) else (none)))
end
theorem spec_simple.mono_l : ∀ k,(∀ y0,LeO (spec_simple.f k y0) (spec_simple.f (k + 1) y0)) ∧ (∀ y0 y1 y2,LeO (spec_simple.l0 k y0 y1 y2) (spec_simple.l0 (k + 1) y0 y1 y2))
 | 0=>⟨fun _ r h=>by simp [spec_simple.f] at h,fun _ _ _ r h=>by simp [spec_simple.l0] at h⟩
 | k + 1=>by
  obtain ⟨ih0,ih1⟩:=spec_simple.mono_l k
  refine ⟨?_,?_⟩
  ·intro y0
   unfold spec_simple.f
   repeat' first
   | (with_reducible exact ih0 _)
   | (with_reducible exact ih1 _ _ _)
   | (with_reducible exact spec_deeper.mono _ _ _)
   | (with_reducible exact spec_kids.mono _ _)
   | (with_reducible exact LeO.refl _)
   | (with_reducible exact LeO.none _)
   | (with_reducible refine LeO.ite ?_ ?_)
   | (with_reducible refine LeO.bind ?_ (fun _=>?_))
   | exact ih0 _
   | exact ih1 _ _ _
   | exact spec_deeper.mono _ _ _
   | exact spec_kids.mono _ _
   | exact LeO.none _
   | refine LeO.ite ?_ ?_
   | refine LeO.bind ?_ (fun _=>?_)
  ·intro y0 y1 y2
   unfold spec_simple.l0
   repeat' first
   | (with_reducible exact ih0 _)
   | (with_reducible exact ih1 _ _ _)
   | (with_reducible exact spec_deeper.mono _ _ _)
   | (with_reducible exact spec_kids.mono _ _)
   | (with_reducible exact LeO.refl _)
   | (with_reducible exact LeO.none _)
   | (with_reducible refine LeO.ite ?_ ?_)
   | (with_reducible refine LeO.bind ?_ (fun _=>?_))
   | exact ih0 _
   | exact ih1 _ _ _
   | exact spec_deeper.mono _ _ _
   | exact spec_kids.mono _ _
   | exact LeO.none _
   | refine LeO.ite ?_ ?_
   | refine LeO.bind ?_ (fun _=>?_)
theorem spec_simple.mono : ∀ a0 k,LeO (spec_simple.f k a0) (spec_simple.f (k + 1) a0):=by
 intro a0 k
 obtain ⟨ih0,ih1⟩:=spec_simple.mono_l k
 exact ih0 a0
set_option maxHeartbeats 8000000 in
set_option maxRecDepth 100000 in
theorem spec_simple.calls (k : Nat) : ∀ (A0 : Option Addr) (c0 : Nat) (l0 : List (S35)) (r : List (S35)) (w : World) (hr0 : Kd.C k35 w A0 l0.length l0) (hc0 : l0.length ≤ c0) (h : spec_simple.f k l0 = some r),
  Calls Try.prog 34 #[.slice A0 l0.length c0] w fun e w'=>∃ v0_ : Value,e = .returned (v0_) ∧ Kd.R k35 35 w' w.heap.size (fun _=>True) v0_ r ∧ Below w.heap.size w w':=by
 induction k using Nat.strongRecOn with
 | _ k ih =>
 intro A0 c0 l0 r w hr0 hc0 h
 cases k with
 | zero=>exact absurd h (by simp [spec_simple.f])
 | succ k =>
 simp only [spec_simple.f] at h
 have hu35:=Try.underlying35
 have HR0:=a0_ hr0
 have HC0:=a0_ hc0
 clear hr0 hc0
 have HB:=a0_ (Below.refl w.heap.size w)
 have H : ((spec_kids.f k l0).bind fun t1=>(if (t1.length : Int) = 1 then (if 0 < (t1.length : Int) then ((spec_simple.f k (rd_L8 t1 0)).bind fun t5=>(some t5)) else (none)) else (if 0 < (l0.length : Int) then (spec_simple.l0 k t1 (([(⟨(rd_T35 l0 0).f0,(rd_T35 l0 0).f1,(rd_T35 l0 0).f2,(rd_T35 l0 0).f3⟩ : S35)] : List (S35))) 0) else (none)))) = some r:=h
 clear h
 replace H:=Option.bind_eq_some_iff.mp H
 obtain ⟨t1,A20,H⟩:=H
 try dsimp only at H
 have A2:=a0_ A20
 clear A20
 by_cases c3 : (t1.length : Int) = 1
 ·rw [if_pos c3] at H
  have c3b0 : ((t1.length : Int) == 1) = true:=beq_iff_eq.mpr c3
  have c3b1 : ((t1.length : Int) != 1) = false:=bne_eq_false_iff_eq.mpr c3
  clear c3
  by_cases c4 : 0 < (t1.length : Int)
  ·rw [if_pos c4] at H
   have c4b0 : decide (0 < (t1.length : Int)) = true:=decide_eq_true c4
   have c4b1 : decide (0 < t1.length) = true:=decide_eq_true (by omega)
   clear c4
   replace H:=Option.bind_eq_some_iff.mp H
   obtain ⟨t5,A50,H⟩:=H
   replace H : (some t5) = some r:=H
   have A5:=a0_ A50
   clear A50
   obtain rfl:=Option.some.inj H
   go_enter Try.func34,Try.ntmps34
   go_wp2_with (first | ((with_reducible refine gate_callee (f:=24) rfl ?_);refine goesL_ (some 7) rfl rfl Try.func24 (by kernel_rfl) rfl #[.slice A0 l0.length c0] rfl lm_ ?_;(with_reducible refine (spec_kids.calls k _ _ l0 t1 _ ?side1 ?side2 A2.out).mono ?_);(case side1=>repeat (first | exact HR0.out | (with_reducible refine Kd.C_alloc ?_ _) | (with_reducible refine Kd.C_drewN ?_ _) | (with_reducible refine Kd.C_drew ?_)));(case side2=>exact HC0.out);rintro e w6 ⟨v2,rfl,ho0,hb⟩;refine ⟨_,rfl,?_⟩;have HO3:=a0_ (Kd.S_lower ho0 (below_size hb_));replace HB:=a0_ (below_step hb_ hb);(try clear hb);(try clear ho0);obtain ⟨Ao7,co7,eo7⟩:=Kd.S_slice HO3.out;subst eo7;have p4 : 0 ≤ (0 : Int):=(by omega);have q4 : 0 < (t1.length : Int):=of_decide_eq_true (by first | (with_reducible assumption) | assumption);obtain ⟨ad4,A4_0,c4_0,e4,hx4_0,hl4_0,hi4_0⟩:=at_L8 (Kd.S_reads' HO3.out).2.2 0 p4 q4;cases e4;obtain ⟨ce4,hce4,hMe4,hcc4⟩:=Kd.S_get HO3.out [] 0 p4 (by first | exact q4 | exact of_decide_eq_true (by first | (with_reducible assumption) | assumption) | (have e_:=(Kd.S_reads' HO3.out).1;omega));obtain ⟨ve4_0,rfl,ge4_0⟩:=hMe4;have hv4_0:=hcc4 0 _ rfl;rw [Nat.add_zero,show ((Kd.slice 35 k35)).sz = 1 from rfl,Nat.mul_one] at hv4_0;replace hv4_0:=Option.some.inj (hv4_0.symm.trans hx4_0);rw [hv4_0] at ge4_0;have HL4_0:=a0_ (show Kd.R k35 35 _ _ _ _ (rd_L8 t1 0) from ge4_0);clear hv4_0 ge4_0;clear hcc4 hce4;have qi4 : (0 < t1.length) = True:=eq_true (by omega);(try rw [show ((0 : Int)).toNat = 0 from rfl] at hx4_0);(try rw [Addr.add_zero'] at hx4_0);have HR4_0:=a0_ hi4_0;have HC4_0:=a0_ hl4_0;clear hi4_0 hl4_0;replace p4:=eq_true p4;replace q4:=eq_true q4) | ((with_reducible refine gate_callee (f:=34) rfl ?_);refine goesL_ (some 14) rfl rfl Try.func34 (by kernel_rfl) rfl #[.slice A4_0 (rd_L8 t1 0).length c4_0] rfl lm_ ?_;(with_reducible refine (ih k (by omega) _ _ (rd_L8 t1 0) t5 _ ?side1 ?side2 A5.out).mono ?_);(case side1=>repeat (first | exact (by repeat (first | (with_reducible exact HR4_0.out) | (with_reducible refine Kd.C_alloc ?_ _) | (with_reducible refine Kd.C_drewN ?_ _) | (with_reducible refine Kd.C_drew ?_) | exact HR4_0.out)) | (with_reducible refine Kd.C_alloc ?_ _) | (with_reducible refine Kd.C_drewN ?_ _) | (with_reducible refine Kd.C_drew ?_)));(case side2=>exact HC4_0.out);rintro e w8 ⟨v6,rfl,ho0,hb⟩;refine ⟨_,rfl,?_⟩;have n0_:=a0_ (Kd.S_elder' (by (with_reducible repeat (first | apply Kd.S_alloc | apply Kd.S_drewN | apply Kd.S_drew));exact HO3.out) (Kd.R_base ho0) hb);have n1_:=a0_ (Kd.R_elder' (rr_ HL4_0.out) (Kd.R_base ho0) hb);have n2_:=a0_ (Kd.R_lower (Kd.R_new' ho0 (Kd.R_lt (rr_ HL4_0.out))) (below_size hb_));have n3_:=a0_ (Kd.C_below (by repeat (first | (with_reducible exact HR4_0.out) | (with_reducible refine Kd.C_alloc ?_ _) | (with_reducible refine Kd.C_drewN ?_ _) | (with_reducible refine Kd.C_drew ?_) | exact HR4_0.out)) hb);have n4_:=a0_ (below_step hb_ hb);clear HO3 HL4_0;clear HR4_0 HB;have HO3:=n0_;have HL4_0:=n1_;have HO7:=n2_;have HR4_0:=n3_;have HB:=n4_;clear n0_ n1_ n2_ n3_ n4_;(try clear hb);(try clear ho0)))
   go_ret
   exact ⟨_,by first | rfl | (simp [errW_none,errW_some] <;> rfl) | (simp [*,errW_none,errW_some] <;> rfl),by (with_reducible repeat (first | apply Kd.R_alloc | apply Kd.R_drewN | apply Kd.R_drew));exact Kd.R_mono HO7.out (fun _ hk=>trivial),hb_⟩
  ·rw [if_neg c4] at H
   exact absurd H (by simp)
 ·rw [if_neg c3] at H
  have c3b0 : ((t1.length : Int) == 1) = false:=beq_eq_false_iff_ne.mpr c3
  have c3b1 : ((t1.length : Int) != 1) = true:=bne_iff_ne.mpr c3
  by_cases c9 : 0 < (l0.length : Int)
  ·rw [if_pos c9] at H
   have c9b0 : decide (0 < (l0.length : Int)) = true:=decide_eq_true c9
   have c9b1 : decide (0 < l0.length) = true:=decide_eq_true (by omega)
   clear c9
   obtain ⟨y9,hy9⟩ : ∃ y_ : List (S35),y_ = (([(⟨(rd_T35 l0 0).f0,(rd_T35 l0 0).f1,(rd_T35 l0 0).f2,(rd_T35 l0 0).f3⟩ : S35)] : List (S35))):=⟨_,rfl⟩
   replace H : (spec_simple.l0 k t1 y9 0) = some r:=by first | (rw [hy9];with_reducible exact H) | (have H2_:=(Option.bind_some _ _).symm.trans H;rw [hy9];with_reducible exact H2_) | (have H2_:=(Option.bind_some _ _).symm.trans H;with_reducible exact H2_) | with_reducible exact H | (rw [hy9];exact H) | exact H
   have Ny9:=a0_ hy9
   clear hy9
   have H':=a0_ H
   clear H
   go_enter Try.func34,Try.ntmps34
   go_wp2_with (first | ((with_reducible refine gate_callee (f:=24) rfl ?_);refine goesL_ (some 7) rfl rfl Try.func24 (by kernel_rfl) rfl #[.slice A0 l0.length c0] rfl lm_ ?_;(with_reducible refine (spec_kids.calls k _ _ l0 t1 _ ?side1 ?side2 A2.out).mono ?_);(case side1=>repeat (first | exact HR0.out | (with_reducible refine Kd.C_alloc ?_ _) | (with_reducible refine Kd.C_drewN ?_ _) | (with_reducible refine Kd.C_drew ?_)));(case side2=>exact HC0.out);rintro e w10 ⟨v2,rfl,ho0,hb⟩;refine ⟨_,rfl,?_⟩;have HO3:=a0_ (Kd.S_lower ho0 (below_size hb_));replace HB:=a0_ (below_step hb_ hb);(try clear hb);(try clear ho0);obtain ⟨Ao11,co11,eo11⟩:=Kd.S_slice HO3.out;subst eo11;have p8 : 0 ≤ (0 : Int):=(by omega);have q8 : 0 < (l0.length : Int):=of_decide_eq_true (by first | (with_reducible assumption) | assumption);obtain ⟨ad8,e8,hx8_0,hx8_1,hx8_2,hx8_3⟩:=at_T35 HR0.out 0 p8 q8;cases e8;have qi8 : (0 < l0.length) = True:=eq_true (by omega);(try rw [show ((0 : Int)).toNat = 0 from rfl] at hx8_0);(try rw [show 0 * 4 = 0 from rfl] at hx8_0);(try rw [Addr.add_zero'] at hx8_0);(try rw [show ((0 : Int)).toNat = 0 from rfl] at hx8_1);(try rw [show 0 * 4 = 0 from rfl] at hx8_1);(try rw [Addr.add_zero'] at hx8_1);(try rw [show ((0 : Int)).toNat = 0 from rfl] at hx8_2);(try rw [show 0 * 4 = 0 from rfl] at hx8_2);(try rw [Addr.add_zero'] at hx8_2);(try rw [show ((0 : Int)).toNat = 0 from rfl] at hx8_3);(try rw [show 0 * 4 = 0 from rfl] at hx8_3);(try rw [Addr.add_zero'] at hx8_3);replace hx8_0:=(HB.out.cell (World.block_lt_of_cell? w _ hx8_0)).trans hx8_0;replace hx8_1:=(HB.out.cell (World.block_lt_of_cell? w _ hx8_1)).trans hx8_1;replace hx8_2:=(HB.out.cell (World.block_lt_of_cell? w _ hx8_2)).trans hx8_2;replace hx8_3:=(HB.out.cell (World.block_lt_of_cell? w _ hx8_3)).trans hx8_3;replace p8:=eq_true p8;replace q8:=eq_true q8) | ((with_reducible refine gate_dst (N:=18) rfl ?_);refine Kd.R_lit k35 _ 35 ?hg (N:=18) ?hd (xs:=([(⟨(rd_T35 l0 0).f0,(rd_T35 l0 0).f1,(rd_T35 l0 0).f2,(rd_T35 l0 0).f3⟩ : S35)] : List (S35))) (inner:=[.int .i64 ((rd_T35 l0 0).f0),.bool ((rd_T35 l0 0).f1),.int .i64 ((rd_T35 l0 0).f2),.int .i64 ((rd_T35 l0 0).f3)]) (ok:=fun _=>True) (okp:=fun _=>True) ?hr ?hp (fun _ hk=>hk) trivial (Below.refl _ _) (Nat.le_refl _) (by simp) ?_;(case hd=>rfl);(case hg=>rfl);(case hr=>first | (go_simp;done) | (go_simp;rfl));(case hp=>exact (Reps.c4 (show Kd.M k35 _ _ _ (⟨(rd_T35 l0 0).f0,(rd_T35 l0 0).f1,(rd_T35 l0 0).f2,(rd_T35 l0 0).f3⟩ : S35) [.int .i64 ((rd_T35 l0 0).f0),.bool ((rd_T35 l0 0).f1),.int .i64 ((rd_T35 l0 0).f2),.int .i64 ((rd_T35 l0 0).f3)] from (k35_mkM _ _ _ (⟨(rd_T35 l0 0).f0,(rd_T35 l0 0).f1,(rd_T35 l0 0).f2,(rd_T35 l0 0).f3⟩ : S35) )) (Reps.none _ _)));intro v10 w12 ho13 hb hg_ hnew_;clear hg_ hnew_;(first | rw [← Ny9.out] at ho13 | (simp only [Int.reduceToNat] at ho13;rw [← Ny9.out] at ho13));replace HO3:=a0_ (Kd.S_elder' (by (with_reducible repeat (first | apply Kd.S_alloc | apply Kd.S_drewN | apply Kd.S_drew));exact HO3.out) (Kd.R_base ho13) hb);have HO11:=a0_ (Kd.R_lower ho13 (below_size hb_));replace HB:=a0_ (below_step hb_ hb);clear hb ho13))
   go_loopg [4,5] k (fun kq v4 v5 w'=>∃ (x4_1 : List (S35)) (x5_1 : Int),v5 = .int .i64 x5_1 ∧ Aside0 (spec_simple.l0 kq t1 x4_1 x5_1 = some r) ∧ Aside0 (kq ≤ k) ∧ Aside0 (Kd.S (Kd.slice 35 k35) 26 w' w.heap.size (fun k_=>some k_ ≠ (v4 : Value).ownBlock) (.slice Ao11 t1.length co11) t1) ∧ Aside0 (Kd.R k35 35 w' w.heap.size (fun _=>True) v4 x4_1) ∧ Aside0 (Below w.heap.size w w'))
   case atStart=>exact ⟨(y9),(0),(by first | rfl | (simp;done) | (simp [*];done)),H',⟨Nat.le_refl _⟩,⟨by (with_reducible repeat (first | apply Kd.S_alloc | apply Kd.S_drewN | apply Kd.S_drew));exact Kd.S_mono HO3.out (fun _ hk=>hk.2)⟩,⟨by (with_reducible repeat (first | apply Kd.R_alloc | apply Kd.R_drewN | apply Kd.R_drew));exact HO11.out⟩,⟨hb_⟩⟩
   case round =>
    clear H'
    try clear c2
    try clear p2
    try clear c3
    try clear c3b0
    try clear c3b1
    try clear c4
    try clear c4b0
    try clear c4b1
    try clear p4
    try clear q4
    try clear hx4
    try clear qi4
    try clear p8
    try clear q8
    try clear hx8
    try clear qi8
    try clear c9
    try clear c9b0
    try clear c9b1
    try clear hx4_0
    try clear hx8_0
    try clear hx8_1
    try clear hx8_2
    try clear hx8_3
    try clear p4
    try clear p8
    try clear q4
    try clear q8
    obtain ⟨x4_1,x5_1,rfl,HA,HK1,HO_3,HO_4,HB⟩:=hrel
    cases gk with
    | zero=>exact absurd HA.out (by simp [spec_simple.l0])
    | succ k1 =>
     have H:=HA.out
     clear HA
     simp only [spec_simple.l0] at H
     by_cases c14 : x5_1 < (t1.length : Int)
     ·rw [if_pos c14] at H
      have c14b0 : decide (x5_1 < (t1.length : Int)) = true:=decide_eq_true c14
      clear c14
      by_cases c15 : 0 ≤ x5_1
      ·rw [if_pos c15] at H
       have c15b0 : decide (0 ≤ x5_1) = true:=decide_eq_true c15
       clear c15
       replace H:=Option.bind_eq_some_iff.mp H
       obtain ⟨t13,A160,H⟩:=H
       try dsimp only at H
       have A16:=a0_ A160
       clear A160
       replace H:=Option.bind_eq_some_iff.mp H
       obtain ⟨t16,A170,H⟩:=H
       try dsimp only at H
       have A17:=a0_ A170
       clear A170
       by_cases c18 : x4_1.length + t16.length < 4398046511104
       ·rw [if_pos c18] at H
        have LMc18:=a0_ c18
        clear c18
        obtain ⟨y19,hy19⟩ : ∃ y_ : List (S35),y_ = (x4_1 ++ t16):=⟨_,rfl⟩
        replace H : (spec_simple.l0 k1 t1 y19 (wrap64 (x5_1 + 1))) = some r:=by first | (rw [hy19];with_reducible exact H) | (have H2_:=(Option.bind_some _ _).symm.trans H;rw [hy19];with_reducible exact H2_) | (have H2_:=(Option.bind_some _ _).symm.trans H;with_reducible exact H2_) | with_reducible exact H | (rw [hy19];exact H) | exact H
        have Ny19:=a0_ hy19
        clear hy19
        have H':=a0_ H
        clear H
        have p12 : 0 ≤ (x5_1 : Int):=of_decide_eq_true (by first | (with_reducible assumption) | assumption)
        have q12 : x5_1 < (t1.length : Int):=of_decide_eq_true (by first | (with_reducible assumption) | assumption)
        obtain ⟨ad12,A12_0,c12_0,e12,hx12_0,hl12_0,hi12_0⟩:=at_L8 (Kd.S_reads' HO_3.out).2.2 x5_1 p12 q12
        cases e12
        obtain ⟨ce12,hce12,hMe12,hcc12⟩:=Kd.S_get HO_3.out [] x5_1 p12 (by first | exact q12 | exact of_decide_eq_true (by first | (with_reducible assumption) | assumption) | (have e_:=(Kd.S_reads' HO_3.out).1;omega))
        obtain ⟨ve12_0,rfl,ge12_0⟩:=hMe12
        have hv12_0:=hcc12 0 _ rfl
        rw [Nat.add_zero,show ((Kd.slice 35 k35)).sz = 1 from rfl,Nat.mul_one] at hv12_0
        replace hv12_0:=Option.some.inj (hv12_0.symm.trans hx12_0)
        rw [hv12_0] at ge12_0
        have HL12_0:=a0_ (show Kd.R k35 35 _ _ _ _ (rd_L8 t1 x5_1) from ge12_0)
        clear hv12_0 ge12_0
        clear hcc12 hce12
        have HR12_0:=a0_ hi12_0
        have HC12_0:=a0_ hl12_0
        clear hi12_0 hl12_0
        replace p12:=eq_true p12
        replace q12:=eq_true q12
        go_wp2_with (first | ((with_reducible refine gate_callee (f:=34) rfl ?_);refine goesL_ (some 30) rfl rfl Try.func34 (by kernel_rfl) rfl #[.slice A12_0 (rd_L8 t1 x5_1).length c12_0] rfl lm_ ?_;(with_reducible refine (ih k1 (by have:=HK1.out;omega) _ _ (rd_L8 t1 x5_1) t13 _ ?side1 ?side2 A16.out).mono ?_);(case side1=>repeat (first | exact (by repeat (first | (with_reducible exact HR12_0.out) | (with_reducible refine Kd.C_alloc ?_ _) | (with_reducible refine Kd.C_drewN ?_ _) | (with_reducible refine Kd.C_drew ?_) | exact HR12_0.out)) | (with_reducible refine Kd.C_alloc ?_ _) | (with_reducible refine Kd.C_drewN ?_ _) | (with_reducible refine Kd.C_drew ?_)));(case side2=>exact HC12_0.out);rintro e w19 ⟨v14,rfl,ho0,hb⟩;refine ⟨_,rfl,?_⟩;have n0_:=a0_ (Kd.S_elder' (by (with_reducible repeat (first | apply Kd.S_alloc | apply Kd.S_drewN | apply Kd.S_drew));exact HO_3.out) (Kd.R_base ho0) hb);have n1_:=a0_ (Kd.R_elder' (rr_ HO_4.out) (Kd.R_base ho0) hb);have n2_:=a0_ (Kd.R_elder' (rr_ HL12_0.out) (Kd.R_base ho0) hb);have n3_:=a0_ (Kd.R_lower (Kd.R_new' (Kd.R_new' ho0 (Kd.R_lt (rr_ HO_4.out))) (Kd.R_lt (rr_ HL12_0.out))) (below_size hb_));have n4_:=a0_ (Kd.C_below (by repeat (first | (with_reducible exact HR12_0.out) | (with_reducible refine Kd.C_alloc ?_ _) | (with_reducible refine Kd.C_drewN ?_ _) | (with_reducible refine Kd.C_drew ?_) | exact HR12_0.out)) hb);have n5_:=a0_ (below_step hb_ hb);clear HO_3 HO_4;clear HL12_0 HR12_0 HB;have HO_3:=n0_;have HO_4:=n1_;have HL12_0:=n2_;have HO15:=n3_;have HR12_0:=n4_;have HB:=n5_;clear n0_ n1_ n2_ n3_ n4_ n5_;(try clear hb);(try clear ho0);obtain ⟨Ao20,co20,eo20⟩:=Kd.R_slice HO15.out;subst eo20) | ((with_reducible refine gate_callee (f:=29) rfl ?_);refine goesL_ (some 31) rfl rfl Try.func29 (by kernel_rfl) rfl #[.slice Ao20 t13.length co20,.int .i64 1] rfl lm_ ?_;(with_reducible refine (spec_deeper.calls k1 _ _ t13 1 t16 _ ?side1 ?side2 A17.out).mono ?_);(case side1=>exact cc_ (Kd.R_reads' HO15.out).2.2);(case side2=>exact (Kd.R_reads' HO15.out).2.1);rintro e w21 ⟨v17,rfl,ho0,hb⟩;refine ⟨_,rfl,?_⟩;have n0_:=a0_ (Kd.S_elder' (by (with_reducible repeat (first | apply Kd.S_alloc | apply Kd.S_drewN | apply Kd.S_drew));exact HO_3.out) (Kd.R_base ho0) hb);have n1_:=a0_ (Kd.R_elder' (rr_ HO_4.out) (Kd.R_base ho0) hb);have n2_:=a0_ (Kd.R_elder' (rr_ HL12_0.out) (Kd.R_base ho0) hb);have n3_:=a0_ (Kd.R_elder' (rr_ HO15.out) (Kd.R_base ho0) hb);have n4_:=a0_ (Kd.R_lower (Kd.R_new' (Kd.R_new' (Kd.R_new' ho0 (Kd.R_lt (rr_ HO_4.out))) (Kd.R_lt (rr_ HL12_0.out))) (Kd.R_lt (rr_ HO15.out))) (below_size hb_));have n5_:=a0_ (Kd.C_below (by repeat (first | (with_reducible exact HR12_0.out) | (with_reducible refine Kd.C_alloc ?_ _) | (with_reducible refine Kd.C_drewN ?_ _) | (with_reducible refine Kd.C_drew ?_) | exact HR12_0.out)) hb);have n6_:=a0_ (below_step hb_ hb);clear HO_3 HO_4;clear HL12_0 HO15;clear HR12_0 HB;have HO_3:=n0_;have HO_4:=n1_;have HL12_0:=n2_;have HO15:=n3_;have HO18:=n4_;have HR12_0:=n5_;have HB:=n6_;clear n0_ n1_ n2_ n3_ n4_ n5_ n6_;(try clear hb);(try clear ho0);obtain ⟨Ao23,co23,eo23⟩:=Kd.R_slice HO18.out;subst eo23) | ((with_reducible refine gate_builtin (b:=.append) (xs:=#[.tmp 25,.tmp 31]) rfl ?_);at_builtin;refine Kd.R_append_rows k35 (w0:=w) w.heap.size rfl (.tmp 25) (.tmp 31) 26 35 (.agg #[(.int .i64 0),(.bool false),(.int .i64 0),(.int .i64 0)]) 32 rfl Try.underlying26 info35 rfl (by decide) (by omega) u4 x4_1 t16 _ _ _ (fun k_=>some k_ ≠ (.slice Ao20 t13.length co20 : Value).ownBlock ∧ some k_ ≠ (.slice Ao23 t16.length co23 : Value).ownBlock) (fun _=>False) rfl rfl ?aO ?aR (fun _ _ h=>h) (fun _ h=>h.elim) ?aF ?aB ?aS ?aL ?_;(case aR=>exact cc_ (Kd.R_reads' HO18.out).2.2);(case aB=>exact hb_);(case aF=>exact (fun k_ hk=>⟨Kd.fresh' (Kd.R_lt (rr_ HO15.out)) k_ hk,Kd.fresh' (Kd.R_lt (rr_ HO18.out)) k_ hk⟩));(case aO=>exact (rm_ HO_4.out (fun _ hk=>⟨hk.1.2,hk.2⟩)));(case aS=>exact (below_size hb_));(case aL=>have:=LMc18.out;omega);intro v20 w22 ho hb hg hat;rw [← Ny19.out] at ho;replace HO_3:=a0_ (Kd.S_after (ok:=(fun k_=>some k_ ≠ (.slice Ao20 t13.length co20 : Value).ownBlock ∧ some k_ ≠ (.slice Ao23 t16.length co23 : Value).ownBlock)) (by (with_reducible repeat (first | apply Kd.S_alloc | apply Kd.S_drewN | apply Kd.S_drew));exact Kd.S_mono HO_3.out (fun _ hk=>⟨⟨hk.1.2,hk.2⟩,hk.1.1⟩)) hg hat);replace HL12_0:=a0_ (Kd.R_after (ok:=(fun k_=>some k_ ≠ (.slice (some ad12) t1.length co11 : Value).ownBlock ∧ some k_ ≠ (.slice Ao20 t13.length co20 : Value).ownBlock ∧ some k_ ≠ (.slice Ao23 t16.length co23 : Value).ownBlock)) (rm_ HL12_0.out (fun _ hk=>⟨⟨hk.1.1.2,⟨hk.1.2,hk.2⟩⟩,hk.1.1.1⟩)) hg hat);replace HO15:=a0_ (Kd.R_after (ok:=(fun k_=>some k_ ≠ (.slice A12_0 (rd_L8 t1 x5_1).length c12_0 : Value).ownBlock ∧ some k_ ≠ (.slice Ao23 t16.length co23 : Value).ownBlock)) (rm_ HO15.out (fun _ hk=>⟨⟨hk.1.2,hk.2⟩,hk.1.1.2⟩)) hg hat);replace HO18:=a0_ (Kd.R_after (ok:=(fun k_=>some k_ ≠ (.slice A12_0 (rd_L8 t1 x5_1).length c12_0 : Value).ownBlock ∧ some k_ ≠ (.slice Ao20 t13.length co20 : Value).ownBlock)) (rm_ HO18.out (fun _ hk=>⟨⟨hk.1.2,hk.2⟩,hk.1.1.2⟩)) hg hat);have HO21:=a0_ (ho);replace HB:=a0_ (hb);clear HO_4;clear ho hb hg hat))
        go_roundg k1
        case measure=>have:=HK1.out;omega
        case rel=>exact ⟨(y19),(wrap64 (x5_1 + 1)),(by first | rfl | (simp;done) | (simp [*];done)),H',⟨by have:=HK1.out;omega⟩,⟨by (with_reducible repeat (first | apply Kd.S_alloc | apply Kd.S_drewN | apply Kd.S_drew));exact Kd.S_mono HO_3.out (fun _ hk=>hk.2)⟩,⟨by (with_reducible repeat (first | apply Kd.R_alloc | apply Kd.R_drewN | apply Kd.R_drew));exact Kd.R_mono HO21.out (fun _ hk=>trivial)⟩,⟨hb_⟩⟩
       ·rw [if_neg c18] at H
        exact absurd H (by simp)
      ·rw [if_neg c15] at H
       exact absurd H (by simp)
     ·rw [if_neg c14] at H
      have c14b0 : decide (x5_1 < (t1.length : Int)) = false:=decide_eq_false c14
      clear c14
      obtain rfl:=Option.some.inj H
      go_wp2
      go_ret
      exact ⟨_,by first | rfl | (simp [errW_none,errW_some] <;> rfl) | (simp [*,errW_none,errW_some] <;> rfl),by (with_reducible repeat (first | apply Kd.R_alloc | apply Kd.R_drewN | apply Kd.R_drew));exact HO_4.out,hb_⟩
  ·rw [if_neg c9] at H
   exact absurd H (by simp)
theorem spec_simple_ev : ∀ (n : Nat) (g : List Prt),g.length ≤ n → okG g → Ev (fun k=>spec_simple.f k g) (simR n g):=by
 intro n
 induction n with
 | zero=>intro g hl hG;exact absurd (okG_pos hG) (by omega)
 | succ n ih =>
  intro g hl hG
  have hpos:=okG_pos hG
  have h16:=hG.2.2
  have hK:=spec_kids_ev g (by omega) hG.1 (fun p hp=>by have:=hG.2.1 p hp;have:=okG_low hG p hp;omega)
  have hkG:=okG_kid hG
  have hlen:=kidL_len hG.1
  have hI:=fun (x : List Prt) (hx : x ∈ kidL g)=>ih x (by have:=(hkG x hx).2;omega) (hkG x hx).1
  have hA:=fun (x : List Prt) (hx : x ∈ kidL g)=>simR_all n x (by have:=(hkG x hx).2;omega) (hkG x hx).1
  refine Ev.succ ?_
  simp only [spec_simple.f]
  refine Ev.bind hK ?_
  by_cases h1 : (kidL g).length = 1
  ·have hf : (g.getD 0 z35).f1 = true:=by
    cases hf : (g.getD 0 z35).f1 with
    | true=>rfl
    | false =>
     rw [(kid_leaf hG.1 hf).1] at h1
     simp at h1
   have hgm : (kidL g).getD ((0 : Int)).toNat [] = (kidL g)[0]:=by simp [List.getD,show 0 < (kidL g).length by omega]
   have e : simR (n + 1) g = simR n (kidL g)[0]:=by
    rw [simR_one hf h1,List.getD_eq_getElem?_getD,List.getElem?_map,List.getElem?_eq_getElem (by omega)]
    rfl
   rw [e]
   have h2:=hI (kidL g)[0] (List.getElem_mem _)
   rw [← hgm] at h2 ⊢
   exact Ev.pos (by omega) (Ev.pos (by omega) (Ev.bind h2 (Ev.const rfl)))
  ·refine Ev.neg (by omega) (Ev.pos (by omega) ?_)
   have key : ∀ (d j : Nat) (out : List Prt),j + d = (kidL g).length → out.length ≤ 1 + 16 * j → Ev (fun k=>spec_simple.l0 k (kidL g) out (j : Int)) (out ++ (((kidL g).drop j).map (fun x=>dpr 1 (simR n x))).flatten):=by
    intro d
    induction d with
    | zero =>
     intro j out hj ho
     refine Ev.succ ?_
     simp only [spec_simple.l0]
     rw [List.drop_eq_nil_of_le (by omega)]
     exact Ev.neg (by omega) (Ev.const (by simp))
    | succ d ihd =>
     intro j out hj ho
     refine Ev.succ ?_
     have hlt : j < (kidL g).length:=by omega
     have hm : (kidL g).getD ((j : Int)).toNat [] = (kidL g)[j]:=by simp [List.getD,hlt]
     have h2:=hI (kidL g)[j] (List.getElem_mem _)
     have h3:=hA (kidL g)[j] (List.getElem_mem _)
     have hD:=spec_deeper_ev (simR n (kidL g)[j]) 1 (by have:=h3.1.2.2;omega) (by omega) (fun p hp=>by
      have h5:=h3.1.2.1 p hp
      have h6:=okG_low h3.1 p hp
      omega)
     have h7 : (dpr 1 (simR n (kidL g)[j])).length ≤ 16:=by rw [dpr_len];exact h3.1.2.2
     have hi:=ihd (j + 1) (out ++ dpr 1 (simR n (kidL g)[j])) (by omega) (by rw [List.length_append];omega)
     rw [List.drop_eq_getElem_cons hlt,List.map_cons,List.flatten_cons,← List.append_assoc]
     rw [← hm] at h2 hD h7 hi ⊢
     simp only [spec_simple.l0]
     rw [wrap_succ (i:=(j : Int)) (n:=(kidL g).length) (by omega) (by omega) (by omega)]
     exact Ev.pos (by omega) (Ev.pos (by omega) (Ev.bind h2 (Ev.bind hD (Ev.pos (by omega) hi))))
   have hk:=key (kidL g).length 0 [(⟨(rd_T35 g 0).f0,(rd_T35 g 0).f1,(rd_T35 g 0).f2,(rd_T35 g 0).f3⟩ : S35)] (by omega) (by simp)
   have e : [(⟨(rd_T35 g 0).f0,(rd_T35 g 0).f1,(rd_T35 g 0).f2,(rd_T35 g 0).f3⟩ : S35)] ++ (((kidL g).drop 0).map (fun x=>dpr 1 (simR n x))).flatten = simR (n + 1) g:=by
    cases hf : (g.getD 0 z35).f1 with
    | false =>
     rw [simR_leaf _ hf,(kid_leaf hG.1 hf).1]
     obtain ⟨p,r,rfl,_,⟨_,rfl⟩ | ⟨h2,_⟩⟩:=hG.1
     ·rfl
     ·have : p.f1 = false:=hf
      rw [h2] at this
      cases this
    | true =>
     rw [simR_wra hf h1]
     unfold wraL
     rw [List.drop_zero,List.map_map]
     obtain ⟨p,r,rfl,h0,_⟩:=hG.1
     have hp1 : p.f1 = true:=hf
     have hp2:=(hG.2.1 p (by simp)).2 hp1
     show (⟨p.f0,p.f1,p.f2,p.f3⟩ : Prt) :: _ = (⟨0,true,0,p.f3⟩ : Prt) :: _
     rw [h0,hp1,hp2]
     rfl
   rw [e] at hk
   exact hk
end Go.Proofs.Ytjdpaholpfpiiaa.P
namespace Go.Proofs.Ytjdpaholpfpiiaa.P
open Go.RowKit Go.Proofs.YtjdpaholpfpiiaaW.PrintWords Go.Proofs.YtjdpaholpfpiiaaW.PrintLast Go.Proofs.YtjdpaholpfpiiaaW.PrintMore
attribute [local go_sem] max2_int min2_int max_two min_two max_three min_three max_four min_four
set_option linter.unusedVariables false
set_option linter.unusedSimpArgs false
def spec_SimplifyGroup.f (k : Nat) (l0_0 : List (S70)) (l1 : List (S35)) : Option ((List (S35))):=(spec_validGroup.f l0_0 l1).bind fun t2=>(if t2 = true then ((spec_simple.f k l1).bind fun t3=>(some t3)) else (some ([] : List (S35))))
theorem spec_SimplifyGroup.mono : ∀ a0 a1 k,LeO (spec_SimplifyGroup.f k a0 a1) (spec_SimplifyGroup.f (k + 1) a0 a1):=by
 intro a0 a1 k
 unfold spec_SimplifyGroup.f
 repeat' first
   | (with_reducible exact spec_simple.mono _ _)
   | (with_reducible exact LeO.refl _)
   | (with_reducible exact LeO.none _)
   | (with_reducible refine LeO.ite ?_ ?_)
   | (with_reducible refine LeO.bind ?_ (fun _=>?_))
   | exact spec_simple.mono _ _
   | exact LeO.none _
   | refine LeO.ite ?_ ?_
   | refine LeO.bind ?_ (fun _=>?_)
set_option maxHeartbeats 8000000 in
set_option maxRecDepth 100000 in
theorem spec_SimplifyGroup.calls (k : Nat) (A0_0 : Option Addr) (c0_0 : Nat) (l0_0 : List (S70)) (A1 : Option Addr) (c1 : Nat) (l1 : List (S35)) (r : List (S35)) (w : World) (hr0_0 : Kd.C k70 w A0_0 l0_0.length l0_0) (hc0_0 : l0_0.length ≤ c0_0) (hr1 : Kd.C k35 w A1 l1.length l1) (hc1 : l1.length ≤ c1) (h : spec_SimplifyGroup.f k l0_0 l1 = some r) :
  Calls Try.prog 16 #[.agg #[.slice A0_0 l0_0.length c0_0],.slice A1 l1.length c1] w fun e w'=>∃ v0_ : Value,e = .returned (v0_) ∧ Kd.R k35 35 w' w.heap.size (fun _=>True) v0_ r ∧ Below w.heap.size w w':=by
 have hu25:=Try.underlying25
 have HR0_0:=a0_ hr0_0
 have HC0_0:=a0_ hc0_0
 clear hr0_0 hc0_0
 have HR1:=a0_ hr1
 have HC1:=a0_ hc1
 clear hr1 hc1
 have HB:=a0_ (Below.refl w.heap.size w)
 have H : ((spec_validGroup.f l0_0 l1).bind fun t2=>(if t2 = true then ((spec_simple.f k l1).bind fun t3=>(some t3)) else (some ([] : List (S35))))) = some r:=h
 clear h
 replace H:=Option.bind_eq_some_iff.mp H
 obtain ⟨t2,A30,H⟩:=H
 try dsimp only at H
 have A3:=a0_ A30
 clear A30
 by_cases c4 : t2 = true
 ·subst c4
  have H1 : ((spec_simple.f k l1).bind fun t3=>(some t3)) = some r:=by rw [if_pos rfl] at H;exact H
  clear H
  have H:=H1
  clear H1
  replace H:=Option.bind_eq_some_iff.mp H
  obtain ⟨t3,A50,H⟩:=H
  replace H : (some t3) = some r:=H
  have A5:=a0_ A50
  clear A50
  obtain rfl:=Option.some.inj H
  go_enter Try.func16,Try.ntmps16
  go_wp2_with (first | ((with_reducible refine gate_dst (N:=2) rfl ?_);refine box_event ?hg (N:=2) ?hd (cs:=#[.slice A0_0 l0_0.length c0_0]) (t:=25) ?hr ?_;(case hd=>rfl);(case hg=>rfl);(case hr=>first | (go_simp;done) | (go_simp;rfl));intro gb1 hg w6 hbox hb;have BK1:=a0_ (hbox);have GW1:=a0_ ((by rw [hg];exact (below_size hb_) : w.heap.size ≤ gb1));have GE1:=a0_ ((by rw [hg];exact (below_size hb_) : w.heap.size ≤ gb1));replace HB:=a0_ (below_step hb_ hb);clear hb hbox hg;have hcz7_0 : w6.cell? ⟨gb1,0,none⟩ = some (.slice A0_0 l0_0.length c0_0):=(blk_cell BK1.out 0).trans rfl;have hfz7_0:=blk_frozen BK1.out 0) | ((with_reducible refine gate_callee (f:=23) rfl ?_);refine goesL_ (some 7) rfl rfl Try.func23 (by kernel_rfl) rfl #[.agg #[.slice A0_0 l0_0.length c0_0],.slice A1 l1.length c1] rfl lm_ ?_;(with_reducible refine (spec_validGroup.calls _ _ l0_0 _ _ l1 true _ ?side1 ?side2 ?side3 ?side4 A3.out).mono ?_);(case side1=>exact cc_ (Kd.C_below HR0_0.out HB.out));(case side2=>exact HC0_0.out);(case side3=>exact cc_ (Kd.C_below HR1.out HB.out));(case side4=>exact HC1.out);rintro e w8 ⟨rfl,hb⟩;refine ⟨_,rfl,?_⟩;replace BK1:=kb_ BK1 hb;replace HB:=a0_ (below_step hb_ hb);(try clear hb);(try clear hb2);(try clear hk);(try clear hi)) | ((with_reducible refine gate_callee (f:=34) rfl ?_);refine goesL_ (some 10) rfl rfl Try.func34 (by kernel_rfl) rfl #[.slice A1 l1.length c1] rfl lm_ ?_;(with_reducible refine (spec_simple.calls k _ _ l1 t3 _ ?side1 ?side2 A5.out).mono ?_);(case side1=>exact cc_ (Kd.C_below HR1.out HB.out));(case side2=>exact HC1.out);rintro e w9 ⟨v4,rfl,ho0,hb⟩;refine ⟨_,rfl,?_⟩;have HO5:=a0_ (Kd.R_lower ho0 (below_size hb_));replace BK1:=kb_ BK1 hb;replace HB:=a0_ (below_step hb_ hb);(try clear hb);(try clear ho0)))
  go_ret
  exact ⟨_,by first | rfl | (simp [errW_none,errW_some] <;> rfl) | (simp [*,errW_none,errW_some] <;> rfl),by (with_reducible repeat (first | apply Kd.R_alloc | apply Kd.R_drewN | apply Kd.R_drew));exact HO5.out,hb_⟩
 ·replace c4:=Bool.eq_false_iff.mpr c4
  subst c4
  have H1 : (some ([] : List (S35))) = some r:=by rw [if_neg (show ¬ (false = true) by decide)] at H;exact H
  clear H
  have H:=H1
  clear H1
  obtain rfl:=Option.some.inj H
  go_enter Try.func16,Try.ntmps16
  go_wp2_with (first | ((with_reducible refine gate_dst (N:=2) rfl ?_);refine box_event ?hg (N:=2) ?hd (cs:=#[.slice A0_0 l0_0.length c0_0]) (t:=25) ?hr ?_;(case hd=>rfl);(case hg=>rfl);(case hr=>first | (go_simp;done) | (go_simp;rfl));intro gb1 hg w10 hbox hb;have BK1:=a0_ (hbox);have GW1:=a0_ ((by rw [hg];exact (below_size hb_) : w.heap.size ≤ gb1));have GE1:=a0_ ((by rw [hg];exact (below_size hb_) : w.heap.size ≤ gb1));replace HB:=a0_ (below_step hb_ hb);clear hb hbox hg;have hcz11_0 : w10.cell? ⟨gb1,0,none⟩ = some (.slice A0_0 l0_0.length c0_0):=(blk_cell BK1.out 0).trans rfl;have hfz11_0:=blk_frozen BK1.out 0) | ((with_reducible refine gate_callee (f:=23) rfl ?_);refine goesL_ (some 7) rfl rfl Try.func23 (by kernel_rfl) rfl #[.agg #[.slice A0_0 l0_0.length c0_0],.slice A1 l1.length c1] rfl lm_ ?_;(with_reducible refine (spec_validGroup.calls _ _ l0_0 _ _ l1 false _ ?side1 ?side2 ?side3 ?side4 A3.out).mono ?_);(case side1=>exact cc_ (Kd.C_below HR0_0.out HB.out));(case side2=>exact HC0_0.out);(case side3=>exact cc_ (Kd.C_below HR1.out HB.out));(case side4=>exact HC1.out);rintro e w12 ⟨rfl,hb⟩;refine ⟨_,rfl,?_⟩;replace BK1:=kb_ BK1 hb;replace HB:=a0_ (below_step hb_ hb);(try clear hb);(try clear hb2);(try clear hk);(try clear hi)))
  go_ret
  exact ⟨_,by first | rfl | (simp [errW_none,errW_some] <;> rfl) | (simp [*,errW_none,errW_some] <;> rfl),by first | exact Kd.R_nil _ _ _ _ _ | exact Kd.N_nil _ _ _ _ _ | exact Kd.V_nil _ _ _ _ _ | exact Kd.Q_nil _ _ _ _ _ | exact Kd.S_nil _ _ _ _ _,hb_⟩
theorem spec_SimplifyGroup_ev (t : List Cls) (g : List Prt) (hs : smT t = true) : Ev (fun k=>spec_SimplifyGroup.f k t g) (simP t g):=by
 refine Ev.bind (Ev.const (show spec_validGroup.f t g = some (vG t g) by rw [spec_validGroup.f,if_pos hs])) ?_
 unfold simP
 cases hv : vG t g with
 | false=>exact Ev.neg (by simp) (Ev.const (by simp))
 | true=>exact Ev.pos rfl (Ev.bind (spec_simple_ev 16 g (vG_tree hv).2.2 (okG_vG hv)) (Ev.const (by simp)))
end Go.Proofs.Ytjdpaholpfpiiaa.P
namespace Go.Proofs.Ytjdpaholpfpiiaa.P
open Go.RowKit Go.Proofs.YtjdpaholpfpiiaaW.PrintWords Go.Proofs.YtjdpaholpfpiiaaW.PrintLast Go.Proofs.YtjdpaholpfpiiaaW.PrintMore
attribute [local go_sem] max2_int min2_int max_two min_two max_three min_three max_four min_four
set_option linter.unusedVariables false
set_option linter.unusedSimpArgs false
theorem eqA60 (d : Nat) (w : World) (x0 y0 : Int) (x1 y1 : Int) :
  (Op.equalIn (d + 2) 60 (.agg #[.int .i64 x0,.int .i64 x1]) (.agg #[.int .i64 y0,.int .i64 y1])).run Try.prog w = .ok (x0 == y0 && (x1 == y1)) w:=by
 refine eqA_of Try.underlying60 (by kernel_rfl) ?_
 refine eqf_cons (by rfl) (by go_simp;rfl) (by go_simp;rfl) (by go_simp) ?_
 exact eqf_last (by rfl) (by go_simp;rfl) (by go_simp;rfl) (by go_simp)
end Go.Proofs.Ytjdpaholpfpiiaa.P
namespace Go.Proofs.Ytjdpaholpfpiiaa.P
open Go.RowKit Go.Proofs.YtjdpaholpfpiiaaW.PrintWords Go.Proofs.YtjdpaholpfpiiaaW.PrintLast Go.Proofs.YtjdpaholpfpiiaaW.PrintMore
attribute [local go_sem] max2_int min2_int max_two min_two max_three min_three max_four min_four
set_option linter.unusedVariables false
set_option linter.unusedSimpArgs false
attribute [local go_sem high] eqA60
def laws_equalLeaves.l0 : Nat → List (S60) → List (S60) → Int → Option (Bool)
 | 0,_,_,_=>none
 | k + 1,x0,x1,x5=>if x5 < (x0.length : Int) then (if 0 ≤ x5 then (if x5 < (x1.length : Int) then (if (!(((rd_T60 x0 x5).f0) == ((rd_T60 x1 x5).f0)) || (!(((rd_T60 x0 x5).f1) == ((rd_T60 x1 x5).f1)))) = true then (some false) else (laws_equalLeaves.l0 k x0 x1 (wrap64 (x5 + 1)))) else (none)) else (none)) else (some true)
def laws_equalLeaves.f (k : Nat) (l0 : List (S60)) (l1 : List (S60)) : Option (Bool):=if (l0.length : Int) = (l1.length : Int) then (laws_equalLeaves.l0 k l0 l1 0) else (some false)
theorem laws_equalLeaves.mono_l : ∀ k,(∀ y0 y1 y2,LeO (laws_equalLeaves.l0 k y0 y1 y2) (laws_equalLeaves.l0 (k + 1) y0 y1 y2))
 | 0=>fun _ _ _ r h=>by simp [laws_equalLeaves.l0] at h
 | k + 1=>by
  have ih0:=laws_equalLeaves.mono_l k
  ·intro y0 y1 y2
   unfold laws_equalLeaves.l0
   repeat' first
   | (with_reducible exact ih0 _ _ _)
   | (with_reducible exact LeO.refl _)
   | (with_reducible exact LeO.none _)
   | (with_reducible refine LeO.ite ?_ ?_)
   | (with_reducible refine LeO.bind ?_ (fun _=>?_))
   | exact ih0 _ _ _
   | exact LeO.none _
   | refine LeO.ite ?_ ?_
   | refine LeO.bind ?_ (fun _=>?_)
theorem laws_equalLeaves.mono : ∀ a0 a1 k,LeO (laws_equalLeaves.f k a0 a1) (laws_equalLeaves.f (k + 1) a0 a1):=by
 intro a0 a1 k
 have ih0:=laws_equalLeaves.mono_l k
 unfold laws_equalLeaves.f
 repeat' first
   | (with_reducible exact ih0 _ _ _)
   | (with_reducible exact LeO.refl _)
   | (with_reducible exact LeO.none _)
   | (with_reducible refine LeO.ite ?_ ?_)
   | (with_reducible refine LeO.bind ?_ (fun _=>?_))
   | exact ih0 _ _ _
   | exact LeO.none _
   | refine LeO.ite ?_ ?_
   | refine LeO.bind ?_ (fun _=>?_)
set_option maxHeartbeats 8000000 in
set_option maxRecDepth 100000 in
theorem laws_equalLeaves.calls (k : Nat) (A0 : Option Addr) (c0 : Nat) (l0 : List (S60)) (A1 : Option Addr) (c1 : Nat) (l1 : List (S60)) (r : Bool) (w : World) (hr0 : Kd.C k60 w A0 l0.length l0) (hc0 : l0.length ≤ c0) (hr1 : Kd.C k60 w A1 l1.length l1) (hc1 : l1.length ≤ c1) (h : laws_equalLeaves.f k l0 l1 = some r) :
  Calls Try.prog 18 #[.slice A0 l0.length c0,.slice A1 l1.length c1] w fun e w'=>e = .returned (.bool r) ∧ Drawn0 w w':=by
 have hu60:=Try.underlying60
 have HR0:=a0_ hr0
 have HC0:=a0_ hc0
 clear hr0 hc0
 have HR1:=a0_ hr1
 have HC1:=a0_ hc1
 clear hr1 hc1
 have H : (if (l0.length : Int) = (l1.length : Int) then (laws_equalLeaves.l0 k l0 l1 0) else (some false)) = some r:=h
 clear h
 by_cases c3 : (l0.length : Int) = (l1.length : Int)
 ·rw [if_pos c3] at H
  have c3b0 : ((l0.length : Int) == (l1.length : Int)) = true:=beq_iff_eq.mpr c3
  have c3b1 : ((l0.length : Int) != (l1.length : Int)) = false:=bne_eq_false_iff_eq.mpr c3
  have c3b2 : (l0.length == l1.length) = true:=by first | simpa using c3 | (simp at c3 ⊢;omega)
  clear c3
  have H':=a0_ H
  clear H
  go_enter Try.func18,Try.ntmps18
  go_wp2
  repeat (go_quiet (fail);try go_wp2)
  go_loopg [5] k (fun kq v5 w'=>∃ (x5_1 : Int),v5 = .int .i64 x5_1 ∧ Aside0 (laws_equalLeaves.l0 kq l0 l1 x5_1 = some r) ∧ Aside0 (kq ≤ k) ∧ Drawn0 w w')
  case atStart=>exact ⟨(0),(by first | rfl | (simp;done) | (simp [*];done)),H',⟨Nat.le_refl _⟩,by repeat (first | exact Drawn0.refl _ | apply Drawn0.step)⟩
  case round =>
   clear H'
   try clear c1
   try clear p2
   try clear c3
   try clear c3b0
   try clear c3b1
   try clear c3b2
   obtain ⟨x5_1,rfl,HA,HK1,⟨m1,rfl⟩⟩:=hrel
   cases gk with
   | zero=>exact absurd HA.out (by simp [laws_equalLeaves.l0])
   | succ k1 =>
    have H:=HA.out
    clear HA
    simp only [laws_equalLeaves.l0] at H
    by_cases c4 : x5_1 < (l0.length : Int)
    ·rw [if_pos c4] at H
     have c4b0 : decide (x5_1 < (l0.length : Int)) = true:=decide_eq_true c4
     clear c4
     by_cases c5 : 0 ≤ x5_1
     ·rw [if_pos c5] at H
      have c5b0 : decide (0 ≤ x5_1) = true:=decide_eq_true c5
      clear c5
      by_cases c6 : x5_1 < (l1.length : Int)
      ·rw [if_pos c6] at H
       have c6b0 : decide (x5_1 < (l1.length : Int)) = true:=decide_eq_true c6
       clear c6
       by_cases c7 : (!(((rd_T60 l0 x5_1).f0) == ((rd_T60 l1 x5_1).f0)) || (!(((rd_T60 l0 x5_1).f1) == ((rd_T60 l1 x5_1).f1)))) = true
       ·rw [if_pos c7] at H
        have c7b0 : (!(((rd_T60 l0 x5_1).f0) == ((rd_T60 l1 x5_1).f0)) || (!(((rd_T60 l0 x5_1).f1) == ((rd_T60 l1 x5_1).f1)))) = true:=c7
        clear c7
        obtain rfl:=Option.some.inj H
        have p1 : 0 ≤ (x5_1 : Int):=of_decide_eq_true (by first | (with_reducible assumption) | assumption)
        have q1 : x5_1 < (l0.length : Int):=of_decide_eq_true (by first | (with_reducible assumption) | assumption)
        obtain ⟨ad1,e1,hx1_0,hx1_1⟩:=at_T60 HR0.out x5_1 p1 q1
        cases e1
        replace p1:=eq_true p1
        replace q1:=eq_true q1
        have p2 : 0 ≤ (x5_1 : Int):=of_decide_eq_true (by first | (with_reducible assumption) | assumption)
        have q2 : x5_1 < (l1.length : Int):=of_decide_eq_true (by first | (with_reducible assumption) | assumption)
        obtain ⟨ad2,e2,hx2_0,hx2_1⟩:=at_T60 HR1.out x5_1 p2 q2
        cases e2
        replace p2:=eq_true p2
        replace q2:=eq_true q2
        go_wp2
        repeat (go_quiet (fail);try go_wp2)
        go_ret
        exact ⟨by first | rfl | (simp;done) | (simp [*];done),by repeat (first | exact Drawn0.refl _ | apply Drawn0.step)⟩
       ·rw [if_neg c7] at H
        have c7b0 : (!(((rd_T60 l0 x5_1).f0) == ((rd_T60 l1 x5_1).f0)) || (!(((rd_T60 l0 x5_1).f1) == ((rd_T60 l1 x5_1).f1)))) = false:=by simpa using c7
        clear c7
        have H':=a0_ H
        clear H
        have p1 : 0 ≤ (x5_1 : Int):=of_decide_eq_true (by first | (with_reducible assumption) | assumption)
        have q1 : x5_1 < (l0.length : Int):=of_decide_eq_true (by first | (with_reducible assumption) | assumption)
        obtain ⟨ad1,e1,hx1_0,hx1_1⟩:=at_T60 HR0.out x5_1 p1 q1
        cases e1
        replace p1:=eq_true p1
        replace q1:=eq_true q1
        have p2 : 0 ≤ (x5_1 : Int):=of_decide_eq_true (by first | (with_reducible assumption) | assumption)
        have q2 : x5_1 < (l1.length : Int):=of_decide_eq_true (by first | (with_reducible assumption) | assumption)
        obtain ⟨ad2,e2,hx2_0,hx2_1⟩:=at_T60 HR1.out x5_1 p2 q2
        cases e2
        replace p2:=eq_true p2
        replace q2:=eq_true q2
        go_wp2
        repeat (go_quiet (fail);try go_wp2)
        go_roundg k1
        case measure=>have:=HK1.out;omega
        case rel=>exact ⟨(wrap64 (x5_1 + 1)),(by first | rfl | (simp;done) | (simp [*];done)),H',⟨by have:=HK1.out;omega⟩,by repeat (first | exact Drawn0.refl _ | apply Drawn0.step)⟩
      ·rw [if_neg c6] at H
       exact absurd H (by simp)
     ·rw [if_neg c5] at H
      exact absurd H (by simp)
    ·rw [if_neg c4] at H
     have c4b0 : decide (x5_1 < (l0.length : Int)) = false:=decide_eq_false c4
     clear c4
     obtain rfl:=Option.some.inj H
     go_wp2
     repeat (go_quiet (fail);try go_wp2)
     go_ret
     exact ⟨by first | rfl | (simp;done) | (simp [*];done),by repeat (first | exact Drawn0.refl _ | apply Drawn0.step)⟩
 ·rw [if_neg c3] at H
  have c3b0 : ((l0.length : Int) == (l1.length : Int)) = false:=beq_eq_false_iff_ne.mpr c3
  have c3b1 : ((l0.length : Int) != (l1.length : Int)) = true:=bne_iff_ne.mpr c3
  have c3b2 : (l0.length == l1.length) = false:=by first | simpa using c3 | (simp at c3 ⊢;omega)
  obtain rfl:=Option.some.inj H
  go_enter Try.func18,Try.ntmps18
  go_wp2
  repeat (go_quiet (fail);try go_wp2)
  go_ret
  exact ⟨by first | rfl | (simp;done) | (simp [*];done),by repeat (first | exact Drawn0.refl _ | apply Drawn0.step)⟩
theorem laws_equalLeaves_ev (l : List S60) (hl : l.length ≤ 9223372036854775806) : Ev (fun k=>laws_equalLeaves.f k l l) true:=by
 have key : ∀ d j,j + d = l.length → Ev (fun k=>laws_equalLeaves.l0 k l l (j : Int)) true:=by
  intro d
  induction d with
  | zero =>
   intro j hj
   refine Ev.succ ?_
   simp only [laws_equalLeaves.l0]
   exact Ev.neg (by omega) (Ev.const rfl)
  | succ d ih =>
   intro j hj
   refine Ev.succ ?_
   simp only [laws_equalLeaves.l0]
   refine Ev.pos (by omega) (Ev.pos (by omega) (Ev.pos (by omega) (Ev.neg (by simp) ?_)))
   rw [wrap_succ (i:=(j : Int)) (n:=l.length) (by omega) (by omega) (by omega)]
   exact ih (j + 1) (by omega)
 exact Ev.pos rfl (key l.length 0 (by omega))
end Go.Proofs.Ytjdpaholpfpiiaa.P
namespace Go.Proofs.Ytjdpaholpfpiiaa.P
open Go.RowKit Go.Proofs.YtjdpaholpfpiiaaW.PrintWords Go.Proofs.YtjdpaholpfpiiaaW.PrintLast Go.Proofs.YtjdpaholpfpiiaaW.PrintMore
attribute [local go_sem] max2_int min2_int max_two min_two max_three min_three max_four min_four
set_option linter.unusedVariables false
set_option linter.unusedSimpArgs false
def impl_LeavesOf.l0 : Nat → List (S60) → List (S35) → Int → Int → Option ((List (S60)))
 | 0,_,_,_,_=>none
 | k + 1,x5,x15,x16,x17=>if x17 < x16 then (if 0 ≤ x17 then (if x17 < (x15.length : Int) then (if ((rd_T35 x15 x17).f1 = true) then (impl_LeavesOf.l0 k x5 x15 x16 (wrap64 (x17 + 1))) else (if x5.length < 8796093022208 then (impl_LeavesOf.l0 k (x5 ++ [(⟨(rd_T35 x15 x17).f2,(rd_T35 x15 x17).f3⟩ : S60)]) x15 x16 (wrap64 (x17 + 1))) else (none))) else (none)) else (none)) else (if 0 ≤ (x5.length : Int) then (if (x5.length : Int) ≤ (x5.length : Int) then (some (x5.take ((x5.length : Int) : Int).toNat)) else (none)) else (none))
def impl_LeavesOf.f (k : Nat) (l0_0 : List (S70)) (l1 : List (S35)) : Option ((List (S60))):=(impl_ValidGroup.f k l0_0 l1).bind fun t2=>(if t2 = true then (if 0 ≤ (l1.length : Int) then (if ((l1.length : Int) : Int).toNat ≤ 17592186044416 then (impl_LeavesOf.l0 k (([] : List (S60))) l1 (l1.length : Int) 0) else (none)) else (none)) else (some ([] : List (S60))))
theorem impl_LeavesOf.mono_l : ∀ k,(∀ y0 y1 y2 y3,LeO (impl_LeavesOf.l0 k y0 y1 y2 y3) (impl_LeavesOf.l0 (k + 1) y0 y1 y2 y3))
 | 0=>fun _ _ _ _ r h=>by simp [impl_LeavesOf.l0] at h
 | k + 1=>by
  have ih0:=impl_LeavesOf.mono_l k
  ·intro y0 y1 y2 y3
   unfold impl_LeavesOf.l0
   repeat' first
   | (with_reducible exact ih0 _ _ _ _)
   | (with_reducible exact impl_ValidGroup.mono _ _ _)
   | (with_reducible exact LeO.refl _)
   | (with_reducible exact LeO.none _)
   | (with_reducible refine LeO.ite ?_ ?_)
   | (with_reducible refine LeO.bind ?_ (fun _=>?_))
   | exact ih0 _ _ _ _
   | exact impl_ValidGroup.mono _ _ _
   | exact LeO.none _
   | refine LeO.ite ?_ ?_
   | refine LeO.bind ?_ (fun _=>?_)
theorem impl_LeavesOf.mono : ∀ a0 a1 k,LeO (impl_LeavesOf.f k a0 a1) (impl_LeavesOf.f (k + 1) a0 a1):=by
 intro a0 a1 k
 have ih0:=impl_LeavesOf.mono_l k
 unfold impl_LeavesOf.f
 repeat' first
   | (with_reducible exact ih0 _ _ _ _)
   | (with_reducible exact impl_ValidGroup.mono _ _ _)
   | (with_reducible exact LeO.refl _)
   | (with_reducible exact LeO.none _)
   | (with_reducible refine LeO.ite ?_ ?_)
   | (with_reducible refine LeO.bind ?_ (fun _=>?_))
   | exact ih0 _ _ _ _
   | exact impl_ValidGroup.mono _ _ _
   | exact LeO.none _
   | refine LeO.ite ?_ ?_
   | refine LeO.bind ?_ (fun _=>?_)
set_option maxHeartbeats 8000000 in
set_option maxRecDepth 100000 in
theorem impl_LeavesOf.calls (k : Nat) (A0_0 : Option Addr) (c0_0 : Nat) (l0_0 : List (S70)) (A1 : Option Addr) (c1 : Nat) (l1 : List (S35)) (r : List (S60)) (w : World) (hr0_0 : Kd.C k70 w A0_0 l0_0.length l0_0) (hc0_0 : l0_0.length ≤ c0_0) (hr1 : Kd.C k35 w A1 l1.length l1) (hc1 : l1.length ≤ c1) (h : impl_LeavesOf.f k l0_0 l1 = some r) :
  Calls Try.prog 19 #[.agg #[.slice A0_0 l0_0.length c0_0],.slice A1 l1.length c1] w fun e w'=>∃ v0_ : Value,e = .returned (v0_) ∧ Kd.R k60 60 w' w.heap.size (fun _=>True) v0_ r ∧ Below w.heap.size w w':=by
 have hu25:=Try.underlying25
 have hu35:=Try.underlying35
 have hu60:=Try.underlying60
 have HR0_0:=a0_ hr0_0
 have HC0_0:=a0_ hc0_0
 clear hr0_0 hc0_0
 have HR1:=a0_ hr1
 have HC1:=a0_ hc1
 clear hr1 hc1
 have HB:=a0_ (Below.refl w.heap.size w)
 have H : ((impl_ValidGroup.f k l0_0 l1).bind fun t2=>(if t2 = true then (if 0 ≤ (l1.length : Int) then (if ((l1.length : Int) : Int).toNat ≤ 17592186044416 then (impl_LeavesOf.l0 k (([] : List (S60))) l1 (l1.length : Int) 0) else (none)) else (none)) else (some ([] : List (S60))))) = some r:=h
 clear h
 replace H:=Option.bind_eq_some_iff.mp H
 obtain ⟨t2,A30,H⟩:=H
 try dsimp only at H
 have A3:=a0_ A30
 clear A30
 by_cases c4 : t2 = true
 ·subst c4
  have H1 : (if 0 ≤ (l1.length : Int) then (if ((l1.length : Int) : Int).toNat ≤ 17592186044416 then (impl_LeavesOf.l0 k (([] : List (S60))) l1 (l1.length : Int) 0) else (none)) else (none)) = some r:=by rw [if_pos rfl] at H;exact H
  clear H
  have H:=H1
  clear H1
  by_cases c5 : 0 ≤ (l1.length : Int)
  ·rw [if_pos c5] at H
   have c5b0:=eq_true c5
   have c5b1 : decide (0 ≤ (l1.length : Int)) = true:=decide_eq_true c5
   clear c5
   by_cases c6 : ((l1.length : Int) : Int).toNat ≤ 17592186044416
   ·rw [if_pos c6] at H
    have c6b0:=eq_true c6
    have c6b1 : decide (((l1.length : Int) : Int).toNat ≤ 17592186044416) = true:=decide_eq_true c6
    clear c6
    obtain ⟨y3,hy3⟩ : ∃ y_ : List (S60),y_ = (([] : List (S60))):=⟨_,rfl⟩
    replace H : (impl_LeavesOf.l0 k y3 l1 (l1.length : Int) 0) = some r:=by first | (rw [hy3];with_reducible exact H) | (have H2_:=(Option.bind_some _ _).symm.trans H;rw [hy3];with_reducible exact H2_) | (have H2_:=(Option.bind_some _ _).symm.trans H;with_reducible exact H2_) | with_reducible exact H | (rw [hy3];exact H) | exact H
    have Ny3:=a0_ hy3
    clear hy3
    have H':=a0_ H
    clear H
    go_enter Try.func19,Try.ntmps19
    go_wp2_with (first | ((with_reducible refine gate_dst (N:=2) rfl ?_);refine box_event ?hg (N:=2) ?hd (cs:=#[.slice A0_0 l0_0.length c0_0]) (t:=25) ?hr ?_;(case hd=>rfl);(case hg=>rfl);(case hr=>first | (go_simp;done) | (go_simp;rfl));intro gb1 hg w7 hbox hb;have BK1:=a0_ (hbox);have GW1:=a0_ ((by rw [hg];exact (below_size hb_) : w.heap.size ≤ gb1));have GE1:=a0_ ((by rw [hg];exact (below_size hb_) : w.heap.size ≤ gb1));replace HB:=a0_ (below_step hb_ hb);clear hb hbox hg;have hcz8_0 : w7.cell? ⟨gb1,0,none⟩ = some (.slice A0_0 l0_0.length c0_0):=(blk_cell BK1.out 0).trans rfl;have hfz8_0:=blk_frozen BK1.out 0) | ((with_reducible refine gate_callee (f:=17) rfl ?_);refine goesL_ (some 10) rfl rfl Try.func17 (by kernel_rfl) rfl #[.agg #[.slice A0_0 l0_0.length c0_0],.slice A1 l1.length c1] rfl lm_ ?_;(with_reducible refine (impl_ValidGroup.calls k _ _ l0_0 _ _ l1 true _ ?side1 ?side2 ?side3 ?side4 A3.out).mono ?_);(case side1=>exact cc_ (Kd.C_below HR0_0.out HB.out));(case side2=>exact HC0_0.out);(case side3=>exact cc_ (Kd.C_below HR1.out HB.out));(case side4=>exact HC1.out);rintro e w9 ⟨rfl,hb⟩;refine ⟨_,rfl,?_⟩;replace BK1:=kb_ BK1 hb;replace HB:=a0_ (below_step hb_ hb);(try clear hb);(try clear hb2);(try clear hk);(try clear hi)) | ((with_reducible refine gate_dst (N:=14) rfl ?_);refine Kd.R_make0 k60 _ 60 rfl (N:=14) rfl 43 _ _ rfl (l1.length : Int) rfl rfl Try.underlying43 (.agg #[(.int .i64 0),(.int .i64 0)]) 16 info60 rfl (by decide) (by omega) z60 (ok:=fun _=>True) (okp:=fun _=>True) (k60_mkM _ _ _ z60 ) (fun _ hk=>hk) trivial (of_decide_eq_true (by first | (with_reducible assumption) | assumption)) (Nat.le_trans (Nat.mul_le_mul_right _ (of_decide_eq_true (by first | (with_reducible assumption) | assumption) : (l1.length : Int).toNat ≤ 17592186044416)) (by omega)) (Below.refl _ _) (Nat.le_refl _) ?_;intro v4 w10 ho11 hb hg_ hnew_;clear hg_ hnew_;(first | rw [← Ny3.out] at ho11 | (simp only [Int.reduceToNat] at ho11;rw [← Ny3.out] at ho11));have HO5:=a0_ (Kd.R_lower ho11 (below_size hb_));replace BK1:=kb_ BK1 hb;replace HB:=a0_ (below_step hb_ hb);clear hb ho11))
    go_loopg [5,17] k (fun kq v5 v17 w'=>∃ (x5_1 : List (S60)) (x17_1 : Int),v17 = .int .i64 x17_1 ∧ Aside0 (impl_LeavesOf.l0 kq x5_1 l1 (l1.length : Int) x17_1 = some r) ∧ Aside0 (kq ≤ k) ∧ Aside0 (Kd.R k60 60 w' w.heap.size (fun _=>True) v5 x5_1) ∧ Aside0 (w'.heap[gb1]? = some (.cells #[(.slice A0_0 l0_0.length c0_0)] 25 (0,0))) ∧ Aside0 (Below w.heap.size w w'))
    case atStart=>exact ⟨(y3),(0),(by first | rfl | (simp;done) | (simp [*];done)),H',⟨Nat.le_refl _⟩,⟨by (with_reducible repeat (first | apply Kd.R_alloc | apply Kd.R_drewN | apply Kd.R_drew));exact HO5.out⟩,⟨by (with_reducible repeat (first | refine blk_drewN ?_ _ | refine blk_drew ?_ | refine blk_alloc ?_ _));exact BK1.out⟩,⟨hb_⟩⟩
    case round =>
     clear H'
     try clear c1
     try clear p2
     try clear c4
     try clear c5
     try clear c5b0
     try clear c5b1
     try clear c6
     try clear c6b0
     try clear c6b1
     try clear hcz8_0
     try clear hfz8_0
     obtain ⟨x5_1,x17_1,rfl,HA,HK1,HO_5,BK1,HB⟩:=hrel
     cases gk with
     | zero=>exact absurd HA.out (by simp [impl_LeavesOf.l0])
     | succ k1 =>
      have H:=HA.out
      clear HA
      simp only [impl_LeavesOf.l0] at H
      by_cases c12 : x17_1 < (l1.length : Int)
      ·rw [if_pos c12] at H
       have c12b0 : decide (x17_1 < (l1.length : Int)) = true:=decide_eq_true c12
       clear c12
       by_cases c13 : 0 ≤ x17_1
       ·rw [if_pos c13] at H
        have c13b0 : decide (0 ≤ x17_1) = true:=decide_eq_true c13
        clear c13
        by_cases c14 : x17_1 < (l1.length : Int)
        ·rw [if_pos c14] at H
         have c14b0 : decide (x17_1 < (l1.length : Int)) = true:=decide_eq_true c14
         clear c14
         obtain ⟨bq15,hbq15⟩ : ∃ b_ : Bool,b_ = ((rd_T35 l1 x17_1).f1):=⟨_,rfl⟩
         replace H : (if (bq15 = true) then (impl_LeavesOf.l0 k1 x5_1 l1 (l1.length : Int) (wrap64 (x17_1 + 1))) else (if x5_1.length < 8796093022208 then (impl_LeavesOf.l0 k1 (x5_1 ++ [(⟨(rd_T35 l1 x17_1).f2,(rd_T35 l1 x17_1).f3⟩ : S60)]) l1 (l1.length : Int) (wrap64 (x17_1 + 1))) else (none))) = some r:=by rw [← hbq15] at H;exact H
         have Nbq15:=a0_ hbq15
         clear hbq15
         by_cases c16 : (bq15 = true)
         ·subst c16
          have H1 : (impl_LeavesOf.l0 k1 x5_1 l1 (l1.length : Int) (wrap64 (x17_1 + 1))) = some r:=by rw [if_pos rfl] at H;exact H
          clear H
          have H:=H1
          clear H1
          have H':=a0_ H
          clear H
          have p6 : 0 ≤ (x17_1 : Int):=of_decide_eq_true (by first | (with_reducible assumption) | assumption)
          have q6 : x17_1 < (l1.length : Int):=of_decide_eq_true (by first | (with_reducible assumption) | assumption)
          obtain ⟨ad6,e6,hx6_0,hx6_1,hx6_2,hx6_3⟩:=at_T35 HR1.out x17_1 p6 q6
          (try rw [← Nbq15.out] at hx6_1)
          cases e6
          replace hx6_0:=(HB.out.cell (World.block_lt_of_cell? w _ hx6_0)).trans hx6_0
          replace hx6_1:=(HB.out.cell (World.block_lt_of_cell? w _ hx6_1)).trans hx6_1
          replace hx6_2:=(HB.out.cell (World.block_lt_of_cell? w _ hx6_2)).trans hx6_2
          replace hx6_3:=(HB.out.cell (World.block_lt_of_cell? w _ hx6_3)).trans hx6_3
          replace p6:=eq_true p6
          replace q6:=eq_true q6
          go_wp2_with (first | ((with_reducible refine gate_dst (N:=7) rfl ?_);refine box_event ?hg (N:=7) ?hd (cs:=#[.int .i64 0,.bool false,.int .i64 0,.int .i64 0]) (t:=35) ?hr ?_;(case hd=>rfl);(case hg=>rfl);(case hr=>first | (go_simp;done) | (go_simp;rfl));intro gb7 hg w17 hbox hb;have n0_:=rb_ HO_5 hb;have n1_:=kb_ BK1 hb;have n2_:=a0_ (below_step hb_ hb);have n3_:=a0_ (hbox);have n4_:=a0_ ((by rw [hg];exact (below_size hb_) : w.heap.size ≤ gb7));have n5_:=a0_ ((by rw [hg];exact (below_size hb_) : w.heap.size ≤ gb7));have n6_:=a0_ ((by rw [hg];exact Nat.ne_of_lt (blk_lt (bb_ BK1.out)) : gb1 ≠ gb7));have n7_:=a0_ ((by rw [hg];exact Nat.ne_of_gt (blk_lt (bb_ BK1.out)) : gb7 ≠ gb1));clear HO_5 BK1 HB;have HO_5:=n0_;have BK1:=n1_;have HB:=n2_;have BK7:=n3_;have GW7:=n4_;have GE7:=n5_;have NB1_7:=n6_;have NB7_1:=n7_;clear n0_ n1_ n2_ n3_ n4_ n5_ n6_ n7_;clear hb hbox hg;have hnb18:=NB7_1.out;have hnc18:=NB1_7.out;have hcz19_0 : w17.cell? ⟨gb7,0,none⟩ = some (.int .i64 0):=(blk_cell BK7.out 0).trans rfl;have hcz19_1 : w17.cell? ⟨gb7,1,none⟩ = some (.bool false):=(blk_cell BK7.out 1).trans rfl;have hcz19_2 : w17.cell? ⟨gb7,2,none⟩ = some (.int .i64 0):=(blk_cell BK7.out 2).trans rfl;have hcz19_3 : w17.cell? ⟨gb7,3,none⟩ = some (.int .i64 0):=(blk_cell BK7.out 3).trans rfl;have hfz19_0:=blk_frozen BK7.out 0;have hfz19_1:=blk_frozen BK7.out 1;have hfz19_2:=blk_frozen BK7.out 2;have hfz19_3:=blk_frozen BK7.out 3))
          go_roundg k1
          case measure=>have:=HK1.out;omega
          case rel=>exact ⟨(x5_1),(wrap64 (x17_1 + 1)),(by first | rfl | (simp;done) | (simp [*];done)),H',⟨by have:=HK1.out;omega⟩,⟨by (with_reducible repeat (first | apply Kd.R_alloc | apply Kd.R_drewN | apply Kd.R_drew));exact Kd.R_mono (Kd.R_far (p:=⟨gb7,3,none⟩) (Kd.R_far (p:=⟨gb7,2,none⟩) (Kd.R_far (p:=⟨gb7,1,none⟩) (Kd.R_far (p:=⟨gb7,0,none⟩) (Kd.R_types HO_5.out BK7.out (by decide)) (fun _ hk=>hk.2) (.int .i64 ((rd_T35 l1 x17_1).f0))) (fun _ hk=>hk.2) (.bool true)) (fun _ hk=>hk.2) (.int .i64 ((rd_T35 l1 x17_1).f2))) (fun _ hk=>hk.2) (.int .i64 ((rd_T35 l1 x17_1).f3))) (fun _ hk=>trivial)⟩,⟨by (with_reducible repeat (first | refine blk_drewN ?_ _ | refine blk_drew ?_ | refine blk_alloc ?_ _));refine blk_far ?_ NB1_7.out _;(with_reducible repeat (first | refine blk_drewN ?_ _ | refine blk_drew ?_ | refine blk_alloc ?_ _));refine blk_far ?_ NB1_7.out _;(with_reducible repeat (first | refine blk_drewN ?_ _ | refine blk_drew ?_ | refine blk_alloc ?_ _));refine blk_far ?_ NB1_7.out _;(with_reducible repeat (first | refine blk_drewN ?_ _ | refine blk_drew ?_ | refine blk_alloc ?_ _));refine blk_far ?_ NB1_7.out _;(with_reducible repeat (first | refine blk_drewN ?_ _ | refine blk_drew ?_ | refine blk_alloc ?_ _));exact BK1.out⟩,⟨hb_⟩⟩
         ·replace c16:=Bool.eq_false_iff.mpr c16
          subst c16
          have H1 : (if x5_1.length < 8796093022208 then (impl_LeavesOf.l0 k1 (x5_1 ++ [(⟨(rd_T35 l1 x17_1).f2,(rd_T35 l1 x17_1).f3⟩ : S60)]) l1 (l1.length : Int) (wrap64 (x17_1 + 1))) else (none)) = some r:=by rw [if_neg (show ¬ (false = true) by decide)] at H;exact H
          clear H
          have H:=H1
          clear H1
          by_cases c20 : x5_1.length < 8796093022208
          ·rw [if_pos c20] at H
           have LMc20:=a0_ c20
           clear c20
           obtain ⟨y8,hy8⟩ : ∃ y_ : List (S60),y_ = (x5_1 ++ [(⟨(rd_T35 l1 x17_1).f2,(rd_T35 l1 x17_1).f3⟩ : S60)]):=⟨_,rfl⟩
           replace H : (impl_LeavesOf.l0 k1 y8 l1 (l1.length : Int) (wrap64 (x17_1 + 1))) = some r:=by first | (rw [hy8];with_reducible exact H) | (have H2_:=(Option.bind_some _ _).symm.trans H;rw [hy8];with_reducible exact H2_) | (have H2_:=(Option.bind_some _ _).symm.trans H;with_reducible exact H2_) | with_reducible exact H | (rw [hy8];exact H) | exact H
           have Ny8:=a0_ hy8
           clear hy8
           have H':=a0_ H
           clear H
           have p6 : 0 ≤ (x17_1 : Int):=of_decide_eq_true (by first | (with_reducible assumption) | assumption)
           have q6 : x17_1 < (l1.length : Int):=of_decide_eq_true (by first | (with_reducible assumption) | assumption)
           obtain ⟨ad6,e6,hx6_0,hx6_1,hx6_2,hx6_3⟩:=at_T35 HR1.out x17_1 p6 q6
           (try rw [← Nbq15.out] at hx6_1)
           cases e6
           replace hx6_0:=(HB.out.cell (World.block_lt_of_cell? w _ hx6_0)).trans hx6_0
           replace hx6_1:=(HB.out.cell (World.block_lt_of_cell? w _ hx6_1)).trans hx6_1
           replace hx6_2:=(HB.out.cell (World.block_lt_of_cell? w _ hx6_2)).trans hx6_2
           replace hx6_3:=(HB.out.cell (World.block_lt_of_cell? w _ hx6_3)).trans hx6_3
           replace p6:=eq_true p6
           replace q6:=eq_true q6
           go_wp2_with (first | ((with_reducible refine gate_dst (N:=7) rfl ?_);refine box_event ?hg (N:=7) ?hd (cs:=#[.int .i64 0,.bool false,.int .i64 0,.int .i64 0]) (t:=35) ?hr ?_;(case hd=>rfl);(case hg=>rfl);(case hr=>first | (go_simp;done) | (go_simp;rfl));intro gb7 hg w21 hbox hb;have n0_:=rb_ HO_5 hb;have n1_:=kb_ BK1 hb;have n2_:=a0_ (below_step hb_ hb);have n3_:=a0_ (hbox);have n4_:=a0_ ((by rw [hg];exact (below_size hb_) : w.heap.size ≤ gb7));have n5_:=a0_ ((by rw [hg];exact (below_size hb_) : w.heap.size ≤ gb7));have n6_:=a0_ ((by rw [hg];exact Nat.ne_of_lt (blk_lt (bb_ BK1.out)) : gb1 ≠ gb7));have n7_:=a0_ ((by rw [hg];exact Nat.ne_of_gt (blk_lt (bb_ BK1.out)) : gb7 ≠ gb1));clear HO_5 BK1 HB;have HO_5:=n0_;have BK1:=n1_;have HB:=n2_;have BK7:=n3_;have GW7:=n4_;have GE7:=n5_;have NB1_7:=n6_;have NB7_1:=n7_;clear n0_ n1_ n2_ n3_ n4_ n5_ n6_ n7_;clear hb hbox hg;have hnb22:=NB7_1.out;have hnc22:=NB1_7.out;have hcz23_0 : w21.cell? ⟨gb7,0,none⟩ = some (.int .i64 0):=(blk_cell BK7.out 0).trans rfl;have hcz23_1 : w21.cell? ⟨gb7,1,none⟩ = some (.bool false):=(blk_cell BK7.out 1).trans rfl;have hcz23_2 : w21.cell? ⟨gb7,2,none⟩ = some (.int .i64 0):=(blk_cell BK7.out 2).trans rfl;have hcz23_3 : w21.cell? ⟨gb7,3,none⟩ = some (.int .i64 0):=(blk_cell BK7.out 3).trans rfl;have hfz23_0:=blk_frozen BK7.out 0;have hfz23_1:=blk_frozen BK7.out 1;have hfz23_2:=blk_frozen BK7.out 2;have hfz23_3:=blk_frozen BK7.out 3) | ((with_reducible refine gate_builtin (b:=.append) (xs:=#[.tmp 24,.tmp 30]) rfl ?_);at_builtin;refine Kd.R_append k60 (w0:=w) w.heap.size rfl (.tmp 24) (.tmp 30) 43 60 (.agg #[(.int .i64 0),(.int .i64 0)]) 16 rfl Try.underlying43 info60 rfl (by decide) (by omega) u5 x5_1 (⟨(rd_T35 l1 x17_1).f2,(rd_T35 l1 x17_1).f3⟩ : S60) [.int .i64 ((rd_T35 l1 x17_1).f2),.int .i64 ((rd_T35 l1 x17_1).f3)] (fun _=>True) (fun _=>False) rfl (by first | (go_simp;done) | (go_simp;rfl)) ?aP (fun _ hk=>hk.elim) ?aF ?aO ?aB ?aS ?aL ?_;(case aP=>exact k60_mkM _ _ _ (⟨(rd_T35 l1 x17_1).f2,(rd_T35 l1 x17_1).f3⟩ : S60));(case aB=>exact hb_);(case aF=>exact (fun _ _=>trivial));(case aO=>exact (by (with_reducible repeat (first | apply Kd.R_alloc | apply Kd.R_drewN | apply Kd.R_drew));exact Kd.R_mono (Kd.R_far (p:=⟨gb7,3,none⟩) (Kd.R_far (p:=⟨gb7,2,none⟩) (Kd.R_far (p:=⟨gb7,1,none⟩) (Kd.R_far (p:=⟨gb7,0,none⟩) (Kd.R_types HO_5.out BK7.out (by decide)) (fun _ hk=>hk.2) (.int .i64 ((rd_T35 l1 x17_1).f0))) (fun _ hk=>hk.2) (.bool false)) (fun _ hk=>hk.2) (.int .i64 ((rd_T35 l1 x17_1).f2))) (fun _ hk=>hk.2) (.int .i64 ((rd_T35 l1 x17_1).f3))) (fun _ hk=>trivial)));(case aS=>exact (below_size hb_));(case aL=>have:=LMc20.out;omega);intro v9 w24 ho hb hg hat;rw [← Ny8.out] at ho;replace BK1:=a0_ (blk_grown (g:=gb1) (o:=.cells #[.slice A0_0 l0_0.length c0_0] 25 (0,0)) (bff_ BK1.out) hg (Kd.R_ne HO_5.out BK1.out (by decide)));replace BK7:=a0_ (blk_grown (g:=gb7) (o:=.cells #[.int .i64 ((rd_T35 l1 x17_1).f0),.bool false,.int .i64 ((rd_T35 l1 x17_1).f2),.int .i64 ((rd_T35 l1 x17_1).f3)] 35 (0,0)) (by (with_reducible repeat (first | refine blk_drewN ?_ _ | refine blk_drew ?_ | refine blk_alloc ?_ _));refine blk_put (cs:=#[.int .i64 ((rd_T35 l1 x17_1).f0),.bool false,.int .i64 ((rd_T35 l1 x17_1).f2),.int .i64 0]) ?_ 3 _ rfl;(with_reducible repeat (first | refine blk_drewN ?_ _ | refine blk_drew ?_ | refine blk_alloc ?_ _));refine blk_put (cs:=#[.int .i64 ((rd_T35 l1 x17_1).f0),.bool false,.int .i64 0,.int .i64 0]) ?_ 2 _ rfl;(with_reducible repeat (first | refine blk_drewN ?_ _ | refine blk_drew ?_ | refine blk_alloc ?_ _));refine blk_put (cs:=#[.int .i64 ((rd_T35 l1 x17_1).f0),.bool false,.int .i64 0,.int .i64 0]) ?_ 1 _ rfl;(with_reducible repeat (first | refine blk_drewN ?_ _ | refine blk_drew ?_ | refine blk_alloc ?_ _));refine blk_put (cs:=#[.int .i64 0,.bool false,.int .i64 0,.int .i64 0]) ?_ 0 _ rfl;(with_reducible repeat (first | refine blk_drewN ?_ _ | refine blk_drew ?_ | refine blk_alloc ?_ _));exact BK7.out) hg (Kd.R_ne HO_5.out BK7.out (by decide)));have HO10:=a0_ (ho);replace HB:=a0_ (hb);clear HO_5;clear ho hb hg hat))
           go_roundg k1
           case measure=>have:=HK1.out;omega
           case rel=>exact ⟨(y8),(wrap64 (x17_1 + 1)),(by first | rfl | (simp;done) | (simp [*];done)),H',⟨by have:=HK1.out;omega⟩,⟨by (with_reducible repeat (first | apply Kd.R_alloc | apply Kd.R_drewN | apply Kd.R_drew));exact HO10.out⟩,⟨by (with_reducible repeat (first | refine blk_drewN ?_ _ | refine blk_drew ?_ | refine blk_alloc ?_ _));exact BK1.out⟩,⟨hb_⟩⟩
          ·rw [if_neg c20] at H
           exact absurd H (by simp)
        ·rw [if_neg c14] at H
         exact absurd H (by simp)
       ·rw [if_neg c13] at H
        exact absurd H (by simp)
      ·rw [if_neg c12] at H
       have c12b0 : decide (x17_1 < (l1.length : Int)) = false:=decide_eq_false c12
       clear c12
       by_cases c25 : 0 ≤ (x5_1.length : Int)
       ·rw [if_pos c25] at H
        have c25b0:=eq_true c25
        have c25b1 : decide (0 ≤ (x5_1.length : Int)) = true:=decide_eq_true c25
        clear c25
        by_cases c26 : (x5_1.length : Int) ≤ (x5_1.length : Int)
        ·rw [if_pos c26] at H
         have c26b0:=eq_true c26
         have c26b1 : decide ((x5_1.length : Int) ≤ (x5_1.length : Int)) = true:=decide_eq_true c26
         clear c26
         obtain ⟨y11,hy11⟩ : ∃ y_ : List (S60),y_ = (x5_1.take ((x5_1.length : Int) : Int).toNat):=⟨_,rfl⟩
         replace H : (some y11) = some r:=by first | (rw [hy11];with_reducible exact H) | (have H2_:=(Option.bind_some _ _).symm.trans H;rw [hy11];with_reducible exact H2_) | (have H2_:=(Option.bind_some _ _).symm.trans H;with_reducible exact H2_) | with_reducible exact H | (rw [hy11];exact H) | exact H
         have Ny11:=a0_ hy11
         clear hy11
         obtain rfl:=Option.some.inj H
         obtain ⟨Ao27,co27,eo27⟩:=Kd.R_slice HO_5.out
         subst eo27
         have q28 : x5_1.length ≤ co27:=(Kd.R_reads' HO_5.out).2.1
         have hr28:=Kd.R_clip2 HO_5.out (((x5_1.length : Int) : Int).toNat) (by omega)
         rw [← Ny11.out] at hr28
         clear HO_5
         have HO13:=a0_ hr28
         clear hr28
         go_wp2
         go_ret
         exact ⟨_,by first | rfl | (simp [errW_none,errW_some] <;> rfl) | (simp [*,errW_none,errW_some] <;> rfl),by (with_reducible repeat (first | apply Kd.R_alloc | apply Kd.R_drewN | apply Kd.R_drew));exact HO13.out,hb_⟩
        ·rw [if_neg c26] at H
         exact absurd H (by simp)
       ·rw [if_neg c25] at H
        exact absurd H (by simp)
   ·rw [if_neg c6] at H
    exact absurd H (by simp)
  ·rw [if_neg c5] at H
   exact absurd H (by simp)
 ·replace c4:=Bool.eq_false_iff.mpr c4
  subst c4
  have H1 : (some ([] : List (S60))) = some r:=by rw [if_neg (show ¬ (false = true) by decide)] at H;exact H
  clear H
  have H:=H1
  clear H1
  obtain rfl:=Option.some.inj H
  go_enter Try.func19,Try.ntmps19
  go_wp2_with (first | ((with_reducible refine gate_dst (N:=2) rfl ?_);refine box_event ?hg (N:=2) ?hd (cs:=#[.slice A0_0 l0_0.length c0_0]) (t:=25) ?hr ?_;(case hd=>rfl);(case hg=>rfl);(case hr=>first | (go_simp;done) | (go_simp;rfl));intro gb1 hg w29 hbox hb;have BK1:=a0_ (hbox);have GW1:=a0_ ((by rw [hg];exact (below_size hb_) : w.heap.size ≤ gb1));have GE1:=a0_ ((by rw [hg];exact (below_size hb_) : w.heap.size ≤ gb1));replace HB:=a0_ (below_step hb_ hb);clear hb hbox hg;have hcz30_0 : w29.cell? ⟨gb1,0,none⟩ = some (.slice A0_0 l0_0.length c0_0):=(blk_cell BK1.out 0).trans rfl;have hfz30_0:=blk_frozen BK1.out 0) | ((with_reducible refine gate_callee (f:=17) rfl ?_);refine goesL_ (some 10) rfl rfl Try.func17 (by kernel_rfl) rfl #[.agg #[.slice A0_0 l0_0.length c0_0],.slice A1 l1.length c1] rfl lm_ ?_;(with_reducible refine (impl_ValidGroup.calls k _ _ l0_0 _ _ l1 false _ ?side1 ?side2 ?side3 ?side4 A3.out).mono ?_);(case side1=>exact cc_ (Kd.C_below HR0_0.out HB.out));(case side2=>exact HC0_0.out);(case side3=>exact cc_ (Kd.C_below HR1.out HB.out));(case side4=>exact HC1.out);rintro e w31 ⟨rfl,hb⟩;refine ⟨_,rfl,?_⟩;replace BK1:=kb_ BK1 hb;replace HB:=a0_ (below_step hb_ hb);(try clear hb);(try clear hb2);(try clear hk);(try clear hi)))
  go_ret
  exact ⟨_,by first | rfl | (simp [errW_none,errW_some] <;> rfl) | (simp [*,errW_none,errW_some] <;> rfl),by first | exact Kd.R_nil _ _ _ _ _ | exact Kd.N_nil _ _ _ _ _ | exact Kd.V_nil _ _ _ _ _ | exact Kd.Q_nil _ _ _ _ _ | exact Kd.S_nil _ _ _ _ _,hb_⟩
theorem impl_LeavesOf_ev (t : List Cls) (g : List Prt) (ht : t.length ≤ 9223372036854775807) (hl : g.length ≤ 1048576) (hs : smT t = true) : Ev (fun k=>impl_LeavesOf.f k t g) (leavesP t g):=by
 refine Ev.bind (impl_ValidGroup_ev t g ht (by omega) hs) ?_
 unfold leavesP
 cases hv : vG t g with
 | false=>exact Ev.neg (by simp) (Ev.const rfl)
 | true =>
  refine Ev.pos rfl (Ev.pos (by omega) (Ev.pos (by omega) ?_))
  have key : ∀ d i,i + d = g.length → Ev (fun k=>impl_LeavesOf.l0 k (lfs (g.take i)) g (g.length : Int) (i : Int)) (lfs g):=by
   intro d
   induction d with
   | zero =>
    intro i hi
    obtain rfl : i = g.length:=by omega
    refine Ev.succ ?_
    simp only [impl_LeavesOf.l0]
    exact Ev.neg (by omega) (Ev.pos (by omega) (Ev.pos (by omega) (Ev.const (by simp))))
   | succ d ih =>
    intro i hi
    have hlt : i < g.length:=by omega
    have hrd : rd_T35 g (i : Int) = g[i]:=by simp [rd_T35,hlt]
    have hn:=ih (i + 1) (by omega)
    rw [lfs_step g i hlt] at hn
    have l1:=lfs_len (g.take i)
    rw [List.length_take] at l1
    refine Ev.succ ?_
    simp only [impl_LeavesOf.l0,hrd]
    rw [wrap_succ (i:=(i : Int)) (n:=g.length) (by omega) (by omega) (by omega)]
    refine Ev.pos (by omega) (Ev.pos (by omega) (Ev.pos (by omega) ?_))
    cases h1 : g[i].f1 with
    | true =>
     rw [h1,if_pos rfl,List.append_nil] at hn
     exact Ev.pos rfl hn
    | false =>
     rw [h1,if_neg (by simp)] at hn
     exact Ev.neg (by simp) (Ev.pos (by omega) hn)
  exact key g.length 0 (by omega)
end Go.Proofs.Ytjdpaholpfpiiaa.P
namespace Go.Proofs.Ytjdpaholpfpiiaa.P
open Go.RowKit Go.Proofs.YtjdpaholpfpiiaaW.PrintWords Go.Proofs.YtjdpaholpfpiiaaW.PrintLast Go.Proofs.YtjdpaholpfpiiaaW.PrintMore
attribute [local go_sem] max2_int min2_int max_two min_two max_three min_three max_four min_four
set_option linter.unusedVariables false
set_option linter.unusedSimpArgs false
mutual
def laws_FnSimplifyGroup.j0 : Nat → List (S35) → List (S35) → Bool → List (S70) → Option (Bool)
 | 0,_,_,_,_=>none
 | k + 1,x4,x5,x30,x8000=>if x30 = true then ((spec_SimplifyGroup.f k x8000 x4).bind fun t16=>((laws_equalGroup.f k x5 t16).bind fun t19=>(some t19))) else ((impl_KidsOf.f k x8000 x5).bind fun t20=>(laws_FnSimplifyGroup.l0 k x4 x5 t20 0 x8000))
def laws_FnSimplifyGroup.l0 : Nat → List (S35) → List (S35) → List (List (S35)) → Int → List (S70) → Option (Bool)
 | 0,_,_,_,_,_=>none
 | k + 1,x4,x5,x6,x7,x8000=>if x7 < (x6.length : Int) then (if 0 ≤ x7 then ((impl_SimplifyGroup.f x8000 (rd_L8 x6 x7)).bind fun t24=>((laws_equalGroup.f k t24 (rd_L8 x6 x7)).bind fun t28=>(if t28 = true then (laws_FnSimplifyGroup.l0 k x4 x5 x6 (wrap64 (x7 + 1)) x8000) else (some false)))) else (none)) else (if (x6.length : Int) = 1 then (some false) else ((impl_LeavesOf.f k x8000 x5).bind fun t29=>((impl_LeavesOf.f k x8000 x4).bind fun t32=>((laws_equalLeaves.f k t29 t32).bind fun t35=>(if t35 = true then ((impl_SimplifyGroup.f x8000 x5).bind fun t36=>((laws_equalGroup.f k t36 x5).bind fun t39=>(if t39 = true then ((impl_ValidGroup.f k x8000 x5).bind fun t40=>(some t40)) else (some false)))) else (some false))))))
end
def laws_FnSimplifyGroup.f (k : Nat) (l0 : List Int) : Option (Bool):=if (l0.length : Int) > 1048576 then (some true) else ((spec_DrawSimplifyGroup.f k l0).bind fun bt1=>((impl_SimplifyGroup.f bt1.1 bt1.2).bind fun t8=>((spec_SimplifyGroup.f k bt1.1 bt1.2).bind fun t11=>((laws_equalGroup.f k t8 t11).bind fun t14=>(if t14 = true then ((impl_ValidGroup.f k bt1.1 bt1.2).bind fun t15=>(laws_FnSimplifyGroup.j0 k bt1.2 t8 (!t15) bt1.1)) else (laws_FnSimplifyGroup.j0 k bt1.2 t8 true bt1.1))))))
theorem laws_FnSimplifyGroup.mono_l : ∀ k,(∀ y0 y1 y2 y3,LeO (laws_FnSimplifyGroup.j0 k y0 y1 y2 y3) (laws_FnSimplifyGroup.j0 (k + 1) y0 y1 y2 y3)) ∧ (∀ y0 y1 y2 y3 y4,LeO (laws_FnSimplifyGroup.l0 k y0 y1 y2 y3 y4) (laws_FnSimplifyGroup.l0 (k + 1) y0 y1 y2 y3 y4))
 | 0=>⟨fun _ _ _ _ r h=>by simp [laws_FnSimplifyGroup.j0] at h,fun _ _ _ _ _ r h=>by simp [laws_FnSimplifyGroup.l0] at h⟩
 | k + 1=>by
  obtain ⟨ih0,ih1⟩:=laws_FnSimplifyGroup.mono_l k
  refine ⟨?_,?_⟩
  ·intro y0 y1 y2 y3
   unfold laws_FnSimplifyGroup.j0
   repeat' first
   | (with_reducible exact ih0 _ _ _ _)
   | (with_reducible exact ih1 _ _ _ _ _)
   | (with_reducible exact impl_KidsOf.mono _ _ _)
   | (with_reducible exact impl_LeavesOf.mono _ _ _)
   | (with_reducible exact impl_ValidGroup.mono _ _ _)
   | (with_reducible exact laws_equalGroup.mono _ _ _)
   | (with_reducible exact laws_equalLeaves.mono _ _ _)
   | (with_reducible exact spec_DrawSimplifyGroup.mono _ _)
   | (with_reducible exact spec_SimplifyGroup.mono _ _ _)
   | (with_reducible exact LeO.refl _)
   | (with_reducible exact LeO.none _)
   | (with_reducible refine LeO.ite ?_ ?_)
   | (with_reducible refine LeO.bind ?_ (fun _=>?_))
   | exact ih0 _ _ _ _
   | exact ih1 _ _ _ _ _
   | exact impl_KidsOf.mono _ _ _
   | exact impl_LeavesOf.mono _ _ _
   | exact impl_ValidGroup.mono _ _ _
   | exact laws_equalGroup.mono _ _ _
   | exact laws_equalLeaves.mono _ _ _
   | exact spec_DrawSimplifyGroup.mono _ _
   | exact spec_SimplifyGroup.mono _ _ _
   | exact LeO.none _
   | refine LeO.ite ?_ ?_
   | refine LeO.bind ?_ (fun _=>?_)
  ·intro y0 y1 y2 y3 y4
   unfold laws_FnSimplifyGroup.l0
   repeat' first
   | (with_reducible exact ih0 _ _ _ _)
   | (with_reducible exact ih1 _ _ _ _ _)
   | (with_reducible exact impl_KidsOf.mono _ _ _)
   | (with_reducible exact impl_LeavesOf.mono _ _ _)
   | (with_reducible exact impl_ValidGroup.mono _ _ _)
   | (with_reducible exact laws_equalGroup.mono _ _ _)
   | (with_reducible exact laws_equalLeaves.mono _ _ _)
   | (with_reducible exact spec_DrawSimplifyGroup.mono _ _)
   | (with_reducible exact spec_SimplifyGroup.mono _ _ _)
   | (with_reducible exact LeO.refl _)
   | (with_reducible exact LeO.none _)
   | (with_reducible refine LeO.ite ?_ ?_)
   | (with_reducible refine LeO.bind ?_ (fun _=>?_))
   | exact ih0 _ _ _ _
   | exact ih1 _ _ _ _ _
   | exact impl_KidsOf.mono _ _ _
   | exact impl_LeavesOf.mono _ _ _
   | exact impl_ValidGroup.mono _ _ _
   | exact laws_equalGroup.mono _ _ _
   | exact laws_equalLeaves.mono _ _ _
   | exact spec_DrawSimplifyGroup.mono _ _
   | exact spec_SimplifyGroup.mono _ _ _
   | exact LeO.none _
   | refine LeO.ite ?_ ?_
   | refine LeO.bind ?_ (fun _=>?_)
theorem laws_FnSimplifyGroup.mono : ∀ a0 k,LeO (laws_FnSimplifyGroup.f k a0) (laws_FnSimplifyGroup.f (k + 1) a0):=by
 intro a0 k
 obtain ⟨ih0,ih1⟩:=laws_FnSimplifyGroup.mono_l k
 unfold laws_FnSimplifyGroup.f
 repeat' first
   | (with_reducible exact ih0 _ _ _ _)
   | (with_reducible exact ih1 _ _ _ _ _)
   | (with_reducible exact impl_KidsOf.mono _ _ _)
   | (with_reducible exact impl_LeavesOf.mono _ _ _)
   | (with_reducible exact impl_ValidGroup.mono _ _ _)
   | (with_reducible exact laws_equalGroup.mono _ _ _)
   | (with_reducible exact laws_equalLeaves.mono _ _ _)
   | (with_reducible exact spec_DrawSimplifyGroup.mono _ _)
   | (with_reducible exact spec_SimplifyGroup.mono _ _ _)
   | (with_reducible exact LeO.refl _)
   | (with_reducible exact LeO.none _)
   | (with_reducible refine LeO.ite ?_ ?_)
   | (with_reducible refine LeO.bind ?_ (fun _=>?_))
   | exact ih0 _ _ _ _
   | exact ih1 _ _ _ _ _
   | exact impl_KidsOf.mono _ _ _
   | exact impl_LeavesOf.mono _ _ _
   | exact impl_ValidGroup.mono _ _ _
   | exact laws_equalGroup.mono _ _ _
   | exact laws_equalLeaves.mono _ _ _
   | exact spec_DrawSimplifyGroup.mono _ _
   | exact spec_SimplifyGroup.mono _ _ _
   | exact LeO.none _
   | refine LeO.ite ?_ ?_
   | refine LeO.bind ?_ (fun _=>?_)
def laws_FnSimplifyGroup.T11 : Bool × List (List Nat × List Nat):=(true,[([],[]),([],[]),([],[]),([1,2],[1,2]),([3],[3]),([0,4],[0,4]),([],[]),([],[]),([6,7],[6,7]),([8],[8]),([5,9,5],[5,9]),([10],[10])])
def laws_FnSimplifyGroup.B11 : List Nat:=[0,0,0,6,14,31,0,0,192,448,1023,2047]
theorem laws_FnSimplifyGroup.tab11 : rtab .any (opsOf Try.f5 11) = laws_FnSimplifyGroup.T11:=by kernel_rfl
theorem laws_FnSimplifyGroup.bits11 : waitsOk laws_FnSimplifyGroup.T11.2 laws_FnSimplifyGroup.B11 = true:=by kernel_rfl
def laws_FnSimplifyGroup.T13 : Bool × List (List Nat × List Nat):=(true,[([],[]),([0],[0]),([1],[1]),([2],[2]),([3],[3]),([3],[3]),([4,5,3,3],[3,4,5]),([3],[3]),([3],[3]),([7,8,6,3],[3,7,8]),([6,9,9,3],[3,6,9]),([3,10],[3,10]),([11,10],[11]),([12],[12]),([12],[12]),([13,14,12,12],[12,13,14]),([12],[12]),([15,16,15,12],[12,15,16]),([12,17],[12,17]),([18,17],[18]),([19],[19]),([19],[19]),([20,21,19,19],[19,20,21]),([19,22],[19,22]),([23,22,0,1,2,3,4,5,6,7,8,9,10,11,12,13,14,15,16,17,18,19,20,21,22,23],[23])])
def laws_FnSimplifyGroup.B13 : List Nat:=[0,1,3,7,15,15,63,15,15,511,1023,2047,4095,8191,8191,32767,8191,131071,262143,524287,1048575,1048575,4194303,8388607,16777215]
theorem laws_FnSimplifyGroup.tab13 : rtab .any (opsOf Try.f5 13) = laws_FnSimplifyGroup.T13:=by kernel_rfl
theorem laws_FnSimplifyGroup.bits13 : waitsOk laws_FnSimplifyGroup.T13.2 laws_FnSimplifyGroup.B13 = true:=by kernel_rfl
set_option maxHeartbeats 8000000 in
set_option maxRecDepth 100000 in
theorem laws_FnSimplifyGroup.calls (k : Nat) (A0 : Option Addr) (c0 : Nat) (l0 : List Int) (r : Bool) (w : World) (hr0 : Kd.C (Kd.int .u8) w A0 l0.length l0) (hc0 : l0.length ≤ c0) (h : laws_FnSimplifyGroup.f k l0 = some r) :
  Calls Try.prog 5 #[.slice A0 l0.length c0] w fun e w'=>e = .returned (.bool r) ∧ Below w.heap.size w w':=by
 have hu25:=Try.underlying25
 have HR0:=a0_ hr0
 have HC0:=a0_ hc0
 clear hr0 hc0
 have HB:=a0_ (Below.refl w.heap.size w)
 have H : (if (l0.length : Int) > 1048576 then (some true) else ((spec_DrawSimplifyGroup.f k l0).bind fun bt1=>((impl_SimplifyGroup.f bt1.1 bt1.2).bind fun t8=>((spec_SimplifyGroup.f k bt1.1 bt1.2).bind fun t11=>((laws_equalGroup.f k t8 t11).bind fun t14=>(if t14 = true then ((impl_ValidGroup.f k bt1.1 bt1.2).bind fun t15=>(laws_FnSimplifyGroup.j0 k bt1.2 t8 (!t15) bt1.1)) else (laws_FnSimplifyGroup.j0 k bt1.2 t8 true bt1.1))))))) = some r:=h
 clear h
 by_cases c2 : (l0.length : Int) > 1048576
 ·rw [if_pos c2] at H
  have c2b0 : decide (1048576 < (l0.length : Int)) = true:=decide_eq_true c2
  have c2b1 : decide (1048576 < l0.length) = true:=decide_eq_true (by omega)
  clear c2
  obtain rfl:=Option.some.inj H
  go_enter Try.func5,Try.ntmps5
  go_wp2
  go_ret
  exact ⟨by first | rfl | (simp [errW_none,errW_some] <;> rfl) | (simp [*,errW_none,errW_some] <;> rfl),hb_⟩
 ·rw [if_neg c2] at H
  have c2b0 : decide (1048576 < (l0.length : Int)) = false:=decide_eq_false c2
  have c2b1 : decide (1048576 < l0.length) = false:=decide_eq_false (by omega)
  clear c2
  replace H:=Option.bind_eq_some_iff.mp H
  obtain ⟨⟨t1,t4⟩,A30,H⟩:=H
  try dsimp only at H
  have A3:=a0_ A30
  clear A30
  replace H:=Option.bind_eq_some_iff.mp H
  obtain ⟨t8,A40,H⟩:=H
  try dsimp only at H
  have A4:=a0_ A40
  clear A40
  have HC5:=a0_ H
  clear H
  go_enter Try.func5,Try.ntmps5
  go_upto_region 5 with (first | ((with_reducible refine gate_callee (f:=14) rfl ?_);refine goesL_ (some 13) rfl rfl Try.func14 (by kernel_rfl) rfl #[.slice A0 l0.length c0] rfl lm_ ?_;(with_reducible refine (spec_DrawSimplifyGroup.calls k _ _ l0 t1 t4 _ ?side1 ?side2 A3.out).mono ?_);(case side1=>repeat (first | exact HR0.out | (with_reducible refine Kd.C_alloc ?_ _) | (with_reducible refine Kd.C_drewN ?_ _) | (with_reducible refine Kd.C_drew ?_)));(case side2=>exact HC0.out);rintro e w6 ⟨v2,v5,rfl,ho0,ho1,hb⟩;refine ⟨_,rfl,?_⟩;have HO3:=a0_ (Kd.R_lower ho0 (below_size hb_));have HO6:=a0_ (Kd.R_lower ho1 (below_size hb_));replace HB:=a0_ (below_step hb_ hb);(try clear hb);(try clear ho0);(try clear ho1)) | ((with_reducible refine gate_dst (N:=3) rfl ?_);refine box_event ?hg (N:=3) ?hd (cs:=#[.slice none 0 0]) (t:=25) ?hr ?_;(case hd=>rfl);(case hg=>rfl);(case hr=>first | (go_simp;done) | (go_simp;rfl));intro gb7 hg w7 hbox hb;replace HO3:=rb_ HO3 hb;replace HO6:=rb_ HO6 hb;have BK7:=a0_ (hbox);have GW7:=a0_ ((by rw [hg];exact (below_size hb_) : w.heap.size ≤ gb7));have GE7:=a0_ ((by rw [hg];exact (below_size hb_) : w.heap.size ≤ gb7));replace HB:=a0_ (below_step hb_ hb);clear hb hbox hg;obtain ⟨Ao8,co8,eo8⟩:=Kd.R_slice HO3.out;subst eo8;have hcz9_0 : w7.cell? ⟨gb7,0,none⟩ = some (.slice none 0 0):=(blk_cell BK7.out 0).trans rfl;have hfz9_0:=blk_frozen BK7.out 0;obtain ⟨Ao10,co10,eo10⟩:=Kd.R_slice HO6.out;subst eo10) | ((with_reducible refine gate_callee (f:=15) rfl ?_);refine goesL_ (some 18) rfl rfl Try.func15 (by kernel_rfl) rfl #[.agg #[.slice Ao8 t1.length co8],.slice Ao10 t4.length co10] rfl lm_ ?_;(with_reducible refine (impl_SimplifyGroup.calls _ _ t1 _ _ t4 t8 _ ?side1 ?side2 ?side3 ?side4 A4.out).mono ?_);(case side1=>refine (Kd.R_reads' (e:=70) (base:=w.heap.size) (ok:=fun k_=>True) (n:=t1.length) (c:=co8) ?_).2.2;exact (by (with_reducible repeat (first | apply Kd.R_alloc | apply Kd.R_drewN | apply Kd.R_drew));exact (Kd.R_mono (Kd.R_far (p:=⟨gb7,0,none⟩) (Kd.R_types HO3.out BK7.out (by decide)) (fun _ hk=>hk.2) (.slice Ao8 t1.length co8)) (fun _ h_=>h_.1))));(case side2=>exact (Kd.R_reads' HO3.out).2.1);(case side3=>refine (Kd.R_reads' (e:=35) (base:=w.heap.size) (ok:=fun k_=>True) (n:=t4.length) (c:=co10) ?_).2.2;exact (by (with_reducible repeat (first | apply Kd.R_alloc | apply Kd.R_drewN | apply Kd.R_drew));exact (Kd.R_mono (Kd.R_far (p:=⟨gb7,0,none⟩) (Kd.R_types HO6.out BK7.out (by decide)) (fun _ hk=>hk.2) (.slice Ao8 t1.length co8)) (fun _ h_=>h_.1))));(case side4=>exact (Kd.R_reads' HO6.out).2.1);rintro e w11 ⟨v9,rfl,ho0,hb⟩;refine ⟨_,rfl,?_⟩;have n0_:=a0_ (Kd.R_below (by (with_reducible repeat (first | apply Kd.R_alloc | apply Kd.R_drewN | apply Kd.R_drew));exact (Kd.R_mono (Kd.R_far (p:=⟨gb7,0,none⟩) (Kd.R_types HO3.out BK7.out (by decide)) (fun _ hk=>hk.2) (.slice Ao8 t1.length co8)) (fun _ h_=>h_.1))) hb);have n1_:=a0_ (Kd.R_elder' (by (with_reducible repeat (first | apply Kd.R_alloc | apply Kd.R_drewN | apply Kd.R_drew));exact (Kd.R_mono (Kd.R_far (p:=⟨gb7,0,none⟩) (Kd.R_types HO6.out BK7.out (by decide)) (fun _ hk=>hk.2) (.slice Ao8 t1.length co8)) (fun _ h_=>h_.1))) (Kd.R_base ho0) hb);have n2_:=a0_ (Kd.R_lower (Kd.R_new' ho0 (Kd.R_lt (by (with_reducible repeat (first | apply Kd.R_alloc | apply Kd.R_drewN | apply Kd.R_drew));exact (Kd.R_mono (Kd.R_far (p:=⟨gb7,0,none⟩) (Kd.R_types HO6.out BK7.out (by decide)) (fun _ hk=>hk.2) (.slice Ao8 t1.length co8)) (fun _ h_=>h_.1))))) (below_size hb_));have n3_:=a0_ (blk_below (g:=gb7) (o:=.cells #[.slice Ao8 t1.length co8] 25 (0,0)) (by (with_reducible repeat (first | refine blk_drewN ?_ _ | refine blk_drew ?_ | refine blk_alloc ?_ _));refine blk_put (cs:=#[.slice none 0 0]) ?_ 0 _ rfl;(with_reducible repeat (first | refine blk_drewN ?_ _ | refine blk_drew ?_ | refine blk_alloc ?_ _));exact BK7.out) hb);have n4_:=a0_ (below_step hb_ hb);clear HO3 HO6;clear BK7 HB;have HO3:=n0_;have HO6:=n1_;have HO10:=n2_;have BK7:=n3_;have HB:=n4_;clear n0_ n1_ n2_ n3_ n4_;(try clear hb);(try clear ho0)))
  (try simp only [Act.put,s1_,s2_,s3_])
  go_cut [30] (fun v30 wc=>∃ (kq : Nat) (x30_4 : Bool),v30 = .bool x30_4 ∧ Aside0 (laws_FnSimplifyGroup.j0 kq t4 t8 x30_4 t1 = some r) ∧ Aside0 (kq ≤ k) ∧ Aside0 (Kd.R k35 35 wc w.heap.size (fun k_=>some k_ ≠ (v9 : Value).ownBlock) (.slice Ao10 t4.length co10) t4) ∧ Aside0 (Kd.R k35 35 wc w.heap.size (fun k_=>some k_ ≠ ((.slice Ao10 t4.length co10) : Value).ownBlock) v9 t8) ∧ Aside0 (Kd.R k70 70 wc w.heap.size (fun _=>True) (.slice Ao8 t1.length co8) t1) ∧ Aside0 (wc.heap[gb7]? = some (.cells #[(.slice Ao8 t1.length co8)] 25 (0,0))) ∧ Aside0 (Below w.heap.size w wc))
  case first =>
   have H:=HC5.out
   clear HC5
   replace H:=Option.bind_eq_some_iff.mp H
   obtain ⟨t11,A120,H⟩:=H
   try dsimp only at H
   have A12:=a0_ A120
   clear A120
   replace H:=Option.bind_eq_some_iff.mp H
   obtain ⟨t14,A130,H⟩:=H
   try dsimp only at H
   have A13:=a0_ A130
   clear A130
   by_cases c14 : t14 = true
   ·subst c14
    have H1 : ((impl_ValidGroup.f k t1 t4).bind fun t15=>(laws_FnSimplifyGroup.j0 k t4 t8 (!t15) t1)) = some r:=by rw [if_pos rfl] at H;exact H
    clear H
    have H:=H1
    clear H1
    replace H:=Option.bind_eq_some_iff.mp H
    obtain ⟨t15,A150,H⟩:=H
    replace H : (laws_FnSimplifyGroup.j0 k t4 t8 (!t15) t1) = some r:=H
    have A15:=a0_ A150
    clear A150
    have H':=a0_ H
    clear H
    have hcz16_0 : w11.cell? ⟨gb7,0,none⟩ = some (.slice Ao8 t1.length co8):=(blk_cell BK7.out 0).trans rfl
    have hfz16_0:=blk_frozen BK7.out 0
    go_wp2_with (first | ((with_reducible refine gate_callee (f:=16) rfl ?_);refine goesL_ (some 22) rfl rfl Try.func16 (by kernel_rfl) rfl #[.agg #[.slice Ao8 t1.length co8],.slice Ao10 t4.length co10] rfl lm_ ?_;(with_reducible refine (spec_SimplifyGroup.calls k _ _ t1 _ _ t4 t11 _ ?side1 ?side2 ?side3 ?side4 A12.out).mono ?_);(case side1=>exact cc_ (Kd.R_reads' HO3.out).2.2);(case side2=>exact (Kd.R_reads' HO3.out).2.1);(case side3=>exact cc_ (Kd.R_reads' HO6.out).2.2);(case side4=>exact (Kd.R_reads' HO6.out).2.1);rintro e w17 ⟨v12,rfl,ho0,hb⟩;refine ⟨_,rfl,?_⟩;have n0_:=rb_ HO3 hb;have n1_:=a0_ (Kd.R_elder' (rr_ HO6.out) (Kd.R_base ho0) hb);have n2_:=a0_ (Kd.R_elder' (rr_ HO10.out) (Kd.R_base ho0) hb);have n3_:=a0_ (Kd.R_lower (Kd.R_new' (Kd.R_new' ho0 (Kd.R_lt (rr_ HO6.out))) (Kd.R_lt (rr_ HO10.out))) (below_size hb_));have n4_:=kb_ BK7 hb;have n5_:=a0_ (below_step hb_ hb);clear HO3 HO6;clear HO10 BK7 HB;have HO3:=n0_;have HO6:=n1_;have HO10:=n2_;have HO13:=n3_;have BK7:=n4_;have HB:=n5_;clear n0_ n1_ n2_ n3_ n4_ n5_;(try clear hb);(try clear ho0);obtain ⟨Ao18,co18,eo18⟩:=Kd.R_slice HO10.out;subst eo18;obtain ⟨Ao19,co19,eo19⟩:=Kd.R_slice HO13.out;subst eo19) | ((with_reducible refine gate_callee (f:=11) rfl ?_);refine goesL_ (some 23) rfl rfl Try.func11 (by kernel_rfl) rfl #[.slice Ao18 t8.length co18,.slice Ao19 t11.length co19] rfl lm_ ?_;(with_reducible refine (laws_equalGroup.calls k _ _ t8 _ _ t11 true _ ?side1 ?side2 ?side3 ?side4 A13.out).mono ?_);(case side1=>exact cc_ (Kd.R_reads' HO10.out).2.2);(case side2=>exact (Kd.R_reads' HO10.out).2.1);(case side3=>exact cc_ (Kd.R_reads' HO13.out).2.2);(case side4=>exact (Kd.R_reads' HO13.out).2.1);rintro e w' ⟨rfl,⟨nd,rfl⟩⟩;refine ⟨_,rfl,?_⟩;have hcz20_0 : w17.cell? ⟨gb7,0,none⟩ = some (.slice Ao8 t1.length co8):=(blk_cell BK7.out 0).trans rfl;have hfz20_0:=blk_frozen BK7.out 0) | (go_at_call 17;(with_reducible refine (impl_ValidGroup.calls k _ _ t1 _ _ t4 t15 _ ?side1 ?side2 ?side3 ?side4 A15.out).mono ?_);(case side1=>exact cc_ (Kd.R_reads' HO3.out).2.2);(case side2=>exact (Kd.R_reads' HO3.out).2.1);(case side3=>exact cc_ (Kd.R_reads' HO6.out).2.2);(case side4=>exact (Kd.R_reads' HO6.out).2.1);rintro e w21 ⟨rfl,hb⟩;replace HO3:=rb_ HO3 hb;replace HO6:=rb_ HO6 hb;replace HO10:=rb_ HO10 hb;replace HO13:=rb_ HO13 hb;replace BK7:=kb_ BK7 hb;replace HB:=a0_ (below_step hb_ hb);(try clear hb);(try clear hb2);(try clear hk);(try clear hi)))
    go_meet
    case rel=>exact ⟨_,(!t15),(by first | rfl | (simp;done) | (simp [*];done)),H',⟨by first | omega | exact Nat.le_refl _⟩,⟨by (with_reducible repeat (first | apply Kd.R_alloc | apply Kd.R_drewN | apply Kd.R_drew));exact Kd.R_mono HO6.out (fun _ hk=>hk.1.2)⟩,⟨by (with_reducible repeat (first | apply Kd.R_alloc | apply Kd.R_drewN | apply Kd.R_drew));exact Kd.R_mono HO10.out (fun _ hk=>hk.1.2)⟩,⟨by (with_reducible repeat (first | apply Kd.R_alloc | apply Kd.R_drewN | apply Kd.R_drew));exact HO3.out⟩,⟨by (with_reducible repeat (first | refine blk_drewN ?_ _ | refine blk_drew ?_ | refine blk_alloc ?_ _));exact BK7.out⟩,⟨hb_⟩⟩
   ·replace c14:=Bool.eq_false_iff.mpr c14
    subst c14
    have H1 : (laws_FnSimplifyGroup.j0 k t4 t8 true t1) = some r:=by rw [if_neg (show ¬ (false = true) by decide)] at H;exact H
    clear H
    have H:=H1
    clear H1
    have H':=a0_ H
    clear H
    have hcz22_0 : w11.cell? ⟨gb7,0,none⟩ = some (.slice Ao8 t1.length co8):=(blk_cell BK7.out 0).trans rfl
    have hfz22_0:=blk_frozen BK7.out 0
    go_wp2_with (first | ((with_reducible refine gate_callee (f:=16) rfl ?_);refine goesL_ (some 22) rfl rfl Try.func16 (by kernel_rfl) rfl #[.agg #[.slice Ao8 t1.length co8],.slice Ao10 t4.length co10] rfl lm_ ?_;(with_reducible refine (spec_SimplifyGroup.calls k _ _ t1 _ _ t4 t11 _ ?side1 ?side2 ?side3 ?side4 A12.out).mono ?_);(case side1=>exact cc_ (Kd.R_reads' HO3.out).2.2);(case side2=>exact (Kd.R_reads' HO3.out).2.1);(case side3=>exact cc_ (Kd.R_reads' HO6.out).2.2);(case side4=>exact (Kd.R_reads' HO6.out).2.1);rintro e w23 ⟨v12,rfl,ho0,hb⟩;refine ⟨_,rfl,?_⟩;have n0_:=rb_ HO3 hb;have n1_:=a0_ (Kd.R_elder' (rr_ HO6.out) (Kd.R_base ho0) hb);have n2_:=a0_ (Kd.R_elder' (rr_ HO10.out) (Kd.R_base ho0) hb);have n3_:=a0_ (Kd.R_lower (Kd.R_new' (Kd.R_new' ho0 (Kd.R_lt (rr_ HO6.out))) (Kd.R_lt (rr_ HO10.out))) (below_size hb_));have n4_:=kb_ BK7 hb;have n5_:=a0_ (below_step hb_ hb);clear HO3 HO6;clear HO10 BK7 HB;have HO3:=n0_;have HO6:=n1_;have HO10:=n2_;have HO13:=n3_;have BK7:=n4_;have HB:=n5_;clear n0_ n1_ n2_ n3_ n4_ n5_;(try clear hb);(try clear ho0);obtain ⟨Ao24,co24,eo24⟩:=Kd.R_slice HO10.out;subst eo24;obtain ⟨Ao25,co25,eo25⟩:=Kd.R_slice HO13.out;subst eo25) | ((with_reducible refine gate_callee (f:=11) rfl ?_);refine goesL_ (some 23) rfl rfl Try.func11 (by kernel_rfl) rfl #[.slice Ao24 t8.length co24,.slice Ao25 t11.length co25] rfl lm_ ?_;(with_reducible refine (laws_equalGroup.calls k _ _ t8 _ _ t11 false _ ?side1 ?side2 ?side3 ?side4 A13.out).mono ?_);(case side1=>exact cc_ (Kd.R_reads' HO10.out).2.2);(case side2=>exact (Kd.R_reads' HO10.out).2.1);(case side3=>exact cc_ (Kd.R_reads' HO13.out).2.2);(case side4=>exact (Kd.R_reads' HO13.out).2.1);rintro e w' ⟨rfl,⟨nd,rfl⟩⟩;refine ⟨_,rfl,?_⟩))
    go_meet
    case rel=>exact ⟨_,(true),(by first | rfl | (simp;done) | (simp [*];done)),H',⟨by first | omega | exact Nat.le_refl _⟩,⟨by (with_reducible repeat (first | apply Kd.R_alloc | apply Kd.R_drewN | apply Kd.R_drew));exact Kd.R_mono HO6.out (fun _ hk=>hk.1.2)⟩,⟨by (with_reducible repeat (first | apply Kd.R_alloc | apply Kd.R_drewN | apply Kd.R_drew));exact Kd.R_mono HO10.out (fun _ hk=>hk.1.2)⟩,⟨by (with_reducible repeat (first | apply Kd.R_alloc | apply Kd.R_drewN | apply Kd.R_drew));exact HO3.out⟩,⟨by (with_reducible repeat (first | refine blk_drewN ?_ _ | refine blk_drew ?_ | refine blk_alloc ?_ _));exact BK7.out⟩,⟨hb_⟩⟩
  case rest =>
   clear HC5
   try clear c1
   try clear c2
   try clear c2b0
   try clear c2b1
   try clear p2
   try clear c5
   try clear c11
   try clear c14
   try clear c15
   try clear c16
   try clear hcz16_0
   try clear hcz20_0
   try clear hcz22_0
   try clear hcz9_0
   try clear hfz16_0
   try clear hfz20_0
   try clear hfz22_0
   try clear hfz9_0
   obtain ⟨kq,x30_4,rfl,HA,HJ4,HO_4,HO_5,Z8,BK7,HB⟩:=hcut
   cases kq with
   | zero=>exact absurd HA.out (by simp [laws_FnSimplifyGroup.j0])
   | succ kj4 =>
    have H:=HA.out
    clear HA
    simp only [laws_FnSimplifyGroup.j0] at H
    by_cases c26 : x30_4 = true
    ·subst c26
     have H1 : ((spec_SimplifyGroup.f kj4 t1 t4).bind fun t16=>((laws_equalGroup.f kj4 t8 t16).bind fun t19=>(some t19))) = some r:=by rw [if_pos rfl] at H;exact H
     clear H
     have H:=H1
     clear H1
     replace H:=Option.bind_eq_some_iff.mp H
     obtain ⟨t16,A270,H⟩:=H
     try dsimp only at H
     have A27:=a0_ A270
     clear A270
     replace H:=Option.bind_eq_some_iff.mp H
     obtain ⟨t19,A280,H⟩:=H
     replace H : (some t19) = some r:=H
     have A28:=a0_ A280
     clear A280
     obtain rfl:=Option.some.inj H
     have hcz29_0 : wc.cell? ⟨gb7,0,none⟩ = some (.slice Ao8 t1.length co8):=(blk_cell BK7.out 0).trans rfl
     have hfz29_0:=blk_frozen BK7.out 0
     go_wp2_with (first | ((with_reducible refine gate_callee (f:=16) rfl ?_);refine goesL_ (some 34) rfl rfl Try.func16 (by kernel_rfl) rfl #[.agg #[.slice Ao8 t1.length co8],.slice Ao10 t4.length co10] rfl lm_ ?_;(with_reducible refine (spec_SimplifyGroup.calls kj4 _ _ t1 _ _ t4 t16 _ ?side1 ?side2 ?side3 ?side4 A27.out).mono ?_);(case side1=>exact cc_ (Kd.R_reads' Z8.out).2.2);(case side2=>exact (Kd.R_reads' Z8.out).2.1);(case side3=>exact cc_ (Kd.R_reads' HO_4.out).2.2);(case side4=>exact (Kd.R_reads' HO_4.out).2.1);rintro e w30 ⟨v17,rfl,ho0,hb⟩;refine ⟨_,rfl,?_⟩;have n0_:=a0_ (Kd.R_elder' (rr_ HO_4.out) (Kd.R_base ho0) hb);have n1_:=a0_ (Kd.R_elder' (rr_ HO_5.out) (Kd.R_base ho0) hb);have n2_:=rb_ Z8 hb;have n3_:=a0_ (Kd.R_lower (Kd.R_new' (Kd.R_new' ho0 (Kd.R_lt (rr_ HO_4.out))) (Kd.R_lt (rr_ HO_5.out))) (below_size hb_));have n4_:=kb_ BK7 hb;have n5_:=a0_ (below_step hb_ hb);clear HO_4 HO_5;clear Z8 BK7 HB;have HO_4:=n0_;have HO_5:=n1_;have Z8:=n2_;have HO18:=n3_;have BK7:=n4_;have HB:=n5_;clear n0_ n1_ n2_ n3_ n4_ n5_;(try clear hb);(try clear ho0);obtain ⟨Ao31,co31,eo31⟩:=Kd.R_slice HO_5.out;subst eo31;obtain ⟨Ao32,co32,eo32⟩:=Kd.R_slice HO18.out;subst eo32) | ((with_reducible refine gate_callee (f:=11) rfl ?_);refine goesL_ (some 35) rfl rfl Try.func11 (by kernel_rfl) rfl #[.slice Ao31 t8.length co31,.slice Ao32 t16.length co32] rfl lm_ ?_;(with_reducible refine (laws_equalGroup.calls kj4 _ _ t8 _ _ t16 t19 _ ?side1 ?side2 ?side3 ?side4 A28.out).mono ?_);(case side1=>exact cc_ (Kd.R_reads' HO_5.out).2.2);(case side2=>exact (Kd.R_reads' HO_5.out).2.1);(case side3=>exact cc_ (Kd.R_reads' HO18.out).2.2);(case side4=>exact (Kd.R_reads' HO18.out).2.1);rintro e w' ⟨rfl,⟨nd,rfl⟩⟩;refine ⟨_,rfl,?_⟩))
     go_ret
     exact ⟨by first | rfl | (simp [errW_none,errW_some] <;> rfl) | (simp [*,errW_none,errW_some] <;> rfl),hb_⟩
    ·replace c26:=Bool.eq_false_iff.mpr c26
     subst c26
     have H1 : ((impl_KidsOf.f kj4 t1 t8).bind fun t20=>(laws_FnSimplifyGroup.l0 kj4 t4 t8 t20 0 t1)) = some r:=by rw [if_neg (show ¬ (false = true) by decide)] at H;exact H
     clear H
     have H:=H1
     clear H1
     replace H:=Option.bind_eq_some_iff.mp H
     obtain ⟨t20,A330,H⟩:=H
     replace H : (laws_FnSimplifyGroup.l0 kj4 t4 t8 t20 0 t1) = some r:=H
     have A33:=a0_ A330
     clear A330
     have H':=a0_ H
     clear H
     have hcz34_0 : wc.cell? ⟨gb7,0,none⟩ = some (.slice Ao8 t1.length co8):=(blk_cell BK7.out 0).trans rfl
     have hfz34_0:=blk_frozen BK7.out 0
     obtain ⟨Ao35,co35,eo35⟩:=Kd.R_slice HO_5.out
     subst eo35
     go_wp2_with (first | ((with_reducible refine gate_callee (f:=7) rfl ?_);refine goesL_ (some 38) rfl rfl Try.func7 (by kernel_rfl) rfl #[.agg #[.slice Ao8 t1.length co8],.slice Ao35 t8.length co35] rfl lm_ ?_;(with_reducible refine (impl_KidsOf.calls kj4 _ _ t1 _ _ t8 t20 _ ?side1 ?side2 ?side3 ?side4 A33.out).mono ?_);(case side1=>exact cc_ (Kd.R_reads' Z8.out).2.2);(case side2=>exact (Kd.R_reads' Z8.out).2.1);(case side3=>exact cc_ (Kd.R_reads' HO_5.out).2.2);(case side4=>exact (Kd.R_reads' HO_5.out).2.1);rintro e w36 ⟨v21,rfl,ho0,hb⟩;refine ⟨_,rfl,?_⟩;have n0_:=rb_ HO_4 hb;have n1_:=rb_ HO_5 hb;have n2_:=rb_ Z8 hb;have n3_:=a0_ (Kd.S_lower (Kd.S_new' (Kd.S_new' ho0 (Kd.R_lt (rr_ HO_4.out))) (Kd.R_lt (rr_ HO_5.out))) (below_size hb_));have n4_:=kb_ BK7 hb;have n5_:=a0_ (below_step hb_ hb);clear HO_4 HO_5;clear Z8 BK7 HB;have HO_4:=n0_;have HO_5:=n1_;have Z8:=n2_;have HO22:=n3_;have BK7:=n4_;have HB:=n5_;clear n0_ n1_ n2_ n3_ n4_ n5_;(try clear hb);(try clear ho0)))
     go_loopg [7] kj4 (fun kq v7 w'=>∃ (x7_2 : Int),v7 = .int .i64 x7_2 ∧ Aside0 (laws_FnSimplifyGroup.l0 kq t4 t8 t20 x7_2 t1 = some r) ∧ Aside0 (kq ≤ kj4) ∧ Aside0 (Kd.R k35 35 w' w.heap.size (fun k_=>some k_ ≠ ((.slice Ao35 t8.length co35) : Value).ownBlock) (.slice Ao10 t4.length co10) t4) ∧ Aside0 (Kd.R k35 35 w' w.heap.size (fun k_=>some k_ ≠ ((.slice Ao10 t4.length co10) : Value).ownBlock) (.slice Ao35 t8.length co35) t8) ∧ Aside0 (Kd.S (Kd.slice 35 k35) 26 w' w.heap.size (fun k_=>some k_ ≠ ((.slice Ao10 t4.length co10) : Value).ownBlock ∧ some k_ ≠ ((.slice Ao35 t8.length co35) : Value).ownBlock) v21 t20) ∧ Aside0 (Kd.R k70 70 w' w.heap.size (fun _=>True) (.slice Ao8 t1.length co8) t1) ∧ Aside0 (w'.heap[gb7]? = some (.cells #[(.slice Ao8 t1.length co8)] 25 (0,0))) ∧ Aside0 (Below w.heap.size w w'))
     case atStart=>exact ⟨(0),(by first | rfl | (simp;done) | (simp [*];done)),H',⟨Nat.le_refl _⟩,⟨by (with_reducible repeat (first | apply Kd.R_alloc | apply Kd.R_drewN | apply Kd.R_drew));exact HO_4.out⟩,⟨by (with_reducible repeat (first | apply Kd.R_alloc | apply Kd.R_drewN | apply Kd.R_drew));exact HO_5.out⟩,⟨by (with_reducible repeat (first | apply Kd.S_alloc | apply Kd.S_drewN | apply Kd.S_drew));exact Kd.S_mono HO22.out (fun _ hk=>⟨hk.1.2,hk.2⟩)⟩,⟨by (with_reducible repeat (first | apply Kd.R_alloc | apply Kd.R_drewN | apply Kd.R_drew));exact Z8.out⟩,⟨by (with_reducible repeat (first | refine blk_drewN ?_ _ | refine blk_drew ?_ | refine blk_alloc ?_ _));exact BK7.out⟩,⟨hb_⟩⟩
     case round =>
      clear H'
      try clear c1
      try clear c2
      try clear c2b0
      try clear c2b1
      try clear p2
      try clear c5
      try clear c7
      try clear c11
      try clear c14
      try clear c15
      try clear c16
      try clear c26
      try clear hcz16_0
      try clear hcz20_0
      try clear hcz22_0
      try clear hcz29_0
      try clear hcz34_0
      try clear hcz9_0
      try clear hfz16_0
      try clear hfz20_0
      try clear hfz22_0
      try clear hfz29_0
      try clear hfz34_0
      try clear hfz9_0
      try clear p2
      obtain ⟨x7_2,rfl,HA,HK2,HO_4,HO_5,HO_6,Z8,BK7,HB⟩:=hrel
      cases gk with
      | zero=>exact absurd HA.out (by simp [laws_FnSimplifyGroup.l0])
      | succ k2 =>
       have H:=HA.out
       clear HA
       simp only [laws_FnSimplifyGroup.l0] at H
       by_cases c37 : x7_2 < (t20.length : Int)
       ·rw [if_pos c37] at H
        have c37b0 : decide (x7_2 < (t20.length : Int)) = true:=decide_eq_true c37
        clear c37
        by_cases c38 : 0 ≤ x7_2
        ·rw [if_pos c38] at H
         have c38b0 : decide (0 ≤ x7_2) = true:=decide_eq_true c38
         clear c38
         replace H:=Option.bind_eq_some_iff.mp H
         obtain ⟨t24,A390,H⟩:=H
         try dsimp only at H
         have A39:=a0_ A390
         clear A390
         replace H:=Option.bind_eq_some_iff.mp H
         obtain ⟨t28,A400,H⟩:=H
         try dsimp only at H
         have A40:=a0_ A400
         clear A400
         by_cases c41 : t28 = true
         ·subst c41
          have H1 : (laws_FnSimplifyGroup.l0 k2 t4 t8 t20 (wrap64 (x7_2 + 1)) t1) = some r:=by rw [if_pos rfl] at H;exact H
          clear H
          have H:=H1
          clear H1
          have H':=a0_ H
          clear H
          obtain ⟨Ao42,co42,eo42⟩:=Kd.S_slice HO_6.out
          subst eo42
          try go_wp2
          have n0_:=a0_ (Kd.R_drew HO_4.out)
          have n1_:=a0_ (Kd.R_drew HO_5.out)
          have n2_:=a0_ (Kd.S_drew HO_6.out)
          have n3_:=a0_ (Kd.R_drew Z8.out)
          have n4_:=a0_ (blk_drew BK7.out)
          have n5_:=a0_ (below_drew1 HB.out)
          clear HO_4
          clear HO_5
          clear HO_6
          clear Z8
          clear BK7
          clear HB
          have HO_4:=n0_
          have HO_5:=n1_
          have HO_6:=n2_
          have Z8:=n3_
          have BK7:=n4_
          have HB:=n5_
          clear n0_ n1_ n2_ n3_ n4_ n5_
          have p23 : 0 ≤ (x7_2 : Int):=of_decide_eq_true (by first | (with_reducible assumption) | assumption)
          have q23 : x7_2 < (t20.length : Int):=of_decide_eq_true (by first | (with_reducible assumption) | assumption)
          obtain ⟨ad23,A23_0,c23_0,e23,hx23_0,hl23_0,hi23_0⟩:=at_L8 (Kd.S_reads' HO_6.out).2.2 x7_2 p23 q23
          cases e23
          obtain ⟨ce23,hce23,hMe23,hcc23⟩:=Kd.S_get HO_6.out [] x7_2 p23 (by first | exact q23 | exact of_decide_eq_true (by first | (with_reducible assumption) | assumption) | (have e_:=(Kd.S_reads' HO_6.out).1;omega))
          obtain ⟨ve23_0,rfl,ge23_0⟩:=hMe23
          have hv23_0:=hcc23 0 _ rfl
          rw [Nat.add_zero,show ((Kd.slice 35 k35)).sz = 1 from rfl,Nat.mul_one] at hv23_0
          replace hv23_0:=Option.some.inj (hv23_0.symm.trans hx23_0)
          rw [hv23_0] at ge23_0
          have HL23_0:=a0_ (show Kd.R k35 35 _ _ _ _ (rd_L8 t20 x7_2) from ge23_0)
          clear hv23_0 ge23_0
          clear hcc23 hce23
          have HR23_0:=a0_ hi23_0
          have HC23_0:=a0_ hl23_0
          clear hi23_0 hl23_0
          replace p23:=eq_true p23
          replace q23:=eq_true q23
          have p27 : 0 ≤ (x7_2 : Int):=of_decide_eq_true (by first | (with_reducible assumption) | assumption)
          have q27 : x7_2 < (t20.length : Int):=of_decide_eq_true (by first | (with_reducible assumption) | assumption)
          obtain ⟨ad27,A27_0,c27_0,e27,hx27_0,hl27_0,hi27_0⟩:=at_L8 (Kd.S_reads' HO_6.out).2.2 x7_2 p27 q27
          obtain rfl : ad23 = ad27:=(by injection e27)
          obtain ⟨ce27,hce27,hMe27,hcc27⟩:=Kd.S_get HO_6.out [] x7_2 p27 (by first | exact q27 | exact of_decide_eq_true (by first | (with_reducible assumption) | assumption) | (have e_:=(Kd.S_reads' HO_6.out).1;omega))
          obtain ⟨ve27_0,rfl,ge27_0⟩:=hMe27
          have hv27_0:=hcc27 0 _ rfl
          rw [Nat.add_zero,show ((Kd.slice 35 k35)).sz = 1 from rfl,Nat.mul_one] at hv27_0
          replace hv27_0:=Option.some.inj (hv27_0.symm.trans hx27_0)
          rw [hv27_0] at ge27_0
          have HL27_0:=a0_ (show Kd.R k35 35 _ _ _ _ (rd_L8 t20 x7_2) from ge27_0)
          clear hv27_0 ge27_0
          clear hcc27 hce27
          have HR27_0:=a0_ hi27_0
          have HC27_0:=a0_ hl27_0
          clear hi27_0 hl27_0
          replace p27:=eq_true p27
          replace q27:=eq_true q27
          have ea_:=Option.some.inj (hx23_0.symm.trans hx27_0)
          injection ea_ with ea_ en_ ec_
          subst ea_
          subst ec_
          clear en_
          refine start_ (n:=12) (S:=fun w'=>w'.cell? ⟨gb7,0,none⟩ = some (.slice Ao8 t1.length co8) ∧ w'.cell? (ad23.add (x7_2).toNat) = some (.slice A23_0 (rd_L8 t20 x7_2).length c23_0) ∧ w'.cell? (ad23.add (x7_2).toNat) = some (.slice A23_0 (rd_L8 t20 x7_2).length c23_0)) (ds:=[]) #[false,false,false,false,false,false,false,false,false,false,false,false] (by kernel_rfl) rfl rfl ⟨(blk_cell BK7.out 0).trans rfl,hx23_0,hx27_0⟩ (fun hHeld=>?_);refine with_tabW laws_FnSimplifyGroup.tab11 laws_FnSimplifyGroup.bits11 (fun HT_ HW_=>?_)
          generalize wr.drew = w43 at HO_4 HO_5 HO_6 Z8 BK7 HB HL23_0 HL27_0 HR23_0 HR27_0 hx23_0 hx27_0 hHeld ⊢
          refine pure_ (i:=1) (N:=some 46) (v:=?_) (a':=?_) #[false,true,false,false,false,false,false,false,false,false,false,false] rfl rfl (any_of HT_.out (by kernel_rfl)) (fun _ _ _ h=>h) (Or.inl ⟨by rfl,?_⟩) ?_ ?_
          rotate_left
          ·intro w'
           go_simp
           with_reducible rfl
          rotate_left
          ·simp only [Act.put,s1_,s2_,s3_,i64_w,i32_w]
           rfl
          refine pure_ (i:=2) (N:=some 47) (v:=?_) (a':=?_) #[false,true,true,false,false,false,false,false,false,false,false,false] rfl rfl (any_of HT_.out (by kernel_rfl)) (fun _ _ _ h=>h) (Or.inl ⟨by rfl,?_⟩) ?_ ?_
          rotate_left
          ·intro w'
           go_simp
           with_reducible rfl
          rotate_left
          ·simp only [Act.put,s1_,s2_,s3_,i64_w,i32_w]
           rfl
          refine pure_ (i:=3) (N:=some 48) (v:=?_) (a':=?_) #[false,true,true,true,false,false,false,false,false,false,false,false] rfl rfl (any_of HT_.out (by kernel_rfl)) (fun _ _ _ h=>h) (Or.inl ⟨by rfl,?_⟩) ?_ ?_
          rotate_left
          ·intro w'
           go_simp
           with_reducible rfl
          rotate_left
          ·simp only [Act.put,s1_,s2_,s3_,i64_w,i32_w]
           rfl
          refine pure_ (i:=6) (N:=some 51) (v:=?_) (a':=?_) #[false,true,true,true,false,false,true,false,false,false,false,false] rfl rfl (any_of HT_.out (by kernel_rfl)) (fun _ _ _ h=>h) (Or.inl ⟨by rfl,?_⟩) ?_ ?_
          rotate_left
          ·intro w'
           go_simp
           with_reducible rfl
          rotate_left
          ·simp only [Act.put,s1_,s2_,s3_,i64_w,i32_w]
           rfl
          refine pure_ (i:=7) (N:=some 52) (v:=?_) (a':=?_) #[false,true,true,true,false,false,true,true,false,false,false,false] rfl rfl (any_of HT_.out (by kernel_rfl)) (fun _ _ _ h=>h) (Or.inl ⟨by rfl,?_⟩) ?_ ?_
          rotate_left
          ·intro w'
           go_simp
           with_reducible rfl
          rotate_left
          ·simp only [Act.put,s1_,s2_,s3_,i64_w,i32_w]
           rfl
          refine pure_ (i:=8) (N:=some 53) (v:=?_) (a':=?_) #[false,true,true,true,false,false,true,true,true,false,false,false] rfl rfl (any_of HT_.out (by kernel_rfl)) (fun _ _ _ h=>h) (Or.inl ⟨by rfl,?_⟩) ?_ ?_
          rotate_left
          ·intro w'
           go_simp
           with_reducible rfl
          rotate_left
          ·simp only [Act.put,s1_,s2_,s3_,i64_w,i32_w]
           rfl
          refine take_ (i:=0) (N:=some 45) (v:=?_) (a':=?_) #[true,true,true,true,false,false,true,true,true,false,false,false] rfl rfl (take_ofW HT_.out HW_.out (by kernel_rfl)) (fun _ _ _ h=>h) (Or.inl ⟨by rfl,?_⟩) hHeld ?_ ?_
          rotate_left
          ·rintro w' ⟨s0,s1,s2⟩
           go_simp
           with_reducible rfl
          rotate_left
          ·simp only [Act.put,s1_,s2_,s3_,i64_w,i32_w]
           rfl
          refine take_ (i:=4) (N:=some 49) (v:=?_) (a':=?_) #[true,true,true,true,true,false,true,true,true,false,false,false] rfl rfl (take_ofW HT_.out HW_.out (by kernel_rfl)) (fun _ _ _ h=>h) (Or.inl ⟨by rfl,?_⟩) hHeld ?_ ?_
          rotate_left
          ·rintro w' ⟨s0,s1,s2⟩
           go_simp
           with_reducible rfl
          rotate_left
          ·simp only [Act.put,s1_,s2_,s3_,i64_w,i32_w]
           rfl
          refine take_ (i:=9) (N:=some 54) (v:=?_) (a':=?_) #[true,true,true,true,true,false,true,true,true,true,false,false] rfl rfl (take_ofW HT_.out HW_.out (by kernel_rfl)) (fun _ _ _ h=>h) (Or.inl ⟨by rfl,?_⟩) hHeld ?_ ?_
          rotate_left
          ·rintro w' ⟨s0,s1,s2⟩
           go_simp
           with_reducible rfl
          rotate_left
          ·simp only [Act.put,s1_,s2_,s3_,i64_w,i32_w]
           rfl
          refine one_ (i:=5) (N:=some 50) #[true,true,true,true,true,true,true,true,true,true,false,false] rfl rfl (one_of HT_.out (by kernel_rfl)) (by decide) (fun K hK=>?_)
          refine goes_ Try.func15 (by kernel_rfl) rfl #[.agg #[.slice Ao8 t1.length co8],.slice A23_0 (rd_L8 t20 x7_2).length c23_0] (by rfl) rfl rfl lm_ ?_
          with_reducible refine (impl_SimplifyGroup.calls _ _ t1 _ _ (rd_L8 t20 x7_2) t24 _ ?side1 ?side2 ?side3 ?side4 A39.out).mono ?_
          (case side1=>exact cc_ (Kd.R_reads' Z8.out).2.2)
          (case side2=>exact (Kd.R_reads' Z8.out).2.1)
          (case side3=>repeat (first | exact (by repeat (first | (with_reducible exact HR23_0.out) | (with_reducible refine Kd.C_alloc ?_ _) | (with_reducible refine Kd.C_drewN ?_ _) | (with_reducible refine Kd.C_drew ?_) | exact HR23_0.out)) | (with_reducible refine Kd.C_alloc ?_ _) | (with_reducible refine Kd.C_drewN ?_ _) | (with_reducible refine Kd.C_drew ?_)))
          (case side4=>exact HC23_0.out)
          rintro e w44 ⟨v25,rfl,ho0,hb⟩
          have HS1_:=(hb.cell (World.block_lt_of_cell? _ _ (hHeld.2.1))).trans (hHeld.2.1)
          have HS2_:=(hb.cell (World.block_lt_of_cell? _ _ (hHeld.2.2))).trans (hHeld.2.2)
          refine ⟨_,rfl,?_⟩
          have n0_:=a0_ (Kd.R_elder' (rr_ HO_4.out) (Kd.R_base ho0) hb)
          have n1_:=a0_ (Kd.R_elder' (rr_ HO_5.out) (Kd.R_base ho0) hb)
          have n2_:=a0_ (Kd.S_elder' (by (with_reducible repeat (first | apply Kd.S_alloc | apply Kd.S_drewN | apply Kd.S_drew));exact HO_6.out) (Kd.R_base ho0) hb)
          have n3_:=rb_ Z8 hb
          have n4_:=a0_ (Kd.R_elder' (rr_ HL23_0.out) (Kd.R_base ho0) hb)
          have n5_:=a0_ (Kd.R_elder' (rr_ HL27_0.out) (Kd.R_base ho0) hb)
          have n6_:=a0_ (Kd.R_lower (Kd.R_new' (Kd.R_new' (Kd.R_new' (Kd.R_new' ho0 (Kd.R_lt (rr_ HO_4.out))) (Kd.R_lt (rr_ HO_5.out))) (Kd.R_lt (rr_ HL23_0.out))) (Kd.R_lt (rr_ HL27_0.out))) (below_size hb_))
          have n7_:=kb_ BK7 hb
          have n8_:=a0_ (Kd.C_below (by repeat (first | (with_reducible exact HR23_0.out) | (with_reducible refine Kd.C_alloc ?_ _) | (with_reducible refine Kd.C_drewN ?_ _) | (with_reducible refine Kd.C_drew ?_) | exact HR23_0.out)) hb)
          have n9_:=a0_ (Kd.C_below (by repeat (first | (with_reducible exact HR27_0.out) | (with_reducible refine Kd.C_alloc ?_ _) | (with_reducible refine Kd.C_drewN ?_ _) | (with_reducible refine Kd.C_drew ?_) | exact HR27_0.out)) hb)
          have n10_:=a0_ (below_step hb_ hb)
          clear HO_4
          clear HO_5
          clear HO_6
          clear Z8
          clear HL23_0
          clear HL27_0
          clear BK7
          clear HR23_0
          clear HR27_0
          clear HB
          have HO_4:=n0_
          have HO_5:=n1_
          have HO_6:=n2_
          have Z8:=n3_
          have HL23_0:=n4_
          have HL27_0:=n5_
          have HO26:=n6_
          have BK7:=n7_
          have HR23_0:=n8_
          have HR27_0:=n9_
          have HB:=n10_
          clear n0_ n1_ n2_ n3_ n4_ n5_ n6_ n7_ n8_ n9_ n10_
          (try clear hb)
          (try clear hb2)
          (try clear hk)
          (try clear hi)
          (try clear ho0)
          obtain ⟨Ao45,co45,eo45⟩:=Kd.R_slice HO26.out
          (first | subst eo45 | (injection eo45 with f1_ f2_ f3_;have f4_:=f1_.symm;have f5_:=f3_.symm;clear f1_ f2_ f3_;subst f4_;subst f5_))
          refine hK.out _ _ ⟨(blk_cell BK7.out 0).trans rfl,HS1_,HS2_⟩ (fun hHeld=>?_)
          clear hK K
          refine norm_ (a':=?_) ?_ ?_
          rotate_left
          ·show Act.put _ (some 50) _ = _
           simp only [Act.put,s1_,s2_,s3_,i64_w,i32_w]
           rfl
          refine one_ (i:=10) (N:=some 55) #[true,true,true,true,true,true,true,true,true,true,true,false] rfl rfl (one_of HT_.out (by kernel_rfl)) (by decide) (fun K hK=>?_)
          refine goes_ Try.func11 (by kernel_rfl) rfl #[.slice Ao45 t24.length co45,.slice A23_0 (rd_L8 t20 x7_2).length c23_0] (by rfl) rfl rfl lm_ ?_
          with_reducible refine (laws_equalGroup.calls k2 _ _ t24 _ _ (rd_L8 t20 x7_2) true _ ?side1 ?side2 ?side3 ?side4 A40.out).mono ?_
          (case side1=>exact cc_ (Kd.R_reads' HO26.out).2.2)
          (case side2=>exact (Kd.R_reads' HO26.out).2.1)
          (case side3=>repeat (first | exact (by repeat (first | (with_reducible exact HR27_0.out) | (with_reducible refine Kd.C_alloc ?_ _) | (with_reducible refine Kd.C_drewN ?_ _) | (with_reducible refine Kd.C_drew ?_) | exact HR27_0.out)) | (with_reducible refine Kd.C_alloc ?_ _) | (with_reducible refine Kd.C_drewN ?_ _) | (with_reducible refine Kd.C_drew ?_)))
          (case side4=>exact HC27_0.out)
          rintro e w' ⟨rfl,⟨nd,rfl⟩⟩
          refine ⟨_,rfl,?_⟩
          refine hK.out _ _ ⟨(blk_cell BK7.out 0).trans rfl,hHeld.2.1,hHeld.2.2⟩ (fun hHeld=>?_)
          clear hK K
          refine norm_ (a':=?_) ?_ ?_
          rotate_left
          ·show Act.put _ (some 55) _ = _
           simp only [Act.put,s1_,s2_,s3_,i64_w,i32_w]
           rfl
          refine pure_ (i:=11) (N:=some 56) (v:=?_) (a':=?_) #[true,true,true,true,true,true,true,true,true,true,true,true] rfl rfl (any_of HT_.out (by kernel_rfl)) (fun _ _ _ h=>h) (Or.inl ⟨by rfl,?_⟩) ?_ ?_
          rotate_left
          ·intro w'
           go_simp
           with_reducible rfl
          rotate_left
          ·simp only [Act.put,s1_,s2_,s3_,i64_w,i32_w]
           rfl
          refine done_ (done_of HT_.out (by kernel_rfl)) ?_
          try go_wp2
          go_roundg k2
          case measure=>have:=HJ4.out;have:=HK2.out;omega
          case rel=>exact ⟨(wrap64 (x7_2 + 1)),(by first | rfl | (simp;done) | (simp [*];done)),H',⟨by have:=HJ4.out;have:=HK2.out;omega⟩,⟨by (with_reducible repeat (first | apply Kd.R_alloc | apply Kd.R_drewN | apply Kd.R_drew));exact Kd.R_mono HO_4.out (fun _ hk=>hk.1)⟩,⟨by (with_reducible repeat (first | apply Kd.R_alloc | apply Kd.R_drewN | apply Kd.R_drew));exact Kd.R_mono HO_5.out (fun _ hk=>hk.1)⟩,⟨by (with_reducible repeat (first | apply Kd.S_alloc | apply Kd.S_drewN | apply Kd.S_drew));exact Kd.S_mono HO_6.out (fun _ hk=>⟨hk.1.1,hk.1.2⟩)⟩,⟨by (with_reducible repeat (first | apply Kd.R_alloc | apply Kd.R_drewN | apply Kd.R_drew));exact Z8.out⟩,⟨by (with_reducible repeat (first | refine blk_drewN ?_ _ | refine blk_drew ?_ | refine blk_alloc ?_ _));exact BK7.out⟩,⟨hb_⟩⟩
         ·replace c41:=Bool.eq_false_iff.mpr c41
          subst c41
          have H1 : (some false) = some r:=by rw [if_neg (show ¬ (false = true) by decide)] at H;exact H
          clear H
          have H:=H1
          clear H1
          obtain rfl:=Option.some.inj H
          obtain ⟨Ao46,co46,eo46⟩:=Kd.S_slice HO_6.out
          subst eo46
          try go_wp2
          have n0_:=a0_ (Kd.R_drew HO_4.out)
          have n1_:=a0_ (Kd.R_drew HO_5.out)
          have n2_:=a0_ (Kd.S_drew HO_6.out)
          have n3_:=a0_ (Kd.R_drew Z8.out)
          have n4_:=a0_ (blk_drew BK7.out)
          have n5_:=a0_ (below_drew1 HB.out)
          clear HO_4
          clear HO_5
          clear HO_6
          clear Z8
          clear BK7
          clear HB
          have HO_4:=n0_
          have HO_5:=n1_
          have HO_6:=n2_
          have Z8:=n3_
          have BK7:=n4_
          have HB:=n5_
          clear n0_ n1_ n2_ n3_ n4_ n5_
          have p23 : 0 ≤ (x7_2 : Int):=of_decide_eq_true (by first | (with_reducible assumption) | assumption)
          have q23 : x7_2 < (t20.length : Int):=of_decide_eq_true (by first | (with_reducible assumption) | assumption)
          obtain ⟨ad23,A23_0,c23_0,e23,hx23_0,hl23_0,hi23_0⟩:=at_L8 (Kd.S_reads' HO_6.out).2.2 x7_2 p23 q23
          cases e23
          obtain ⟨ce23,hce23,hMe23,hcc23⟩:=Kd.S_get HO_6.out [] x7_2 p23 (by first | exact q23 | exact of_decide_eq_true (by first | (with_reducible assumption) | assumption) | (have e_:=(Kd.S_reads' HO_6.out).1;omega))
          obtain ⟨ve23_0,rfl,ge23_0⟩:=hMe23
          have hv23_0:=hcc23 0 _ rfl
          rw [Nat.add_zero,show ((Kd.slice 35 k35)).sz = 1 from rfl,Nat.mul_one] at hv23_0
          replace hv23_0:=Option.some.inj (hv23_0.symm.trans hx23_0)
          rw [hv23_0] at ge23_0
          have HL23_0:=a0_ (show Kd.R k35 35 _ _ _ _ (rd_L8 t20 x7_2) from ge23_0)
          clear hv23_0 ge23_0
          clear hcc23 hce23
          have HR23_0:=a0_ hi23_0
          have HC23_0:=a0_ hl23_0
          clear hi23_0 hl23_0
          replace p23:=eq_true p23
          replace q23:=eq_true q23
          have p27 : 0 ≤ (x7_2 : Int):=of_decide_eq_true (by first | (with_reducible assumption) | assumption)
          have q27 : x7_2 < (t20.length : Int):=of_decide_eq_true (by first | (with_reducible assumption) | assumption)
          obtain ⟨ad27,A27_0,c27_0,e27,hx27_0,hl27_0,hi27_0⟩:=at_L8 (Kd.S_reads' HO_6.out).2.2 x7_2 p27 q27
          obtain rfl : ad23 = ad27:=(by injection e27)
          obtain ⟨ce27,hce27,hMe27,hcc27⟩:=Kd.S_get HO_6.out [] x7_2 p27 (by first | exact q27 | exact of_decide_eq_true (by first | (with_reducible assumption) | assumption) | (have e_:=(Kd.S_reads' HO_6.out).1;omega))
          obtain ⟨ve27_0,rfl,ge27_0⟩:=hMe27
          have hv27_0:=hcc27 0 _ rfl
          rw [Nat.add_zero,show ((Kd.slice 35 k35)).sz = 1 from rfl,Nat.mul_one] at hv27_0
          replace hv27_0:=Option.some.inj (hv27_0.symm.trans hx27_0)
          rw [hv27_0] at ge27_0
          have HL27_0:=a0_ (show Kd.R k35 35 _ _ _ _ (rd_L8 t20 x7_2) from ge27_0)
          clear hv27_0 ge27_0
          clear hcc27 hce27
          have HR27_0:=a0_ hi27_0
          have HC27_0:=a0_ hl27_0
          clear hi27_0 hl27_0
          replace p27:=eq_true p27
          replace q27:=eq_true q27
          have ea_:=Option.some.inj (hx23_0.symm.trans hx27_0)
          injection ea_ with ea_ en_ ec_
          subst ea_
          subst ec_
          clear en_
          refine start_ (n:=12) (S:=fun w'=>w'.cell? ⟨gb7,0,none⟩ = some (.slice Ao8 t1.length co8) ∧ w'.cell? (ad23.add (x7_2).toNat) = some (.slice A23_0 (rd_L8 t20 x7_2).length c23_0) ∧ w'.cell? (ad23.add (x7_2).toNat) = some (.slice A23_0 (rd_L8 t20 x7_2).length c23_0)) (ds:=[]) #[false,false,false,false,false,false,false,false,false,false,false,false] (by kernel_rfl) rfl rfl ⟨(blk_cell BK7.out 0).trans rfl,hx23_0,hx27_0⟩ (fun hHeld=>?_);refine with_tabW laws_FnSimplifyGroup.tab11 laws_FnSimplifyGroup.bits11 (fun HT_ HW_=>?_)
          generalize wr.drew = w47 at HO_4 HO_5 HO_6 Z8 BK7 HB HL23_0 HL27_0 HR23_0 HR27_0 hx23_0 hx27_0 hHeld ⊢
          refine pure_ (i:=1) (N:=some 46) (v:=?_) (a':=?_) #[false,true,false,false,false,false,false,false,false,false,false,false] rfl rfl (any_of HT_.out (by kernel_rfl)) (fun _ _ _ h=>h) (Or.inl ⟨by rfl,?_⟩) ?_ ?_
          rotate_left
          ·intro w'
           go_simp
           with_reducible rfl
          rotate_left
          ·simp only [Act.put,s1_,s2_,s3_,i64_w,i32_w]
           rfl
          refine pure_ (i:=2) (N:=some 47) (v:=?_) (a':=?_) #[false,true,true,false,false,false,false,false,false,false,false,false] rfl rfl (any_of HT_.out (by kernel_rfl)) (fun _ _ _ h=>h) (Or.inl ⟨by rfl,?_⟩) ?_ ?_
          rotate_left
          ·intro w'
           go_simp
           with_reducible rfl
          rotate_left
          ·simp only [Act.put,s1_,s2_,s3_,i64_w,i32_w]
           rfl
          refine pure_ (i:=3) (N:=some 48) (v:=?_) (a':=?_) #[false,true,true,true,false,false,false,false,false,false,false,false] rfl rfl (any_of HT_.out (by kernel_rfl)) (fun _ _ _ h=>h) (Or.inl ⟨by rfl,?_⟩) ?_ ?_
          rotate_left
          ·intro w'
           go_simp
           with_reducible rfl
          rotate_left
          ·simp only [Act.put,s1_,s2_,s3_,i64_w,i32_w]
           rfl
          refine pure_ (i:=6) (N:=some 51) (v:=?_) (a':=?_) #[false,true,true,true,false,false,true,false,false,false,false,false] rfl rfl (any_of HT_.out (by kernel_rfl)) (fun _ _ _ h=>h) (Or.inl ⟨by rfl,?_⟩) ?_ ?_
          rotate_left
          ·intro w'
           go_simp
           with_reducible rfl
          rotate_left
          ·simp only [Act.put,s1_,s2_,s3_,i64_w,i32_w]
           rfl
          refine pure_ (i:=7) (N:=some 52) (v:=?_) (a':=?_) #[false,true,true,true,false,false,true,true,false,false,false,false] rfl rfl (any_of HT_.out (by kernel_rfl)) (fun _ _ _ h=>h) (Or.inl ⟨by rfl,?_⟩) ?_ ?_
          rotate_left
          ·intro w'
           go_simp
           with_reducible rfl
          rotate_left
          ·simp only [Act.put,s1_,s2_,s3_,i64_w,i32_w]
           rfl
          refine pure_ (i:=8) (N:=some 53) (v:=?_) (a':=?_) #[false,true,true,true,false,false,true,true,true,false,false,false] rfl rfl (any_of HT_.out (by kernel_rfl)) (fun _ _ _ h=>h) (Or.inl ⟨by rfl,?_⟩) ?_ ?_
          rotate_left
          ·intro w'
           go_simp
           with_reducible rfl
          rotate_left
          ·simp only [Act.put,s1_,s2_,s3_,i64_w,i32_w]
           rfl
          refine take_ (i:=0) (N:=some 45) (v:=?_) (a':=?_) #[true,true,true,true,false,false,true,true,true,false,false,false] rfl rfl (take_ofW HT_.out HW_.out (by kernel_rfl)) (fun _ _ _ h=>h) (Or.inl ⟨by rfl,?_⟩) hHeld ?_ ?_
          rotate_left
          ·rintro w' ⟨s0,s1,s2⟩
           go_simp
           with_reducible rfl
          rotate_left
          ·simp only [Act.put,s1_,s2_,s3_,i64_w,i32_w]
           rfl
          refine take_ (i:=4) (N:=some 49) (v:=?_) (a':=?_) #[true,true,true,true,true,false,true,true,true,false,false,false] rfl rfl (take_ofW HT_.out HW_.out (by kernel_rfl)) (fun _ _ _ h=>h) (Or.inl ⟨by rfl,?_⟩) hHeld ?_ ?_
          rotate_left
          ·rintro w' ⟨s0,s1,s2⟩
           go_simp
           with_reducible rfl
          rotate_left
          ·simp only [Act.put,s1_,s2_,s3_,i64_w,i32_w]
           rfl
          refine take_ (i:=9) (N:=some 54) (v:=?_) (a':=?_) #[true,true,true,true,true,false,true,true,true,true,false,false] rfl rfl (take_ofW HT_.out HW_.out (by kernel_rfl)) (fun _ _ _ h=>h) (Or.inl ⟨by rfl,?_⟩) hHeld ?_ ?_
          rotate_left
          ·rintro w' ⟨s0,s1,s2⟩
           go_simp
           with_reducible rfl
          rotate_left
          ·simp only [Act.put,s1_,s2_,s3_,i64_w,i32_w]
           rfl
          refine one_ (i:=5) (N:=some 50) #[true,true,true,true,true,true,true,true,true,true,false,false] rfl rfl (one_of HT_.out (by kernel_rfl)) (by decide) (fun K hK=>?_)
          refine goes_ Try.func15 (by kernel_rfl) rfl #[.agg #[.slice Ao8 t1.length co8],.slice A23_0 (rd_L8 t20 x7_2).length c23_0] (by rfl) rfl rfl lm_ ?_
          with_reducible refine (impl_SimplifyGroup.calls _ _ t1 _ _ (rd_L8 t20 x7_2) t24 _ ?side1 ?side2 ?side3 ?side4 A39.out).mono ?_
          (case side1=>exact cc_ (Kd.R_reads' Z8.out).2.2)
          (case side2=>exact (Kd.R_reads' Z8.out).2.1)
          (case side3=>repeat (first | exact (by repeat (first | (with_reducible exact HR23_0.out) | (with_reducible refine Kd.C_alloc ?_ _) | (with_reducible refine Kd.C_drewN ?_ _) | (with_reducible refine Kd.C_drew ?_) | exact HR23_0.out)) | (with_reducible refine Kd.C_alloc ?_ _) | (with_reducible refine Kd.C_drewN ?_ _) | (with_reducible refine Kd.C_drew ?_)))
          (case side4=>exact HC23_0.out)
          rintro e w48 ⟨v25,rfl,ho0,hb⟩
          have HS1_:=(hb.cell (World.block_lt_of_cell? _ _ (hHeld.2.1))).trans (hHeld.2.1)
          have HS2_:=(hb.cell (World.block_lt_of_cell? _ _ (hHeld.2.2))).trans (hHeld.2.2)
          refine ⟨_,rfl,?_⟩
          have n0_:=a0_ (Kd.R_elder' (rr_ HO_4.out) (Kd.R_base ho0) hb)
          have n1_:=a0_ (Kd.R_elder' (rr_ HO_5.out) (Kd.R_base ho0) hb)
          have n2_:=a0_ (Kd.S_elder' (by (with_reducible repeat (first | apply Kd.S_alloc | apply Kd.S_drewN | apply Kd.S_drew));exact HO_6.out) (Kd.R_base ho0) hb)
          have n3_:=rb_ Z8 hb
          have n4_:=a0_ (Kd.R_elder' (rr_ HL23_0.out) (Kd.R_base ho0) hb)
          have n5_:=a0_ (Kd.R_elder' (rr_ HL27_0.out) (Kd.R_base ho0) hb)
          have n6_:=a0_ (Kd.R_lower (Kd.R_new' (Kd.R_new' (Kd.R_new' (Kd.R_new' ho0 (Kd.R_lt (rr_ HO_4.out))) (Kd.R_lt (rr_ HO_5.out))) (Kd.R_lt (rr_ HL23_0.out))) (Kd.R_lt (rr_ HL27_0.out))) (below_size hb_))
          have n7_:=kb_ BK7 hb
          have n8_:=a0_ (Kd.C_below (by repeat (first | (with_reducible exact HR23_0.out) | (with_reducible refine Kd.C_alloc ?_ _) | (with_reducible refine Kd.C_drewN ?_ _) | (with_reducible refine Kd.C_drew ?_) | exact HR23_0.out)) hb)
          have n9_:=a0_ (Kd.C_below (by repeat (first | (with_reducible exact HR27_0.out) | (with_reducible refine Kd.C_alloc ?_ _) | (with_reducible refine Kd.C_drewN ?_ _) | (with_reducible refine Kd.C_drew ?_) | exact HR27_0.out)) hb)
          have n10_:=a0_ (below_step hb_ hb)
          clear HO_4
          clear HO_5
          clear HO_6
          clear Z8
          clear HL23_0
          clear HL27_0
          clear BK7
          clear HR23_0
          clear HR27_0
          clear HB
          have HO_4:=n0_
          have HO_5:=n1_
          have HO_6:=n2_
          have Z8:=n3_
          have HL23_0:=n4_
          have HL27_0:=n5_
          have HO26:=n6_
          have BK7:=n7_
          have HR23_0:=n8_
          have HR27_0:=n9_
          have HB:=n10_
          clear n0_ n1_ n2_ n3_ n4_ n5_ n6_ n7_ n8_ n9_ n10_
          (try clear hb)
          (try clear hb2)
          (try clear hk)
          (try clear hi)
          (try clear ho0)
          obtain ⟨Ao49,co49,eo49⟩:=Kd.R_slice HO26.out
          (first | subst eo49 | (injection eo49 with f1_ f2_ f3_;have f4_:=f1_.symm;have f5_:=f3_.symm;clear f1_ f2_ f3_;subst f4_;subst f5_))
          refine hK.out _ _ ⟨(blk_cell BK7.out 0).trans rfl,HS1_,HS2_⟩ (fun hHeld=>?_)
          clear hK K
          refine norm_ (a':=?_) ?_ ?_
          rotate_left
          ·show Act.put _ (some 50) _ = _
           simp only [Act.put,s1_,s2_,s3_,i64_w,i32_w]
           rfl
          refine one_ (i:=10) (N:=some 55) #[true,true,true,true,true,true,true,true,true,true,true,false] rfl rfl (one_of HT_.out (by kernel_rfl)) (by decide) (fun K hK=>?_)
          refine goes_ Try.func11 (by kernel_rfl) rfl #[.slice Ao49 t24.length co49,.slice A23_0 (rd_L8 t20 x7_2).length c23_0] (by rfl) rfl rfl lm_ ?_
          with_reducible refine (laws_equalGroup.calls k2 _ _ t24 _ _ (rd_L8 t20 x7_2) false _ ?side1 ?side2 ?side3 ?side4 A40.out).mono ?_
          (case side1=>exact cc_ (Kd.R_reads' HO26.out).2.2)
          (case side2=>exact (Kd.R_reads' HO26.out).2.1)
          (case side3=>repeat (first | exact (by repeat (first | (with_reducible exact HR27_0.out) | (with_reducible refine Kd.C_alloc ?_ _) | (with_reducible refine Kd.C_drewN ?_ _) | (with_reducible refine Kd.C_drew ?_) | exact HR27_0.out)) | (with_reducible refine Kd.C_alloc ?_ _) | (with_reducible refine Kd.C_drewN ?_ _) | (with_reducible refine Kd.C_drew ?_)))
          (case side4=>exact HC27_0.out)
          rintro e w' ⟨rfl,⟨nd,rfl⟩⟩
          refine ⟨_,rfl,?_⟩
          refine hK.out _ _ ⟨(blk_cell BK7.out 0).trans rfl,hHeld.2.1,hHeld.2.2⟩ (fun hHeld=>?_)
          clear hK K
          refine norm_ (a':=?_) ?_ ?_
          rotate_left
          ·show Act.put _ (some 55) _ = _
           simp only [Act.put,s1_,s2_,s3_,i64_w,i32_w]
           rfl
          refine pure_ (i:=11) (N:=some 56) (v:=?_) (a':=?_) #[true,true,true,true,true,true,true,true,true,true,true,true] rfl rfl (any_of HT_.out (by kernel_rfl)) (fun _ _ _ h=>h) (Or.inl ⟨by rfl,?_⟩) ?_ ?_
          rotate_left
          ·intro w'
           go_simp
           with_reducible rfl
          rotate_left
          ·simp only [Act.put,s1_,s2_,s3_,i64_w,i32_w]
           rfl
          refine done_ (done_of HT_.out (by kernel_rfl)) ?_
          try go_wp2
          go_ret
          exact ⟨by first | rfl | (simp [errW_none,errW_some] <;> rfl) | (simp [*,errW_none,errW_some] <;> rfl),hb_⟩
        ·rw [if_neg c38] at H
         exact absurd H (by simp)
       ·rw [if_neg c37] at H
        have c37b0 : decide (x7_2 < (t20.length : Int)) = false:=decide_eq_false c37
        clear c37
        by_cases c50 : (t20.length : Int) = 1
        ·rw [if_pos c50] at H
         have c50b0 : ((t20.length : Int) == 1) = true:=beq_iff_eq.mpr c50
         have c50b1 : ((t20.length : Int) != 1) = false:=bne_eq_false_iff_eq.mpr c50
         clear c50
         obtain rfl:=Option.some.inj H
         obtain ⟨Ao51,co51,eo51⟩:=Kd.S_slice HO_6.out
         subst eo51
         try go_wp2
         have n0_:=a0_ (Kd.R_drew HO_4.out)
         have n1_:=a0_ (Kd.R_drew HO_5.out)
         have n2_:=a0_ (Kd.S_drew HO_6.out)
         have n3_:=a0_ (Kd.R_drew Z8.out)
         have n4_:=a0_ (blk_drew BK7.out)
         have n5_:=a0_ (below_drew1 HB.out)
         clear HO_4
         clear HO_5
         clear HO_6
         clear Z8
         clear BK7
         clear HB
         have HO_4:=n0_
         have HO_5:=n1_
         have HO_6:=n2_
         have Z8:=n3_
         have BK7:=n4_
         have HB:=n5_
         clear n0_ n1_ n2_ n3_ n4_ n5_
         refine start_ (n:=25) (S:=fun w'=>True) (ds:=[]) #[false,false,false,false,false,false,false,false,false,false,false,false,false,false,false,false,false,false,false,false,false,false,false,false,false] (by kernel_rfl) rfl rfl trivial (fun hHeld=>?_);refine with_tabW laws_FnSimplifyGroup.tab13 laws_FnSimplifyGroup.bits13 (fun HT_ HW_=>?_)
         generalize wr.drew = w52 at HO_4 HO_5 HO_6 Z8 BK7 HB hHeld ⊢
         refine pure_ (i:=0) (N:=some 57) (v:=?_) (a':=?_) #[true,false,false,false,false,false,false,false,false,false,false,false,false,false,false,false,false,false,false,false,false,false,false,false,false] rfl rfl (any_of HT_.out (by kernel_rfl)) (fun _ _ _ h=>h) (Or.inl ⟨by rfl,?_⟩) ?_ ?_
         rotate_left
         ·intro w'
          go_simp
          with_reducible rfl
         rotate_left
         ·simp only [Act.put,s1_,s2_,s3_,i64_w,i32_w]
          rfl
         refine pure_ (i:=1) (N:=some 58) (v:=?_) (a':=?_) #[true,true,false,false,false,false,false,false,false,false,false,false,false,false,false,false,false,false,false,false,false,false,false,false,false] rfl rfl (any_of HT_.out (by kernel_rfl)) (fun _ _ _ h=>h) (Or.inl ⟨by rfl,?_⟩) ?_ ?_
         rotate_left
         ·intro w'
          go_simp
          with_reducible rfl
         rotate_left
         ·simp only [Act.put,s1_,s2_,s3_,i64_w,i32_w]
          rfl
         refine pure_ (i:=2) (N:=some 59) (v:=?_) (a':=?_) #[true,true,true,false,false,false,false,false,false,false,false,false,false,false,false,false,false,false,false,false,false,false,false,false,false] rfl rfl (any_of HT_.out (by kernel_rfl)) (fun _ _ _ h=>h) (Or.inl ⟨by rfl,?_⟩) ?_ ?_
         rotate_left
         ·intro w'
          go_simp
          with_reducible rfl
         rotate_left
         ·simp only [Act.put,s1_,s2_,s3_,i64_w,i32_w]
          rfl
         refine pure_ (i:=3) (N:=some 60) (v:=?_) (a':=?_) #[true,true,true,true,false,false,false,false,false,false,false,false,false,false,false,false,false,false,false,false,false,false,false,false,false] rfl rfl (any_of HT_.out (by kernel_rfl)) (fun _ _ _ h=>h) (Or.inl ⟨by rfl,?_⟩) ?_ ?_
         rotate_left
         ·intro w'
          go_simp
          with_reducible rfl
         rotate_left
         ·simp only [Act.put,s1_,s2_,s3_,i64_w,i32_w]
          rfl
         refine pure_ (i:=4) (N:=some 61) (v:=undef) (a':=?_) #[true,true,true,true,true,false,false,false,false,false,false,false,false,false,false,false,false,false,false,false,false,false,false,false,false] rfl rfl (any_of HT_.out (by kernel_rfl)) (fun _ _ _ h=>h) (Or.inr ⟨by rfl,rfl⟩) ?_ ?_
         rotate_left
         ·simp only [Act.put,s1_,s2_,s3_,i64_w,i32_w]
          rfl
         refine pure_ (i:=5) (N:=some 62) (v:=undef) (a':=?_) #[true,true,true,true,true,true,false,false,false,false,false,false,false,false,false,false,false,false,false,false,false,false,false,false,false] rfl rfl (any_of HT_.out (by kernel_rfl)) (fun _ _ _ h=>h) (Or.inr ⟨by rfl,rfl⟩) ?_ ?_
         rotate_left
         ·simp only [Act.put,s1_,s2_,s3_,i64_w,i32_w]
          rfl
         refine pure_ (i:=6) (N:=some 63) (v:=undef) (a':=?_) #[true,true,true,true,true,true,true,false,false,false,false,false,false,false,false,false,false,false,false,false,false,false,false,false,false] rfl rfl (any_of HT_.out (by kernel_rfl)) (fun _ _ _ h=>h) (Or.inr ⟨by rfl,rfl⟩) ?_ ?_
         rotate_left
         ·simp only [Act.put,s1_,s2_,s3_,i64_w,i32_w]
          rfl
         refine pure_ (i:=7) (N:=some 64) (v:=undef) (a':=?_) #[true,true,true,true,true,true,true,true,false,false,false,false,false,false,false,false,false,false,false,false,false,false,false,false,false] rfl rfl (any_of HT_.out (by kernel_rfl)) (fun _ _ _ h=>h) (Or.inr ⟨by rfl,rfl⟩) ?_ ?_
         rotate_left
         ·simp only [Act.put,s1_,s2_,s3_,i64_w,i32_w]
          rfl
         refine pure_ (i:=8) (N:=some 65) (v:=undef) (a':=?_) #[true,true,true,true,true,true,true,true,true,false,false,false,false,false,false,false,false,false,false,false,false,false,false,false,false] rfl rfl (any_of HT_.out (by kernel_rfl)) (fun _ _ _ h=>h) (Or.inr ⟨by rfl,rfl⟩) ?_ ?_
         rotate_left
         ·simp only [Act.put,s1_,s2_,s3_,i64_w,i32_w]
          rfl
         refine pure_ (i:=9) (N:=some 66) (v:=undef) (a':=?_) #[true,true,true,true,true,true,true,true,true,true,false,false,false,false,false,false,false,false,false,false,false,false,false,false,false] rfl rfl (any_of HT_.out (by kernel_rfl)) (fun _ _ _ h=>h) (Or.inr ⟨by rfl,rfl⟩) ?_ ?_
         rotate_left
         ·simp only [Act.put,s1_,s2_,s3_,i64_w,i32_w]
          rfl
         refine pure_ (i:=10) (N:=some 67) (v:=undef) (a':=?_) #[true,true,true,true,true,true,true,true,true,true,true,false,false,false,false,false,false,false,false,false,false,false,false,false,false] rfl rfl (any_of HT_.out (by kernel_rfl)) (fun _ _ _ h=>h) (Or.inr ⟨by rfl,rfl⟩) ?_ ?_
         rotate_left
         ·simp only [Act.put,s1_,s2_,s3_,i64_w,i32_w]
          rfl
         refine pure_ (i:=11) (N:=some 68) (v:=?_) (a':=?_) #[true,true,true,true,true,true,true,true,true,true,true,true,false,false,false,false,false,false,false,false,false,false,false,false,false] rfl rfl (any_of HT_.out (by kernel_rfl)) (fun _ _ _ h=>h) (Or.inl ⟨by rfl,?_⟩) ?_ ?_
         rotate_left
         ·intro w'
          go_simp
          with_reducible rfl
         rotate_left
         ·simp only [Act.put,s1_,s2_,s3_,i64_w,i32_w]
          rfl
         refine pure_ (i:=12) (N:=some 69) (v:=?_) (a':=?_) #[true,true,true,true,true,true,true,true,true,true,true,true,true,false,false,false,false,false,false,false,false,false,false,false,false] rfl rfl (any_of HT_.out (by kernel_rfl)) (fun _ _ _ h=>h) (Or.inl ⟨by rfl,?_⟩) ?_ ?_
         rotate_left
         ·intro w'
          go_simp
          with_reducible rfl
         rotate_left
         ·simp only [Act.put,s1_,s2_,s3_,i64_w,i32_w]
          rfl
         refine pure_ (i:=13) (N:=some 70) (v:=undef) (a':=?_) #[true,true,true,true,true,true,true,true,true,true,true,true,true,true,false,false,false,false,false,false,false,false,false,false,false] rfl rfl (any_of HT_.out (by kernel_rfl)) (fun _ _ _ h=>h) (Or.inr ⟨by rfl,rfl⟩) ?_ ?_
         rotate_left
         ·simp only [Act.put,s1_,s2_,s3_,i64_w,i32_w]
          rfl
         refine pure_ (i:=14) (N:=some 71) (v:=undef) (a':=?_) #[true,true,true,true,true,true,true,true,true,true,true,true,true,true,true,false,false,false,false,false,false,false,false,false,false] rfl rfl (any_of HT_.out (by kernel_rfl)) (fun _ _ _ h=>h) (Or.inr ⟨by rfl,rfl⟩) ?_ ?_
         rotate_left
         ·simp only [Act.put,s1_,s2_,s3_,i64_w,i32_w]
          rfl
         refine pure_ (i:=15) (N:=some 72) (v:=undef) (a':=?_) #[true,true,true,true,true,true,true,true,true,true,true,true,true,true,true,true,false,false,false,false,false,false,false,false,false] rfl rfl (any_of HT_.out (by kernel_rfl)) (fun _ _ _ h=>h) (Or.inr ⟨by rfl,rfl⟩) ?_ ?_
         rotate_left
         ·simp only [Act.put,s1_,s2_,s3_,i64_w,i32_w]
          rfl
         refine pure_ (i:=16) (N:=some 73) (v:=undef) (a':=?_) #[true,true,true,true,true,true,true,true,true,true,true,true,true,true,true,true,true,false,false,false,false,false,false,false,false] rfl rfl (any_of HT_.out (by kernel_rfl)) (fun _ _ _ h=>h) (Or.inr ⟨by rfl,rfl⟩) ?_ ?_
         rotate_left
         ·simp only [Act.put,s1_,s2_,s3_,i64_w,i32_w]
          rfl
         refine pure_ (i:=17) (N:=some 74) (v:=undef) (a':=?_) #[true,true,true,true,true,true,true,true,true,true,true,true,true,true,true,true,true,true,false,false,false,false,false,false,false] rfl rfl (any_of HT_.out (by kernel_rfl)) (fun _ _ _ h=>h) (Or.inr ⟨by rfl,rfl⟩) ?_ ?_
         rotate_left
         ·simp only [Act.put,s1_,s2_,s3_,i64_w,i32_w]
          rfl
         refine pure_ (i:=18) (N:=some 75) (v:=?_) (a':=?_) #[true,true,true,true,true,true,true,true,true,true,true,true,true,true,true,true,true,true,true,false,false,false,false,false,false] rfl rfl (any_of HT_.out (by kernel_rfl)) (fun _ _ _ h=>h) (Or.inl ⟨by rfl,?_⟩) ?_ ?_
         rotate_left
         ·intro w'
          go_simp
          with_reducible rfl
         rotate_left
         ·simp only [Act.put,s1_,s2_,s3_,i64_w,i32_w]
          rfl
         refine pure_ (i:=19) (N:=some 76) (v:=?_) (a':=?_) #[true,true,true,true,true,true,true,true,true,true,true,true,true,true,true,true,true,true,true,true,false,false,false,false,false] rfl rfl (any_of HT_.out (by kernel_rfl)) (fun _ _ _ h=>h) (Or.inl ⟨by rfl,?_⟩) ?_ ?_
         rotate_left
         ·intro w'
          go_simp
          with_reducible rfl
         rotate_left
         ·simp only [Act.put,s1_,s2_,s3_,i64_w,i32_w]
          rfl
         refine pure_ (i:=20) (N:=some 77) (v:=undef) (a':=?_) #[true,true,true,true,true,true,true,true,true,true,true,true,true,true,true,true,true,true,true,true,true,false,false,false,false] rfl rfl (any_of HT_.out (by kernel_rfl)) (fun _ _ _ h=>h) (Or.inr ⟨by rfl,rfl⟩) ?_ ?_
         rotate_left
         ·simp only [Act.put,s1_,s2_,s3_,i64_w,i32_w]
          rfl
         refine pure_ (i:=21) (N:=some 78) (v:=undef) (a':=?_) #[true,true,true,true,true,true,true,true,true,true,true,true,true,true,true,true,true,true,true,true,true,true,false,false,false] rfl rfl (any_of HT_.out (by kernel_rfl)) (fun _ _ _ h=>h) (Or.inr ⟨by rfl,rfl⟩) ?_ ?_
         rotate_left
         ·simp only [Act.put,s1_,s2_,s3_,i64_w,i32_w]
          rfl
         refine pure_ (i:=22) (N:=some 79) (v:=undef) (a':=?_) #[true,true,true,true,true,true,true,true,true,true,true,true,true,true,true,true,true,true,true,true,true,true,true,false,false] rfl rfl (any_of HT_.out (by kernel_rfl)) (fun _ _ _ h=>h) (Or.inr ⟨by rfl,rfl⟩) ?_ ?_
         rotate_left
         ·simp only [Act.put,s1_,s2_,s3_,i64_w,i32_w]
          rfl
         refine pure_ (i:=23) (N:=some 80) (v:=?_) (a':=?_) #[true,true,true,true,true,true,true,true,true,true,true,true,true,true,true,true,true,true,true,true,true,true,true,true,false] rfl rfl (any_of HT_.out (by kernel_rfl)) (fun _ _ _ h=>h) (Or.inl ⟨by rfl,?_⟩) ?_ ?_
         rotate_left
         ·intro w'
          go_simp
          with_reducible rfl
         rotate_left
         ·simp only [Act.put,s1_,s2_,s3_,i64_w,i32_w]
          rfl
         refine pure_ (i:=24) (N:=some 2) (v:=?_) (a':=?_) #[true,true,true,true,true,true,true,true,true,true,true,true,true,true,true,true,true,true,true,true,true,true,true,true,true] rfl rfl (any_of HT_.out (by kernel_rfl)) (fun _ _ _ h=>h) (Or.inl ⟨by rfl,?_⟩) ?_ ?_
         rotate_left
         ·intro w'
          go_simp
          with_reducible rfl
         rotate_left
         ·simp only [Act.put,s1_,s2_,s3_,i64_w,i32_w]
          rfl
         refine done_ (done_of HT_.out (by kernel_rfl)) ?_
         try go_wp2
         go_ret
         exact ⟨by first | rfl | (simp [errW_none,errW_some] <;> rfl) | (simp [*,errW_none,errW_some] <;> rfl),hb_⟩
        ·rw [if_neg c50] at H
         have c50b0 : ((t20.length : Int) == 1) = false:=beq_eq_false_iff_ne.mpr c50
         have c50b1 : ((t20.length : Int) != 1) = true:=bne_iff_ne.mpr c50
         replace H:=Option.bind_eq_some_iff.mp H
         obtain ⟨t29,A530,H⟩:=H
         try dsimp only at H
         have A53:=a0_ A530
         clear A530
         replace H:=Option.bind_eq_some_iff.mp H
         obtain ⟨t32,A540,H⟩:=H
         try dsimp only at H
         have A54:=a0_ A540
         clear A540
         replace H:=Option.bind_eq_some_iff.mp H
         obtain ⟨t35,A550,H⟩:=H
         try dsimp only at H
         have A55:=a0_ A550
         clear A550
         by_cases c56 : t35 = true
         ·subst c56
          have H1 : ((impl_SimplifyGroup.f t1 t8).bind fun t36=>((laws_equalGroup.f k2 t36 t8).bind fun t39=>(if t39 = true then ((impl_ValidGroup.f k2 t1 t8).bind fun t40=>(some t40)) else (some false)))) = some r:=by rw [if_pos rfl] at H;exact H
          clear H
          have H:=H1
          clear H1
          replace H:=Option.bind_eq_some_iff.mp H
          obtain ⟨t36,A570,H⟩:=H
          try dsimp only at H
          have A57:=a0_ A570
          clear A570
          replace H:=Option.bind_eq_some_iff.mp H
          obtain ⟨t39,A580,H⟩:=H
          try dsimp only at H
          have A58:=a0_ A580
          clear A580
          by_cases c59 : t39 = true
          ·subst c59
           have H1 : ((impl_ValidGroup.f k2 t1 t8).bind fun t40=>(some t40)) = some r:=by rw [if_pos rfl] at H;exact H
           clear H
           have H:=H1
           clear H1
           replace H:=Option.bind_eq_some_iff.mp H
           obtain ⟨t40,A600,H⟩:=H
           replace H : (some t40) = some r:=H
           have A60:=a0_ A600
           clear A600
           obtain rfl:=Option.some.inj H
           obtain ⟨Ao61,co61,eo61⟩:=Kd.S_slice HO_6.out
           subst eo61
           try go_wp2
           have n0_:=a0_ (Kd.R_drew HO_4.out)
           have n1_:=a0_ (Kd.R_drew HO_5.out)
           have n2_:=a0_ (Kd.S_drew HO_6.out)
           have n3_:=a0_ (Kd.R_drew Z8.out)
           have n4_:=a0_ (blk_drew BK7.out)
           have n5_:=a0_ (below_drew1 HB.out)
           clear HO_4
           clear HO_5
           clear HO_6
           clear Z8
           clear BK7
           clear HB
           have HO_4:=n0_
           have HO_5:=n1_
           have HO_6:=n2_
           have Z8:=n3_
           have BK7:=n4_
           have HB:=n5_
           clear n0_ n1_ n2_ n3_ n4_ n5_
           refine start_ (n:=25) (S:=fun w'=>w'.cell? ⟨gb7,0,none⟩ = some (.slice Ao8 t1.length co8)) (ds:=[]) #[false,false,false,false,false,false,false,false,false,false,false,false,false,false,false,false,false,false,false,false,false,false,false,false,false] (by kernel_rfl) rfl rfl ((blk_cell BK7.out 0).trans rfl) (fun hHeld=>?_);refine with_tabW laws_FnSimplifyGroup.tab13 laws_FnSimplifyGroup.bits13 (fun HT_ HW_=>?_)
           generalize wr.drew = w62 at HO_4 HO_5 HO_6 Z8 BK7 HB hHeld ⊢
           refine pure_ (i:=0) (N:=some 57) (v:=?_) (a':=?_) #[true,false,false,false,false,false,false,false,false,false,false,false,false,false,false,false,false,false,false,false,false,false,false,false,false] rfl rfl (any_of HT_.out (by kernel_rfl)) (fun _ _ _ h=>h) (Or.inl ⟨by rfl,?_⟩) ?_ ?_
           rotate_left
           ·intro w'
            go_simp
            with_reducible rfl
           rotate_left
           ·simp only [Act.put,s1_,s2_,s3_,i64_w,i32_w]
            rfl
           refine pure_ (i:=1) (N:=some 58) (v:=?_) (a':=?_) #[true,true,false,false,false,false,false,false,false,false,false,false,false,false,false,false,false,false,false,false,false,false,false,false,false] rfl rfl (any_of HT_.out (by kernel_rfl)) (fun _ _ _ h=>h) (Or.inl ⟨by rfl,?_⟩) ?_ ?_
           rotate_left
           ·intro w'
            go_simp
            with_reducible rfl
           rotate_left
           ·simp only [Act.put,s1_,s2_,s3_,i64_w,i32_w]
            rfl
           refine pure_ (i:=2) (N:=some 59) (v:=?_) (a':=?_) #[true,true,true,false,false,false,false,false,false,false,false,false,false,false,false,false,false,false,false,false,false,false,false,false,false] rfl rfl (any_of HT_.out (by kernel_rfl)) (fun _ _ _ h=>h) (Or.inl ⟨by rfl,?_⟩) ?_ ?_
           rotate_left
           ·intro w'
            go_simp
            with_reducible rfl
           rotate_left
           ·simp only [Act.put,s1_,s2_,s3_,i64_w,i32_w]
            rfl
           refine pure_ (i:=3) (N:=some 60) (v:=?_) (a':=?_) #[true,true,true,true,false,false,false,false,false,false,false,false,false,false,false,false,false,false,false,false,false,false,false,false,false] rfl rfl (any_of HT_.out (by kernel_rfl)) (fun _ _ _ h=>h) (Or.inl ⟨by rfl,?_⟩) ?_ ?_
           rotate_left
           ·intro w'
            go_simp
            with_reducible rfl
           rotate_left
           ·simp only [Act.put,s1_,s2_,s3_,i64_w,i32_w]
            rfl
           refine pure_ (i:=5) (N:=some 62) (v:=?_) (a':=?_) #[true,true,true,true,false,true,false,false,false,false,false,false,false,false,false,false,false,false,false,false,false,false,false,false,false] rfl rfl (any_of HT_.out (by kernel_rfl)) (fun _ _ _ h=>h) (Or.inl ⟨by rfl,?_⟩) ?_ ?_
           rotate_left
           ·intro w'
            go_simp
            with_reducible rfl
           rotate_left
           ·simp only [Act.put,s1_,s2_,s3_,i64_w,i32_w]
            rfl
           refine pure_ (i:=8) (N:=some 65) (v:=?_) (a':=?_) #[true,true,true,true,false,true,false,false,true,false,false,false,false,false,false,false,false,false,false,false,false,false,false,false,false] rfl rfl (any_of HT_.out (by kernel_rfl)) (fun _ _ _ h=>h) (Or.inl ⟨by rfl,?_⟩) ?_ ?_
           rotate_left
           ·intro w'
            go_simp
            with_reducible rfl
           rotate_left
           ·simp only [Act.put,s1_,s2_,s3_,i64_w,i32_w]
            rfl
           refine take_ (i:=4) (N:=some 61) (v:=?_) (a':=?_) #[true,true,true,true,true,true,false,false,true,false,false,false,false,false,false,false,false,false,false,false,false,false,false,false,false] rfl rfl (take_ofW HT_.out HW_.out (by kernel_rfl)) (fun _ _ _ h=>h) (Or.inl ⟨by rfl,?_⟩) hHeld ?_ ?_
           rotate_left
           ·intro w' s0
            go_simp
            with_reducible rfl
           rotate_left
           ·simp only [Act.put,s1_,s2_,s3_,i64_w,i32_w]
            rfl
           refine take_ (i:=7) (N:=some 64) (v:=?_) (a':=?_) #[true,true,true,true,true,true,false,true,true,false,false,false,false,false,false,false,false,false,false,false,false,false,false,false,false] rfl rfl (take_ofW HT_.out HW_.out (by kernel_rfl)) (fun _ _ _ h=>h) (Or.inl ⟨by rfl,?_⟩) hHeld ?_ ?_
           rotate_left
           ·intro w' s0
            go_simp
            with_reducible rfl
           rotate_left
           ·simp only [Act.put,s1_,s2_,s3_,i64_w,i32_w]
            rfl
           refine one_ (i:=6) (N:=some 63) #[true,true,true,true,true,true,true,true,true,false,false,false,false,false,false,false,false,false,false,false,false,false,false,false,false] rfl rfl (one_of HT_.out (by kernel_rfl)) (by decide) (fun K hK=>?_)
           refine goes_ Try.func19 (by kernel_rfl) rfl #[.agg #[.slice Ao8 t1.length co8],.slice Ao35 t8.length co35] (by rfl) rfl rfl lm_ ?_
           with_reducible refine (impl_LeavesOf.calls k2 _ _ t1 _ _ t8 t29 _ ?side1 ?side2 ?side3 ?side4 A53.out).mono ?_
           (case side1=>exact cc_ (Kd.R_reads' Z8.out).2.2)
           (case side2=>exact (Kd.R_reads' Z8.out).2.1)
           (case side3=>exact cc_ (Kd.R_reads' HO_5.out).2.2)
           (case side4=>exact (Kd.R_reads' HO_5.out).2.1)
           rintro e w63 ⟨v30,rfl,ho0,hb⟩
           refine ⟨_,rfl,?_⟩
           have n0_:=rb_ HO_4 hb
           have n1_:=rb_ HO_5 hb
           have n2_:=a0_ (Kd.S_below (by (with_reducible repeat (first | apply Kd.S_alloc | apply Kd.S_drewN | apply Kd.S_drew));exact HO_6.out) hb)
           have n3_:=rb_ Z8 hb
           have n4_:=a0_ (Kd.R_lower ho0 (below_size hb_))
           have n5_:=kb_ BK7 hb
           have n6_:=a0_ (below_step hb_ hb)
           clear HO_4
           clear HO_5
           clear HO_6
           clear Z8
           clear BK7
           clear HB
           have HO_4:=n0_
           have HO_5:=n1_
           have HO_6:=n2_
           have Z8:=n3_
           have HO31:=n4_
           have BK7:=n5_
           have HB:=n6_
           clear n0_ n1_ n2_ n3_ n4_ n5_ n6_
           (try clear hb)
           (try clear hb2)
           (try clear hk)
           (try clear hi)
           (try clear ho0)
           refine hK.out _ _ ((blk_cell BK7.out 0).trans rfl) (fun hHeld=>?_)
           clear hK K
           refine norm_ (a':=?_) ?_ ?_
           rotate_left
           ·show Act.put _ (some 63) _ = _
            simp only [Act.put,s1_,s2_,s3_,i64_w,i32_w]
            rfl
           refine one_ (i:=9) (N:=some 66) #[true,true,true,true,true,true,true,true,true,true,false,false,false,false,false,false,false,false,false,false,false,false,false,false,false] rfl rfl (one_of HT_.out (by kernel_rfl)) (by decide) (fun K hK=>?_)
           refine goes_ Try.func19 (by kernel_rfl) rfl #[.agg #[.slice Ao8 t1.length co8],.slice Ao10 t4.length co10] (by rfl) rfl rfl lm_ ?_
           with_reducible refine (impl_LeavesOf.calls k2 _ _ t1 _ _ t4 t32 _ ?side1 ?side2 ?side3 ?side4 A54.out).mono ?_
           (case side1=>exact cc_ (Kd.R_reads' Z8.out).2.2)
           (case side2=>exact (Kd.R_reads' Z8.out).2.1)
           (case side3=>exact cc_ (Kd.R_reads' HO_4.out).2.2)
           (case side4=>exact (Kd.R_reads' HO_4.out).2.1)
           rintro e w64 ⟨v33,rfl,ho0,hb⟩
           refine ⟨_,rfl,?_⟩
           have n0_:=rb_ HO_4 hb
           have n1_:=rb_ HO_5 hb
           have n2_:=a0_ (Kd.S_below (by (with_reducible repeat (first | apply Kd.S_alloc | apply Kd.S_drewN | apply Kd.S_drew));exact HO_6.out) hb)
           have n3_:=rb_ Z8 hb
           have n4_:=a0_ (Kd.R_elder' (rr_ HO31.out) (Kd.R_base ho0) hb)
           have n5_:=a0_ (Kd.R_lower (Kd.R_new' ho0 (Kd.R_lt (rr_ HO31.out))) (below_size hb_))
           have n6_:=kb_ BK7 hb
           have n7_:=a0_ (below_step hb_ hb)
           clear HO_4
           clear HO_5
           clear HO_6
           clear Z8
           clear HO31
           clear BK7
           clear HB
           have HO_4:=n0_
           have HO_5:=n1_
           have HO_6:=n2_
           have Z8:=n3_
           have HO31:=n4_
           have HO34:=n5_
           have BK7:=n6_
           have HB:=n7_
           clear n0_ n1_ n2_ n3_ n4_ n5_ n6_ n7_
           (try clear hb)
           (try clear hb2)
           (try clear hk)
           (try clear hi)
           (try clear ho0)
           obtain ⟨Ao65,co65,eo65⟩:=Kd.R_slice HO31.out
           (first | subst eo65 | (injection eo65 with f1_ f2_ f3_;have f4_:=f1_.symm;have f5_:=f3_.symm;clear f1_ f2_ f3_;subst f4_;subst f5_))
           obtain ⟨Ao66,co66,eo66⟩:=Kd.R_slice HO34.out
           (first | subst eo66 | (injection eo66 with f1_ f2_ f3_;have f4_:=f1_.symm;have f5_:=f3_.symm;clear f1_ f2_ f3_;subst f4_;subst f5_))
           refine hK.out _ _ ((blk_cell BK7.out 0).trans rfl) (fun hHeld=>?_)
           clear hK K
           refine norm_ (a':=?_) ?_ ?_
           rotate_left
           ·show Act.put _ (some 66) _ = _
            simp only [Act.put,s1_,s2_,s3_,i64_w,i32_w]
            rfl
           refine one_ (i:=10) (N:=some 67) #[true,true,true,true,true,true,true,true,true,true,true,false,false,false,false,false,false,false,false,false,false,false,false,false,false] rfl rfl (one_of HT_.out (by kernel_rfl)) (by decide) (fun K hK=>?_)
           refine goes_ Try.func18 (by kernel_rfl) rfl #[.slice Ao65 t29.length co65,.slice Ao66 t32.length co66] (by rfl) rfl rfl lm_ ?_
           with_reducible refine (laws_equalLeaves.calls k2 _ _ t29 _ _ t32 true _ ?side1 ?side2 ?side3 ?side4 A55.out).mono ?_
           (case side1=>exact cc_ (Kd.R_reads' HO31.out).2.2)
           (case side2=>exact (Kd.R_reads' HO31.out).2.1)
           (case side3=>exact cc_ (Kd.R_reads' HO34.out).2.2)
           (case side4=>exact (Kd.R_reads' HO34.out).2.1)
           rintro e w' ⟨rfl,⟨nd,rfl⟩⟩
           refine ⟨_,rfl,?_⟩
           refine hK.out _ _ ((blk_cell BK7.out 0).trans rfl) (fun hHeld=>?_)
           clear hK K
           refine norm_ (a':=?_) ?_ ?_
           rotate_left
           ·show Act.put _ (some 67) _ = _
            simp only [Act.put,s1_,s2_,s3_,i64_w,i32_w]
            rfl
           refine pure_ (i:=11) (N:=some 68) (v:=?_) (a':=?_) #[true,true,true,true,true,true,true,true,true,true,true,true,false,false,false,false,false,false,false,false,false,false,false,false,false] rfl rfl (any_of HT_.out (by kernel_rfl)) (fun _ _ _ h=>h) (Or.inl ⟨by rfl,?_⟩) ?_ ?_
           rotate_left
           ·intro w'
            go_simp
            with_reducible rfl
           rotate_left
           ·simp only [Act.put,s1_,s2_,s3_,i64_w,i32_w]
            rfl
           refine pure_ (i:=12) (N:=some 69) (v:=?_) (a':=?_) #[true,true,true,true,true,true,true,true,true,true,true,true,true,false,false,false,false,false,false,false,false,false,false,false,false] rfl rfl (any_of HT_.out (by kernel_rfl)) (fun _ _ _ h=>h) (Or.inl ⟨by rfl,?_⟩) ?_ ?_
           rotate_left
           ·intro w'
            go_simp
            with_reducible rfl
           rotate_left
           ·simp only [Act.put,s1_,s2_,s3_,i64_w,i32_w]
            rfl
           refine pure_ (i:=14) (N:=some 71) (v:=?_) (a':=?_) #[true,true,true,true,true,true,true,true,true,true,true,true,true,false,true,false,false,false,false,false,false,false,false,false,false] rfl rfl (any_of HT_.out (by kernel_rfl)) (fun _ _ _ h=>h) (Or.inl ⟨by rfl,?_⟩) ?_ ?_
           rotate_left
           ·intro w'
            go_simp
            with_reducible rfl
           rotate_left
           ·simp only [Act.put,s1_,s2_,s3_,i64_w,i32_w]
            rfl
           refine pure_ (i:=16) (N:=some 73) (v:=?_) (a':=?_) #[true,true,true,true,true,true,true,true,true,true,true,true,true,false,true,false,true,false,false,false,false,false,false,false,false] rfl rfl (any_of HT_.out (by kernel_rfl)) (fun _ _ _ h=>h) (Or.inl ⟨by rfl,?_⟩) ?_ ?_
           rotate_left
           ·intro w'
            go_simp
            with_reducible rfl
           rotate_left
           ·simp only [Act.put,s1_,s2_,s3_,i64_w,i32_w]
            rfl
           refine take_ (i:=13) (N:=some 70) (v:=?_) (a':=?_) #[true,true,true,true,true,true,true,true,true,true,true,true,true,true,true,false,true,false,false,false,false,false,false,false,false] rfl rfl (take_ofW HT_.out HW_.out (by kernel_rfl)) (fun _ _ _ h=>h) (Or.inl ⟨by rfl,?_⟩) hHeld ?_ ?_
           rotate_left
           ·intro w' s0
            go_simp
            with_reducible rfl
           rotate_left
           ·simp only [Act.put,s1_,s2_,s3_,i64_w,i32_w]
            rfl
           refine one_ (i:=15) (N:=some 72) #[true,true,true,true,true,true,true,true,true,true,true,true,true,true,true,true,true,false,false,false,false,false,false,false,false] rfl rfl (one_of HT_.out (by kernel_rfl)) (by decide) (fun K hK=>?_)
           refine goes_ Try.func15 (by kernel_rfl) rfl #[.agg #[.slice Ao8 t1.length co8],.slice Ao35 t8.length co35] (by rfl) rfl rfl lm_ ?_
           with_reducible refine (impl_SimplifyGroup.calls _ _ t1 _ _ t8 t36 _ ?side1 ?side2 ?side3 ?side4 A57.out).mono ?_
           (case side1=>exact cc_ (Kd.R_reads' Z8.out).2.2)
           (case side2=>exact (Kd.R_reads' Z8.out).2.1)
           (case side3=>exact cc_ (Kd.R_reads' HO_5.out).2.2)
           (case side4=>exact (Kd.R_reads' HO_5.out).2.1)
           rintro e w67 ⟨v37,rfl,ho0,hb⟩
           refine ⟨_,rfl,?_⟩
           have n0_:=a0_ (Kd.R_elder' (rr_ HO_4.out) (Kd.R_base ho0) hb)
           have n1_:=a0_ (Kd.R_elder' (rr_ HO_5.out) (Kd.R_base ho0) hb)
           have n2_:=a0_ (Kd.S_elder' (by (with_reducible repeat (first | apply Kd.S_alloc | apply Kd.S_drewN | apply Kd.S_drew));exact HO_6.out) (Kd.R_base ho0) hb)
           have n3_:=rb_ Z8 hb
           have n4_:=rb_ HO31 hb
           have n5_:=rb_ HO34 hb
           have n6_:=a0_ (Kd.R_lower (Kd.R_new' (Kd.R_new' ho0 (Kd.R_lt (rr_ HO_4.out))) (Kd.R_lt (rr_ HO_5.out))) (below_size hb_))
           have n7_:=kb_ BK7 hb
           have n8_:=a0_ (below_step hb_ hb)
           clear HO_4
           clear HO_5
           clear HO_6
           clear Z8
           clear HO31
           clear HO34
           clear BK7
           clear HB
           have HO_4:=n0_
           have HO_5:=n1_
           have HO_6:=n2_
           have Z8:=n3_
           have HO31:=n4_
           have HO34:=n5_
           have HO38:=n6_
           have BK7:=n7_
           have HB:=n8_
           clear n0_ n1_ n2_ n3_ n4_ n5_ n6_ n7_ n8_
           (try clear hb)
           (try clear hb2)
           (try clear hk)
           (try clear hi)
           (try clear ho0)
           obtain ⟨Ao68,co68,eo68⟩:=Kd.R_slice HO38.out
           (first | subst eo68 | (injection eo68 with f1_ f2_ f3_;have f4_:=f1_.symm;have f5_:=f3_.symm;clear f1_ f2_ f3_;subst f4_;subst f5_))
           refine hK.out _ _ ((blk_cell BK7.out 0).trans rfl) (fun hHeld=>?_)
           clear hK K
           refine norm_ (a':=?_) ?_ ?_
           rotate_left
           ·show Act.put _ (some 72) _ = _
            simp only [Act.put,s1_,s2_,s3_,i64_w,i32_w]
            rfl
           refine one_ (i:=17) (N:=some 74) #[true,true,true,true,true,true,true,true,true,true,true,true,true,true,true,true,true,true,false,false,false,false,false,false,false] rfl rfl (one_of HT_.out (by kernel_rfl)) (by decide) (fun K hK=>?_)
           refine goes_ Try.func11 (by kernel_rfl) rfl #[.slice Ao68 t36.length co68,.slice Ao35 t8.length co35] (by rfl) rfl rfl lm_ ?_
           with_reducible refine (laws_equalGroup.calls k2 _ _ t36 _ _ t8 true _ ?side1 ?side2 ?side3 ?side4 A58.out).mono ?_
           (case side1=>exact cc_ (Kd.R_reads' HO38.out).2.2)
           (case side2=>exact (Kd.R_reads' HO38.out).2.1)
           (case side3=>exact cc_ (Kd.R_reads' HO_5.out).2.2)
           (case side4=>exact (Kd.R_reads' HO_5.out).2.1)
           rintro e w' ⟨rfl,⟨nd,rfl⟩⟩
           refine ⟨_,rfl,?_⟩
           refine hK.out _ _ ((blk_cell BK7.out 0).trans rfl) (fun hHeld=>?_)
           clear hK K
           refine norm_ (a':=?_) ?_ ?_
           rotate_left
           ·show Act.put _ (some 74) _ = _
            simp only [Act.put,s1_,s2_,s3_,i64_w,i32_w]
            rfl
           refine pure_ (i:=18) (N:=some 75) (v:=?_) (a':=?_) #[true,true,true,true,true,true,true,true,true,true,true,true,true,true,true,true,true,true,true,false,false,false,false,false,false] rfl rfl (any_of HT_.out (by kernel_rfl)) (fun _ _ _ h=>h) (Or.inl ⟨by rfl,?_⟩) ?_ ?_
           rotate_left
           ·intro w'
            go_simp
            with_reducible rfl
           rotate_left
           ·simp only [Act.put,s1_,s2_,s3_,i64_w,i32_w]
            rfl
           refine pure_ (i:=19) (N:=some 76) (v:=?_) (a':=?_) #[true,true,true,true,true,true,true,true,true,true,true,true,true,true,true,true,true,true,true,true,false,false,false,false,false] rfl rfl (any_of HT_.out (by kernel_rfl)) (fun _ _ _ h=>h) (Or.inl ⟨by rfl,?_⟩) ?_ ?_
           rotate_left
           ·intro w'
            go_simp
            with_reducible rfl
           rotate_left
           ·simp only [Act.put,s1_,s2_,s3_,i64_w,i32_w]
            rfl
           refine pure_ (i:=21) (N:=some 78) (v:=?_) (a':=?_) #[true,true,true,true,true,true,true,true,true,true,true,true,true,true,true,true,true,true,true,true,false,true,false,false,false] rfl rfl (any_of HT_.out (by kernel_rfl)) (fun _ _ _ h=>h) (Or.inl ⟨by rfl,?_⟩) ?_ ?_
           rotate_left
           ·intro w'
            go_simp
            with_reducible rfl
           rotate_left
           ·simp only [Act.put,s1_,s2_,s3_,i64_w,i32_w]
            rfl
           refine take_ (i:=20) (N:=some 77) (v:=?_) (a':=?_) #[true,true,true,true,true,true,true,true,true,true,true,true,true,true,true,true,true,true,true,true,true,true,false,false,false] rfl rfl (take_ofW HT_.out HW_.out (by kernel_rfl)) (fun _ _ _ h=>h) (Or.inl ⟨by rfl,?_⟩) hHeld ?_ ?_
           rotate_left
           ·intro w' s0
            go_simp
            with_reducible rfl
           rotate_left
           ·simp only [Act.put,s1_,s2_,s3_,i64_w,i32_w]
            rfl
           refine one_ (i:=22) (N:=some 79) #[true,true,true,true,true,true,true,true,true,true,true,true,true,true,true,true,true,true,true,true,true,true,true,false,false] rfl rfl (one_of HT_.out (by kernel_rfl)) (by decide) (fun K hK=>?_)
           refine goes_ Try.func17 (by kernel_rfl) rfl #[.agg #[.slice Ao8 t1.length co8],.slice Ao35 t8.length co35] (by rfl) rfl rfl lm_ ?_
           with_reducible refine (impl_ValidGroup.calls k2 _ _ t1 _ _ t8 t40 _ ?side1 ?side2 ?side3 ?side4 A60.out).mono ?_
           (case side1=>exact cc_ (Kd.R_reads' Z8.out).2.2)
           (case side2=>exact (Kd.R_reads' Z8.out).2.1)
           (case side3=>exact cc_ (Kd.R_reads' HO_5.out).2.2)
           (case side4=>exact (Kd.R_reads' HO_5.out).2.1)
           rintro e w69 ⟨rfl,hb⟩
           refine ⟨_,rfl,?_⟩
           have n0_:=rb_ HO_4 hb
           have n1_:=rb_ HO_5 hb
           have n2_:=a0_ (Kd.S_below (by (with_reducible repeat (first | apply Kd.S_alloc | apply Kd.S_drewN | apply Kd.S_drew));exact HO_6.out) hb)
           have n3_:=rb_ Z8 hb
           have n4_:=rb_ HO31 hb
           have n5_:=rb_ HO34 hb
           have n6_:=rb_ HO38 hb
           have n7_:=kb_ BK7 hb
           have n8_:=a0_ (below_step hb_ hb)
           clear HO_4
           clear HO_5
           clear HO_6
           clear Z8
           clear HO31
           clear HO34
           clear HO38
           clear BK7
           clear HB
           have HO_4:=n0_
           have HO_5:=n1_
           have HO_6:=n2_
           have Z8:=n3_
           have HO31:=n4_
           have HO34:=n5_
           have HO38:=n6_
           have BK7:=n7_
           have HB:=n8_
           clear n0_ n1_ n2_ n3_ n4_ n5_ n6_ n7_ n8_
           (try clear hb)
           (try clear hb2)
           (try clear hk)
           (try clear hi)
           refine hK.out _ _ ((blk_cell BK7.out 0).trans rfl) (fun hHeld=>?_)
           clear hK K
           refine norm_ (a':=?_) ?_ ?_
           rotate_left
           ·show Act.put _ (some 79) _ = _
            simp only [Act.put,s1_,s2_,s3_,i64_w,i32_w]
            rfl
           refine pure_ (i:=23) (N:=some 80) (v:=?_) (a':=?_) #[true,true,true,true,true,true,true,true,true,true,true,true,true,true,true,true,true,true,true,true,true,true,true,true,false] rfl rfl (any_of HT_.out (by kernel_rfl)) (fun _ _ _ h=>h) (Or.inl ⟨by rfl,?_⟩) ?_ ?_
           rotate_left
           ·intro w'
            go_simp
            with_reducible rfl
           rotate_left
           ·simp only [Act.put,s1_,s2_,s3_,i64_w,i32_w]
            rfl
           refine pure_ (i:=24) (N:=some 2) (v:=?_) (a':=?_) #[true,true,true,true,true,true,true,true,true,true,true,true,true,true,true,true,true,true,true,true,true,true,true,true,true] rfl rfl (any_of HT_.out (by kernel_rfl)) (fun _ _ _ h=>h) (Or.inl ⟨by rfl,?_⟩) ?_ ?_
           rotate_left
           ·intro w'
            go_simp
            with_reducible rfl
           rotate_left
           ·simp only [Act.put,s1_,s2_,s3_,i64_w,i32_w]
            rfl
           refine done_ (done_of HT_.out (by kernel_rfl)) ?_
           try go_wp2
           go_ret
           exact ⟨by first | rfl | (simp [errW_none,errW_some] <;> rfl) | (simp [*,errW_none,errW_some] <;> rfl),hb_⟩
          ·replace c59:=Bool.eq_false_iff.mpr c59
           subst c59
           have H1 : (some false) = some r:=by rw [if_neg (show ¬ (false = true) by decide)] at H;exact H
           clear H
           have H:=H1
           clear H1
           obtain rfl:=Option.some.inj H
           obtain ⟨Ao70,co70,eo70⟩:=Kd.S_slice HO_6.out
           subst eo70
           try go_wp2
           have n0_:=a0_ (Kd.R_drew HO_4.out)
           have n1_:=a0_ (Kd.R_drew HO_5.out)
           have n2_:=a0_ (Kd.S_drew HO_6.out)
           have n3_:=a0_ (Kd.R_drew Z8.out)
           have n4_:=a0_ (blk_drew BK7.out)
           have n5_:=a0_ (below_drew1 HB.out)
           clear HO_4
           clear HO_5
           clear HO_6
           clear Z8
           clear BK7
           clear HB
           have HO_4:=n0_
           have HO_5:=n1_
           have HO_6:=n2_
           have Z8:=n3_
           have BK7:=n4_
           have HB:=n5_
           clear n0_ n1_ n2_ n3_ n4_ n5_
           refine start_ (n:=25) (S:=fun w'=>w'.cell? ⟨gb7,0,none⟩ = some (.slice Ao8 t1.length co8)) (ds:=[]) #[false,false,false,false,false,false,false,false,false,false,false,false,false,false,false,false,false,false,false,false,false,false,false,false,false] (by kernel_rfl) rfl rfl ((blk_cell BK7.out 0).trans rfl) (fun hHeld=>?_);refine with_tabW laws_FnSimplifyGroup.tab13 laws_FnSimplifyGroup.bits13 (fun HT_ HW_=>?_)
           generalize wr.drew = w71 at HO_4 HO_5 HO_6 Z8 BK7 HB hHeld ⊢
           refine pure_ (i:=0) (N:=some 57) (v:=?_) (a':=?_) #[true,false,false,false,false,false,false,false,false,false,false,false,false,false,false,false,false,false,false,false,false,false,false,false,false] rfl rfl (any_of HT_.out (by kernel_rfl)) (fun _ _ _ h=>h) (Or.inl ⟨by rfl,?_⟩) ?_ ?_
           rotate_left
           ·intro w'
            go_simp
            with_reducible rfl
           rotate_left
           ·simp only [Act.put,s1_,s2_,s3_,i64_w,i32_w]
            rfl
           refine pure_ (i:=1) (N:=some 58) (v:=?_) (a':=?_) #[true,true,false,false,false,false,false,false,false,false,false,false,false,false,false,false,false,false,false,false,false,false,false,false,false] rfl rfl (any_of HT_.out (by kernel_rfl)) (fun _ _ _ h=>h) (Or.inl ⟨by rfl,?_⟩) ?_ ?_
           rotate_left
           ·intro w'
            go_simp
            with_reducible rfl
           rotate_left
           ·simp only [Act.put,s1_,s2_,s3_,i64_w,i32_w]
            rfl
           refine pure_ (i:=2) (N:=some 59) (v:=?_) (a':=?_) #[true,true,true,false,false,false,false,false,false,false,false,false,false,false,false,false,false,false,false,false,false,false,false,false,false] rfl rfl (any_of HT_.out (by kernel_rfl)) (fun _ _ _ h=>h) (Or.inl ⟨by rfl,?_⟩) ?_ ?_
           rotate_left
           ·intro w'
            go_simp
            with_reducible rfl
           rotate_left
           ·simp only [Act.put,s1_,s2_,s3_,i64_w,i32_w]
            rfl
           refine pure_ (i:=3) (N:=some 60) (v:=?_) (a':=?_) #[true,true,true,true,false,false,false,false,false,false,false,false,false,false,false,false,false,false,false,false,false,false,false,false,false] rfl rfl (any_of HT_.out (by kernel_rfl)) (fun _ _ _ h=>h) (Or.inl ⟨by rfl,?_⟩) ?_ ?_
           rotate_left
           ·intro w'
            go_simp
            with_reducible rfl
           rotate_left
           ·simp only [Act.put,s1_,s2_,s3_,i64_w,i32_w]
            rfl
           refine pure_ (i:=5) (N:=some 62) (v:=?_) (a':=?_) #[true,true,true,true,false,true,false,false,false,false,false,false,false,false,false,false,false,false,false,false,false,false,false,false,false] rfl rfl (any_of HT_.out (by kernel_rfl)) (fun _ _ _ h=>h) (Or.inl ⟨by rfl,?_⟩) ?_ ?_
           rotate_left
           ·intro w'
            go_simp
            with_reducible rfl
           rotate_left
           ·simp only [Act.put,s1_,s2_,s3_,i64_w,i32_w]
            rfl
           refine pure_ (i:=8) (N:=some 65) (v:=?_) (a':=?_) #[true,true,true,true,false,true,false,false,true,false,false,false,false,false,false,false,false,false,false,false,false,false,false,false,false] rfl rfl (any_of HT_.out (by kernel_rfl)) (fun _ _ _ h=>h) (Or.inl ⟨by rfl,?_⟩) ?_ ?_
           rotate_left
           ·intro w'
            go_simp
            with_reducible rfl
           rotate_left
           ·simp only [Act.put,s1_,s2_,s3_,i64_w,i32_w]
            rfl
           refine take_ (i:=4) (N:=some 61) (v:=?_) (a':=?_) #[true,true,true,true,true,true,false,false,true,false,false,false,false,false,false,false,false,false,false,false,false,false,false,false,false] rfl rfl (take_ofW HT_.out HW_.out (by kernel_rfl)) (fun _ _ _ h=>h) (Or.inl ⟨by rfl,?_⟩) hHeld ?_ ?_
           rotate_left
           ·intro w' s0
            go_simp
            with_reducible rfl
           rotate_left
           ·simp only [Act.put,s1_,s2_,s3_,i64_w,i32_w]
            rfl
           refine take_ (i:=7) (N:=some 64) (v:=?_) (a':=?_) #[true,true,true,true,true,true,false,true,true,false,false,false,false,false,false,false,false,false,false,false,false,false,false,false,false] rfl rfl (take_ofW HT_.out HW_.out (by kernel_rfl)) (fun _ _ _ h=>h) (Or.inl ⟨by rfl,?_⟩) hHeld ?_ ?_
           rotate_left
           ·intro w' s0
            go_simp
            with_reducible rfl
           rotate_left
           ·simp only [Act.put,s1_,s2_,s3_,i64_w,i32_w]
            rfl
           refine one_ (i:=6) (N:=some 63) #[true,true,true,true,true,true,true,true,true,false,false,false,false,false,false,false,false,false,false,false,false,false,false,false,false] rfl rfl (one_of HT_.out (by kernel_rfl)) (by decide) (fun K hK=>?_)
           refine goes_ Try.func19 (by kernel_rfl) rfl #[.agg #[.slice Ao8 t1.length co8],.slice Ao35 t8.length co35] (by rfl) rfl rfl lm_ ?_
           with_reducible refine (impl_LeavesOf.calls k2 _ _ t1 _ _ t8 t29 _ ?side1 ?side2 ?side3 ?side4 A53.out).mono ?_
           (case side1=>exact cc_ (Kd.R_reads' Z8.out).2.2)
           (case side2=>exact (Kd.R_reads' Z8.out).2.1)
           (case side3=>exact cc_ (Kd.R_reads' HO_5.out).2.2)
           (case side4=>exact (Kd.R_reads' HO_5.out).2.1)
           rintro e w72 ⟨v30,rfl,ho0,hb⟩
           refine ⟨_,rfl,?_⟩
           have n0_:=rb_ HO_4 hb
           have n1_:=rb_ HO_5 hb
           have n2_:=a0_ (Kd.S_below (by (with_reducible repeat (first | apply Kd.S_alloc | apply Kd.S_drewN | apply Kd.S_drew));exact HO_6.out) hb)
           have n3_:=rb_ Z8 hb
           have n4_:=a0_ (Kd.R_lower ho0 (below_size hb_))
           have n5_:=kb_ BK7 hb
           have n6_:=a0_ (below_step hb_ hb)
           clear HO_4
           clear HO_5
           clear HO_6
           clear Z8
           clear BK7
           clear HB
           have HO_4:=n0_
           have HO_5:=n1_
           have HO_6:=n2_
           have Z8:=n3_
           have HO31:=n4_
           have BK7:=n5_
           have HB:=n6_
           clear n0_ n1_ n2_ n3_ n4_ n5_ n6_
           (try clear hb)
           (try clear hb2)
           (try clear hk)
           (try clear hi)
           (try clear ho0)
           refine hK.out _ _ ((blk_cell BK7.out 0).trans rfl) (fun hHeld=>?_)
           clear hK K
           refine norm_ (a':=?_) ?_ ?_
           rotate_left
           ·show Act.put _ (some 63) _ = _
            simp only [Act.put,s1_,s2_,s3_,i64_w,i32_w]
            rfl
           refine one_ (i:=9) (N:=some 66) #[true,true,true,true,true,true,true,true,true,true,false,false,false,false,false,false,false,false,false,false,false,false,false,false,false] rfl rfl (one_of HT_.out (by kernel_rfl)) (by decide) (fun K hK=>?_)
           refine goes_ Try.func19 (by kernel_rfl) rfl #[.agg #[.slice Ao8 t1.length co8],.slice Ao10 t4.length co10] (by rfl) rfl rfl lm_ ?_
           with_reducible refine (impl_LeavesOf.calls k2 _ _ t1 _ _ t4 t32 _ ?side1 ?side2 ?side3 ?side4 A54.out).mono ?_
           (case side1=>exact cc_ (Kd.R_reads' Z8.out).2.2)
           (case side2=>exact (Kd.R_reads' Z8.out).2.1)
           (case side3=>exact cc_ (Kd.R_reads' HO_4.out).2.2)
           (case side4=>exact (Kd.R_reads' HO_4.out).2.1)
           rintro e w73 ⟨v33,rfl,ho0,hb⟩
           refine ⟨_,rfl,?_⟩
           have n0_:=rb_ HO_4 hb
           have n1_:=rb_ HO_5 hb
           have n2_:=a0_ (Kd.S_below (by (with_reducible repeat (first | apply Kd.S_alloc | apply Kd.S_drewN | apply Kd.S_drew));exact HO_6.out) hb)
           have n3_:=rb_ Z8 hb
           have n4_:=a0_ (Kd.R_elder' (rr_ HO31.out) (Kd.R_base ho0) hb)
           have n5_:=a0_ (Kd.R_lower (Kd.R_new' ho0 (Kd.R_lt (rr_ HO31.out))) (below_size hb_))
           have n6_:=kb_ BK7 hb
           have n7_:=a0_ (below_step hb_ hb)
           clear HO_4
           clear HO_5
           clear HO_6
           clear Z8
           clear HO31
           clear BK7
           clear HB
           have HO_4:=n0_
           have HO_5:=n1_
           have HO_6:=n2_
           have Z8:=n3_
           have HO31:=n4_
           have HO34:=n5_
           have BK7:=n6_
           have HB:=n7_
           clear n0_ n1_ n2_ n3_ n4_ n5_ n6_ n7_
           (try clear hb)
           (try clear hb2)
           (try clear hk)
           (try clear hi)
           (try clear ho0)
           obtain ⟨Ao74,co74,eo74⟩:=Kd.R_slice HO31.out
           (first | subst eo74 | (injection eo74 with f1_ f2_ f3_;have f4_:=f1_.symm;have f5_:=f3_.symm;clear f1_ f2_ f3_;subst f4_;subst f5_))
           obtain ⟨Ao75,co75,eo75⟩:=Kd.R_slice HO34.out
           (first | subst eo75 | (injection eo75 with f1_ f2_ f3_;have f4_:=f1_.symm;have f5_:=f3_.symm;clear f1_ f2_ f3_;subst f4_;subst f5_))
           refine hK.out _ _ ((blk_cell BK7.out 0).trans rfl) (fun hHeld=>?_)
           clear hK K
           refine norm_ (a':=?_) ?_ ?_
           rotate_left
           ·show Act.put _ (some 66) _ = _
            simp only [Act.put,s1_,s2_,s3_,i64_w,i32_w]
            rfl
           refine one_ (i:=10) (N:=some 67) #[true,true,true,true,true,true,true,true,true,true,true,false,false,false,false,false,false,false,false,false,false,false,false,false,false] rfl rfl (one_of HT_.out (by kernel_rfl)) (by decide) (fun K hK=>?_)
           refine goes_ Try.func18 (by kernel_rfl) rfl #[.slice Ao74 t29.length co74,.slice Ao75 t32.length co75] (by rfl) rfl rfl lm_ ?_
           with_reducible refine (laws_equalLeaves.calls k2 _ _ t29 _ _ t32 true _ ?side1 ?side2 ?side3 ?side4 A55.out).mono ?_
           (case side1=>exact cc_ (Kd.R_reads' HO31.out).2.2)
           (case side2=>exact (Kd.R_reads' HO31.out).2.1)
           (case side3=>exact cc_ (Kd.R_reads' HO34.out).2.2)
           (case side4=>exact (Kd.R_reads' HO34.out).2.1)
           rintro e w' ⟨rfl,⟨nd,rfl⟩⟩
           refine ⟨_,rfl,?_⟩
           refine hK.out _ _ ((blk_cell BK7.out 0).trans rfl) (fun hHeld=>?_)
           clear hK K
           refine norm_ (a':=?_) ?_ ?_
           rotate_left
           ·show Act.put _ (some 67) _ = _
            simp only [Act.put,s1_,s2_,s3_,i64_w,i32_w]
            rfl
           refine pure_ (i:=11) (N:=some 68) (v:=?_) (a':=?_) #[true,true,true,true,true,true,true,true,true,true,true,true,false,false,false,false,false,false,false,false,false,false,false,false,false] rfl rfl (any_of HT_.out (by kernel_rfl)) (fun _ _ _ h=>h) (Or.inl ⟨by rfl,?_⟩) ?_ ?_
           rotate_left
           ·intro w'
            go_simp
            with_reducible rfl
           rotate_left
           ·simp only [Act.put,s1_,s2_,s3_,i64_w,i32_w]
            rfl
           refine pure_ (i:=12) (N:=some 69) (v:=?_) (a':=?_) #[true,true,true,true,true,true,true,true,true,true,true,true,true,false,false,false,false,false,false,false,false,false,false,false,false] rfl rfl (any_of HT_.out (by kernel_rfl)) (fun _ _ _ h=>h) (Or.inl ⟨by rfl,?_⟩) ?_ ?_
           rotate_left
           ·intro w'
            go_simp
            with_reducible rfl
           rotate_left
           ·simp only [Act.put,s1_,s2_,s3_,i64_w,i32_w]
            rfl
           refine pure_ (i:=14) (N:=some 71) (v:=?_) (a':=?_) #[true,true,true,true,true,true,true,true,true,true,true,true,true,false,true,false,false,false,false,false,false,false,false,false,false] rfl rfl (any_of HT_.out (by kernel_rfl)) (fun _ _ _ h=>h) (Or.inl ⟨by rfl,?_⟩) ?_ ?_
           rotate_left
           ·intro w'
            go_simp
            with_reducible rfl
           rotate_left
           ·simp only [Act.put,s1_,s2_,s3_,i64_w,i32_w]
            rfl
           refine pure_ (i:=16) (N:=some 73) (v:=?_) (a':=?_) #[true,true,true,true,true,true,true,true,true,true,true,true,true,false,true,false,true,false,false,false,false,false,false,false,false] rfl rfl (any_of HT_.out (by kernel_rfl)) (fun _ _ _ h=>h) (Or.inl ⟨by rfl,?_⟩) ?_ ?_
           rotate_left
           ·intro w'
            go_simp
            with_reducible rfl
           rotate_left
           ·simp only [Act.put,s1_,s2_,s3_,i64_w,i32_w]
            rfl
           refine take_ (i:=13) (N:=some 70) (v:=?_) (a':=?_) #[true,true,true,true,true,true,true,true,true,true,true,true,true,true,true,false,true,false,false,false,false,false,false,false,false] rfl rfl (take_ofW HT_.out HW_.out (by kernel_rfl)) (fun _ _ _ h=>h) (Or.inl ⟨by rfl,?_⟩) hHeld ?_ ?_
           rotate_left
           ·intro w' s0
            go_simp
            with_reducible rfl
           rotate_left
           ·simp only [Act.put,s1_,s2_,s3_,i64_w,i32_w]
            rfl
           refine one_ (i:=15) (N:=some 72) #[true,true,true,true,true,true,true,true,true,true,true,true,true,true,true,true,true,false,false,false,false,false,false,false,false] rfl rfl (one_of HT_.out (by kernel_rfl)) (by decide) (fun K hK=>?_)
           refine goes_ Try.func15 (by kernel_rfl) rfl #[.agg #[.slice Ao8 t1.length co8],.slice Ao35 t8.length co35] (by rfl) rfl rfl lm_ ?_
           with_reducible refine (impl_SimplifyGroup.calls _ _ t1 _ _ t8 t36 _ ?side1 ?side2 ?side3 ?side4 A57.out).mono ?_
           (case side1=>exact cc_ (Kd.R_reads' Z8.out).2.2)
           (case side2=>exact (Kd.R_reads' Z8.out).2.1)
           (case side3=>exact cc_ (Kd.R_reads' HO_5.out).2.2)
           (case side4=>exact (Kd.R_reads' HO_5.out).2.1)
           rintro e w76 ⟨v37,rfl,ho0,hb⟩
           refine ⟨_,rfl,?_⟩
           have n0_:=a0_ (Kd.R_elder' (rr_ HO_4.out) (Kd.R_base ho0) hb)
           have n1_:=a0_ (Kd.R_elder' (rr_ HO_5.out) (Kd.R_base ho0) hb)
           have n2_:=a0_ (Kd.S_elder' (by (with_reducible repeat (first | apply Kd.S_alloc | apply Kd.S_drewN | apply Kd.S_drew));exact HO_6.out) (Kd.R_base ho0) hb)
           have n3_:=rb_ Z8 hb
           have n4_:=rb_ HO31 hb
           have n5_:=rb_ HO34 hb
           have n6_:=a0_ (Kd.R_lower (Kd.R_new' (Kd.R_new' ho0 (Kd.R_lt (rr_ HO_4.out))) (Kd.R_lt (rr_ HO_5.out))) (below_size hb_))
           have n7_:=kb_ BK7 hb
           have n8_:=a0_ (below_step hb_ hb)
           clear HO_4
           clear HO_5
           clear HO_6
           clear Z8
           clear HO31
           clear HO34
           clear BK7
           clear HB
           have HO_4:=n0_
           have HO_5:=n1_
           have HO_6:=n2_
           have Z8:=n3_
           have HO31:=n4_
           have HO34:=n5_
           have HO38:=n6_
           have BK7:=n7_
           have HB:=n8_
           clear n0_ n1_ n2_ n3_ n4_ n5_ n6_ n7_ n8_
           (try clear hb)
           (try clear hb2)
           (try clear hk)
           (try clear hi)
           (try clear ho0)
           obtain ⟨Ao77,co77,eo77⟩:=Kd.R_slice HO38.out
           (first | subst eo77 | (injection eo77 with f1_ f2_ f3_;have f4_:=f1_.symm;have f5_:=f3_.symm;clear f1_ f2_ f3_;subst f4_;subst f5_))
           refine hK.out _ _ ((blk_cell BK7.out 0).trans rfl) (fun hHeld=>?_)
           clear hK K
           refine norm_ (a':=?_) ?_ ?_
           rotate_left
           ·show Act.put _ (some 72) _ = _
            simp only [Act.put,s1_,s2_,s3_,i64_w,i32_w]
            rfl
           refine one_ (i:=17) (N:=some 74) #[true,true,true,true,true,true,true,true,true,true,true,true,true,true,true,true,true,true,false,false,false,false,false,false,false] rfl rfl (one_of HT_.out (by kernel_rfl)) (by decide) (fun K hK=>?_)
           refine goes_ Try.func11 (by kernel_rfl) rfl #[.slice Ao77 t36.length co77,.slice Ao35 t8.length co35] (by rfl) rfl rfl lm_ ?_
           with_reducible refine (laws_equalGroup.calls k2 _ _ t36 _ _ t8 false _ ?side1 ?side2 ?side3 ?side4 A58.out).mono ?_
           (case side1=>exact cc_ (Kd.R_reads' HO38.out).2.2)
           (case side2=>exact (Kd.R_reads' HO38.out).2.1)
           (case side3=>exact cc_ (Kd.R_reads' HO_5.out).2.2)
           (case side4=>exact (Kd.R_reads' HO_5.out).2.1)
           rintro e w' ⟨rfl,⟨nd,rfl⟩⟩
           refine ⟨_,rfl,?_⟩
           refine hK.out _ _ ((blk_cell BK7.out 0).trans rfl) (fun hHeld=>?_)
           clear hK K
           refine norm_ (a':=?_) ?_ ?_
           rotate_left
           ·show Act.put _ (some 74) _ = _
            simp only [Act.put,s1_,s2_,s3_,i64_w,i32_w]
            rfl
           refine pure_ (i:=18) (N:=some 75) (v:=?_) (a':=?_) #[true,true,true,true,true,true,true,true,true,true,true,true,true,true,true,true,true,true,true,false,false,false,false,false,false] rfl rfl (any_of HT_.out (by kernel_rfl)) (fun _ _ _ h=>h) (Or.inl ⟨by rfl,?_⟩) ?_ ?_
           rotate_left
           ·intro w'
            go_simp
            with_reducible rfl
           rotate_left
           ·simp only [Act.put,s1_,s2_,s3_,i64_w,i32_w]
            rfl
           refine pure_ (i:=19) (N:=some 76) (v:=?_) (a':=?_) #[true,true,true,true,true,true,true,true,true,true,true,true,true,true,true,true,true,true,true,true,false,false,false,false,false] rfl rfl (any_of HT_.out (by kernel_rfl)) (fun _ _ _ h=>h) (Or.inl ⟨by rfl,?_⟩) ?_ ?_
           rotate_left
           ·intro w'
            go_simp
            with_reducible rfl
           rotate_left
           ·simp only [Act.put,s1_,s2_,s3_,i64_w,i32_w]
            rfl
           refine pure_ (i:=20) (N:=some 77) (v:=undef) (a':=?_) #[true,true,true,true,true,true,true,true,true,true,true,true,true,true,true,true,true,true,true,true,true,false,false,false,false] rfl rfl (any_of HT_.out (by kernel_rfl)) (fun _ _ _ h=>h) (Or.inr ⟨by rfl,rfl⟩) ?_ ?_
           rotate_left
           ·simp only [Act.put,s1_,s2_,s3_,i64_w,i32_w]
            rfl
           refine pure_ (i:=21) (N:=some 78) (v:=undef) (a':=?_) #[true,true,true,true,true,true,true,true,true,true,true,true,true,true,true,true,true,true,true,true,true,true,false,false,false] rfl rfl (any_of HT_.out (by kernel_rfl)) (fun _ _ _ h=>h) (Or.inr ⟨by rfl,rfl⟩) ?_ ?_
           rotate_left
           ·simp only [Act.put,s1_,s2_,s3_,i64_w,i32_w]
            rfl
           refine pure_ (i:=22) (N:=some 79) (v:=undef) (a':=?_) #[true,true,true,true,true,true,true,true,true,true,true,true,true,true,true,true,true,true,true,true,true,true,true,false,false] rfl rfl (any_of HT_.out (by kernel_rfl)) (fun _ _ _ h=>h) (Or.inr ⟨by rfl,rfl⟩) ?_ ?_
           rotate_left
           ·simp only [Act.put,s1_,s2_,s3_,i64_w,i32_w]
            rfl
           refine pure_ (i:=23) (N:=some 80) (v:=?_) (a':=?_) #[true,true,true,true,true,true,true,true,true,true,true,true,true,true,true,true,true,true,true,true,true,true,true,true,false] rfl rfl (any_of HT_.out (by kernel_rfl)) (fun _ _ _ h=>h) (Or.inl ⟨by rfl,?_⟩) ?_ ?_
           rotate_left
           ·intro w'
            go_simp
            with_reducible rfl
           rotate_left
           ·simp only [Act.put,s1_,s2_,s3_,i64_w,i32_w]
            rfl
           refine pure_ (i:=24) (N:=some 2) (v:=?_) (a':=?_) #[true,true,true,true,true,true,true,true,true,true,true,true,true,true,true,true,true,true,true,true,true,true,true,true,true] rfl rfl (any_of HT_.out (by kernel_rfl)) (fun _ _ _ h=>h) (Or.inl ⟨by rfl,?_⟩) ?_ ?_
           rotate_left
           ·intro w'
            go_simp
            with_reducible rfl
           rotate_left
           ·simp only [Act.put,s1_,s2_,s3_,i64_w,i32_w]
            rfl
           refine done_ (done_of HT_.out (by kernel_rfl)) ?_
           try go_wp2
           go_ret
           exact ⟨by first | rfl | (simp [errW_none,errW_some] <;> rfl) | (simp [*,errW_none,errW_some] <;> rfl),hb_⟩
         ·replace c56:=Bool.eq_false_iff.mpr c56
          subst c56
          have H1 : (some false) = some r:=by rw [if_neg (show ¬ (false = true) by decide)] at H;exact H
          clear H
          have H:=H1
          clear H1
          obtain rfl:=Option.some.inj H
          obtain ⟨Ao78,co78,eo78⟩:=Kd.S_slice HO_6.out
          subst eo78
          try go_wp2
          have n0_:=a0_ (Kd.R_drew HO_4.out)
          have n1_:=a0_ (Kd.R_drew HO_5.out)
          have n2_:=a0_ (Kd.S_drew HO_6.out)
          have n3_:=a0_ (Kd.R_drew Z8.out)
          have n4_:=a0_ (blk_drew BK7.out)
          have n5_:=a0_ (below_drew1 HB.out)
          clear HO_4
          clear HO_5
          clear HO_6
          clear Z8
          clear BK7
          clear HB
          have HO_4:=n0_
          have HO_5:=n1_
          have HO_6:=n2_
          have Z8:=n3_
          have BK7:=n4_
          have HB:=n5_
          clear n0_ n1_ n2_ n3_ n4_ n5_
          refine start_ (n:=25) (S:=fun w'=>w'.cell? ⟨gb7,0,none⟩ = some (.slice Ao8 t1.length co8)) (ds:=[]) #[false,false,false,false,false,false,false,false,false,false,false,false,false,false,false,false,false,false,false,false,false,false,false,false,false] (by kernel_rfl) rfl rfl ((blk_cell BK7.out 0).trans rfl) (fun hHeld=>?_);refine with_tabW laws_FnSimplifyGroup.tab13 laws_FnSimplifyGroup.bits13 (fun HT_ HW_=>?_)
          generalize wr.drew = w79 at HO_4 HO_5 HO_6 Z8 BK7 HB hHeld ⊢
          refine pure_ (i:=0) (N:=some 57) (v:=?_) (a':=?_) #[true,false,false,false,false,false,false,false,false,false,false,false,false,false,false,false,false,false,false,false,false,false,false,false,false] rfl rfl (any_of HT_.out (by kernel_rfl)) (fun _ _ _ h=>h) (Or.inl ⟨by rfl,?_⟩) ?_ ?_
          rotate_left
          ·intro w'
           go_simp
           with_reducible rfl
          rotate_left
          ·simp only [Act.put,s1_,s2_,s3_,i64_w,i32_w]
           rfl
          refine pure_ (i:=1) (N:=some 58) (v:=?_) (a':=?_) #[true,true,false,false,false,false,false,false,false,false,false,false,false,false,false,false,false,false,false,false,false,false,false,false,false] rfl rfl (any_of HT_.out (by kernel_rfl)) (fun _ _ _ h=>h) (Or.inl ⟨by rfl,?_⟩) ?_ ?_
          rotate_left
          ·intro w'
           go_simp
           with_reducible rfl
          rotate_left
          ·simp only [Act.put,s1_,s2_,s3_,i64_w,i32_w]
           rfl
          refine pure_ (i:=2) (N:=some 59) (v:=?_) (a':=?_) #[true,true,true,false,false,false,false,false,false,false,false,false,false,false,false,false,false,false,false,false,false,false,false,false,false] rfl rfl (any_of HT_.out (by kernel_rfl)) (fun _ _ _ h=>h) (Or.inl ⟨by rfl,?_⟩) ?_ ?_
          rotate_left
          ·intro w'
           go_simp
           with_reducible rfl
          rotate_left
          ·simp only [Act.put,s1_,s2_,s3_,i64_w,i32_w]
           rfl
          refine pure_ (i:=3) (N:=some 60) (v:=?_) (a':=?_) #[true,true,true,true,false,false,false,false,false,false,false,false,false,false,false,false,false,false,false,false,false,false,false,false,false] rfl rfl (any_of HT_.out (by kernel_rfl)) (fun _ _ _ h=>h) (Or.inl ⟨by rfl,?_⟩) ?_ ?_
          rotate_left
          ·intro w'
           go_simp
           with_reducible rfl
          rotate_left
          ·simp only [Act.put,s1_,s2_,s3_,i64_w,i32_w]
           rfl
          refine pure_ (i:=5) (N:=some 62) (v:=?_) (a':=?_) #[true,true,true,true,false,true,false,false,false,false,false,false,false,false,false,false,false,false,false,false,false,false,false,false,false] rfl rfl (any_of HT_.out (by kernel_rfl)) (fun _ _ _ h=>h) (Or.inl ⟨by rfl,?_⟩) ?_ ?_
          rotate_left
          ·intro w'
           go_simp
           with_reducible rfl
          rotate_left
          ·simp only [Act.put,s1_,s2_,s3_,i64_w,i32_w]
           rfl
          refine pure_ (i:=8) (N:=some 65) (v:=?_) (a':=?_) #[true,true,true,true,false,true,false,false,true,false,false,false,false,false,false,false,false,false,false,false,false,false,false,false,false] rfl rfl (any_of HT_.out (by kernel_rfl)) (fun _ _ _ h=>h) (Or.inl ⟨by rfl,?_⟩) ?_ ?_
          rotate_left
          ·intro w'
           go_simp
           with_reducible rfl
          rotate_left
          ·simp only [Act.put,s1_,s2_,s3_,i64_w,i32_w]
           rfl
          refine take_ (i:=4) (N:=some 61) (v:=?_) (a':=?_) #[true,true,true,true,true,true,false,false,true,false,false,false,false,false,false,false,false,false,false,false,false,false,false,false,false] rfl rfl (take_ofW HT_.out HW_.out (by kernel_rfl)) (fun _ _ _ h=>h) (Or.inl ⟨by rfl,?_⟩) hHeld ?_ ?_
          rotate_left
          ·intro w' s0
           go_simp
           with_reducible rfl
          rotate_left
          ·simp only [Act.put,s1_,s2_,s3_,i64_w,i32_w]
           rfl
          refine take_ (i:=7) (N:=some 64) (v:=?_) (a':=?_) #[true,true,true,true,true,true,false,true,true,false,false,false,false,false,false,false,false,false,false,false,false,false,false,false,false] rfl rfl (take_ofW HT_.out HW_.out (by kernel_rfl)) (fun _ _ _ h=>h) (Or.inl ⟨by rfl,?_⟩) hHeld ?_ ?_
          rotate_left
          ·intro w' s0
           go_simp
           with_reducible rfl
          rotate_left
          ·simp only [Act.put,s1_,s2_,s3_,i64_w,i32_w]
           rfl
          refine one_ (i:=6) (N:=some 63) #[true,true,true,true,true,true,true,true,true,false,false,false,false,false,false,false,false,false,false,false,false,false,false,false,false] rfl rfl (one_of HT_.out (by kernel_rfl)) (by decide) (fun K hK=>?_)
          refine goes_ Try.func19 (by kernel_rfl) rfl #[.agg #[.slice Ao8 t1.length co8],.slice Ao35 t8.length co35] (by rfl) rfl rfl lm_ ?_
          with_reducible refine (impl_LeavesOf.calls k2 _ _ t1 _ _ t8 t29 _ ?side1 ?side2 ?side3 ?side4 A53.out).mono ?_
          (case side1=>exact cc_ (Kd.R_reads' Z8.out).2.2)
          (case side2=>exact (Kd.R_reads' Z8.out).2.1)
          (case side3=>exact cc_ (Kd.R_reads' HO_5.out).2.2)
          (case side4=>exact (Kd.R_reads' HO_5.out).2.1)
          rintro e w80 ⟨v30,rfl,ho0,hb⟩
          refine ⟨_,rfl,?_⟩
          have n0_:=rb_ HO_4 hb
          have n1_:=rb_ HO_5 hb
          have n2_:=a0_ (Kd.S_below (by (with_reducible repeat (first | apply Kd.S_alloc | apply Kd.S_drewN | apply Kd.S_drew));exact HO_6.out) hb)
          have n3_:=rb_ Z8 hb
          have n4_:=a0_ (Kd.R_lower ho0 (below_size hb_))
          have n5_:=kb_ BK7 hb
          have n6_:=a0_ (below_step hb_ hb)
          clear HO_4
          clear HO_5
          clear HO_6
          clear Z8
          clear BK7
          clear HB
          have HO_4:=n0_
          have HO_5:=n1_
          have HO_6:=n2_
          have Z8:=n3_
          have HO31:=n4_
          have BK7:=n5_
          have HB:=n6_
          clear n0_ n1_ n2_ n3_ n4_ n5_ n6_
          (try clear hb)
          (try clear hb2)
          (try clear hk)
          (try clear hi)
          (try clear ho0)
          refine hK.out _ _ ((blk_cell BK7.out 0).trans rfl) (fun hHeld=>?_)
          clear hK K
          refine norm_ (a':=?_) ?_ ?_
          rotate_left
          ·show Act.put _ (some 63) _ = _
           simp only [Act.put,s1_,s2_,s3_,i64_w,i32_w]
           rfl
          refine one_ (i:=9) (N:=some 66) #[true,true,true,true,true,true,true,true,true,true,false,false,false,false,false,false,false,false,false,false,false,false,false,false,false] rfl rfl (one_of HT_.out (by kernel_rfl)) (by decide) (fun K hK=>?_)
          refine goes_ Try.func19 (by kernel_rfl) rfl #[.agg #[.slice Ao8 t1.length co8],.slice Ao10 t4.length co10] (by rfl) rfl rfl lm_ ?_
          with_reducible refine (impl_LeavesOf.calls k2 _ _ t1 _ _ t4 t32 _ ?side1 ?side2 ?side3 ?side4 A54.out).mono ?_
          (case side1=>exact cc_ (Kd.R_reads' Z8.out).2.2)
          (case side2=>exact (Kd.R_reads' Z8.out).2.1)
          (case side3=>exact cc_ (Kd.R_reads' HO_4.out).2.2)
          (case side4=>exact (Kd.R_reads' HO_4.out).2.1)
          rintro e w81 ⟨v33,rfl,ho0,hb⟩
          refine ⟨_,rfl,?_⟩
          have n0_:=rb_ HO_4 hb
          have n1_:=rb_ HO_5 hb
          have n2_:=a0_ (Kd.S_below (by (with_reducible repeat (first | apply Kd.S_alloc | apply Kd.S_drewN | apply Kd.S_drew));exact HO_6.out) hb)
          have n3_:=rb_ Z8 hb
          have n4_:=a0_ (Kd.R_elder' (rr_ HO31.out) (Kd.R_base ho0) hb)
          have n5_:=a0_ (Kd.R_lower (Kd.R_new' ho0 (Kd.R_lt (rr_ HO31.out))) (below_size hb_))
          have n6_:=kb_ BK7 hb
          have n7_:=a0_ (below_step hb_ hb)
          clear HO_4
          clear HO_5
          clear HO_6
          clear Z8
          clear HO31
          clear BK7
          clear HB
          have HO_4:=n0_
          have HO_5:=n1_
          have HO_6:=n2_
          have Z8:=n3_
          have HO31:=n4_
          have HO34:=n5_
          have BK7:=n6_
          have HB:=n7_
          clear n0_ n1_ n2_ n3_ n4_ n5_ n6_ n7_
          (try clear hb)
          (try clear hb2)
          (try clear hk)
          (try clear hi)
          (try clear ho0)
          obtain ⟨Ao82,co82,eo82⟩:=Kd.R_slice HO31.out
          (first | subst eo82 | (injection eo82 with f1_ f2_ f3_;have f4_:=f1_.symm;have f5_:=f3_.symm;clear f1_ f2_ f3_;subst f4_;subst f5_))
          obtain ⟨Ao83,co83,eo83⟩:=Kd.R_slice HO34.out
          (first | subst eo83 | (injection eo83 with f1_ f2_ f3_;have f4_:=f1_.symm;have f5_:=f3_.symm;clear f1_ f2_ f3_;subst f4_;subst f5_))
          refine hK.out _ _ ((blk_cell BK7.out 0).trans rfl) (fun hHeld=>?_)
          clear hK K
          refine norm_ (a':=?_) ?_ ?_
          rotate_left
          ·show Act.put _ (some 66) _ = _
           simp only [Act.put,s1_,s2_,s3_,i64_w,i32_w]
           rfl
          refine one_ (i:=10) (N:=some 67) #[true,true,true,true,true,true,true,true,true,true,true,false,false,false,false,false,false,false,false,false,false,false,false,false,false] rfl rfl (one_of HT_.out (by kernel_rfl)) (by decide) (fun K hK=>?_)
          refine goes_ Try.func18 (by kernel_rfl) rfl #[.slice Ao82 t29.length co82,.slice Ao83 t32.length co83] (by rfl) rfl rfl lm_ ?_
          with_reducible refine (laws_equalLeaves.calls k2 _ _ t29 _ _ t32 false _ ?side1 ?side2 ?side3 ?side4 A55.out).mono ?_
          (case side1=>exact cc_ (Kd.R_reads' HO31.out).2.2)
          (case side2=>exact (Kd.R_reads' HO31.out).2.1)
          (case side3=>exact cc_ (Kd.R_reads' HO34.out).2.2)
          (case side4=>exact (Kd.R_reads' HO34.out).2.1)
          rintro e w' ⟨rfl,⟨nd,rfl⟩⟩
          refine ⟨_,rfl,?_⟩
          refine hK.out _ _ ((blk_cell BK7.out 0).trans rfl) (fun hHeld=>?_)
          clear hK K
          refine norm_ (a':=?_) ?_ ?_
          rotate_left
          ·show Act.put _ (some 67) _ = _
           simp only [Act.put,s1_,s2_,s3_,i64_w,i32_w]
           rfl
          refine pure_ (i:=11) (N:=some 68) (v:=?_) (a':=?_) #[true,true,true,true,true,true,true,true,true,true,true,true,false,false,false,false,false,false,false,false,false,false,false,false,false] rfl rfl (any_of HT_.out (by kernel_rfl)) (fun _ _ _ h=>h) (Or.inl ⟨by rfl,?_⟩) ?_ ?_
          rotate_left
          ·intro w'
           go_simp
           with_reducible rfl
          rotate_left
          ·simp only [Act.put,s1_,s2_,s3_,i64_w,i32_w]
           rfl
          refine pure_ (i:=12) (N:=some 69) (v:=?_) (a':=?_) #[true,true,true,true,true,true,true,true,true,true,true,true,true,false,false,false,false,false,false,false,false,false,false,false,false] rfl rfl (any_of HT_.out (by kernel_rfl)) (fun _ _ _ h=>h) (Or.inl ⟨by rfl,?_⟩) ?_ ?_
          rotate_left
          ·intro w'
           go_simp
           with_reducible rfl
          rotate_left
          ·simp only [Act.put,s1_,s2_,s3_,i64_w,i32_w]
           rfl
          refine pure_ (i:=13) (N:=some 70) (v:=undef) (a':=?_) #[true,true,true,true,true,true,true,true,true,true,true,true,true,true,false,false,false,false,false,false,false,false,false,false,false] rfl rfl (any_of HT_.out (by kernel_rfl)) (fun _ _ _ h=>h) (Or.inr ⟨by rfl,rfl⟩) ?_ ?_
          rotate_left
          ·simp only [Act.put,s1_,s2_,s3_,i64_w,i32_w]
           rfl
          refine pure_ (i:=14) (N:=some 71) (v:=undef) (a':=?_) #[true,true,true,true,true,true,true,true,true,true,true,true,true,true,true,false,false,false,false,false,false,false,false,false,false] rfl rfl (any_of HT_.out (by kernel_rfl)) (fun _ _ _ h=>h) (Or.inr ⟨by rfl,rfl⟩) ?_ ?_
          rotate_left
          ·simp only [Act.put,s1_,s2_,s3_,i64_w,i32_w]
           rfl
          refine pure_ (i:=15) (N:=some 72) (v:=undef) (a':=?_) #[true,true,true,true,true,true,true,true,true,true,true,true,true,true,true,true,false,false,false,false,false,false,false,false,false] rfl rfl (any_of HT_.out (by kernel_rfl)) (fun _ _ _ h=>h) (Or.inr ⟨by rfl,rfl⟩) ?_ ?_
          rotate_left
          ·simp only [Act.put,s1_,s2_,s3_,i64_w,i32_w]
           rfl
          refine pure_ (i:=16) (N:=some 73) (v:=undef) (a':=?_) #[true,true,true,true,true,true,true,true,true,true,true,true,true,true,true,true,true,false,false,false,false,false,false,false,false] rfl rfl (any_of HT_.out (by kernel_rfl)) (fun _ _ _ h=>h) (Or.inr ⟨by rfl,rfl⟩) ?_ ?_
          rotate_left
          ·simp only [Act.put,s1_,s2_,s3_,i64_w,i32_w]
           rfl
          refine pure_ (i:=17) (N:=some 74) (v:=undef) (a':=?_) #[true,true,true,true,true,true,true,true,true,true,true,true,true,true,true,true,true,true,false,false,false,false,false,false,false] rfl rfl (any_of HT_.out (by kernel_rfl)) (fun _ _ _ h=>h) (Or.inr ⟨by rfl,rfl⟩) ?_ ?_
          rotate_left
          ·simp only [Act.put,s1_,s2_,s3_,i64_w,i32_w]
           rfl
          refine pure_ (i:=18) (N:=some 75) (v:=?_) (a':=?_) #[true,true,true,true,true,true,true,true,true,true,true,true,true,true,true,true,true,true,true,false,false,false,false,false,false] rfl rfl (any_of HT_.out (by kernel_rfl)) (fun _ _ _ h=>h) (Or.inl ⟨by rfl,?_⟩) ?_ ?_
          rotate_left
          ·intro w'
           go_simp
           with_reducible rfl
          rotate_left
          ·simp only [Act.put,s1_,s2_,s3_,i64_w,i32_w]
           rfl
          refine pure_ (i:=19) (N:=some 76) (v:=?_) (a':=?_) #[true,true,true,true,true,true,true,true,true,true,true,true,true,true,true,true,true,true,true,true,false,false,false,false,false] rfl rfl (any_of HT_.out (by kernel_rfl)) (fun _ _ _ h=>h) (Or.inl ⟨by rfl,?_⟩) ?_ ?_
          rotate_left
          ·intro w'
           go_simp
           with_reducible rfl
          rotate_left
          ·simp only [Act.put,s1_,s2_,s3_,i64_w,i32_w]
           rfl
          refine pure_ (i:=20) (N:=some 77) (v:=undef) (a':=?_) #[true,true,true,true,true,true,true,true,true,true,true,true,true,true,true,true,true,true,true,true,true,false,false,false,false] rfl rfl (any_of HT_.out (by kernel_rfl)) (fun _ _ _ h=>h) (Or.inr ⟨by rfl,rfl⟩) ?_ ?_
          rotate_left
          ·simp only [Act.put,s1_,s2_,s3_,i64_w,i32_w]
           rfl
          refine pure_ (i:=21) (N:=some 78) (v:=undef) (a':=?_) #[true,true,true,true,true,true,true,true,true,true,true,true,true,true,true,true,true,true,true,true,true,true,false,false,false] rfl rfl (any_of HT_.out (by kernel_rfl)) (fun _ _ _ h=>h) (Or.inr ⟨by rfl,rfl⟩) ?_ ?_
          rotate_left
          ·simp only [Act.put,s1_,s2_,s3_,i64_w,i32_w]
           rfl
          refine pure_ (i:=22) (N:=some 79) (v:=undef) (a':=?_) #[true,true,true,true,true,true,true,true,true,true,true,true,true,true,true,true,true,true,true,true,true,true,true,false,false] rfl rfl (any_of HT_.out (by kernel_rfl)) (fun _ _ _ h=>h) (Or.inr ⟨by rfl,rfl⟩) ?_ ?_
          rotate_left
          ·simp only [Act.put,s1_,s2_,s3_,i64_w,i32_w]
           rfl
          refine pure_ (i:=23) (N:=some 80) (v:=?_) (a':=?_) #[true,true,true,true,true,true,true,true,true,true,true,true,true,true,true,true,true,true,true,true,true,true,true,true,false] rfl rfl (any_of HT_.out (by kernel_rfl)) (fun _ _ _ h=>h) (Or.inl ⟨by rfl,?_⟩) ?_ ?_
          rotate_left
          ·intro w'
           go_simp
           with_reducible rfl
          rotate_left
          ·simp only [Act.put,s1_,s2_,s3_,i64_w,i32_w]
           rfl
          refine pure_ (i:=24) (N:=some 2) (v:=?_) (a':=?_) #[true,true,true,true,true,true,true,true,true,true,true,true,true,true,true,true,true,true,true,true,true,true,true,true,true] rfl rfl (any_of HT_.out (by kernel_rfl)) (fun _ _ _ h=>h) (Or.inl ⟨by rfl,?_⟩) ?_ ?_
          rotate_left
          ·intro w'
           go_simp
           with_reducible rfl
          rotate_left
          ·simp only [Act.put,s1_,s2_,s3_,i64_w,i32_w]
           rfl
          refine done_ (done_of HT_.out (by kernel_rfl)) ?_
          try go_wp2
          go_ret
          exact ⟨by first | rfl | (simp [errW_none,errW_some] <;> rfl) | (simp [*,errW_none,errW_some] <;> rfl),hb_⟩
def laws_FnSimplifyGroup.Pure : Prop:=∀ (l0 : List Int),l0.length ≤ maxLen → l0.length * 1 ≤ 140737488351232 → (∀ x ∈ l0,(Lit.int .u8 x).wf = true) → ∃ k,laws_FnSimplifyGroup.f k l0 = some true
theorem laws_FnSimplifyGroup.walk (P : laws_FnSimplifyGroup.Pure) (a0 : Option Addr) (len0 cap0 : Nat) (z0 : List Int) (w : World) (w0 : (a0 = none ∧ len0 = 0 ∧ cap0 = 0 ∧ z0 = []) ∨ ∃ x,a0 = some x ∧ len0 ≤ cap0 ∧ cap0 ≤ maxLen ∧ z0.length = cap0 ∧ (∀ i,i < z0.length → w.cell? (x.add i) = some (.int .u8 (z0.getD i 0))) ∧ ∀ n ∈ z0,(Lit.int .u8 n).wf = true) (y0 : len0 * 1 ≤ 140737488351232) :
  Calls Try.prog 5 #[.slice a0 len0 cap0] w fun e w'=>e = .returned (.bool true) ∧ Below w.heap.size w w':=by
 obtain ⟨l0,rfl,hr0,hm0,hw0,hc0⟩:=ReadsInt.ofRowC w0
 obtain ⟨k,h⟩:=P l0 hm0 y0 hw0
 refine (laws_FnSimplifyGroup.calls k _ _ l0 true w (Kd.C_of_reads (d:=(0 : Int)) (h1:=fun _=>rfl) hr0) hc0 h).mono ?_
 rintro e w' ⟨rfl,hd⟩
 exact ⟨rfl,hd⟩
end Go.Proofs.Ytjdpaholpfpiiaa.P
namespace Go.Proofs.Ytjdpaholpfpiiaa.Pure
open Go.RowKit Go.Proofs.Ytjdpaholpfpiiaa.P
open Go.Proofs.YtjdpaholpfpiiaaW.PrintWords (rd rdOf wrap_succ wrap_pred wrap_in toL_beq idxP)
set_option linter.unusedVariables false
theorem FnSimplifyGroup : laws_FnSimplifyGroup.Pure:=by
 intro l0 _ _ hw
 refine Ev.out (F:=fun k=>laws_FnSimplifyGroup.f k l0) ?_
 unfold laws_FnSimplifyGroup.f
 by_cases hbig : (l0.length : Int) > 1048576
 ·exact Ev.pos hbig (Ev.const rfl)
 refine Ev.neg hbig ?_
 obtain ⟨t,g,hd,ht,hs,hg⟩:=spec_DrawSimplifyGroup_ev l0 hw
 have hI:=fun g=>impl_SimplifyGroup_ev t g hs
 have hS:=spec_SimplifyGroup_ev t g hs
 have hV:=impl_ValidGroup_ev t g (by omega) (by omega) hs
 have hlen : (simP t g).length ≤ 16:=by
  unfold simP
  split
  ·rename_i hv
   exact (simR_all 16 g (vG_tree hv).2.2 (okG_vG hv)).1.2.2
  ·exact Nat.zero_le _
 refine Ev.bind hd (Ev.bind (Ev.const (hI g)) (Ev.bind hS (Ev.bind (laws_equalGroup_ev _ (by omega)) (Ev.pos rfl (Ev.bind hV (Ev.succ ?_))))))
 simp only [laws_FnSimplifyGroup.j0]
 cases hv : vG t g with
 | false=>exact Ev.pos rfl (Ev.bind hS (Ev.bind (laws_equalGroup_ev _ (by omega)) (Ev.const rfl)))
 | true =>
  have ho : simP t g = simR 16 g:=by rw [simP,if_pos hv]
  rw [ho] at hlen ⊢
  have hvo:=vG_sim hv
  obtain ⟨s1,s2,s3,s4,s5,s6,s7⟩:=simR_all 16 g (vG_tree hv).2.2 (okG_vG hv)
  have hss:=s6 16 hlen
  have hL2:=impl_LeavesOf_ev t g (by omega) (by omega) hs
  rw [leavesP_ok hv] at hL2
  have hll:=lfs_len g
  have hkG:=okG_kid s1
  generalize simR 16 g = o at *
  have hL:=impl_LeavesOf_ev t o (by omega) (by omega) hs
  rw [leavesP_ok hvo,s4] at hL
  have hK:=impl_KidsOf_ev t o (by omega) (by omega) hs
  have ek : kidP t o = kidL o:=by rw [kidP,if_pos hvo]
  rw [ek] at hK
  have hIo : impl_SimplifyGroup.f t o = some o:=by rw [hI o,simP,if_pos hvo,hss]
  have hVo:=impl_ValidGroup_ev t o (by omega) (by omega) hs
  rw [hvo] at hVo
  have hkl:=kidL_len s1.1
  refine Ev.neg (by simp) (Ev.bind hK ?_)
  have key : ∀ d j,j + d = (kidL o).length → Ev (fun k=>laws_FnSimplifyGroup.l0 k g o (kidL o) (j : Int) t) true:=by
   intro d
   induction d with
   | zero =>
    intro j hj
    refine Ev.succ ?_
    simp only [laws_FnSimplifyGroup.l0]
    exact Ev.neg (by omega) (Ev.neg (by omega) (Ev.bind hL (Ev.bind hL2 (Ev.bind (laws_equalLeaves_ev _ (by omega)) (Ev.pos rfl (Ev.bind (Ev.const hIo) (Ev.bind (laws_equalGroup_ev _ (by omega)) (Ev.pos rfl (Ev.bind hVo (Ev.const rfl))))))))))
   | succ d ih =>
    intro j hj
    refine Ev.succ ?_
    have hlt : j < (kidL o).length:=by omega
    have hm : (kidL o).getD ((j : Int)).toNat [] = (kidL o)[j]:=by simp [List.getD,hlt]
    have hx:=(kidL o)[j].length
    have hxm : (kidL o)[j] ∈ kidL o:=List.getElem_mem _
    have hxG:=hkG _ hxm
    have hx1 : impl_SimplifyGroup.f t (kidL o)[j] = some (kidL o)[j]:=by
     rw [hI,simP,if_pos (vG_kid hvo _ hxm),s7 _ hxm 16 hxG.1.2.2]
    have hx2:=laws_equalGroup_ev (kidL o)[j] (by have:=hxG.1.2.2;omega)
    rw [← hm] at hx1 hx2
    simp only [laws_FnSimplifyGroup.l0]
    rw [wrap_succ (i:=(j : Int)) (n:=(kidL o).length) (by omega) (by omega) (by omega)]
    exact Ev.pos (by omega) (Ev.pos (by omega) (Ev.bind (Ev.const hx1) (Ev.bind hx2 (Ev.pos rfl (ih (j + 1) (by omega))))))
  exact key (kidL o).length 0 (by omega)
end Go.Proofs.Ytjdpaholpfpiiaa.Pure
