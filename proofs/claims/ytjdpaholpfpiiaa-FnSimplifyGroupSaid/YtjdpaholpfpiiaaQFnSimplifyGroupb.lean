/- Texts under the proof of FnSimplifyGroup: helper words, the functions' contracts and the plain laws. No condition. -/
import Derived.Test.YtjdpaholpfpiiaaQFnSimplifyGroupa
namespace Go.Proofs.Ytjdpaholpfpiiaa.P
open Go.RowKit Go.Proofs.YtjdpaholpfpiiaaW.PrintWords Go.Proofs.YtjdpaholpfpiiaaW.PrintLast Go.Proofs.YtjdpaholpfpiiaaW.PrintMore
attribute [local go_sem] max2_int min2_int max_two min_two max_three min_three max_four min_four
set_option linter.unusedVariables false
set_option linter.unusedSimpArgs false
def IsS63 (w0 W : World) (g : Nat) (f0 : List Int) (f1 : Int) : Prop:=∃ A0 c0,W.heap[g]? = some (.cells #[.slice A0 f0.length c0,.int .i64 f1] 63 (0,0)) ∧ w0.heap.size ≤ g ∧ Kd.C (Kd.int .u8) w0 A0 f0.length f0
theorem IsS63.grown {w0 W : World} {g : Nat} {f0 : List Int} {f1 : Int} {W1 : World} {row : Option Nat} (h : IsS63 w0 W g f0 f1) (hw : W.grownBy W1 row) (hne : some g ≠ row) : IsS63 w0 W1 g f0 f1:=by
 obtain ⟨A0,c0,hb,hg,hr0⟩:=h
 exact ⟨A0,c0,blk_grown hb hw hne,hg,hr0⟩
theorem IsS63.own_neN {w0 W : World} {g : Nat} {f0 : List Int} {f1 : Int} {α : Type} {d : Kd α} {e : Nat} {base : Nat} {ok : Nat → Prop} {v : Value} {xs : List α} (h : IsS63 w0 W g f0 f1) (ho : Kd.N d e W base ok v xs) (ht : e ≠ 63) : some g ≠ v.ownBlock:=by
 obtain ⟨A0,c0,hb,hg,hr0⟩:=h
 exact Kd.N_ne ho hb ht
theorem IsS63.fresh {w0 W : World} {g : Nat} {f0 : List Int} {f1 : Int} (h : IsS63 w0 W g f0 f1) : ∀ k,W.heap.size ≤ k → k ≠ g:=by
 obtain ⟨A0,c0,hb,hg,hr0⟩:=h
 exact Kd.freshB hb
theorem IsS63.kept {w0 W : World} {g : Nat} {f0 : List Int} {f1 : Int} {W1 : World} {S : Nat → Prop} (h : IsS63 w0 W g f0 f1) (hk : Kept W W1 S) (hne : ¬ S g) : IsS63 w0 W1 g f0 f1:=by
 obtain ⟨A0,c0,hb,hg,hr0⟩:=h
 exact ⟨A0,c0,blk_kept hb hk hne,hg,hr0⟩
theorem IsS63.below {w0 W : World} {g : Nat} {f0 : List Int} {f1 : Int} {W1 : World} (h : IsS63 w0 W g f0 f1) (hw : Below W.heap.size W W1) : IsS63 w0 W1 g f0 f1:=h.grown (grown_of_below hw none) (by simp)
theorem IsS63.alloc {w0 W : World} {g : Nat} {f0 : List Int} {f1 : Int} (h : IsS63 w0 W g f0 f1) (o : Obj) : IsS63 w0 (W.alloc o) g f0 f1:=h.below (below_alloc (Below.refl _ _) o)
theorem IsS63.drewN {w0 W : World} {g : Nat} {f0 : List Int} {f1 : Int} (h : IsS63 w0 W g f0 f1) (m : Nat) : IsS63 w0 (W.drewN m) g f0 f1:=h
theorem IsS63.drew {w0 W : World} {g : Nat} {f0 : List Int} {f1 : Int} (h : IsS63 w0 W g f0 f1) : IsS63 w0 W.drew g f0 f1:=h
theorem IsS63.at_ {w0 W : World} {g : Nat} {f0 : List Int} {f1 : Int} {w' : World} {m : Nat} (hq : W.drewN m = w') (h : IsS63 w0 W g f0 f1) : IsS63 w0 w' g f0 f1:=by subst hq;exact IsS63.drewN h m
theorem IsS63.apart {w0 W : World} {g : Nat} {f0 : List Int} {f1 : Int} {α : Type} {d : Kd α} {e : Nat} {base : Nat} {ok : Nat → Prop} {v : Value} {xs : List α} (h : IsS63 w0 W g f0 f1) (ho : d.R e W base ok v xs) (ht : ∀ q,q ∈ e :: d.E → q ≠ 63) : d.R e W base (fun k=>ok k ∧ k ≠ g) v xs:=by
 obtain ⟨A0,c0,hb,hg,hr0⟩:=h
 exact Kd.R_types ho hb ht
theorem IsS63.own_ne {w0 W : World} {g : Nat} {f0 : List Int} {f1 : Int} {α : Type} {d : Kd α} {e : Nat} {base : Nat} {ok : Nat → Prop} {v : Value} {xs : List α} (h : IsS63 w0 W g f0 f1) (ho : d.R e W base ok v xs) (ht : e ≠ 63) : some g ≠ v.ownBlock:=by
 obtain ⟨A0,c0,hb,hg,hr0⟩:=h
 exact Kd.R_ne ho hb ht
theorem IsS63.apartQ {w0 W : World} {g : Nat} {f0 : List Int} {f1 : Int} {α : Type} {d : Kd α} {e : Nat} {base : Nat} {ok : Nat → Prop} {v : Value} {xs : List α} (h : IsS63 w0 W g f0 f1) (ho : d.Q e W base ok v xs) (ht : ∀ q,q ∈ e :: d.E → q ≠ 63) : d.Q e W base (fun k=>ok k ∧ k ≠ g) v xs:=by
 obtain ⟨A0,c0,hb,hg,hr0⟩:=h
 exact Kd.Q_types ho hb ht
theorem IsS63.own_neQ {w0 W : World} {g : Nat} {f0 : List Int} {f1 : Int} {α : Type} {d : Kd α} {e : Nat} {base : Nat} {ok : Nat → Prop} {v : Value} {xs : List α} (h : IsS63 w0 W g f0 f1) (ho : d.Q e W base ok v xs) (ht : e ≠ 63) : some g ≠ v.ownBlock:=by
 obtain ⟨A0,c0,hb,hg,hr0⟩:=h
 exact Kd.Q_ne ho hb ht
theorem IsS63.apartS {w0 W : World} {g : Nat} {f0 : List Int} {f1 : Int} {α : Type} {d : Kd α} {e : Nat} {base : Nat} {ok : Nat → Prop} {v : Value} {xs : List α} (h : IsS63 w0 W g f0 f1) (ho : d.S e W base ok v xs) (ht : ∀ q,q ∈ e :: d.E → q ≠ 63) : d.S e W base (fun k=>ok k ∧ k ≠ g) v xs:=by
 obtain ⟨A0,c0,hb,hg,hr0⟩:=h
 exact Kd.S_types ho hb ht
theorem IsS63.own_neS {w0 W : World} {g : Nat} {f0 : List Int} {f1 : Int} {α : Type} {d : Kd α} {e : Nat} {base : Nat} {ok : Nat → Prop} {v : Value} {xs : List α} (h : IsS63 w0 W g f0 f1) (ho : d.S e W base ok v xs) (ht : e ≠ 63) : some g ≠ v.ownBlock:=by
 obtain ⟨A0,c0,hb,hg,hr0⟩:=h
 exact Kd.S_ne ho hb ht
theorem IsS63.lt {w0 W : World} {g : Nat} {f0 : List Int} {f1 : Int} (h : IsS63 w0 W g f0 f1) : g < W.heap.size:=by
 obtain ⟨A0,c0,hb,hg,hr0⟩:=h
 exact blk_lt hb
theorem IsS63.ge {w0 W : World} {g : Nat} {f0 : List Int} {f1 : Int} (h : IsS63 w0 W g f0 f1) : w0.heap.size ≤ g:=by
 obtain ⟨A0,c0,hb,hg,hr0⟩:=h
 exact hg
theorem IsS63.ne_blk {w0 W : World} {g : Nat} {f0 : List Int} {f1 : Int} {a : Nat} {cs : Array Value} {t : TypeId} {fr : Nat × Nat} (h : IsS63 w0 W g f0 f1) (hb2 : W.heap[a]? = some (.cells cs t fr)) (ht : t ≠ 63) : g ≠ a:=by
 obtain ⟨A0,c0,hb,hg,hr0⟩:=h
 rintro rfl
 rw [hb] at hb2
 injection hb2 with hb2
 injection hb2 with _ ht2
 exact ht ht2.symm
theorem IsS63.far {w0 W : World} {g : Nat} {f0 : List Int} {f1 : Int} {p : Addr} (h : IsS63 w0 W g f0 f1) (hne : g ≠ p.block) (u : Value) : IsS63 w0 (W.setCell p u) g f0 f1:=by
 obtain ⟨A0,c0,hb,hg,hr0⟩:=h
 exact ⟨A0,c0,blk_far hb hne u,hg,hr0⟩
theorem cellS63_0 {W : World} {g : Nat} {A0 : Option Addr} {c0 : Nat} {f0 : List Int} {f1 : Int} (h : W.heap[g]? = some (.cells #[.slice A0 f0.length c0,.int .i64 f1] 63 (0,0))) : W.cell? ⟨g,0,none⟩ = some (.slice A0 f0.length c0):=(blk_cell h 0).trans rfl
theorem cellS63_1 {W : World} {g : Nat} {A0 : Option Addr} {c0 : Nat} {f0 : List Int} {f1 : Int} (h : W.heap[g]? = some (.cells #[.slice A0 f0.length c0,.int .i64 f1] 63 (0,0))) : W.cell? ⟨g,1,none⟩ = some (.int .i64 f1):=(blk_cell h 1).trans rfl
theorem IsS63.set_1 {w0 W : World} {g : Nat} {f0 : List Int} {f1 : Int} (h : IsS63 w0 W g f0 f1) (x : Int) : IsS63 w0 (W.setCell ⟨g,1,none⟩ (.int .i64 x)) g f0 x:=by
 obtain ⟨A0,c0,hb,hg,hr0⟩:=h
 exact ⟨A0,c0,by simpa using blk_set hb 1 (.int .i64 x),hg,hr0⟩
theorem IsS63.new (w0 W : World) (A0 : Option Addr) (c0 : Nat) (f0 : List Int) (f1 : Int) (hB : Below w0.heap.size w0 W) (hr0 : Kd.C (Kd.int .u8) w0 A0 f0.length f0) : IsS63 w0 (W.alloc (.cells #[.slice A0 f0.length c0,.int .i64 f1] 63)) W.heap.size f0 f1:=⟨A0,c0,by simpa using heap_alloc_new W _,hB.size,hr0⟩
def spec_reader_pick.j0 : Nat → Int → Bool → List Int → Int → Option (Int × Int)
 | 0,_,_,_,_=>none
 | k + 1,x1,x24,x1000,x1001=>if x24 = true then (some (0,x1001)) else (if (wrap64 (x1001 - 1)) < (x1000.length : Int) then (if 0 ≤ (wrap64 (x1001 - 1)) then (if x1 = 0 then (none) else (some (Int.tmod (wrap64 (rd x1000 (wrap64 (x1001 - 1)))) x1,x1001))) else (none)) else (if (x1000.length : Int) = 0 then (none) else (if 0 ≤ (Int.tmod (wrap64 (x1001 - 1)) (x1000.length : Int)) then (if (Int.tmod (wrap64 (x1001 - 1)) (x1000.length : Int)) < (x1000.length : Int) then (if 0 ≤ (Int.tmod (wrap64 ((wrap64 ((wrap64 (x1001 - 1)) * 7)) + 3)) (x1000.length : Int)) then (if (Int.tmod (wrap64 ((wrap64 ((wrap64 (x1001 - 1)) * 7)) + 3)) (x1000.length : Int)) < (x1000.length : Int) then (if x1 = 0 then (none) else (some (Int.tmod (Go.bits .xor .i64 (wrap64 ((wrap64 ((wrap64 ((wrap64 ((wrap64 (rd x1000 (Int.tmod (wrap64 (x1001 - 1)) (x1000.length : Int)))) * 131)) + (wrap64 ((wrap64 (rd x1000 (Int.tmod (wrap64 ((wrap64 ((wrap64 (x1001 - 1)) * 7)) + 3)) (x1000.length : Int)))) * 1117)))) + (wrap64 ((wrap64 (x1001 - 1)) * 29)))) + (wrap64 ((wrap64 (Int.tdiv (wrap64 (x1001 - 1)) (x1000.length : Int))) * 53)))) (wrap64 (Int.tdiv (wrap64 ((wrap64 ((wrap64 ((wrap64 ((wrap64 (rd x1000 (Int.tmod (wrap64 (x1001 - 1)) (x1000.length : Int)))) * 131)) + (wrap64 ((wrap64 (rd x1000 (Int.tmod (wrap64 ((wrap64 ((wrap64 (x1001 - 1)) * 7)) + 3)) (x1000.length : Int)))) * 1117)))) + (wrap64 ((wrap64 (x1001 - 1)) * 29)))) + (wrap64 ((wrap64 (Int.tdiv (wrap64 (x1001 - 1)) (x1000.length : Int))) * 53)))) 64))) x1,x1001))) else (none)) else (none)) else (none)) else (none))))
def spec_reader_pick.f (k : Nat) (s0_0 : List Int) (s0_1 : Int) (a1 : Int) : Option (Int × Int):=if a1 < 1 then (spec_reader_pick.j0 k a1 true s0_0 (wrap64 (s0_1 + 1))) else (spec_reader_pick.j0 k a1 ((s0_0.length : Int) == 0) s0_0 (wrap64 (s0_1 + 1)))
theorem spec_reader_pick.mono_l : ∀ k,(∀ y0 y1 y2 y3,LeO (spec_reader_pick.j0 k y0 y1 y2 y3) (spec_reader_pick.j0 (k + 1) y0 y1 y2 y3))
 | 0=>fun _ _ _ _ r h=>by simp [spec_reader_pick.j0] at h
 | k + 1=>by
  have ih0:=spec_reader_pick.mono_l k
  ·intro y0 y1 y2 y3
   unfold spec_reader_pick.j0
   repeat' first
   | (with_reducible exact ih0 _ _ _ _)
   | (with_reducible exact LeO.refl _)
   | (with_reducible exact LeO.none _)
   | (with_reducible refine LeO.ite ?_ ?_)
   | (with_reducible refine LeO.bind ?_ (fun _=>?_))
   | exact ih0 _ _ _ _
   | exact LeO.none _
   | refine LeO.ite ?_ ?_
   | refine LeO.bind ?_ (fun _=>?_)
theorem spec_reader_pick.mono : ∀ a0 a1 a2 k,LeO (spec_reader_pick.f k a0 a1 a2) (spec_reader_pick.f (k + 1) a0 a1 a2):=by
 intro a0 a1 a2 k
 have ih0:=spec_reader_pick.mono_l k
 unfold spec_reader_pick.f
 repeat' first
   | (with_reducible exact ih0 _ _ _ _)
   | (with_reducible exact LeO.refl _)
   | (with_reducible exact LeO.none _)
   | (with_reducible refine LeO.ite ?_ ?_)
   | (with_reducible refine LeO.bind ?_ (fun _=>?_))
   | exact ih0 _ _ _ _
   | exact LeO.none _
   | refine LeO.ite ?_ ?_
   | refine LeO.bind ?_ (fun _=>?_)
set_option maxHeartbeats 8000000 in
set_option maxRecDepth 100000 in
theorem spec_reader_pick.calls (k : Nat) (g : Nat) (s0_0 : List Int) (s0_1 : Int) (a1 : Int) (r1 : Int) (r2 : Int) (w0 w : World) (hI : IsS63 w0 w g s0_0 s0_1) (hB : Below w0.heap.size w0 w) (h : spec_reader_pick.f k s0_0 s0_1 a1 = some (r1,r2)) :
  Calls Try.prog 28 #[.pointer (some ⟨g,0,none⟩),.int .i64 a1] w fun e w'=>e = .returned (.int .i64 r1) ∧ IsS63 w0 w' g s0_0 r2 ∧ Below w0.heap.size w0 w' ∧ KeepBut w w' g none:=by
 have HI0:=a0_ hI
 have HK:=a0_ (KeepBut.refl w g none)
 have HL:=a0_ hB.size
 clear hI
 have HW0:=a0_ hB.size
 have HB:=a0_ hB
 clear hB
 have H : (if a1 < 1 then (spec_reader_pick.j0 k a1 true s0_0 (wrap64 (s0_1 + 1))) else (spec_reader_pick.j0 k a1 ((s0_0.length : Int) == 0) s0_0 (wrap64 (s0_1 + 1)))) = some (r1,r2):=h
 clear h
 have HC3:=a0_ H
 clear H
 obtain ⟨ASz4_0,cSz4_0,HGz4,hgz4,HSz4_0⟩:=HI0.out
 have hcz4_0:=cellS63_0 HGz4
 have hcz4_1:=cellS63_1 HGz4
 have hfz4_1:=blk_frozen HGz4 1
 clear HGz4 hgz4
 go_enter Try.func28,Try.ntmps28
 go_upto_region 2 with (fail)
 repeat (go_quiet (fail);go_upto_region 2 with (fail))
 go_cut [24] (fun v24 wc=>∃ (kq : Nat) (x24_2 : Bool),v24 = .bool x24_2 ∧ Aside0 (spec_reader_pick.j0 kq a1 x24_2 s0_0 (wrap64 (s0_1 + 1)) = some (r1,r2)) ∧ Aside0 (kq ≤ k) ∧ Aside0 (IsS63 w0 wc g s0_0 (wrap64 (s0_1 + 1))) ∧ Aside0 (KeepBut w wc g none) ∧ Aside0 (Below w0.heap.size w0 wc))
 case first =>
  have H:=HC3.out
  clear HC3
  by_cases c5 : a1 < 1
  ·rw [if_pos c5] at H
   have c5b0 : decide (a1 < 1) = true:=decide_eq_true c5
   clear c5
   (first | rw [c5b0] | (simp only [i64_w,i32_w];rw [c5b0]) | skip)
   have H':=a0_ H
   clear H
   go_wp2
   repeat (go_quiet (fail);try go_wp2)
   go_meet
   case rel=>exact ⟨_,(true),(by first | rfl | (simp;done) | (simp [*];done)),H',⟨by first | omega | exact Nat.le_refl _⟩,⟨by repeat (first | (with_reducible first | exact HI0.out | apply IsS63.alloc | apply IsS63.drewN | apply IsS63.drew | apply IsS63.set_1) | exact HI0.out)⟩,⟨hk_⟩,⟨by repeat (first | (with_reducible first | exact HB.out | apply below_alloc | apply pw_below_drewN | apply below_drew1 | refine below_set ?_ (IsS63.ge HI0.out)) | exact HB.out)⟩⟩
  ·rw [if_neg c5] at H
   have c5b0 : decide (a1 < 1) = false:=decide_eq_false c5
   clear c5
   (first | rw [c5b0] | (simp only [i64_w,i32_w];rw [c5b0]) | skip)
   have H':=a0_ H
   clear H
   obtain ⟨ASz6_0,cSz6_0,HGz6,hgz6,HSz6_0⟩:=HI0.out
   have hcz6_0:=cellS63_0 HGz6
   have hcz6_1:=cellS63_1 HGz6
   have hfz6_1:=blk_frozen HGz6 1
   clear HGz6 hgz6
   go_wp2
   repeat (go_quiet (fail);try go_wp2)
   go_meet
   case rel=>exact ⟨_,(((s0_0.length : Int) == 0)),(by first | rfl | (simp;done) | (simp [*];done)),H',⟨by first | omega | exact Nat.le_refl _⟩,⟨by repeat (first | (with_reducible first | exact HI0.out | apply IsS63.alloc | apply IsS63.drewN | apply IsS63.drew | apply IsS63.set_1) | exact HI0.out)⟩,⟨hk_⟩,⟨by repeat (first | (with_reducible first | exact HB.out | apply below_alloc | apply pw_below_drewN | apply below_drew1 | refine below_set ?_ (IsS63.ge HI0.out)) | exact HB.out)⟩⟩
 case rest =>
  clear HC3
  try clear c2
  try clear p2
  try clear c5
  try clear c5b0
  try clear p6
  try clear hcz4_0
  try clear hcz4_1
  try clear hcz6_0
  try clear hcz6_1
  try clear hfz4_1
  try clear hfz6_1
  obtain ⟨kq,x24_2,rfl,HA,HJ2,HI0,HK,HB⟩:=hcut
  cases kq with
  | zero=>exact absurd HA.out (by simp [spec_reader_pick.j0])
  | succ kj2 =>
   have H:=HA.out
   clear HA
   simp only [spec_reader_pick.j0] at H
   by_cases c7 : x24_2 = true
   ·subst c7
    have H1 : (some (0,(wrap64 (s0_1 + 1)))) = some (r1,r2):=by rw [if_pos rfl] at H;exact H
    clear H
    have H:=H1
    clear H1
    simp only [Option.some.injEq,Prod.mk.injEq] at H
    obtain ⟨rfl,rfl⟩:=H
    go_wp2
    repeat (go_quiet (fail);try go_wp2)
    go_ret
    exact ⟨by first | rfl | (simp [errW_none,errW_some] <;> rfl) | (simp [*,errW_none,errW_some] <;> rfl),by repeat (first | (with_reducible first | exact HI0.out | apply IsS63.alloc | apply IsS63.drewN | apply IsS63.drew | apply IsS63.set_1) | exact HI0.out),by repeat (first | (with_reducible first | exact HB.out | apply below_alloc | apply pw_below_drewN | apply below_drew1 | refine below_set ?_ (IsS63.ge HI0.out)) | exact HB.out),hk_⟩
   ·replace c7:=Bool.eq_false_iff.mpr c7
    subst c7
    have H1 : (if (wrap64 ((wrap64 (s0_1 + 1)) - 1)) < (s0_0.length : Int) then (if 0 ≤ (wrap64 ((wrap64 (s0_1 + 1)) - 1)) then (if a1 = 0 then (none) else (some (Int.tmod (wrap64 (rd s0_0 (wrap64 ((wrap64 (s0_1 + 1)) - 1)))) a1,(wrap64 (s0_1 + 1))))) else (none)) else (if (s0_0.length : Int) = 0 then (none) else (if 0 ≤ (Int.tmod (wrap64 ((wrap64 (s0_1 + 1)) - 1)) (s0_0.length : Int)) then (if (Int.tmod (wrap64 ((wrap64 (s0_1 + 1)) - 1)) (s0_0.length : Int)) < (s0_0.length : Int) then (if 0 ≤ (Int.tmod (wrap64 ((wrap64 ((wrap64 ((wrap64 (s0_1 + 1)) - 1)) * 7)) + 3)) (s0_0.length : Int)) then (if (Int.tmod (wrap64 ((wrap64 ((wrap64 ((wrap64 (s0_1 + 1)) - 1)) * 7)) + 3)) (s0_0.length : Int)) < (s0_0.length : Int) then (if a1 = 0 then (none) else (some (Int.tmod (Go.bits .xor .i64 (wrap64 ((wrap64 ((wrap64 ((wrap64 ((wrap64 (rd s0_0 (Int.tmod (wrap64 ((wrap64 (s0_1 + 1)) - 1)) (s0_0.length : Int)))) * 131)) + (wrap64 ((wrap64 (rd s0_0 (Int.tmod (wrap64 ((wrap64 ((wrap64 ((wrap64 (s0_1 + 1)) - 1)) * 7)) + 3)) (s0_0.length : Int)))) * 1117)))) + (wrap64 ((wrap64 ((wrap64 (s0_1 + 1)) - 1)) * 29)))) + (wrap64 ((wrap64 (Int.tdiv (wrap64 ((wrap64 (s0_1 + 1)) - 1)) (s0_0.length : Int))) * 53)))) (wrap64 (Int.tdiv (wrap64 ((wrap64 ((wrap64 ((wrap64 ((wrap64 (rd s0_0 (Int.tmod (wrap64 ((wrap64 (s0_1 + 1)) - 1)) (s0_0.length : Int)))) * 131)) + (wrap64 ((wrap64 (rd s0_0 (Int.tmod (wrap64 ((wrap64 ((wrap64 ((wrap64 (s0_1 + 1)) - 1)) * 7)) + 3)) (s0_0.length : Int)))) * 1117)))) + (wrap64 ((wrap64 ((wrap64 (s0_1 + 1)) - 1)) * 29)))) + (wrap64 ((wrap64 (Int.tdiv (wrap64 ((wrap64 (s0_1 + 1)) - 1)) (s0_0.length : Int))) * 53)))) 64))) a1,(wrap64 (s0_1 + 1))))) else (none)) else (none)) else (none)) else (none)))) = some (r1,r2):=by rw [if_neg (show ¬ (false = true) by decide)] at H;exact H
    clear H
    have H:=H1
    clear H1
    by_cases c8 : (wrap64 ((wrap64 (s0_1 + 1)) - 1)) < (s0_0.length : Int)
    ·rw [if_pos c8] at H
     have c8b0 : decide ((wrap64 ((wrap64 (s0_1 + 1)) - 1)) < (s0_0.length : Int)) = true:=decide_eq_true c8
     clear c8
     obtain ⟨ji9,hji9⟩ : ∃ j_ : Int,(wrap64 ((wrap64 (s0_1 + 1)) - 1)) = j_:=⟨_,rfl⟩
     replace H : (if 0 ≤ (ji9) then (if a1 = 0 then (none) else (some (Int.tmod (wrap64 (rd s0_0 (ji9))) a1,(wrap64 (s0_1 + 1))))) else (none)) = some (r1,r2):=by first | (rw [hji9] at H;exact H) | (simp only [hji9] at H ⊢;exact H)
     (try rw [hji9] at c8b0)
     have hji9w : (IntKind.i64.wrap ((wrap64 (s0_1 + 1)) - 1)) = ji9:=(i64_w _).trans hji9
     by_cases c10 : 0 ≤ (ji9)
     ·rw [if_pos c10] at H
      have c10b0 : decide (0 ≤ (ji9)) = true:=decide_eq_true c10
      clear c10
      by_cases c11 : a1 = 0
      ·rw [if_pos c11] at H
       exact absurd H (by simp)
      ·rw [if_neg c11] at H
       have c11b0 : (a1 == 0) = false:=beq_eq_false_iff_ne.mpr c11
       have c11b1 : (a1 != 0) = true:=bne_iff_ne.mpr c11
       simp only [Option.some.injEq,Prod.mk.injEq] at H
       obtain ⟨rfl,rfl⟩:=H
       obtain ⟨ASz12_0,cSz12_0,HGz12,hgz12,HSz12_0⟩:=HI0.out
       have hcz12_0:=cellS63_0 HGz12
       have hcz12_1:=cellS63_1 HGz12
       have hfz12_1:=blk_frozen HGz12 1
       clear HGz12 hgz12
       have p1 : 0 ≤ ((ji9) : Int):=of_decide_eq_true (by first | (with_reducible assumption) | assumption)
       have q1 : (ji9) < (s0_0.length : Int):=of_decide_eq_true (by first | (with_reducible assumption) | assumption)
       obtain ⟨ad1,e1,hx1_0⟩:=Kd.at_int HSz12_0 (ji9) p1 q1
       cases e1
       replace hx1_0:=pw_cell_below HB.out hx1_0
       replace p1:=eq_true p1
       replace q1:=eq_true q1
       go_wp2
       repeat (go_quiet (fail);try go_wp2)
       go_ret
       exact ⟨by first | rfl | (simp [errW_none,errW_some] <;> rfl) | (simp only [← hji9];first | rfl | (simp [errW_none,errW_some] <;> rfl)) | (simp [*,errW_none,errW_some] <;> rfl),by repeat (first | (with_reducible first | exact HI0.out | apply IsS63.alloc | apply IsS63.drewN | apply IsS63.drew | apply IsS63.set_1) | exact HI0.out),by repeat (first | (with_reducible first | exact HB.out | apply below_alloc | apply pw_below_drewN | apply below_drew1 | refine below_set ?_ (IsS63.ge HI0.out)) | exact HB.out),hk_⟩
     ·rw [if_neg c10] at H
      exact absurd H (by simp)
    ·rw [if_neg c8] at H
     have c8b0 : decide ((wrap64 ((wrap64 (s0_1 + 1)) - 1)) < (s0_0.length : Int)) = false:=decide_eq_false c8
     clear c8
     by_cases c13 : (s0_0.length : Int) = 0
     ·rw [if_pos c13] at H
      exact absurd H (by simp)
     ·rw [if_neg c13] at H
      have c13b0 : ((s0_0.length : Int) == 0) = false:=beq_eq_false_iff_ne.mpr c13
      have c13b1 : ((s0_0.length : Int) != 0) = true:=bne_iff_ne.mpr c13
      have c13b2 : ¬ (s0_0 = []):=fun h_=>c13 (by rw [h_];rfl)
      obtain ⟨ji14,hji14⟩ : ∃ j_ : Int,(Int.tmod (wrap64 ((wrap64 (s0_1 + 1)) - 1)) (s0_0.length : Int)) = j_:=⟨_,rfl⟩
      replace H : (if 0 ≤ (ji14) then (if (ji14) < (s0_0.length : Int) then (if 0 ≤ (Int.tmod (wrap64 ((wrap64 ((wrap64 ((wrap64 (s0_1 + 1)) - 1)) * 7)) + 3)) (s0_0.length : Int)) then (if (Int.tmod (wrap64 ((wrap64 ((wrap64 ((wrap64 (s0_1 + 1)) - 1)) * 7)) + 3)) (s0_0.length : Int)) < (s0_0.length : Int) then (if a1 = 0 then (none) else (some (Int.tmod (Go.bits .xor .i64 (wrap64 ((wrap64 ((wrap64 ((wrap64 ((wrap64 (rd s0_0 (ji14))) * 131)) + (wrap64 ((wrap64 (rd s0_0 (Int.tmod (wrap64 ((wrap64 ((wrap64 ((wrap64 (s0_1 + 1)) - 1)) * 7)) + 3)) (s0_0.length : Int)))) * 1117)))) + (wrap64 ((wrap64 ((wrap64 (s0_1 + 1)) - 1)) * 29)))) + (wrap64 ((wrap64 (Int.tdiv (wrap64 ((wrap64 (s0_1 + 1)) - 1)) (s0_0.length : Int))) * 53)))) (wrap64 (Int.tdiv (wrap64 ((wrap64 ((wrap64 ((wrap64 ((wrap64 (rd s0_0 (ji14))) * 131)) + (wrap64 ((wrap64 (rd s0_0 (Int.tmod (wrap64 ((wrap64 ((wrap64 ((wrap64 (s0_1 + 1)) - 1)) * 7)) + 3)) (s0_0.length : Int)))) * 1117)))) + (wrap64 ((wrap64 ((wrap64 (s0_1 + 1)) - 1)) * 29)))) + (wrap64 ((wrap64 (Int.tdiv (wrap64 ((wrap64 (s0_1 + 1)) - 1)) (s0_0.length : Int))) * 53)))) 64))) a1,(wrap64 (s0_1 + 1))))) else (none)) else (none)) else (none)) else (none)) = some (r1,r2):=by first | (rw [hji14] at H;exact H) | (simp only [hji14] at H ⊢;exact H)
      by_cases c15 : 0 ≤ (ji14)
      ·rw [if_pos c15] at H
       have c15b0 : decide (0 ≤ (ji14)) = true:=decide_eq_true c15
       clear c15
       by_cases c16 : (ji14) < (s0_0.length : Int)
       ·rw [if_pos c16] at H
        have c16b0 : decide ((ji14) < (s0_0.length : Int)) = true:=decide_eq_true c16
        clear c16
        obtain ⟨ji17,hji17⟩ : ∃ j_ : Int,(Int.tmod (wrap64 ((wrap64 ((wrap64 ((wrap64 (s0_1 + 1)) - 1)) * 7)) + 3)) (s0_0.length : Int)) = j_:=⟨_,rfl⟩
        replace H : (if 0 ≤ (ji17) then (if (ji17) < (s0_0.length : Int) then (if a1 = 0 then (none) else (some (Int.tmod (Go.bits .xor .i64 (wrap64 ((wrap64 ((wrap64 ((wrap64 ((wrap64 (rd s0_0 (ji14))) * 131)) + (wrap64 ((wrap64 (rd s0_0 (ji17))) * 1117)))) + (wrap64 ((wrap64 ((wrap64 (s0_1 + 1)) - 1)) * 29)))) + (wrap64 ((wrap64 (Int.tdiv (wrap64 ((wrap64 (s0_1 + 1)) - 1)) (s0_0.length : Int))) * 53)))) (wrap64 (Int.tdiv (wrap64 ((wrap64 ((wrap64 ((wrap64 ((wrap64 (rd s0_0 (ji14))) * 131)) + (wrap64 ((wrap64 (rd s0_0 (ji17))) * 1117)))) + (wrap64 ((wrap64 ((wrap64 (s0_1 + 1)) - 1)) * 29)))) + (wrap64 ((wrap64 (Int.tdiv (wrap64 ((wrap64 (s0_1 + 1)) - 1)) (s0_0.length : Int))) * 53)))) 64))) a1,(wrap64 (s0_1 + 1))))) else (none)) else (none)) = some (r1,r2):=by first | (rw [hji17] at H;exact H) | (simp only [hji17] at H ⊢;exact H)
        by_cases c18 : 0 ≤ (ji17)
        ·rw [if_pos c18] at H
         have c18b0 : decide (0 ≤ (ji17)) = true:=decide_eq_true c18
         clear c18
         by_cases c19 : (ji17) < (s0_0.length : Int)
         ·rw [if_pos c19] at H
          have c19b0 : decide ((ji17) < (s0_0.length : Int)) = true:=decide_eq_true c19
          clear c19
          by_cases c20 : a1 = 0
          ·rw [if_pos c20] at H
           exact absurd H (by simp)
          ·rw [if_neg c20] at H
           have c20b0 : (a1 == 0) = false:=beq_eq_false_iff_ne.mpr c20
           have c20b1 : (a1 != 0) = true:=bne_iff_ne.mpr c20
           simp only [Option.some.injEq,Prod.mk.injEq] at H
           obtain ⟨rfl,rfl⟩:=H
           obtain ⟨ASz21_0,cSz21_0,HGz21,hgz21,HSz21_0⟩:=HI0.out
           have hcz21_0:=cellS63_0 HGz21
           have hcz21_1:=cellS63_1 HGz21
           have hfz21_1:=blk_frozen HGz21 1
           clear HGz21 hgz21
           have p2 : 0 ≤ ((ji14) : Int):=of_decide_eq_true (by first | (with_reducible assumption) | assumption)
           have q2 : (ji14) < (s0_0.length : Int):=of_decide_eq_true (by first | (with_reducible assumption) | assumption)
           obtain ⟨ad2,e2,hx2_0⟩:=Kd.at_int HSz21_0 (ji14) p2 q2
           cases e2
           replace hx2_0:=pw_cell_below HB.out hx2_0
           replace p2:=eq_true p2
           replace q2:=eq_true q2
           have p3 : 0 ≤ ((ji17) : Int):=of_decide_eq_true (by first | (with_reducible assumption) | assumption)
           have q3 : (ji17) < (s0_0.length : Int):=of_decide_eq_true (by first | (with_reducible assumption) | assumption)
           obtain ⟨ad3,e3,hx3_0⟩:=Kd.at_int HSz21_0 (ji17) p3 q3
           obtain rfl : ad2 = ad3:=(by injection e3)
           replace hx3_0:=pw_cell_below HB.out hx3_0
           replace p3:=eq_true p3
           replace q3:=eq_true q3
           go_wp2
           repeat (go_quiet (fail);try go_wp2)
           go_ret
           exact ⟨by first | rfl | (simp [errW_none,errW_some] <;> rfl) | (simp only [← hji14,← hji17];first | rfl | (simp [errW_none,errW_some] <;> rfl)) | (simp [*,errW_none,errW_some] <;> rfl),by repeat (first | (with_reducible first | exact HI0.out | apply IsS63.alloc | apply IsS63.drewN | apply IsS63.drew | apply IsS63.set_1) | exact HI0.out),by repeat (first | (with_reducible first | exact HB.out | apply below_alloc | apply pw_below_drewN | apply below_drew1 | refine below_set ?_ (IsS63.ge HI0.out)) | exact HB.out),hk_⟩
         ·rw [if_neg c19] at H
          exact absurd H (by simp)
        ·rw [if_neg c18] at H
         exact absurd H (by simp)
       ·rw [if_neg c16] at H
        exact absurd H (by simp)
      ·rw [if_neg c15] at H
       exact absurd H (by simp)
theorem spec_pick_ev (b : List Int) (p n : Int) (hb : byL b) (h0 : 0 ≤ p) (hp : p ≤ 1099511627776) : ∃ x,Ev (fun k=>spec_reader_pick.f k b p n) (x,p + 1) ∧ 0 ≤ x ∧ (1 ≤ n → x < n) ∧ (n < 1 → x = 0):=by
 have e1 : wrap64 (p + 1) = p + 1:=wrap_in (by omega) (by omega)
 have e2 : wrap64 (p + 1 - 1) = p:=by rw [show p + 1 - 1 = p by omega];exact wrap_in (by omega) (by omega)
 unfold spec_reader_pick.f
 rw [e1]
 by_cases hn : n < 1
 ·refine ⟨0,Ev.pos hn (Ev.succ ?_),Int.le_refl _,fun h=>by omega,fun _=>rfl⟩
  simp only [spec_reader_pick.j0]
  exact Ev.pos trivial (Ev.const rfl)
 by_cases hz : ((b.length : Int) == 0) = true
 ·refine ⟨0,Ev.neg hn (Ev.succ ?_),Int.le_refl _,fun h=>by omega,fun _=>rfl⟩
  rw [hz]
  simp only [spec_reader_pick.j0]
  exact Ev.pos trivial (Ev.const rfl)
 have hz2 : ((b.length : Int) == 0) = false:=by simpa using hz
 have hz3 : 1 ≤ (b.length : Int):=by
  have:=beq_eq_false_iff_ne.1 hz2
  omega
 have hl:=hb.1
 have hn1 : 1 ≤ n:=by omega
 by_cases hlt : p < (b.length : Int)
 ·have hr:=byL_rd hb p
  have hm:=tmod_in hr.1 hn1
  refine ⟨Int.tmod (rd b p) n,Ev.neg hn (Ev.succ ?_),hm.1,fun _=>hm.2,fun h=>by omega⟩
  rw [hz2]
  simp only [spec_reader_pick.j0,e2]
  refine Ev.neg (by simp) (Ev.pos hlt (Ev.pos h0 (Ev.neg (by omega) (Ev.const ?_))))
  rw [wrap_in (i:=rd b p) (by omega) (by omega)]
 ·have m1:=tmod_in h0 hz3
  have e7 : wrap64 (wrap64 (p * 7) + 3) = p * 7 + 3:=by rw [wrap_in (i:=p * 7) (by omega) (by omega),wrap_in (by omega) (by omega)]
  have m2:=tmod_in (x:=p * 7 + 3) (by omega) hz3
  have r1:=byL_rd hb (Int.tmod p (b.length : Int))
  have r2:=byL_rd hb (Int.tmod (p * 7 + 3) (b.length : Int))
  have dq : 0 ≤ Int.tdiv p (b.length : Int) ∧ Int.tdiv p (b.length : Int) ≤ p:=by
   rw [Int.tdiv_eq_ediv_of_nonneg h0]
   exact ⟨Int.ediv_nonneg h0 (by omega),Int.ediv_le_self _ h0⟩
  generalize hx1 : rd b (Int.tmod p (b.length : Int)) = x1 at r1
  generalize hx2 : rd b (Int.tmod (p * 7 + 3) (b.length : Int)) = x2 at r2
  generalize hx3 : Int.tdiv p (b.length : Int) = x3 at dq
  have es : wrap64 (wrap64 (wrap64 (wrap64 (wrap64 x1 * 131) + wrap64 (wrap64 x2 * 1117)) + wrap64 (p * 29)) + wrap64 (wrap64 x3 * 53)) = x1 * 131 + x2 * 1117 + p * 29 + x3 * 53:=by
   rw [wrap_in (i:=x1) (by omega) (by omega),wrap_in (i:=x2) (by omega) (by omega),wrap_in (i:=x3) (by omega) (by omega),wrap_in (i:=x1 * 131) (by omega) (by omega),wrap_in (i:=x2 * 1117) (by omega) (by omega),wrap_in (i:=x3 * 53) (by omega) (by omega),wrap_in (i:=p * 29) (by omega) (by omega),wrap_in (i:=x1 * 131 + x2 * 1117) (by omega) (by omega),wrap_in (i:=x1 * 131 + x2 * 1117 + p * 29) (by omega) (by omega),wrap_in (by omega) (by omega)]
  obtain ⟨s,hs⟩ : ∃ s,s = x1 * 131 + x2 * 1117 + p * 29 + x3 * 53:=⟨_,rfl⟩
  have s0 : 0 ≤ s ∧ s ≤ 999999999999999:=by omega
  have d0 : 0 ≤ Int.tdiv s 64 ∧ Int.tdiv s 64 ≤ s:=by
   rw [Int.tdiv_eq_ediv_of_nonneg s0.1]
   exact ⟨Int.ediv_nonneg s0.1 (by omega),Int.ediv_le_self _ s0.1⟩
  have hxr:=xor_nonneg s (Int.tdiv s 64) s0.1 (by omega) d0.1 (by omega)
  have hm:=tmod_in hxr hn1
  refine ⟨Int.tmod (Go.bits .xor .i64 s (Int.tdiv s 64)) n,Ev.neg hn (Ev.succ ?_),hm.1,fun _=>hm.2,fun h=>by omega⟩
  rw [hz2]
  simp only [spec_reader_pick.j0,e2,e7,hx1,hx2,hx3,es,← hs]
  refine Ev.neg (by simp) (Ev.neg hlt (Ev.neg (by omega) (Ev.pos m1.1 (Ev.pos m1.2 (Ev.pos m2.1 (Ev.pos m2.2 (Ev.neg (by omega) (Ev.const ?_))))))))
  rw [wrap_in (i:=Int.tdiv s 64) (by omega) (by omega)]
end Go.Proofs.Ytjdpaholpfpiiaa.P
namespace Go.Proofs.Ytjdpaholpfpiiaa.P
open Go.RowKit Go.Proofs.YtjdpaholpfpiiaaW.PrintWords Go.Proofs.YtjdpaholpfpiiaaW.PrintLast Go.Proofs.YtjdpaholpfpiiaaW.PrintMore
theorem is0_ {w0 W : World} {g : Nat} {f0 : List Int} {f1 : Int} (h : IsS63 w0 W g f0 f1 := by repeat (first | (with_reducible first | exact HI0.out | apply IsS63.alloc | apply IsS63.drewN | apply IsS63.drew | apply IsS63.set_1 | refine IsS63.far ?_ (Aside0.out (by assumption)) _) | exact HI0.out)) : IsS63 w0 W g f0 f1 := h
theorem hbi0_ {n : Nat} {w w' : World} (h : Below n w w' := by repeat (first | (with_reducible first | exact HB.out | apply below_alloc | apply pw_below_drewN | apply below_drew1 | refine below_set ?_ (IsS63.ge HI0.out) | refine below_set ?_ (Aside0.out (by assumption))) | exact HB.out)) : Below n w w' := h
theorem is5_ {w0 W : World} {g : Nat} {f0 : List Int} {f1 : Int} (h : IsS63 w0 W g f0 f1 := by repeat (first | (with_reducible first | exact HI5.out | apply IsS63.alloc | apply IsS63.drewN | apply IsS63.drew | apply IsS63.set_1 | refine IsS63.far ?_ (Aside0.out (by assumption)) _) | exact HI5.out)) : IsS63 w0 W g f0 f1 := h
theorem hbi5_ {n : Nat} {w w' : World} (h : Below n w w' := by repeat (first | (with_reducible first | exact HB.out | apply below_alloc | apply pw_below_drewN | apply below_drew1 | refine below_set ?_ (IsS63.ge HI5.out) | refine below_set ?_ (Aside0.out (by assumption))) | exact HB.out)) : Below n w w' := h
end Go.Proofs.Ytjdpaholpfpiiaa.P
namespace Go.Proofs.Ytjdpaholpfpiiaa.P
open Go.RowKit Go.Proofs.YtjdpaholpfpiiaaW.PrintWords Go.Proofs.YtjdpaholpfpiiaaW.PrintLast Go.Proofs.YtjdpaholpfpiiaaW.PrintMore
attribute [local go_sem] max2_int min2_int max_two min_two max_three min_three max_four min_four
set_option linter.unusedVariables false
set_option linter.unusedSimpArgs false
def gT (t : List Cls) : Prop:=(∀ x ∈ t,x.f0.size ≤ 7) ∧ ∀ j,j < t.length → (j = 0 → (t.getD j z70).f1 = -1) ∧ (0 < j → 0 ≤ (t.getD j z70).f1 ∧ (t.getD j z70).f1 ≤ (j : Int) - 1)
theorem smT_mk {t : List Cls} (h : ∀ x ∈ t,x.f0.size ≤ 7) : smT t = true:=by
 unfold smT
 rw [List.all_eq_true]
 intro x hx
 have:=h x hx
 exact decide_eq_true (by omega)
theorem gT_snoc {t : List Cls} (h : gT t) (hl : 1 ≤ t.length) (x : Cls) (hx : x.f0.size ≤ 7) (h0 : 0 ≤ x.f1) (h1 : x.f1 ≤ (t.length : Int) - 1) : gT (t ++ [x]):=by
 refine ⟨fun y hy=>?_,fun j hj=>?_⟩
 ·rcases List.mem_append.1 hy with hy | hy
  ·exact h.1 y hy
  ·obtain rfl : y = x:=by simpa using hy
   exact hx
 ·rw [List.length_append,List.length_singleton] at hj
  by_cases e : j < t.length
  ·have : (t ++ [x]).getD j z70 = t.getD j z70:=by simp [List.getD,List.getElem?_append_left e]
   rw [this]
   exact h.2 j e
  ·obtain rfl : j = t.length:=by omega
   have : (t ++ [x]).getD t.length z70 = x:=by simp [List.getD]
   rw [this]
   exact ⟨fun h=>by omega,fun _=>⟨h0,h1⟩⟩
theorem set_mem {α : Type} {l : List α} {i : Nat} {v x : α} (h : x ∈ l.set i v) : x = v ∨ x ∈ l:=by
 rcases List.mem_or_eq_of_mem_set h with h | h
 ·exact Or.inr h
 ·exact Or.inl h
end Go.Proofs.Ytjdpaholpfpiiaa.P
namespace Go.Proofs.Ytjdpaholpfpiiaa.P
open Go.RowKit Go.Proofs.YtjdpaholpfpiiaaW.PrintWords Go.Proofs.YtjdpaholpfpiiaaW.PrintLast Go.Proofs.YtjdpaholpfpiiaaW.PrintMore
attribute [local go_sem] max2_int min2_int max_two min_two max_three min_three max_four min_four
set_option linter.unusedVariables false
set_option linter.unusedSimpArgs false
def cG : Nat → Int
 | 0=>4
 | n + 1=>4 + 3 * cG n
def lG : Nat → Nat
 | 0=>1
 | n + 1=>1 + 3 * lG n
theorem cG_pos (n : Nat) : 4 ≤ cG n:=by
 induction n with
 | zero=>exact Int.le_refl _
 | succ n ih=>rw [cG];omega
theorem lG_pos (n : Nat) : 1 ≤ lG n:=by
 induction n with
 | zero=>exact Nat.le_refl _
 | succ n ih=>rw [lG];omega
end Go.Proofs.Ytjdpaholpfpiiaa.P
namespace Go.Proofs.Ytjdpaholpfpiiaa.P
open Go.RowKit Go.Proofs.YtjdpaholpfpiiaaW.PrintWords Go.Proofs.YtjdpaholpfpiiaaW.PrintLast Go.Proofs.YtjdpaholpfpiiaaW.PrintMore
attribute [local go_sem] max2_int min2_int max_two min_two max_three min_three max_four min_four
set_option linter.unusedVariables false
set_option linter.unusedSimpArgs false
def spec_reader_one.f (k : Nat) (s0_0 : List Int) (s0_1 : Int) (l1 : List Int) : Option (Int × Int):=(spec_reader_pick.f k s0_0 s0_1 (l1.length : Int)).bind fun bt1=>(if 0 ≤ bt1.1 then (if bt1.1 < (l1.length : Int) then (some (rd l1 bt1.1,bt1.2)) else (none)) else (none))
theorem spec_reader_one.mono : ∀ a0 a1 a2 k,LeO (spec_reader_one.f k a0 a1 a2) (spec_reader_one.f (k + 1) a0 a1 a2):=by
 intro a0 a1 a2 k
 unfold spec_reader_one.f
 repeat' first
   | (with_reducible exact spec_reader_pick.mono _ _ _ _)
   | (with_reducible exact LeO.refl _)
   | (with_reducible exact LeO.none _)
   | (with_reducible refine LeO.ite ?_ ?_)
   | (with_reducible refine LeO.bind ?_ (fun _=>?_))
   | exact spec_reader_pick.mono _ _ _ _
   | exact LeO.none _
   | refine LeO.ite ?_ ?_
   | refine LeO.bind ?_ (fun _=>?_)
set_option maxHeartbeats 8000000 in
set_option maxRecDepth 100000 in
theorem spec_reader_one.calls (k : Nat) (g : Nat) (s0_0 : List Int) (s0_1 : Int) (A1 : Option Addr) (c1 : Nat) (l1 : List Int) (r1 : Int) (r2 : Int) (w0 w : World) (hI : IsS63 w0 w g s0_0 s0_1) (hB : Below w0.heap.size w0 w) (hr1 : Kd.C (Kd.int .i64) w A1 l1.length l1) (hc1 : l1.length ≤ c1) (hf1 : ∀ ad,A1 = some ad → 0 < l1.length → ad.block ≠ g) (h : spec_reader_one.f k s0_0 s0_1 l1 = some (r1,r2)) :
  Calls Try.prog 31 #[.pointer (some ⟨g,0,none⟩),.slice A1 l1.length c1] w fun e w'=>e = .returned (.int .i64 r1) ∧ IsS63 w0 w' g s0_0 r2 ∧ Below w0.heap.size w0 w' ∧ KeepBut w w' g none:=by
 have HR1:=a0_ hr1
 have HC1:=a0_ hc1
 clear hr1 hc1
 have HI0:=a0_ hI
 have HK:=a0_ (KeepBut.refl w g none)
 have HL:=a0_ hB.size
 clear hI
 have HW0:=a0_ hB.size
 have HB:=a0_ hB
 clear hB
 have H : ((spec_reader_pick.f k s0_0 s0_1 (l1.length : Int)).bind fun bt1=>(if 0 ≤ bt1.1 then (if bt1.1 < (l1.length : Int) then (some (rd l1 bt1.1,bt1.2)) else (none)) else (none))) = some (r1,r2):=h
 clear h
 replace H:=Option.bind_eq_some_iff.mp H
 obtain ⟨⟨t1,t2⟩,A30,H⟩:=H
 try dsimp only at H
 have A3:=a0_ A30
 clear A30
 by_cases c4 : 0 ≤ t1
 ·rw [if_pos c4] at H
  have c4b0 : decide (0 ≤ t1) = true:=decide_eq_true c4
  clear c4
  by_cases c5 : t1 < (l1.length : Int)
  ·rw [if_pos c5] at H
   have c5b0 : decide (t1 < (l1.length : Int)) = true:=decide_eq_true c5
   clear c5
   simp only [Option.some.injEq,Prod.mk.injEq] at H
   obtain ⟨rfl,rfl⟩:=H
   go_enter Try.func31,Try.ntmps31
   go_wp2_with (first | ((with_reducible refine gate_callee (f:=28) rfl ?_);refine goesL_ (some 9) rfl rfl Try.func28 (by kernel_rfl) rfl #[.pointer (some ⟨g,0,none⟩),.int .i64 (l1.length : Int)] rfl lm_ ?_;(with_reducible refine (spec_reader_pick.calls k g s0_0 s0_1 (l1.length : Int) t1 t2 w0 _ ?side1 ?side2 A3.out).mono ?_);(case side1=>exact is0_);(case side2=>exact hbi0_);rintro e w6 ⟨rfl,hi,hb,hk⟩;refine ⟨_,rfl,?_⟩;replace HK:=a0_ (KeepBut.trans (w:=w) hk_ hk (.inl rfl));replace HI0:=a0_ (hi);replace HB:=a0_ (hb);(try clear hb);have p3 : 0 ≤ (t1 : Int):=of_decide_eq_true (by first | (with_reducible assumption) | assumption);have q3 : t1 < (l1.length : Int):=of_decide_eq_true (by first | (with_reducible assumption) | assumption);obtain ⟨ad3,e3,hx3_0⟩:=Kd.at_int HR1.out t1 p3 q3;cases e3;replace hx3_0:=keep_cell HK.out hx3_0 (by first | (rw [add_block];exact hf1 _ rfl (by omega)) | exact hf1 _ rfl (by omega) | exact hf1 ad3 rfl (by omega));replace p3:=eq_true p3;replace q3:=eq_true q3))
   go_ret
   exact ⟨by first | rfl | (simp [errW_none,errW_some] <;> rfl) | (simp [*,errW_none,errW_some] <;> rfl),is0_,hbi0_,hk_⟩
  ·rw [if_neg c5] at H
   exact absurd H (by simp)
 ·rw [if_neg c4] at H
  exact absurd H (by simp)
theorem spec_one_ev (b : List Int) (p : Int) (l : List Int) (hb : byL b) (h0 : 0 ≤ p) (hp : p ≤ 1099511627776) (hl : 1 ≤ l.length) : ∃ x,Ev (fun k=>spec_reader_one.f k b p l) (x,p + 1) ∧ x ∈ l:=by
 obtain ⟨x,hx,x0,x1,_⟩:=spec_pick_ev b p (l.length : Int) hb h0 hp
 have hlt:=x1 (by omega)
 have hn : x.toNat < l.length:=by omega
 refine ⟨rd l x,Ev.bind hx (Ev.pos x0 (Ev.pos hlt (Ev.const rfl))),?_⟩
 unfold rd
 rw [List.getD_eq_getElem?_getD,List.getElem?_eq_getElem hn]
 exact List.getElem_mem hn
end Go.Proofs.Ytjdpaholpfpiiaa.P
namespace Go.Proofs.Ytjdpaholpfpiiaa.P
open Go.RowKit Go.Proofs.YtjdpaholpfpiiaaW.PrintWords Go.Proofs.YtjdpaholpfpiiaaW.PrintLast Go.Proofs.YtjdpaholpfpiiaaW.PrintMore
attribute [local go_sem] max2_int min2_int max_two min_two max_three min_three max_four min_four
set_option linter.unusedVariables false
set_option linter.unusedSimpArgs false
mutual
def spec_goodGroup.j0 : Nat → Int → Bool → List Int → Int → List (S70) → Option ((List (S35)) × Int)
 | 0,_,_,_,_,_=>none
 | k + 1,x2,x24,x1000,x1001,x2000=>if x24 = true then ((spec_reader_pick.f k x1000 x1001 (x2000.length : Int)).bind fun bt8=>((spec_reader_one.f k x1000 bt8.2 (([1,2,3,0,99] : List Int))).bind fun bt13=>(some ((([(⟨x2,false,bt8.1,bt13.1⟩ : S35)] : List (S35))),bt13.2)))) else ((spec_reader_one.f k x1000 x1001 (([1,2,0,7] : List Int))).bind fun bt21=>((spec_reader_one.f k x1000 bt21.2 (([2,3,1] : List Int))).bind fun bt29=>(spec_goodGroup.l0 k x2 (([(⟨x2,true,0,bt21.1⟩ : S35)] : List (S35))) bt29.1 x1000 bt29.2 x2000)))
def spec_goodGroup.l0 : Nat → Int → List (S35) → Int → List Int → Int → List (S70) → Option ((List (S35)) × Int)
 | 0,_,_,_,_,_,_=>none
 | k + 1,x2,x7,x8,x1000,x1001,x2000=>if x8 > 0 then ((spec_goodGroup.f k x1000 x1001 x2000 (wrap64 (x2 + 1))).bind fun bt31=>(if x7.length + bt31.1.length < 4398046511104 then (spec_goodGroup.l0 k x2 (x7 ++ bt31.1) (wrap64 (x8 - 1)) x1000 bt31.2 x2000) else (none))) else (some (x7,x1001))
def spec_goodGroup.f : Nat → List Int → Int → List (S70) → Int → Option ((List (S35)) × Int)
 | 0,_,_,_,_=>none
 | k + 1,s0_0,s0_1,l1_0,a2=>if a2 ≥ 3 then (spec_goodGroup.j0 k a2 true s0_0 s0_1 l1_0) else (if a2 > 0 then ((spec_reader_pick.f k s0_0 s0_1 5).bind fun bt2=>(if bt2.1 > 1 then (spec_goodGroup.j0 k a2 true s0_0 bt2.2 l1_0) else ((spec_reader_pick.f k s0_0 bt2.2 8).bind fun bt4=>(spec_goodGroup.j0 k a2 (bt4.1 == 0) s0_0 bt4.2 l1_0)))) else ((spec_reader_pick.f k s0_0 s0_1 8).bind fun bt6=>(spec_goodGroup.j0 k a2 (bt6.1 == 0) s0_0 bt6.2 l1_0)))
end
theorem spec_goodGroup.mono_l : ∀ k,(∀ y0 y1 y2 y3,LeO (spec_goodGroup.f k y0 y1 y2 y3) (spec_goodGroup.f (k + 1) y0 y1 y2 y3)) ∧ (∀ y0 y1 y2 y3 y4,LeO (spec_goodGroup.j0 k y0 y1 y2 y3 y4) (spec_goodGroup.j0 (k + 1) y0 y1 y2 y3 y4)) ∧ (∀ y0 y1 y2 y3 y4 y5,LeO (spec_goodGroup.l0 k y0 y1 y2 y3 y4 y5) (spec_goodGroup.l0 (k + 1) y0 y1 y2 y3 y4 y5))
 | 0=>⟨fun _ _ _ _ r h=>by simp [spec_goodGroup.f] at h,fun _ _ _ _ _ r h=>by simp [spec_goodGroup.j0] at h,fun _ _ _ _ _ _ r h=>by simp [spec_goodGroup.l0] at h⟩
 | k + 1=>by
  obtain ⟨ih0,ih1,ih2⟩:=spec_goodGroup.mono_l k
  refine ⟨?_,?_,?_⟩
  ·intro y0 y1 y2 y3
   unfold spec_goodGroup.f
   repeat' first
   | (with_reducible exact ih0 _ _ _ _)
   | (with_reducible exact ih1 _ _ _ _ _)
   | (with_reducible exact ih2 _ _ _ _ _ _)
   | (with_reducible exact spec_reader_one.mono _ _ _ _)
   | (with_reducible exact spec_reader_pick.mono _ _ _ _)
   | (with_reducible exact LeO.refl _)
   | (with_reducible exact LeO.none _)
   | (with_reducible refine LeO.ite ?_ ?_)
   | (with_reducible refine LeO.bind ?_ (fun _=>?_))
   | exact ih0 _ _ _ _
   | exact ih1 _ _ _ _ _
   | exact ih2 _ _ _ _ _ _
   | exact spec_reader_one.mono _ _ _ _
   | exact spec_reader_pick.mono _ _ _ _
   | exact LeO.none _
   | refine LeO.ite ?_ ?_
   | refine LeO.bind ?_ (fun _=>?_)
  ·intro y0 y1 y2 y3 y4
   unfold spec_goodGroup.j0
   repeat' first
   | (with_reducible exact ih0 _ _ _ _)
   | (with_reducible exact ih1 _ _ _ _ _)
   | (with_reducible exact ih2 _ _ _ _ _ _)
   | (with_reducible exact spec_reader_one.mono _ _ _ _)
   | (with_reducible exact spec_reader_pick.mono _ _ _ _)
   | (with_reducible exact LeO.refl _)
   | (with_reducible exact LeO.none _)
   | (with_reducible refine LeO.ite ?_ ?_)
   | (with_reducible refine LeO.bind ?_ (fun _=>?_))
   | exact ih0 _ _ _ _
   | exact ih1 _ _ _ _ _
   | exact ih2 _ _ _ _ _ _
   | exact spec_reader_one.mono _ _ _ _
   | exact spec_reader_pick.mono _ _ _ _
   | exact LeO.none _
   | refine LeO.ite ?_ ?_
   | refine LeO.bind ?_ (fun _=>?_)
  ·intro y0 y1 y2 y3 y4 y5
   unfold spec_goodGroup.l0
   repeat' first
   | (with_reducible exact ih0 _ _ _ _)
   | (with_reducible exact ih1 _ _ _ _ _)
   | (with_reducible exact ih2 _ _ _ _ _ _)
   | (with_reducible exact spec_reader_one.mono _ _ _ _)
   | (with_reducible exact spec_reader_pick.mono _ _ _ _)
   | (with_reducible exact LeO.refl _)
   | (with_reducible exact LeO.none _)
   | (with_reducible refine LeO.ite ?_ ?_)
   | (with_reducible refine LeO.bind ?_ (fun _=>?_))
   | exact ih0 _ _ _ _
   | exact ih1 _ _ _ _ _
   | exact ih2 _ _ _ _ _ _
   | exact spec_reader_one.mono _ _ _ _
   | exact spec_reader_pick.mono _ _ _ _
   | exact LeO.none _
   | refine LeO.ite ?_ ?_
   | refine LeO.bind ?_ (fun _=>?_)
theorem spec_goodGroup.mono : ∀ a0 a1 a2 a3 k,LeO (spec_goodGroup.f k a0 a1 a2 a3) (spec_goodGroup.f (k + 1) a0 a1 a2 a3):=by
 intro a0 a1 a2 a3 k
 obtain ⟨ih0,ih1,ih2⟩:=spec_goodGroup.mono_l k
 exact ih0 a0 a1 a2 a3
set_option maxHeartbeats 8000000 in
set_option maxRecDepth 100000 in
theorem spec_goodGroup.calls (k : Nat) : ∀ (g : Nat) (s0_0 : List Int) (s0_1 : Int) (A1_0 : Option Addr) (c1_0 : Nat) (l1_0 : List (S70)) (a2 : Int) (r1 : List (S35)) (r2 : Int) (w0 w : World) (hI : IsS63 w0 w g s0_0 s0_1) (hB : Below w0.heap.size w0 w) (hr1_0 : ∀ W_,KeepBut w W_ g none → Kd.C k70 W_ A1_0 l1_0.length l1_0) (hc1_0 : l1_0.length ≤ c1_0) (h : spec_goodGroup.f k s0_0 s0_1 l1_0 a2 = some (r1,r2)),
  Calls Try.prog 30 #[.pointer (some ⟨g,0,none⟩),.agg #[.slice A1_0 l1_0.length c1_0],.int .i64 a2] w fun e w'=>∃ v0_ : Value,e = .returned (v0_) ∧ Kd.R k35 35 w' w.heap.size (fun _=>True) v0_ r1 ∧ IsS63 w0 w' g s0_0 r2 ∧ Below w0.heap.size w0 w' ∧ KeepBut w w' g none:=by
 induction k using Nat.strongRecOn with
 | _ k ih =>
 intro g s0_0 s0_1 A1_0 c1_0 l1_0 a2 r1 r2 w0 w hI hB hr1_0 hc1_0 h
 cases k with
 | zero=>exact absurd h (by simp [spec_goodGroup.f])
 | succ k =>
 simp only [spec_goodGroup.f] at h
 have hu25:=Try.underlying25
 have hu35:=Try.underlying35
 have HR1_0:=a0_ hr1_0
 have HC1_0:=a0_ hc1_0
 clear hr1_0 hc1_0
 have HI0:=a0_ hI
 have HK:=a0_ (KeepBut.refl w g none)
 have HL:=a0_ hB.size
 clear hI
 have HW0:=a0_ hB.size
 have HB:=a0_ hB
 clear hB
 have H : (if a2 ≥ 3 then (spec_goodGroup.j0 k a2 true s0_0 s0_1 l1_0) else (if a2 > 0 then ((spec_reader_pick.f k s0_0 s0_1 5).bind fun bt2=>(if bt2.1 > 1 then (spec_goodGroup.j0 k a2 true s0_0 bt2.2 l1_0) else ((spec_reader_pick.f k s0_0 bt2.2 8).bind fun bt4=>(spec_goodGroup.j0 k a2 (bt4.1 == 0) s0_0 bt4.2 l1_0)))) else ((spec_reader_pick.f k s0_0 s0_1 8).bind fun bt6=>(spec_goodGroup.j0 k a2 (bt6.1 == 0) s0_0 bt6.2 l1_0)))) = some (r1,r2):=h
 clear h
 have HC4:=a0_ H
 clear H
 go_enter Try.func30,Try.ntmps30
 go_upto_region 1 with (first | ((with_reducible refine gate_dst (N:=4) rfl ?_);refine box_event ?hg (N:=4) ?hd (cs:=#[.slice A1_0 l1_0.length c1_0]) (t:=25) ?hr ?_;(case hd=>rfl);(case hg=>rfl);(case hr=>first | (go_simp;done) | (go_simp;rfl));intro gb1 hg w5 hbox hb;have n0_:=a0_ (IsS63.below is0_ hb);have n1_:=a0_ (KeepBut.trans (w:=w) hk_ (KeepBut.of_below hb g none) (.inl rfl));have n2_:=a0_ (below_step hbi0_ hb);have n3_:=a0_ (hbox);have n4_:=a0_ ((by rw [hg];exact (keep_size (w:=w) (g:=g) (row:=none) hk_) : w.heap.size ≤ gb1));have n5_:=a0_ ((Nat.le_trans HW0.out (by rw [hg];exact (keep_size (w:=w) (g:=g) (row:=none) hk_) : w.heap.size ≤ gb1) : w0.heap.size ≤ gb1));have n6_:=a0_ ((by rw [hg];exact Nat.ne_of_lt (IsS63.lt (is0_ : IsS63 w0 _ g s0_0 s0_1)) : g ≠ gb1));have n7_:=a0_ ((by rw [hg];exact Nat.ne_of_gt (IsS63.lt (is0_ : IsS63 w0 _ g s0_0 s0_1)) : gb1 ≠ g));clear HI0 HK HB;have HI0:=n0_;have HK:=n1_;have HB:=n2_;have BK1:=n3_;have GW1:=n4_;have GE1:=n5_;have NB0_1:=n6_;have NB1_0:=n7_;clear n0_ n1_ n2_ n3_ n4_ n5_ n6_ n7_;clear hb hbox hg))
 (try simp only [Act.put,s1_,s2_,s3_])
 go_cut [24] (fun v24 wc=>∃ (kq : Nat) (x24_3 : Bool) (x1001_3 : Int),v24 = .bool x24_3 ∧ Aside0 (spec_goodGroup.j0 kq a2 x24_3 s0_0 x1001_3 l1_0 = some (r1,r2)) ∧ Aside0 (kq ≤ k) ∧ Aside0 (wc.heap[gb1]? = some (.cells #[(.slice A1_0 l1_0.length c1_0)] 25 (0,0))) ∧ Aside0 (IsS63 w0 wc g s0_0 x1001_3) ∧ Aside0 (KeepBut w wc g none) ∧ Aside0 (Below w0.heap.size w0 wc))
 case first =>
  have H:=HC4.out
  clear HC4
  by_cases c6 : a2 ≥ 3
  ·rw [if_pos c6] at H
   have c6b0 : decide (3 ≤ a2) = true:=decide_eq_true c6
   clear c6
   (first | rw [c6b0] | (simp only [i64_w,i32_w];rw [c6b0]) | skip)
   have H':=a0_ H
   clear H
   go_wp2
   go_meet
   case rel=>exact ⟨_,(true),(s0_1),(by first | rfl | (simp;done) | (simp [*];done)),H',⟨by first | omega | exact Nat.le_refl _⟩,⟨by (with_reducible repeat (first | refine blk_drewN ?_ _ | refine blk_drew ?_ | refine blk_alloc ?_ _));exact BK1.out⟩,⟨is0_⟩,⟨hk_⟩,⟨hbi0_⟩⟩
  ·rw [if_neg c6] at H
   have c6b0 : decide (3 ≤ a2) = false:=decide_eq_false c6
   clear c6
   (first | rw [c6b0] | (simp only [i64_w,i32_w];rw [c6b0]) | skip)
   by_cases c7 : a2 > 0
   ·rw [if_pos c7] at H
    have c7b0 : decide (0 < a2) = true:=decide_eq_true c7
    clear c7
    replace H:=Option.bind_eq_some_iff.mp H
    obtain ⟨⟨t2,t3⟩,A80,H⟩:=H
    try dsimp only at H
    have A8:=a0_ A80
    clear A80
    by_cases c9 : t2 > 1
    ·rw [if_pos c9] at H
     have c9b0 : decide (1 < t2) = true:=decide_eq_true c9
     clear c9
     have H':=a0_ H
     clear H
     go_wp2_with (first | (go_at_call 28;(with_reducible refine (spec_reader_pick.calls k g s0_0 s0_1 5 t2 t3 w0 _ ?side1 ?side2 A8.out).mono ?_);(case side1=>exact is0_);(case side2=>exact hbi0_);rintro e w10 ⟨rfl,hi,hb,hk⟩;replace BK1:=kk_ hk BK1 NB1_0;replace HK:=a0_ (KeepBut.trans (w:=w) hk_ hk (.inl rfl));replace HI0:=a0_ (hi);replace HB:=a0_ (hb);(try clear hb);(try clear hb2);(try clear hk);(try clear hi)))
     go_meet
     case rel=>exact ⟨_,(true),(t3),(by first | rfl | (simp;done) | (simp [*];done)),H',⟨by first | omega | exact Nat.le_refl _⟩,⟨by (with_reducible repeat (first | refine blk_drewN ?_ _ | refine blk_drew ?_ | refine blk_alloc ?_ _));exact BK1.out⟩,⟨is0_⟩,⟨hk_⟩,⟨hbi0_⟩⟩
    ·rw [if_neg c9] at H
     have c9b0 : decide (1 < t2) = false:=decide_eq_false c9
     clear c9
     replace H:=Option.bind_eq_some_iff.mp H
     obtain ⟨⟨t4,t5⟩,A110,H⟩:=H
     try dsimp only at H
     have A11:=a0_ A110
     clear A110
     have H':=a0_ H
     clear H
     go_wp2_with (first | (go_at_call 28;(with_reducible refine (spec_reader_pick.calls k g s0_0 s0_1 5 t2 t3 w0 _ ?side1 ?side2 A8.out).mono ?_);(case side1=>exact is0_);(case side2=>exact hbi0_);rintro e w12 ⟨rfl,hi,hb,hk⟩;replace BK1:=kk_ hk BK1 NB1_0;replace HK:=a0_ (KeepBut.trans (w:=w) hk_ hk (.inl rfl));replace HI0:=a0_ (hi);replace HB:=a0_ (hb);(try clear hb);(try clear hb2);(try clear hk);(try clear hi)) | (go_at_call 28;(with_reducible refine (spec_reader_pick.calls k g s0_0 t3 8 t4 t5 w0 _ ?side1 ?side2 A11.out).mono ?_);(case side1=>exact is0_);(case side2=>exact hbi0_);rintro e w13 ⟨rfl,hi,hb,hk⟩;replace BK1:=kk_ hk BK1 NB1_0;replace HK:=a0_ (KeepBut.trans (w:=w) hk_ hk (.inl rfl));replace HI0:=a0_ (hi);replace HB:=a0_ (hb);(try clear hb);(try clear hb2);(try clear hk);(try clear hi)))
     go_meet
     case rel=>exact ⟨_,((t4 == 0)),(t5),(by first | rfl | (simp;done) | (simp [*];done)),H',⟨by first | omega | exact Nat.le_refl _⟩,⟨by (with_reducible repeat (first | refine blk_drewN ?_ _ | refine blk_drew ?_ | refine blk_alloc ?_ _));exact BK1.out⟩,⟨is0_⟩,⟨hk_⟩,⟨hbi0_⟩⟩
   ·rw [if_neg c7] at H
    have c7b0 : decide (0 < a2) = false:=decide_eq_false c7
    clear c7
    replace H:=Option.bind_eq_some_iff.mp H
    obtain ⟨⟨t6,t7⟩,A140,H⟩:=H
    try dsimp only at H
    have A14:=a0_ A140
    clear A140
    have H':=a0_ H
    clear H
    go_wp2_with (first | (go_at_call 28;(with_reducible refine (spec_reader_pick.calls k g s0_0 s0_1 8 t6 t7 w0 _ ?side1 ?side2 A14.out).mono ?_);(case side1=>exact is0_);(case side2=>exact hbi0_);rintro e w15 ⟨rfl,hi,hb,hk⟩;replace BK1:=kk_ hk BK1 NB1_0;replace HK:=a0_ (KeepBut.trans (w:=w) hk_ hk (.inl rfl));replace HI0:=a0_ (hi);replace HB:=a0_ (hb);(try clear hb);(try clear hb2);(try clear hk);(try clear hi)))
    go_meet
    case rel=>exact ⟨_,((t6 == 0)),(t7),(by first | rfl | (simp;done) | (simp [*];done)),H',⟨by first | omega | exact Nat.le_refl _⟩,⟨by (with_reducible repeat (first | refine blk_drewN ?_ _ | refine blk_drew ?_ | refine blk_alloc ?_ _));exact BK1.out⟩,⟨is0_⟩,⟨hk_⟩,⟨hbi0_⟩⟩
 case rest =>
  clear HC4
  try clear c1
  try clear p2
  try clear c3
  try clear c6
  try clear c6b0
  try clear c7
  try clear c7b0
  try clear c9
  try clear c9b0
  obtain ⟨kq,x24_3,x1001_3,rfl,HA,HJ3,BK1,HI0,HK,HB⟩:=hcut
  cases kq with
  | zero=>exact absurd HA.out (by simp [spec_goodGroup.j0])
  | succ kj3 =>
   have H:=HA.out
   clear HA
   simp only [spec_goodGroup.j0] at H
   by_cases c16 : x24_3 = true
   ·subst c16
    have H1 : ((spec_reader_pick.f kj3 s0_0 x1001_3 (l1_0.length : Int)).bind fun bt8=>((spec_reader_one.f kj3 s0_0 bt8.2 (([1,2,3,0,99] : List Int))).bind fun bt13=>(some ((([(⟨a2,false,bt8.1,bt13.1⟩ : S35)] : List (S35))),bt13.2)))) = some (r1,r2):=by rw [if_pos rfl] at H;exact H
    clear H
    have H:=H1
    clear H1
    replace H:=Option.bind_eq_some_iff.mp H
    obtain ⟨⟨t8,t9⟩,A170,H⟩:=H
    try dsimp only at H
    have A17:=a0_ A170
    clear A170
    obtain ⟨y10,hy10⟩ : ∃ y_ : List Int,y_ = (([1,2,3,0,99] : List Int)):=⟨_,rfl⟩
    replace H : ((spec_reader_one.f kj3 s0_0 t9 y10).bind fun bt13=>(some ((([(⟨a2,false,t8,bt13.1⟩ : S35)] : List (S35))),bt13.2))) = some (r1,r2):=by first | (rw [hy10];with_reducible exact H) | (have H2_:=(Option.bind_some _ _).symm.trans H;rw [hy10];with_reducible exact H2_) | (have H2_:=(Option.bind_some _ _).symm.trans H;with_reducible exact H2_) | with_reducible exact H | (rw [hy10];exact H) | exact H
    have Ny10:=a0_ hy10
    clear hy10
    replace H:=Option.bind_eq_some_iff.mp H
    obtain ⟨⟨t13,t14⟩,A180,H⟩:=H
    try dsimp only at H
    have A18:=a0_ A180
    clear A180
    obtain ⟨y15,hy15⟩ : ∃ y_ : List (S35),y_ = (([(⟨a2,false,t8,t13⟩ : S35)] : List (S35))):=⟨_,rfl⟩
    replace H : (some (y15,t14)) = some (r1,r2):=by first | (rw [hy15];with_reducible exact H) | (have H2_:=(Option.bind_some _ _).symm.trans H;rw [hy15];with_reducible exact H2_) | (have H2_:=(Option.bind_some _ _).symm.trans H;with_reducible exact H2_) | with_reducible exact H | (rw [hy15];exact H) | exact H
    have Ny15:=a0_ hy15
    clear hy15
    simp only [Option.some.injEq,Prod.mk.injEq] at H
    obtain ⟨rfl,rfl⟩:=H
    have hnb19:=NB1_0.out
    have hnc19:=NB0_1.out
    have hcz20_0 : wc.cell? ⟨gb1,0,none⟩ = some (.slice A1_0 l1_0.length c1_0):=(blk_cell BK1.out 0).trans rfl
    have hfz20_0:=blk_frozen BK1.out 0
    go_wp2_with (first | ((with_reducible refine gate_callee (f:=28) rfl ?_);refine goesL_ (some 30) rfl rfl Try.func28 (by kernel_rfl) rfl #[.pointer (some ⟨g,0,none⟩),.int .i64 (l1_0.length : Int)] rfl lm_ ?_;(with_reducible refine (spec_reader_pick.calls kj3 g s0_0 x1001_3 (l1_0.length : Int) t8 t9 w0 _ ?side1 ?side2 A17.out).mono ?_);(case side1=>exact is0_);(case side2=>exact hbi0_);rintro e w21 ⟨rfl,hi,hb,hk⟩;refine ⟨_,rfl,?_⟩;replace BK1:=kk_ hk BK1 NB1_0;replace HK:=a0_ (KeepBut.trans (w:=w) hk_ hk (.inl rfl));replace HI0:=a0_ (hi);replace HB:=a0_ (hb);(try clear hb);(try clear hb2);(try clear hk);(try clear hi)) | ((with_reducible refine gate_dst (N:=32) rfl ?_);refine Kd.R_lit (Kd.int .i64) _ 3 ?hg (N:=32) ?hd (xs:=([1,2,3,0,99] : List Int)) (inner:=[.int .i64 1,.int .i64 2,.int .i64 3,.int .i64 0,.int .i64 99]) (ok:=fun _=>True) (okp:=fun _=>True) ?hr ?hp (fun _ hk=>hk) trivial (Below.refl _ _) (Nat.le_refl _) (by simp) ?_;(case hd=>rfl);(case hg=>rfl);(case hr=>first | (go_simp;done) | (go_simp;rfl));(case hp=>exact (Reps.one (show Kd.M (Kd.int .i64) _ _ _ 1 [.int .i64 1] from rfl) (Reps.one (show Kd.M (Kd.int .i64) _ _ _ 2 [.int .i64 2] from rfl) (Reps.one (show Kd.M (Kd.int .i64) _ _ _ 3 [.int .i64 3] from rfl) (Reps.one (show Kd.M (Kd.int .i64) _ _ _ 0 [.int .i64 0] from rfl) (Reps.one (show Kd.M (Kd.int .i64) _ _ _ 99 [.int .i64 99] from rfl) (Reps.none _ _)))))));intro v11 w22 ho23 hb hg_ hnew_;clear hg_ hnew_;(first | rw [← Ny10.out] at ho23 | (simp only [Int.reduceToNat] at ho23;rw [← Ny10.out] at ho23));have n0_:=a0_ (Kd.R_lower ho23 (keep_size (w:=w) (g:=g) (row:=none) hk_));have n1_:=kb_ BK1 hb;have n2_:=a0_ (IsS63.below is0_ hb);have n3_:=a0_ (KeepBut.trans (w:=w) hk_ (KeepBut.of_below hb g none) (.inl rfl));have n4_:=a0_ (below_step hbi0_ hb);clear BK1 HI0;clear HK HB;have HO12:=n0_;have BK1:=n1_;have HI0:=n2_;have HK:=n3_;have HB:=n4_;clear n0_ n1_ n2_ n3_ n4_;clear hb ho23;obtain ⟨Ao24,co24,eo24⟩:=Kd.R_slice HO12.out;subst eo24) | ((with_reducible refine gate_callee (f:=31) rfl ?_);refine goesL_ (some 33) rfl rfl Try.func31 (by kernel_rfl) rfl #[.pointer (some ⟨g,0,none⟩),.slice Ao24 y10.length co24] rfl lm_ ?_;(with_reducible refine (spec_reader_one.calls kj3 g s0_0 t9 _ _ y10 t13 t14 w0 _ ?side1 ?side2 ?side3 ?side4 ?side5 A18.out).mono ?_);(case side1=>exact is0_);(case side2=>exact hbi0_);(case side3=>exact cc_ (Kd.R_reads' HO12.out).2.2);(case side4=>exact (Kd.R_reads' HO12.out).2.1);(case side5=>exact far_slice (IsS63.own_ne HI0.out HO12.out (by decide)));rintro e w25 ⟨rfl,hi,hb,hk⟩;refine ⟨_,rfl,?_⟩;replace BK1:=kk_ hk BK1 NB1_0;replace HO12:=a0_ (Kd.R_mono (Kd.R_keep (IsS63.apart (is0_ : IsS63 w0 _ g s0_0 t9) (rr_ HO12.out) (by decide)) hk (fun _ h=>h.2)) (fun _ h=>h.1));replace HK:=a0_ (KeepBut.trans (w:=w) hk_ hk (.inl rfl));replace HI0:=a0_ (hi);replace HB:=a0_ (hb);(try clear hb);(try clear hb2);(try clear hk);(try clear hi)) | ((with_reducible refine gate_dst (N:=35) rfl ?_);refine Kd.R_lit k35 _ 35 ?hg (N:=35) ?hd (xs:=([(⟨a2,false,t8,t13⟩ : S35)] : List (S35))) (inner:=[.int .i64 a2,.bool false,.int .i64 t8,.int .i64 t13]) (ok:=fun _=>True) (okp:=fun _=>True) ?hr ?hp (fun _ hk=>hk) trivial (Below.refl _ _) (Nat.le_refl _) (by simp) ?_;(case hd=>rfl);(case hg=>rfl);(case hr=>first | (go_simp;done) | (go_simp;rfl));(case hp=>exact (Reps.c4 (show Kd.M k35 _ _ _ (⟨a2,false,t8,t13⟩ : S35) [.int .i64 a2,.bool false,.int .i64 t8,.int .i64 t13] from (k35_mkM _ _ _ (⟨a2,false,t8,t13⟩ : S35) )) (Reps.none _ _)));intro v16 w26 ho27 hb hg_ hnew_;clear hg_ hnew_;(first | rw [← Ny15.out] at ho27 | (simp only [Int.reduceToNat] at ho27;rw [← Ny15.out] at ho27));have n0_:=rb_ HO12 hb;have n1_:=a0_ (Kd.R_lower ho27 (keep_size (w:=w) (g:=g) (row:=none) hk_));have n2_:=kb_ BK1 hb;have n3_:=a0_ (IsS63.below is0_ hb);have n4_:=a0_ (KeepBut.trans (w:=w) hk_ (KeepBut.of_below hb g none) (.inl rfl));have n5_:=a0_ (below_step hbi0_ hb);clear HO12 BK1;clear HI0 HK HB;have HO12:=n0_;have HO17:=n1_;have BK1:=n2_;have HI0:=n3_;have HK:=n4_;have HB:=n5_;clear n0_ n1_ n2_ n3_ n4_ n5_;clear hb ho27))
    go_ret
    exact ⟨_,by first | rfl | (simp [errW_none,errW_some] <;> rfl) | (simp [*,errW_none,errW_some] <;> rfl),by (with_reducible repeat (first | apply Kd.R_alloc | apply Kd.R_drewN | apply Kd.R_drew));exact HO17.out,is0_,hbi0_,hk_⟩
   ·replace c16:=Bool.eq_false_iff.mpr c16
    subst c16
    have H1 : ((spec_reader_one.f kj3 s0_0 x1001_3 (([1,2,0,7] : List Int))).bind fun bt21=>((spec_reader_one.f kj3 s0_0 bt21.2 (([2,3,1] : List Int))).bind fun bt29=>(spec_goodGroup.l0 kj3 a2 (([(⟨a2,true,0,bt21.1⟩ : S35)] : List (S35))) bt29.1 s0_0 bt29.2 l1_0))) = some (r1,r2):=by rw [if_neg (show ¬ (false = true) by decide)] at H;exact H
    clear H
    have H:=H1
    clear H1
    obtain ⟨y18,hy18⟩ : ∃ y_ : List Int,y_ = (([1,2,0,7] : List Int)):=⟨_,rfl⟩
    replace H : ((spec_reader_one.f kj3 s0_0 x1001_3 y18).bind fun bt21=>((spec_reader_one.f kj3 s0_0 bt21.2 (([2,3,1] : List Int))).bind fun bt29=>(spec_goodGroup.l0 kj3 a2 (([(⟨a2,true,0,bt21.1⟩ : S35)] : List (S35))) bt29.1 s0_0 bt29.2 l1_0))) = some (r1,r2):=by first | (rw [hy18];with_reducible exact H) | (have H2_:=(Option.bind_some _ _).symm.trans H;rw [hy18];with_reducible exact H2_) | (have H2_:=(Option.bind_some _ _).symm.trans H;with_reducible exact H2_) | with_reducible exact H | (rw [hy18];exact H) | exact H
    have Ny18:=a0_ hy18
    clear hy18
    replace H:=Option.bind_eq_some_iff.mp H
    obtain ⟨⟨t21,t22⟩,A280,H⟩:=H
    try dsimp only at H
    have A28:=a0_ A280
    clear A280
    obtain ⟨y23,hy23⟩ : ∃ y_ : List (S35),y_ = (([(⟨a2,true,0,t21⟩ : S35)] : List (S35))):=⟨_,rfl⟩
    replace H : ((spec_reader_one.f kj3 s0_0 t22 (([2,3,1] : List Int))).bind fun bt29=>(spec_goodGroup.l0 kj3 a2 y23 bt29.1 s0_0 bt29.2 l1_0)) = some (r1,r2):=by first | (rw [hy23];with_reducible exact H) | (have H2_:=(Option.bind_some _ _).symm.trans H;rw [hy23];with_reducible exact H2_) | (have H2_:=(Option.bind_some _ _).symm.trans H;with_reducible exact H2_) | with_reducible exact H | (rw [hy23];exact H) | exact H
    have Ny23:=a0_ hy23
    clear hy23
    obtain ⟨y26,hy26⟩ : ∃ y_ : List Int,y_ = (([2,3,1] : List Int)):=⟨_,rfl⟩
    replace H : ((spec_reader_one.f kj3 s0_0 t22 y26).bind fun bt29=>(spec_goodGroup.l0 kj3 a2 y23 bt29.1 s0_0 bt29.2 l1_0)) = some (r1,r2):=by first | (rw [hy26];with_reducible exact H) | (have H2_:=(Option.bind_some _ _).symm.trans H;rw [hy26];with_reducible exact H2_) | (have H2_:=(Option.bind_some _ _).symm.trans H;with_reducible exact H2_) | with_reducible exact H | (rw [hy26];exact H) | exact H
    have Ny26:=a0_ hy26
    clear hy26
    replace H:=Option.bind_eq_some_iff.mp H
    obtain ⟨⟨t29,t30⟩,A290,H⟩:=H
    try dsimp only at H
    have A29:=a0_ A290
    clear A290
    have H':=a0_ H
    clear H
    go_wp2_with (first | ((with_reducible refine gate_dst (N:=38) rfl ?_);refine Kd.R_lit (Kd.int .i64) _ 3 ?hg (N:=38) ?hd (xs:=([1,2,0,7] : List Int)) (inner:=[.int .i64 1,.int .i64 2,.int .i64 0,.int .i64 7]) (ok:=fun _=>True) (okp:=fun _=>True) ?hr ?hp (fun _ hk=>hk) trivial (Below.refl _ _) (Nat.le_refl _) (by simp) ?_;(case hd=>rfl);(case hg=>rfl);(case hr=>first | (go_simp;done) | (go_simp;rfl));(case hp=>exact (Reps.one (show Kd.M (Kd.int .i64) _ _ _ 1 [.int .i64 1] from rfl) (Reps.one (show Kd.M (Kd.int .i64) _ _ _ 2 [.int .i64 2] from rfl) (Reps.one (show Kd.M (Kd.int .i64) _ _ _ 0 [.int .i64 0] from rfl) (Reps.one (show Kd.M (Kd.int .i64) _ _ _ 7 [.int .i64 7] from rfl) (Reps.none _ _))))));intro v19 w30 ho31 hb hg_ hnew_;clear hg_ hnew_;(first | rw [← Ny18.out] at ho31 | (simp only [Int.reduceToNat] at ho31;rw [← Ny18.out] at ho31));have n0_:=a0_ (Kd.R_lower ho31 (keep_size (w:=w) (g:=g) (row:=none) hk_));have n1_:=kb_ BK1 hb;have n2_:=a0_ (IsS63.below is0_ hb);have n3_:=a0_ (KeepBut.trans (w:=w) hk_ (KeepBut.of_below hb g none) (.inl rfl));have n4_:=a0_ (below_step hbi0_ hb);clear BK1 HI0;clear HK HB;have HO20:=n0_;have BK1:=n1_;have HI0:=n2_;have HK:=n3_;have HB:=n4_;clear n0_ n1_ n2_ n3_ n4_;clear hb ho31;obtain ⟨Ao32,co32,eo32⟩:=Kd.R_slice HO20.out;subst eo32) | ((with_reducible refine gate_callee (f:=31) rfl ?_);refine goesL_ (some 39) rfl rfl Try.func31 (by kernel_rfl) rfl #[.pointer (some ⟨g,0,none⟩),.slice Ao32 y18.length co32] rfl lm_ ?_;(with_reducible refine (spec_reader_one.calls kj3 g s0_0 x1001_3 _ _ y18 t21 t22 w0 _ ?side1 ?side2 ?side3 ?side4 ?side5 A28.out).mono ?_);(case side1=>exact is0_);(case side2=>exact hbi0_);(case side3=>exact cc_ (Kd.R_reads' HO20.out).2.2);(case side4=>exact (Kd.R_reads' HO20.out).2.1);(case side5=>exact far_slice (IsS63.own_ne HI0.out HO20.out (by decide)));rintro e w33 ⟨rfl,hi,hb,hk⟩;refine ⟨_,rfl,?_⟩;replace BK1:=kk_ hk BK1 NB1_0;replace HO20:=a0_ (Kd.R_mono (Kd.R_keep (IsS63.apart (is0_ : IsS63 w0 _ g s0_0 x1001_3) (rr_ HO20.out) (by decide)) hk (fun _ h=>h.2)) (fun _ h=>h.1));replace HK:=a0_ (KeepBut.trans (w:=w) hk_ hk (.inl rfl));replace HI0:=a0_ (hi);replace HB:=a0_ (hb);(try clear hb);(try clear hb2);(try clear hk);(try clear hi)) | ((with_reducible refine gate_dst (N:=41) rfl ?_);refine Kd.R_lit k35 _ 35 ?hg (N:=41) ?hd (xs:=([(⟨a2,true,0,t21⟩ : S35)] : List (S35))) (inner:=[.int .i64 a2,.bool true,.int .i64 0,.int .i64 t21]) (ok:=fun _=>True) (okp:=fun _=>True) ?hr ?hp (fun _ hk=>hk) trivial (Below.refl _ _) (Nat.le_refl _) (by simp) ?_;(case hd=>rfl);(case hg=>rfl);(case hr=>first | (go_simp;done) | (go_simp;rfl));(case hp=>exact (Reps.c4 (show Kd.M k35 _ _ _ (⟨a2,true,0,t21⟩ : S35) [.int .i64 a2,.bool true,.int .i64 0,.int .i64 t21] from (k35_mkM _ _ _ (⟨a2,true,0,t21⟩ : S35) )) (Reps.none _ _)));intro v24 w34 ho35 hb hg_ hnew_;clear hg_ hnew_;(first | rw [← Ny23.out] at ho35 | (simp only [Int.reduceToNat] at ho35;rw [← Ny23.out] at ho35));have n0_:=rb_ HO20 hb;have n1_:=a0_ (Kd.R_lower ho35 (keep_size (w:=w) (g:=g) (row:=none) hk_));have n2_:=kb_ BK1 hb;have n3_:=a0_ (IsS63.below is0_ hb);have n4_:=a0_ (KeepBut.trans (w:=w) hk_ (KeepBut.of_below hb g none) (.inl rfl));have n5_:=a0_ (below_step hbi0_ hb);clear HO20 BK1;clear HI0 HK HB;have HO20:=n0_;have HO25:=n1_;have BK1:=n2_;have HI0:=n3_;have HK:=n4_;have HB:=n5_;clear n0_ n1_ n2_ n3_ n4_ n5_;clear hb ho35) | ((with_reducible refine gate_dst (N:=43) rfl ?_);refine Kd.R_lit (Kd.int .i64) _ 3 ?hg (N:=43) ?hd (xs:=([2,3,1] : List Int)) (inner:=[.int .i64 2,.int .i64 3,.int .i64 1]) (ok:=fun _=>True) (okp:=fun _=>True) ?hr ?hp (fun _ hk=>hk) trivial (Below.refl _ _) (Nat.le_refl _) (by simp) ?_;(case hd=>rfl);(case hg=>rfl);(case hr=>first | (go_simp;done) | (go_simp;rfl));(case hp=>exact (Reps.one (show Kd.M (Kd.int .i64) _ _ _ 2 [.int .i64 2] from rfl) (Reps.one (show Kd.M (Kd.int .i64) _ _ _ 3 [.int .i64 3] from rfl) (Reps.one (show Kd.M (Kd.int .i64) _ _ _ 1 [.int .i64 1] from rfl) (Reps.none _ _)))));intro v27 w36 ho37 hb hg_ hnew_;clear hg_ hnew_;(first | rw [← Ny26.out] at ho37 | (simp only [Int.reduceToNat] at ho37;rw [← Ny26.out] at ho37));have n0_:=a0_ (Kd.R_elder' (rr_ HO20.out) (Kd.R_base ho37) hb);have n1_:=rb_ HO25 hb;have n2_:=a0_ (Kd.R_lower (Kd.R_new' ho37 (Kd.R_lt (rr_ HO20.out))) (keep_size (w:=w) (g:=g) (row:=none) hk_));have n3_:=kb_ BK1 hb;have n4_:=a0_ (IsS63.below is0_ hb);have n5_:=a0_ (KeepBut.trans (w:=w) hk_ (KeepBut.of_below hb g none) (.inl rfl));have n6_:=a0_ (below_step hbi0_ hb);clear HO20 HO25;clear BK1 HI0;clear HK HB;have HO20:=n0_;have HO25:=n1_;have HO28:=n2_;have BK1:=n3_;have HI0:=n4_;have HK:=n5_;have HB:=n6_;clear n0_ n1_ n2_ n3_ n4_ n5_ n6_;clear hb ho37;obtain ⟨Ao38,co38,eo38⟩:=Kd.R_slice HO28.out;subst eo38) | ((with_reducible refine gate_callee (f:=31) rfl ?_);refine goesL_ (some 44) rfl rfl Try.func31 (by kernel_rfl) rfl #[.pointer (some ⟨g,0,none⟩),.slice Ao38 y26.length co38] rfl lm_ ?_;(with_reducible refine (spec_reader_one.calls kj3 g s0_0 t22 _ _ y26 t29 t30 w0 _ ?side1 ?side2 ?side3 ?side4 ?side5 A29.out).mono ?_);(case side1=>exact is0_);(case side2=>exact hbi0_);(case side3=>exact cc_ (Kd.R_reads' HO28.out).2.2);(case side4=>exact (Kd.R_reads' HO28.out).2.1);(case side5=>exact far_slice (IsS63.own_ne HI0.out HO28.out (by decide)));rintro e w39 ⟨rfl,hi,hb,hk⟩;refine ⟨_,rfl,?_⟩;replace BK1:=kk_ hk BK1 NB1_0;replace HO20:=a0_ (Kd.R_mono (Kd.R_keep (IsS63.apart (is0_ : IsS63 w0 _ g s0_0 t22) (rr_ HO20.out) (by decide)) hk (fun _ h=>h.2)) (fun _ h=>h.1));replace HO25:=a0_ (Kd.R_mono (Kd.R_keep (IsS63.apart (is0_ : IsS63 w0 _ g s0_0 t22) (rr_ HO25.out) (by decide)) hk (fun _ h=>h.2)) (fun _ h=>h.1));replace HO28:=a0_ (Kd.R_mono (Kd.R_keep (IsS63.apart (is0_ : IsS63 w0 _ g s0_0 t22) (rr_ HO28.out) (by decide)) hk (fun _ h=>h.2)) (fun _ h=>h.1));replace HK:=a0_ (KeepBut.trans (w:=w) hk_ hk (.inl rfl));replace HI0:=a0_ (hi);replace HB:=a0_ (hb);(try clear hb);(try clear hb2);(try clear hk);(try clear hi)))
    go_loopg [7,8] kj3 (fun kq v7 v8 w'=>∃ (x7_2 : List (S35)) (x8_2 : Int) (x1001_2 : Int),v8 = .int .i64 x8_2 ∧ Aside0 (spec_goodGroup.l0 kq a2 x7_2 x8_2 s0_0 x1001_2 l1_0 = some (r1,r2)) ∧ Aside0 (kq ≤ kj3) ∧ Aside0 (Kd.R k35 35 w' w.heap.size (fun _=>True) v7 x7_2) ∧ Aside0 (w'.heap[gb1]? = some (.cells #[(.slice A1_0 l1_0.length c1_0)] 25 (0,0))) ∧ Aside0 (IsS63 w0 w' g s0_0 x1001_2) ∧ Aside0 (KeepBut w w' g none) ∧ Aside0 (Below w0.heap.size w0 w'))
    case atStart=>exact ⟨(y23),(t29),(t30),(by first | rfl | (simp;done) | (simp [*];done)),H',⟨Nat.le_refl _⟩,⟨by (with_reducible repeat (first | apply Kd.R_alloc | apply Kd.R_drewN | apply Kd.R_drew));exact HO25.out⟩,⟨by (with_reducible repeat (first | refine blk_drewN ?_ _ | refine blk_drew ?_ | refine blk_alloc ?_ _));exact BK1.out⟩,⟨is0_⟩,⟨hk_⟩,⟨hbi0_⟩⟩
    case round =>
     clear H'
     try clear c1
     try clear c2
     try clear p2
     try clear c3
     try clear c4
     try clear c6
     try clear c6b0
     try clear c7
     try clear c7b0
     try clear c9
     try clear c9b0
     try clear c16
     try clear c19
     try clear c28
     try clear c30
     try clear c31
     try clear hcz20_0
     try clear hfz20_0
     try clear p2
     obtain ⟨x7_2,x8_2,x1001_2,rfl,HA,HK2,HO_7,BK1,HI0,HK,HB⟩:=hrel
     cases gk with
     | zero=>exact absurd HA.out (by simp [spec_goodGroup.l0])
     | succ k2 =>
      have H:=HA.out
      clear HA
      simp only [spec_goodGroup.l0] at H
      by_cases c40 : x8_2 > 0
      ·rw [if_pos c40] at H
       have c40b0 : decide (0 < x8_2) = true:=decide_eq_true c40
       clear c40
       replace H:=Option.bind_eq_some_iff.mp H
       obtain ⟨⟨t31,t34⟩,A410,H⟩:=H
       try dsimp only at H
       have A41:=a0_ A410
       clear A410
       by_cases c42 : x7_2.length + t31.length < 4398046511104
       ·rw [if_pos c42] at H
        have LMc42:=a0_ c42
        clear c42
        obtain ⟨y35,hy35⟩ : ∃ y_ : List (S35),y_ = (x7_2 ++ t31):=⟨_,rfl⟩
        replace H : (spec_goodGroup.l0 k2 a2 y35 (wrap64 (x8_2 - 1)) s0_0 t34 l1_0) = some (r1,r2):=by first | (rw [hy35];with_reducible exact H) | (have H2_:=(Option.bind_some _ _).symm.trans H;rw [hy35];with_reducible exact H2_) | (have H2_:=(Option.bind_some _ _).symm.trans H;with_reducible exact H2_) | with_reducible exact H | (rw [hy35];exact H) | exact H
        have Ny35:=a0_ hy35
        clear hy35
        have H':=a0_ H
        clear H
        have hnb43:=NB1_0.out
        have hnc43:=NB0_1.out
        have hcz44_0 : wr.cell? ⟨gb1,0,none⟩ = some (.slice A1_0 l1_0.length c1_0):=(blk_cell BK1.out 0).trans rfl
        have hfz44_0:=blk_frozen BK1.out 0
        go_wp2_with (first | ((with_reducible refine gate_callee (f:=30) rfl ?_);refine goesL_ (some 54) rfl rfl Try.func30 (by kernel_rfl) rfl #[.pointer (some ⟨g,0,none⟩),.agg #[.slice A1_0 l1_0.length c1_0],.int .i64 (wrap64 (a2 + 1))] rfl lm_ ?_;(with_reducible refine (ih k2 (by have:=HJ3.out;have:=HK2.out;omega) g s0_0 x1001_2 _ _ l1_0 (wrap64 (a2 + 1)) t31 t34 w0 _ ?side1 ?side2 ?side3 ?side4 A41.out).mono ?_);(case side1=>exact is0_);(case side2=>exact hbi0_);(case side3=>exact Kd.C_foot_step HR1_0.out hk_);(case side4=>exact HC1_0.out);rintro e w45 ⟨v32,rfl,ho0,hi,hb,hk⟩;refine ⟨_,rfl,?_⟩;have n0_:=a0_ (Kd.R_mono (Kd.R_told (Kd.R_oldK (IsS63.apart (is0_ : IsS63 w0 _ g s0_0 x1001_2) (rr_ HO_7.out) (by decide)) hk) (Kd.R_base ho0)) (fun _ h_=>h_.1));have n1_:=kk_ hk BK1 NB1_0;have n2_:=a0_ (Kd.R_lower (Kd.R_new' ho0 (Kd.R_lt (rr_ HO_7.out))) (keep_size (w:=w) (g:=g) (row:=none) hk_));have n3_:=a0_ (KeepBut.trans (w:=w) hk_ hk (.inl rfl));have n4_:=a0_ (hb);have n5_:=a0_ (hi);clear HO_7 BK1;clear HK HB HI0;have HO_7:=n0_;have BK1:=n1_;have HO33:=n2_;have HK:=n3_;have HB:=n4_;have HI0:=n5_;clear n0_ n1_ n2_ n3_ n4_ n5_;(try clear hb);(try clear ho0);obtain ⟨Ao47,co47,eo47⟩:=Kd.R_slice HO33.out;subst eo47) | ((with_reducible refine gate_builtin (b:=.append) (xs:=#[.tmp 49,.tmp 54]) rfl ?_);at_builtin;refine Kd.R_append_rows k35 w.heap.size rfl (.tmp 49) (.tmp 54) 26 35 (.agg #[(.int .i64 0),(.bool false),(.int .i64 0),(.int .i64 0)]) 32 rfl Try.underlying26 info35 rfl (by decide) (by omega) u7 x7_2 t31 _ _ _ (fun k_=>some k_ ≠ (.slice Ao47 t31.length co47 : Value).ownBlock) (fun _=>False) rfl rfl ?aO ?aR (fun _ _ h=>h) (fun _ h=>h.elim) ?aF (Below.refl _ _) ?aS ?aL ?_;(case aR=>exact cc_ (Kd.R_reads' HO33.out).2.2);(case aF=>exact (fun k_ hk=>Kd.fresh' (Kd.R_lt (rr_ HO33.out)) k_ hk));(case aO=>exact (rm_ HO_7.out (fun _ hk=>hk.2)));(case aS=>exact (keep_size (w:=w) (g:=g) (row:=none) hk_));(case aL=>have:=LMc42.out;omega);intro v36 w46 ho hb hg hat;rw [← Ny35.out] at ho;have n0_:=a0_ (blk_grown (bb_ BK1.out) hg (Kd.R_ne HO_7.out BK1.out (by decide)));have n1_:=a0_ (IsS63.grown is0_ hg (IsS63.own_ne HI0.out HO_7.out (by decide)));have n2_:=a0_ (Kd.R_after (ok:=(fun _=>True)) (rr_ HO33.out) hg hat);have n3_:=a0_ (below_weaken hbi0_ HL.out hb);have n4_:=a0_ (KeepBut.trans (w:=w) hk_ (KeepBut.of_grown hg g) (Kd.R_base2 HO_7.out));have n5_:=a0_ (ho);clear BK1 HI0;clear HO33 HB;clear HK HO_7;have BK1:=n0_;have HI0:=n1_;have HO33:=n2_;have HB:=n3_;have HK:=n4_;have HO37:=n5_;clear n0_ n1_ n2_ n3_ n4_ n5_;clear ho hb hg hat))
        go_roundg k2
        case measure=>have:=HJ3.out;have:=HK2.out;omega
        case rel=>exact ⟨(y35),(wrap64 (x8_2 - 1)),(t34),(by first | rfl | (simp;done) | (simp [*];done)),H',⟨by have:=HJ3.out;have:=HK2.out;omega⟩,⟨by (with_reducible repeat (first | apply Kd.R_alloc | apply Kd.R_drewN | apply Kd.R_drew));exact Kd.R_mono HO37.out (fun _ hk=>trivial)⟩,⟨by (with_reducible repeat (first | refine blk_drewN ?_ _ | refine blk_drew ?_ | refine blk_alloc ?_ _));exact BK1.out⟩,⟨is0_⟩,⟨hk_⟩,⟨hbi0_⟩⟩
       ·rw [if_neg c42] at H
        exact absurd H (by simp)
      ·rw [if_neg c40] at H
       have c40b0 : decide (0 < x8_2) = false:=decide_eq_false c40
       clear c40
       simp only [Option.some.injEq,Prod.mk.injEq] at H
       obtain ⟨rfl,rfl⟩:=H
       go_wp2
       go_ret
       exact ⟨_,by first | rfl | (simp [errW_none,errW_some] <;> rfl) | (simp [*,errW_none,errW_some] <;> rfl),by (with_reducible repeat (first | apply Kd.R_alloc | apply Kd.R_drewN | apply Kd.R_drew));exact HO_7.out,is0_,hbi0_,hk_⟩
theorem spec_goodGroup_leaf (b : List Int) (hb : byL b) (t : List Cls) (d q : Int) (h0 : 0 ≤ q) (h1 : q ≤ 1099511600000) : ∃ g q',Ev (fun k=>spec_goodGroup.j0 k d true b q t) (g,q') ∧ q ≤ q' ∧ q' ≤ q + 2 ∧ g.length = 1:=by
 obtain ⟨x,hx,x0,x1,_⟩:=spec_pick_ev b q (t.length : Int) hb h0 (by omega)
 obtain ⟨c,hc,hcm⟩:=spec_one_ev b (q + 1) [1,2,3,0,99] hb (by omega) (by omega) (by simp)
 refine ⟨[⟨d,false,x,c⟩],q + 1 + 1,Ev.succ ?_,by omega,by omega,rfl⟩
 simp only [spec_goodGroup.j0]
 exact Ev.pos trivial (Ev.bind hx (Ev.bind hc (Ev.const rfl)))
theorem spec_goodGroup_ev (b : List Int) (hb : byL b) (t : List Cls) : ∀ (n : Nat) (d q : Int),d + n = 3 → 0 ≤ d → 0 ≤ q → q + cG n ≤ 1099511600000 → lG n ≤ 100 → ∃ g q',Ev (fun k=>spec_goodGroup.f k b q t d) (g,q') ∧ q ≤ q' ∧ q' ≤ q + cG n ∧ 1 ≤ g.length ∧ g.length ≤ lG n:=by
 intro n
 induction n with
 | zero =>
  intro d q hd h00 h0 h1 _
  obtain ⟨g,q',hg,g1,g2,g3⟩:=spec_goodGroup_leaf b hb t d q h0 (by rw [cG] at h1;omega)
  refine ⟨g,q',Ev.succ ?_,g1,by rw [cG];omega,by omega,by rw [lG];omega⟩
  simp only [spec_goodGroup.f]
  exact Ev.pos (by omega) hg
 | succ n ih =>
  intro d q hd h00 h0 h1 hL
  rw [cG] at h1 ⊢
  rw [lG] at hL ⊢
  have hcp:=cG_pos n
  have hlp:=lG_pos n
  have loop : ∀ (m : Nat) (r : Int) (g : List Prt),m ≤ 3 → 0 ≤ r → r + m * cG n ≤ 1099511600000 → g.length + m * lG n ≤ 1000000 → ∃ g' r',Ev (fun k=>spec_goodGroup.l0 k d g (m : Int) b r t) (g',r') ∧ r ≤ r' ∧ r' ≤ r + m * cG n ∧ g.length ≤ g'.length ∧ g'.length ≤ g.length + m * lG n:=by
   intro m
   induction m with
   | zero =>
    intro r g _ hr0 hr1 hgl
    refine ⟨g,r,Ev.succ ?_,Int.le_refl _,by omega,Nat.le_refl _,by omega⟩
    simp only [spec_goodGroup.l0]
    exact Ev.neg (by omega) (Ev.const rfl)
   | succ m ihm =>
    intro r g hm3 hr0 hr1 hgl
    have e1 : ((m + 1 : Nat) : Int) * cG n = (m : Int) * cG n + cG n:=by rw [Int.natCast_add,Int.add_mul];simp
    have e2 : (m + 1) * lG n = m * lG n + lG n:=by rw [Nat.add_mul,Nat.one_mul]
    have e3 : 0 ≤ (m : Int) * cG n:=Int.mul_nonneg (by omega) (by omega)
    rw [e1] at hr1 ⊢
    rw [e2] at hgl ⊢
    obtain ⟨k1,r1,hk,a1,a2,a3,a4⟩:=ih (d + 1) r (by omega) (by omega) hr0 (by omega) (by omega)
    obtain ⟨g',r',hg,b1,b2,b3,b4⟩:=ihm r1 (g ++ k1) (by omega) (by omega) (by omega) (by rw [List.length_append];omega)
    rw [List.length_append] at b3 b4
    refine ⟨g',r',Ev.succ ?_,by omega,by omega,by omega,by omega⟩
    have ew : wrap64 (d + 1) = d + 1:=wrap_in (by omega) (by omega)
    have ew2 : wrap64 (((m + 1 : Nat) : Int) - 1) = (m : Int):=by rw [wrap_in (by omega) (by omega)];omega
    simp only [spec_goodGroup.l0,ew,ew2]
    exact Ev.pos (by omega) (Ev.bind hk (Ev.pos (by simp only;omega) hg))
  have group : ∀ r : Int,q ≤ r → r ≤ q + 2 → ∃ g r',Ev (fun k=>spec_goodGroup.j0 k d false b r t) (g,r') ∧ r ≤ r' ∧ r' ≤ r + 2 + 3 * cG n ∧ 1 ≤ g.length ∧ g.length ≤ 1 + 3 * lG n:=by
   intro r hr hr2
   obtain ⟨x,hx,_⟩:=spec_one_ev b r [1,2,0,7] hb (by omega) (by omega) (by simp)
   obtain ⟨y,hy,hym⟩:=spec_one_ev b (r + 1) [2,3,1] hb (by omega) (by omega) (by simp)
   have hyr : 1 ≤ y ∧ y ≤ 3:=by
    simp only [List.mem_cons,List.not_mem_nil,or_false] at hym
    omega
   obtain ⟨m,rfl⟩:=Int.eq_ofNat_of_zero_le (show 0 ≤ y by omega)
   have hm : m ≤ 3:=by omega
   have e1 : (m : Int) * cG n ≤ 3 * cG n:=Int.mul_le_mul_of_nonneg_right (by omega) (by omega)
   have e2 : m * lG n ≤ 3 * lG n:=Nat.mul_le_mul_right _ hm
   obtain ⟨g,r',hg,b1,b2,b3,b4⟩:=loop m (r + 1 + 1) [⟨d,true,0,x⟩] hm (by omega) (by omega) (by simp;omega)
   have b3' : 1 ≤ g.length:=b3
   have b4' : g.length ≤ 1 + m * lG n:=b4
   refine ⟨g,r',Ev.succ ?_,by omega,by omega,b3',by omega⟩
   simp only [spec_goodGroup.j0]
   exact Ev.neg (by simp) (Ev.bind hx (Ev.bind hy hg))
  have end8 : ∀ r : Int,q ≤ r → r ≤ q + 1 → ∃ g r',Ev (fun k=>(spec_reader_pick.f k b r 8).bind fun bt=>spec_goodGroup.j0 k d (bt.1 == 0) b bt.2 t) (g,r') ∧ q ≤ r' ∧ r' ≤ q + (4 + 3 * cG n) ∧ 1 ≤ g.length ∧ g.length ≤ 1 + 3 * lG n:=by
   intro r hr hr2
   obtain ⟨x,hx,_⟩:=spec_pick_ev b r 8 hb (by omega) (by omega)
   cases hz : (x == 0) with
   | true =>
    obtain ⟨g,r',hg,b1,b2,b3⟩:=spec_goodGroup_leaf b hb t d (r + 1) (by omega) (by omega)
    exact ⟨g,r',Ev.bind hx (by simp only [hz];exact hg),by omega,by omega,by omega,by omega⟩
   | false =>
    obtain ⟨g,r',hg,b1,b2,b3,b4⟩:=group (r + 1) (by omega) (by omega)
    exact ⟨g,r',Ev.bind hx (by simp only [hz];exact hg),by omega,by omega,b3,b4⟩
  by_cases hdz : d > 0
  ·obtain ⟨x,hx,x0,_⟩:=spec_pick_ev b q 5 hb h0 (by omega)
   by_cases hx1 : x > 1
   ·obtain ⟨g,r',hg,b1,b2,b3⟩:=spec_goodGroup_leaf b hb t d (q + 1) (by omega) (by omega)
    refine ⟨g,r',Ev.succ ?_,by omega,by omega,by omega,by omega⟩
    simp only [spec_goodGroup.f]
    exact Ev.neg (by omega) (Ev.pos hdz (Ev.bind hx (Ev.pos hx1 hg)))
   ·obtain ⟨g,r',hg,b1,b2,b3,b4⟩:=end8 (q + 1) (by omega) (by omega)
    refine ⟨g,r',Ev.succ ?_,b1,b2,b3,b4⟩
    simp only [spec_goodGroup.f]
    exact Ev.neg (by omega) (Ev.pos hdz (Ev.bind hx (Ev.neg hx1 hg)))
  ·obtain ⟨g,r',hg,b1,b2,b3,b4⟩:=end8 q (by omega) (by omega)
   refine ⟨g,r',Ev.succ ?_,b1,b2,b3,b4⟩
   simp only [spec_goodGroup.f]
   exact Ev.neg (by omega) (Ev.neg hdz hg)
end Go.Proofs.Ytjdpaholpfpiiaa.P
namespace Go.Proofs.Ytjdpaholpfpiiaa.P
open Go.RowKit Go.Proofs.YtjdpaholpfpiiaaW.PrintWords Go.Proofs.YtjdpaholpfpiiaaW.PrintLast Go.Proofs.YtjdpaholpfpiiaaW.PrintMore
attribute [local go_sem] max2_int min2_int max_two min_two max_three min_three max_four min_four
set_option linter.unusedVariables false
set_option linter.unusedSimpArgs false
def spec_goodTree.l0 : Nat → List ByteArray → Int → Int → List Int → Int → List (S70) → Option ((List (S70)) × Int)
 | 0,_,_,_,_,_,_=>none
 | k + 1,x3,x5,x6,x1000,x1001,x9000=>if x6 < x5 then (if 0 ≤ x6 then (if x6 < (x3.length : Int) then ((spec_reader_pick.f k x1000 x1001 x6).bind fun bt15=>((spec_reader_one.f k x1000 bt15.2 (([0,bt15.1,wrap64 (x6 - 1)] : List Int))).bind fun bt20=>(if x9000.length < 5864062014805 then (spec_goodTree.l0 k x3 x5 (wrap64 (x6 + 1)) x1000 bt20.2 (x9000 ++ [(⟨rdOf ByteArray.empty x3 x6,bt20.1⟩ : S70)])) else (none)))) else (none)) else (none)) else (some (x9000,x1001))
def spec_goodTree.f (k : Nat) (s0_0 : List Int) (s0_1 : Int) : Option ((List (S70)) × Int):=(spec_reader_one.f k s0_0 s0_1 (([4,5,3,6,2,1,8] : List Int))).bind fun bt12=>(spec_goodTree.l0 k (([(⟨#[97,110,121]⟩ : ByteArray),(⟨#[105,111]⟩ : ByteArray),(⟨#[107,101,121]⟩ : ByteArray),(⟨#[116,105,109,101]⟩ : ByteArray),(⟨#[110,101,116]⟩ : ByteArray),(⟨#[100,105,115,107]⟩ : ByteArray),(⟨#[116,121,112,101]⟩ : ByteArray),(⟨#[111,100,100]⟩ : ByteArray)] : List ByteArray)) bt12.1 1 s0_0 bt12.2 (([(⟨(⟨#[97,110,121]⟩ : ByteArray),(-1)⟩ : S70)] : List (S70))))
theorem spec_goodTree.mono_l : ∀ k,(∀ y0 y1 y2 y3 y4 y5,LeO (spec_goodTree.l0 k y0 y1 y2 y3 y4 y5) (spec_goodTree.l0 (k + 1) y0 y1 y2 y3 y4 y5))
 | 0=>fun _ _ _ _ _ _ r h=>by simp [spec_goodTree.l0] at h
 | k + 1=>by
  have ih0:=spec_goodTree.mono_l k
  ·intro y0 y1 y2 y3 y4 y5
   unfold spec_goodTree.l0
   repeat' first
   | (with_reducible exact ih0 _ _ _ _ _ _)
   | (with_reducible exact spec_reader_one.mono _ _ _ _)
   | (with_reducible exact spec_reader_pick.mono _ _ _ _)
   | (with_reducible exact LeO.refl _)
   | (with_reducible exact LeO.none _)
   | (with_reducible refine LeO.ite ?_ ?_)
   | (with_reducible refine LeO.bind ?_ (fun _=>?_))
   | exact ih0 _ _ _ _ _ _
   | exact spec_reader_one.mono _ _ _ _
   | exact spec_reader_pick.mono _ _ _ _
   | exact LeO.none _
   | refine LeO.ite ?_ ?_
   | refine LeO.bind ?_ (fun _=>?_)
theorem spec_goodTree.mono : ∀ a0 a1 k,LeO (spec_goodTree.f k a0 a1) (spec_goodTree.f (k + 1) a0 a1):=by
 intro a0 a1 k
 have ih0:=spec_goodTree.mono_l k
 unfold spec_goodTree.f
 repeat' first
   | (with_reducible exact ih0 _ _ _ _ _ _)
   | (with_reducible exact spec_reader_one.mono _ _ _ _)
   | (with_reducible exact spec_reader_pick.mono _ _ _ _)
   | (with_reducible exact LeO.refl _)
   | (with_reducible exact LeO.none _)
   | (with_reducible refine LeO.ite ?_ ?_)
   | (with_reducible refine LeO.bind ?_ (fun _=>?_))
   | exact ih0 _ _ _ _ _ _
   | exact spec_reader_one.mono _ _ _ _
   | exact spec_reader_pick.mono _ _ _ _
   | exact LeO.none _
   | refine LeO.ite ?_ ?_
   | refine LeO.bind ?_ (fun _=>?_)
def spec_goodTree.T7 : Bool × List (List Nat × List Nat):=(true,[([],[]),([0],[0]),([],[]),([],[]),([2,3],[2,3]),([4],[4]),([],[]),([],[]),([],[]),([7,8],[7,8]),([],[]),([10],[10]),([9,11],[9,11]),([6,12,9],[6,12]),([5,13],[5,13]),([14],[14]),([1,15,13],[1,15]),([0,1,2,3,4,5,6,7,8,9,10,11,12,13,14,15,16],[]),([17,16,16,0,1,2,3,4,5,6,7,8,9,10,11,12,13,14,15,16],[16,17])])
def spec_goodTree.B7 : List Nat:=[0,1,0,0,12,28,0,0,0,384,0,1024,3968,8128,16380,32764,65535,131071,262143]
theorem spec_goodTree.tab7 : rtab .any (opsOf Try.f53 7) = spec_goodTree.T7:=by kernel_rfl
theorem spec_goodTree.bits7 : waitsOk spec_goodTree.T7.2 spec_goodTree.B7 = true:=by kernel_rfl
set_option maxHeartbeats 8000000 in
set_option maxRecDepth 100000 in
theorem spec_goodTree.calls (k : Nat) (g : Nat) (s0_0 : List Int) (s0_1 : Int) (r1 : List (S70)) (r2 : Int) (w0 w : World) (hI : IsS63 w0 w g s0_0 s0_1) (hB : Below w0.heap.size w0 w) (h : spec_goodTree.f k s0_0 s0_1 = some (r1,r2)) :
  Calls Try.prog 53 #[.pointer (some ⟨g,0,none⟩)] w fun e w'=>∃ v0_ : Value,e = .returned (.agg #[v0_]) ∧ Kd.R k70 70 w' w.heap.size (fun _=>True) v0_ r1 ∧ IsS63 w0 w' g s0_0 r2 ∧ Below w0.heap.size w0 w' ∧ KeepBut w w' g none:=by
 have hu25:=Try.underlying25
 have hu70:=Try.underlying70
 have HI0:=a0_ hI
 have HK:=a0_ (KeepBut.refl w g none)
 have HL:=a0_ hB.size
 clear hI
 have HW0:=a0_ hB.size
 have HB:=a0_ hB
 clear hB
 have H : ((spec_reader_one.f k s0_0 s0_1 (([4,5,3,6,2,1,8] : List Int))).bind fun bt12=>(spec_goodTree.l0 k (([(⟨#[97,110,121]⟩ : ByteArray),(⟨#[105,111]⟩ : ByteArray),(⟨#[107,101,121]⟩ : ByteArray),(⟨#[116,105,109,101]⟩ : ByteArray),(⟨#[110,101,116]⟩ : ByteArray),(⟨#[100,105,115,107]⟩ : ByteArray),(⟨#[116,121,112,101]⟩ : ByteArray),(⟨#[111,100,100]⟩ : ByteArray)] : List ByteArray)) bt12.1 1 s0_0 bt12.2 (([(⟨(⟨#[97,110,121]⟩ : ByteArray),(-1)⟩ : S70)] : List (S70))))) = some (r1,r2):=h
 clear h
 obtain ⟨y2,hy2⟩ : ∃ y_ : List ByteArray,y_ = (([(⟨#[97,110,121]⟩ : ByteArray),(⟨#[105,111]⟩ : ByteArray),(⟨#[107,101,121]⟩ : ByteArray),(⟨#[116,105,109,101]⟩ : ByteArray),(⟨#[110,101,116]⟩ : ByteArray),(⟨#[100,105,115,107]⟩ : ByteArray),(⟨#[116,121,112,101]⟩ : ByteArray),(⟨#[111,100,100]⟩ : ByteArray)] : List ByteArray)):=⟨_,rfl⟩
 replace H : ((spec_reader_one.f k s0_0 s0_1 (([4,5,3,6,2,1,8] : List Int))).bind fun bt12=>(spec_goodTree.l0 k y2 bt12.1 1 s0_0 bt12.2 (([(⟨(⟨#[97,110,121]⟩ : ByteArray),(-1)⟩ : S70)] : List (S70))))) = some (r1,r2):=by first | (rw [hy2];with_reducible exact H) | (have H2_:=(Option.bind_some _ _).symm.trans H;rw [hy2];with_reducible exact H2_) | (have H2_:=(Option.bind_some _ _).symm.trans H;with_reducible exact H2_) | with_reducible exact H | (rw [hy2];exact H) | exact H
 have Ny2:=a0_ hy2
 clear hy2
 obtain ⟨y5,hy5⟩ : ∃ y_ : List (S70),y_ = (([(⟨(⟨#[97,110,121]⟩ : ByteArray),(-1)⟩ : S70)] : List (S70))):=⟨_,rfl⟩
 replace H : ((spec_reader_one.f k s0_0 s0_1 (([4,5,3,6,2,1,8] : List Int))).bind fun bt12=>(spec_goodTree.l0 k y2 bt12.1 1 s0_0 bt12.2 y5)) = some (r1,r2):=by first | (rw [hy5];with_reducible exact H) | (have H2_:=(Option.bind_some _ _).symm.trans H;rw [hy5];with_reducible exact H2_) | (have H2_:=(Option.bind_some _ _).symm.trans H;with_reducible exact H2_) | with_reducible exact H | (rw [hy5];exact H) | exact H
 have Ny5:=a0_ hy5
 clear hy5
 obtain ⟨y9,hy9⟩ : ∃ y_ : List Int,y_ = (([4,5,3,6,2,1,8] : List Int)):=⟨_,rfl⟩
 replace H : ((spec_reader_one.f k s0_0 s0_1 y9).bind fun bt12=>(spec_goodTree.l0 k y2 bt12.1 1 s0_0 bt12.2 y5)) = some (r1,r2):=by first | (rw [hy9];with_reducible exact H) | (have H2_:=(Option.bind_some _ _).symm.trans H;rw [hy9];with_reducible exact H2_) | (have H2_:=(Option.bind_some _ _).symm.trans H;with_reducible exact H2_) | with_reducible exact H | (rw [hy9];exact H) | exact H
 have Ny9:=a0_ hy9
 clear hy9
 replace H:=Option.bind_eq_some_iff.mp H
 obtain ⟨⟨t12,t13⟩,A20,H⟩:=H
 replace H : (spec_goodTree.l0 k y2 t12 1 s0_0 t13 y5) = some (r1,r2):=H
 have A2:=a0_ A20
 clear A20
 have H':=a0_ H
 clear H
 go_enter Try.func53,Try.ntmps53
 go_wp2_with (first | ((with_reducible refine gate_dst (N:=2) rfl ?_);refine box_event ?hg (N:=2) ?hd (cs:=#[.slice none 0 0]) (t:=25) ?hr ?_;(case hd=>rfl);(case hg=>rfl);(case hr=>first | (go_simp;done) | (go_simp;rfl));intro gb1 hg w3 hbox hb;have n0_:=a0_ (IsS63.below is0_ hb);have n1_:=a0_ (KeepBut.trans (w:=w) hk_ (KeepBut.of_below hb g none) (.inl rfl));have n2_:=a0_ (below_step hbi0_ hb);have n3_:=a0_ (hbox);have n4_:=a0_ ((by rw [hg];exact (keep_size (w:=w) (g:=g) (row:=none) hk_) : w.heap.size ≤ gb1));have n5_:=a0_ ((Nat.le_trans HW0.out (by rw [hg];exact (keep_size (w:=w) (g:=g) (row:=none) hk_) : w.heap.size ≤ gb1) : w0.heap.size ≤ gb1));have n6_:=a0_ ((by rw [hg];exact Nat.ne_of_lt (IsS63.lt (is0_ : IsS63 w0 _ g s0_0 s0_1)) : g ≠ gb1));have n7_:=a0_ ((by rw [hg];exact Nat.ne_of_gt (IsS63.lt (is0_ : IsS63 w0 _ g s0_0 s0_1)) : gb1 ≠ g));clear HI0 HK HB;have HI0:=n0_;have HK:=n1_;have HB:=n2_;have BK1:=n3_;have GW1:=n4_;have GE1:=n5_;have NB0_1:=n6_;have NB1_0:=n7_;clear n0_ n1_ n2_ n3_ n4_ n5_ n6_ n7_;clear hb hbox hg) | ((with_reducible refine gate_dst (N:=7) rfl ?_);refine Kd.R_lit Kd.string _ 9 ?hg (N:=7) ?hd (xs:=([(⟨#[97,110,121]⟩ : ByteArray),(⟨#[105,111]⟩ : ByteArray),(⟨#[107,101,121]⟩ : ByteArray),(⟨#[116,105,109,101]⟩ : ByteArray),(⟨#[110,101,116]⟩ : ByteArray),(⟨#[100,105,115,107]⟩ : ByteArray),(⟨#[116,121,112,101]⟩ : ByteArray),(⟨#[111,100,100]⟩ : ByteArray)] : List ByteArray)) (inner:=[.string (⟨#[97,110,121]⟩ : ByteArray),.string (⟨#[105,111]⟩ : ByteArray),.string (⟨#[107,101,121]⟩ : ByteArray),.string (⟨#[116,105,109,101]⟩ : ByteArray),.string (⟨#[110,101,116]⟩ : ByteArray),.string (⟨#[100,105,115,107]⟩ : ByteArray),.string (⟨#[116,121,112,101]⟩ : ByteArray),.string (⟨#[111,100,100]⟩ : ByteArray)]) (ok:=fun _=>True) (okp:=fun _=>True) ?hr ?hp (fun _ hk=>hk) trivial (Below.refl _ _) (Nat.le_refl _) (by simp) ?_;(case hd=>rfl);(case hg=>rfl);(case hr=>first | (go_simp;done) | (go_simp;rfl));(case hp=>exact (Reps.one (show Kd.M Kd.string _ _ _ (⟨#[97,110,121]⟩ : ByteArray) [.string (⟨#[97,110,121]⟩ : ByteArray)] from rfl) (Reps.one (show Kd.M Kd.string _ _ _ (⟨#[105,111]⟩ : ByteArray) [.string (⟨#[105,111]⟩ : ByteArray)] from rfl) (Reps.one (show Kd.M Kd.string _ _ _ (⟨#[107,101,121]⟩ : ByteArray) [.string (⟨#[107,101,121]⟩ : ByteArray)] from rfl) (Reps.one (show Kd.M Kd.string _ _ _ (⟨#[116,105,109,101]⟩ : ByteArray) [.string (⟨#[116,105,109,101]⟩ : ByteArray)] from rfl) (Reps.one (show Kd.M Kd.string _ _ _ (⟨#[110,101,116]⟩ : ByteArray) [.string (⟨#[110,101,116]⟩ : ByteArray)] from rfl) (Reps.one (show Kd.M Kd.string _ _ _ (⟨#[100,105,115,107]⟩ : ByteArray) [.string (⟨#[100,105,115,107]⟩ : ByteArray)] from rfl) (Reps.one (show Kd.M Kd.string _ _ _ (⟨#[116,121,112,101]⟩ : ByteArray) [.string (⟨#[116,121,112,101]⟩ : ByteArray)] from rfl) (Reps.one (show Kd.M Kd.string _ _ _ (⟨#[111,100,100]⟩ : ByteArray) [.string (⟨#[111,100,100]⟩ : ByteArray)] from rfl) (Reps.none _ _))))))))));intro v3 w4 ho5 hb hg_ hnew_;clear hg_ hnew_;(first | rw [← Ny2.out] at ho5 | (simp only [Int.reduceToNat] at ho5;rw [← Ny2.out] at ho5));have n0_:=a0_ (Kd.R_lower ho5 (keep_size (w:=w) (g:=g) (row:=none) hk_));have n1_:=a0_ (IsS63.below is0_ hb);have n2_:=kb_ BK1 hb;have n3_:=a0_ (KeepBut.trans (w:=w) hk_ (KeepBut.of_below hb g none) (.inl rfl));have n4_:=a0_ (below_step hbi0_ hb);clear HI0 BK1;clear HK HB;have HO4:=n0_;have HI0:=n1_;have BK1:=n2_;have HK:=n3_;have HB:=n4_;clear n0_ n1_ n2_ n3_ n4_;clear hb ho5) | ((with_reducible refine gate_dst (N:=9) rfl ?_);refine Kd.R_lit k70 _ 70 ?hg (N:=9) ?hd (xs:=([(⟨(⟨#[97,110,121]⟩ : ByteArray),(-1)⟩ : S70)] : List (S70))) (inner:=[.string (⟨#[97,110,121]⟩ : ByteArray),.int .i64 (-1)]) (ok:=fun _=>True) (okp:=fun _=>True) ?hr ?hp (fun _ hk=>hk) trivial (Below.refl _ _) (Nat.le_refl _) (by simp) ?_;(case hd=>rfl);(case hg=>rfl);(case hr=>first | (go_simp;done) | (go_simp;rfl));(case hp=>exact (Reps.c2 (show Kd.M k70 _ _ _ (⟨(⟨#[97,110,121]⟩ : ByteArray),(-1)⟩ : S70) [.string (⟨#[97,110,121]⟩ : ByteArray),.int .i64 (-1)] from (k70_mkM _ _ _ (⟨(⟨#[97,110,121]⟩ : ByteArray),(-1)⟩ : S70) )) (Reps.none _ _)));intro v6 w6 ho7 hb hg_ hnew_;clear hg_ hnew_;(first | rw [← Ny5.out] at ho7 | (simp only [Int.reduceToNat] at ho7;rw [← Ny5.out] at ho7));have n0_:=rb_ HO4 hb;have n1_:=a0_ (Kd.R_lower ho7 (keep_size (w:=w) (g:=g) (row:=none) hk_));have n2_:=a0_ (IsS63.below is0_ hb);have n3_:=kb_ BK1 hb;have n4_:=a0_ (KeepBut.trans (w:=w) hk_ (KeepBut.of_below hb g none) (.inl rfl));have n5_:=a0_ (below_step hbi0_ hb);clear HO4 HI0;clear BK1 HK HB;have HO4:=n0_;have HO7:=n1_;have HI0:=n2_;have BK1:=n3_;have HK:=n4_;have HB:=n5_;clear n0_ n1_ n2_ n3_ n4_ n5_;clear hb ho7;obtain ⟨Ao8,co8,eo8⟩:=Kd.R_slice HO7.out;subst eo8) | ((with_reducible refine gate_dst (N:=4) rfl ?_);refine box_event ?hg (N:=4) ?hd (cs:=#[.slice none 0 0]) (t:=25) ?hr ?_;(case hd=>rfl);(case hg=>rfl);(case hr=>first | (go_simp;done) | (go_simp;rfl));intro gb8 hg w9 hbox hb;have n0_:=rb_ HO4 hb;have n1_:=rb_ HO7 hb;have n2_:=a0_ (IsS63.below is0_ hb);have n3_:=kb_ BK1 hb;have n4_:=a0_ (KeepBut.trans (w:=w) hk_ (KeepBut.of_below hb g none) (.inl rfl));have n5_:=a0_ (below_step hbi0_ hb);have n6_:=a0_ (hbox);have n7_:=a0_ ((by rw [hg];exact (keep_size (w:=w) (g:=g) (row:=none) hk_) : w.heap.size ≤ gb8));have n8_:=a0_ ((Nat.le_trans HW0.out (by rw [hg];exact (keep_size (w:=w) (g:=g) (row:=none) hk_) : w.heap.size ≤ gb8) : w0.heap.size ≤ gb8));have n9_:=a0_ ((by rw [hg];exact Nat.ne_of_lt (blk_lt (bb_ BK1.out)) : gb1 ≠ gb8));have n10_:=a0_ ((by rw [hg];exact Nat.ne_of_gt (blk_lt (bb_ BK1.out)) : gb8 ≠ gb1));have n11_:=a0_ ((by rw [hg];exact Nat.ne_of_lt (IsS63.lt (is0_ : IsS63 w0 _ g s0_0 s0_1)) : g ≠ gb8));have n12_:=a0_ ((by rw [hg];exact Nat.ne_of_gt (IsS63.lt (is0_ : IsS63 w0 _ g s0_0 s0_1)) : gb8 ≠ g));clear HO4 HO7;clear HI0 BK1;clear HK HB;have HO4:=n0_;have HO7:=n1_;have HI0:=n2_;have BK1:=n3_;have HK:=n4_;have HB:=n5_;have BK8:=n6_;have GW8:=n7_;have GE8:=n8_;have NB1_8:=n9_;have NB8_1:=n10_;have NB0_8:=n11_;have NB8_0:=n12_;clear n0_ n1_ n2_ n3_ n4_ n5_ n6_ n7_ n8_ n9_ n10_ n11_ n12_;clear hb hbox hg;have hnb10:=NB8_1.out;have hnc10:=NB1_8.out;have hnb11:=NB8_0.out;have hnc11:=NB0_8.out;have hcz12_0 : w9.cell? ⟨gb8,0,none⟩ = some (.slice none 0 0):=(blk_cell BK8.out 0).trans rfl;have hfz12_0:=blk_frozen BK8.out 0) | ((with_reducible refine gate_dst (N:=12) rfl ?_);refine Kd.R_lit (Kd.int .i64) _ 3 ?hg (N:=12) ?hd (xs:=([4,5,3,6,2,1,8] : List Int)) (inner:=[.int .i64 4,.int .i64 5,.int .i64 3,.int .i64 6,.int .i64 2,.int .i64 1,.int .i64 8]) (ok:=fun _=>True) (okp:=fun _=>True) ?hr ?hp (fun _ hk=>hk) trivial (Below.refl _ _) (Nat.le_refl _) (by simp) ?_;(case hd=>rfl);(case hg=>rfl);(case hr=>first | (go_simp;done) | (go_simp;rfl));(case hp=>exact (Reps.one (show Kd.M (Kd.int .i64) _ _ _ 4 [.int .i64 4] from rfl) (Reps.one (show Kd.M (Kd.int .i64) _ _ _ 5 [.int .i64 5] from rfl) (Reps.one (show Kd.M (Kd.int .i64) _ _ _ 3 [.int .i64 3] from rfl) (Reps.one (show Kd.M (Kd.int .i64) _ _ _ 6 [.int .i64 6] from rfl) (Reps.one (show Kd.M (Kd.int .i64) _ _ _ 2 [.int .i64 2] from rfl) (Reps.one (show Kd.M (Kd.int .i64) _ _ _ 1 [.int .i64 1] from rfl) (Reps.one (show Kd.M (Kd.int .i64) _ _ _ 8 [.int .i64 8] from rfl) (Reps.none _ _)))))))));intro v10 w13 ho14 hb hg_ hnew_;clear hg_ hnew_;(first | rw [← Ny9.out] at ho14 | (simp only [Int.reduceToNat] at ho14;rw [← Ny9.out] at ho14));have n0_:=a0_ (Kd.R_below (by (with_reducible repeat (first | apply Kd.R_alloc | apply Kd.R_drewN | apply Kd.R_drew));exact (Kd.R_mono (Kd.R_far (p:=⟨gb8,0,none⟩) (Kd.R_types HO4.out BK8.out (by decide)) (fun _ hk=>hk.2) (.slice Ao8 y5.length co8)) (fun _ h_=>h_.1))) hb);have n1_:=a0_ (Kd.R_below (by (with_reducible repeat (first | apply Kd.R_alloc | apply Kd.R_drewN | apply Kd.R_drew));exact (Kd.R_mono (Kd.R_far (p:=⟨gb8,0,none⟩) (Kd.R_types HO7.out BK8.out (by decide)) (fun _ hk=>hk.2) (.slice Ao8 y5.length co8)) (fun _ h_=>h_.1))) hb);have n2_:=a0_ (Kd.R_lower ho14 (keep_size (w:=w) (g:=g) (row:=none) hk_));have n3_:=a0_ (IsS63.below (is0_ : IsS63 w0 (w9.setCell ⟨gb8,0,none⟩ (.slice Ao8 y5.length co8)) g s0_0 s0_1) hb);have n4_:=kf_ BK1 NB1_8 hb;have n5_:=a0_ (blk_below (g:=gb8) (o:=.cells #[.slice Ao8 y5.length co8] 25 (0,0)) (by (with_reducible repeat (first | refine blk_drewN ?_ _ | refine blk_drew ?_ | refine blk_alloc ?_ _));refine blk_put (cs:=#[.slice none 0 0]) ?_ 0 _ rfl;(with_reducible repeat (first | refine blk_drewN ?_ _ | refine blk_drew ?_ | refine blk_alloc ?_ _));exact BK8.out) hb);have n6_:=a0_ (KeepBut.trans (w:=w) hk_ (KeepBut.of_below hb g none) (.inl rfl));have n7_:=a0_ (below_step hbi0_ hb);clear HO4 HO7;clear HI0 BK1;clear BK8 HK HB;have HO4:=n0_;have HO7:=n1_;have HO11:=n2_;have HI0:=n3_;have BK1:=n4_;have BK8:=n5_;have HK:=n6_;have HB:=n7_;clear n0_ n1_ n2_ n3_ n4_ n5_ n6_ n7_;clear hb ho14;obtain ⟨Ao15,co15,eo15⟩:=Kd.R_slice HO11.out;subst eo15) | ((with_reducible refine gate_callee (f:=31) rfl ?_);refine goesL_ (some 13) rfl rfl Try.func31 (by kernel_rfl) rfl #[.pointer (some ⟨g,0,none⟩),.slice Ao15 y9.length co15] rfl lm_ ?_;(with_reducible refine (spec_reader_one.calls k g s0_0 s0_1 _ _ y9 t12 t13 w0 _ ?side1 ?side2 ?side3 ?side4 ?side5 A2.out).mono ?_);(case side1=>exact is0_);(case side2=>exact hbi0_);(case side3=>exact cc_ (Kd.R_reads' HO11.out).2.2);(case side4=>exact (Kd.R_reads' HO11.out).2.1);(case side5=>exact far_slice (IsS63.own_ne HI0.out HO11.out (by decide)));rintro e w16 ⟨rfl,hi,hb,hk⟩;refine ⟨_,rfl,?_⟩;replace BK1:=kk_ hk BK1 NB1_0;replace HO4:=a0_ (Kd.R_mono (Kd.R_keep (IsS63.apart (is0_ : IsS63 w0 _ g s0_0 s0_1) (rr_ HO4.out) (by decide)) hk (fun _ h=>h.2)) (fun _ h=>h.1));replace HO7:=a0_ (Kd.R_mono (Kd.R_keep (IsS63.apart (is0_ : IsS63 w0 _ g s0_0 s0_1) (rr_ HO7.out) (by decide)) hk (fun _ h=>h.2)) (fun _ h=>h.1));replace BK8:=kk_ hk BK8 NB8_0;replace HO11:=a0_ (Kd.R_mono (Kd.R_keep (IsS63.apart (is0_ : IsS63 w0 _ g s0_0 s0_1) (rr_ HO11.out) (by decide)) hk (fun _ h=>h.2)) (fun _ h=>h.1));replace HK:=a0_ (KeepBut.trans (w:=w) hk_ hk (.inl rfl));replace HI0:=a0_ (hi);replace HB:=a0_ (hb);(try clear hb);(try clear hb2);(try clear hk);(try clear hi)))
 go_loopg [6] k (fun kq v6 w'=>∃ (x6_1 : Int) (x1001_1 : Int) (x9000_1 : List (S70)) (u9000 : Value),v6 = .int .i64 x6_1 ∧ Aside0 (spec_goodTree.l0 kq y2 t12 x6_1 s0_0 x1001_1 x9000_1 = some (r1,r2)) ∧ Aside0 (kq ≤ k) ∧ Aside0 (Kd.R Kd.string 9 w' w.heap.size (fun _=>True) v3 y2) ∧ Aside0 (Kd.R k70 70 w' w.heap.size (fun _=>True) u9000 x9000_1) ∧ Aside0 (w'.heap[gb1]? = some (.cells #[(.slice none 0 0)] 25 (0,0))) ∧ Aside0 (w'.heap[gb8]? = some (.cells #[u9000] 25 (0,0))) ∧ Aside0 (IsS63 w0 w' g s0_0 x1001_1) ∧ Aside0 (KeepBut w w' g none) ∧ Aside0 (Below w0.heap.size w0 w'))
 case atStart=>exact ⟨(1),(t13),(y5),(.slice Ao8 y5.length co8),(by first | rfl | (simp;done) | (simp [*];done)),H',⟨Nat.le_refl _⟩,⟨by (with_reducible repeat (first | apply Kd.R_alloc | apply Kd.R_drewN | apply Kd.R_drew));exact HO4.out⟩,⟨by (with_reducible repeat (first | apply Kd.R_alloc | apply Kd.R_drewN | apply Kd.R_drew));exact HO7.out⟩,⟨by (with_reducible repeat (first | refine blk_drewN ?_ _ | refine blk_drew ?_ | refine blk_alloc ?_ _));exact BK1.out⟩,⟨by (with_reducible repeat (first | refine blk_drewN ?_ _ | refine blk_drew ?_ | refine blk_alloc ?_ _));exact BK8.out⟩,⟨is0_⟩,⟨hk_⟩,⟨hbi0_⟩⟩
 case round =>
  clear H'
  try clear c1
  try clear c2
  try clear p2
  try clear c3
  try clear c5
  try clear c10
  try clear c11
  try clear hcz12_0
  try clear hfz12_0
  obtain ⟨x6_1,x1001_1,x9000_1,u9000,rfl,HA,HK1,HO_3,Z9,BK1,BK8,HI0,HK,HB⟩:=hrel
  cases gk with
  | zero=>exact absurd HA.out (by simp [spec_goodTree.l0])
  | succ k1 =>
   have H:=HA.out
   clear HA
   simp only [spec_goodTree.l0] at H
   by_cases c17 : x6_1 < t12
   ·rw [if_pos c17] at H
    have c17b0 : decide (x6_1 < t12) = true:=decide_eq_true c17
    clear c17
    by_cases c18 : 0 ≤ x6_1
    ·rw [if_pos c18] at H
     have c18b0 : decide (0 ≤ x6_1) = true:=decide_eq_true c18
     clear c18
     by_cases c19 : x6_1 < (y2.length : Int)
     ·rw [if_pos c19] at H
      have c19b0 : decide (x6_1 < (y2.length : Int)) = true:=decide_eq_true c19
      clear c19
      replace H:=Option.bind_eq_some_iff.mp H
      obtain ⟨⟨t15,t16⟩,A200,H⟩:=H
      try dsimp only at H
      have A20:=a0_ A200
      clear A200
      obtain ⟨y17,hy17⟩ : ∃ y_ : List Int,y_ = (([0,t15,wrap64 (x6_1 - 1)] : List Int)):=⟨_,rfl⟩
      replace H : ((spec_reader_one.f k1 s0_0 t16 y17).bind fun bt20=>(if x9000_1.length < 5864062014805 then (spec_goodTree.l0 k1 y2 t12 (wrap64 (x6_1 + 1)) s0_0 bt20.2 (x9000_1 ++ [(⟨rdOf ByteArray.empty y2 x6_1,bt20.1⟩ : S70)])) else (none))) = some (r1,r2):=by first | (rw [hy17];with_reducible exact H) | (have H2_:=(Option.bind_some _ _).symm.trans H;rw [hy17];with_reducible exact H2_) | (have H2_:=(Option.bind_some _ _).symm.trans H;with_reducible exact H2_) | with_reducible exact H | (rw [hy17];exact H) | exact H
      have Ny17:=a0_ hy17
      clear hy17
      replace H:=Option.bind_eq_some_iff.mp H
      obtain ⟨⟨t20,t21⟩,A210,H⟩:=H
      try dsimp only at H
      have A21:=a0_ A210
      clear A210
      by_cases c22 : x9000_1.length < 5864062014805
      ·rw [if_pos c22] at H
       have LMc22:=a0_ c22
       clear c22
       obtain ⟨y22,hy22⟩ : ∃ y_ : List (S70),y_ = (x9000_1 ++ [(⟨rdOf ByteArray.empty y2 x6_1,t20⟩ : S70)]):=⟨_,rfl⟩
       replace H : (spec_goodTree.l0 k1 y2 t12 (wrap64 (x6_1 + 1)) s0_0 t21 y22) = some (r1,r2):=by first | (rw [hy22];with_reducible exact H) | (have H2_:=(Option.bind_some _ _).symm.trans H;rw [hy22];with_reducible exact H2_) | (have H2_:=(Option.bind_some _ _).symm.trans H;with_reducible exact H2_) | with_reducible exact H | (rw [hy22];exact H) | exact H
       have Ny22:=a0_ hy22
       clear hy22
       have H':=a0_ H
       clear H
       try go_wp2
       have n0_:=a0_ (Kd.R_drew HO_3.out)
       have n1_:=a0_ (Kd.R_drew Z9.out)
       have n2_:=a0_ (blk_drew BK1.out)
       have n3_:=a0_ (blk_drew BK8.out)
       have n4_:=a0_ (IsS63.drew HI0.out)
       have n5_:=a0_ (keep_drew HK.out)
       have n6_:=a0_ (below_drew1 HB.out)
       clear HO_3
       clear Z9
       clear BK1
       clear BK8
       clear HI0
       clear HK
       clear HB
       have HO_3:=n0_
       have Z9:=n1_
       have BK1:=n2_
       have BK8:=n3_
       have HI0:=n4_
       have HK:=n5_
       have HB:=n6_
       clear n0_ n1_ n2_ n3_ n4_ n5_ n6_
       obtain ⟨Ao24,co24,eo24⟩:=Kd.R_slice HO_3.out
       (first | subst eo24 | (injection eo24 with f1_ f2_ f3_;have f4_:=f1_.symm;have f5_:=f3_.symm;clear f1_ f2_ f3_;subst f4_;subst f5_))
       have p14 : 0 ≤ (x6_1 : Int):=of_decide_eq_true (by first | (with_reducible assumption) | assumption)
       have q14 : x6_1 < (y2.length : Int):=of_decide_eq_true (by first | (with_reducible assumption) | assumption)
       obtain ⟨ad14,e14,hx14_0⟩:=Kd.at_string (Kd.R_reads' HO_3.out).2.2 x6_1 p14 q14
       cases e14
       replace p14:=eq_true p14
       replace q14:=eq_true q14
       refine start_ (n:=19) (S:=fun w'=>w'.cell? ⟨gb8,0,none⟩ = some (u9000) ∧ w'.cell? (ad14.add (x6_1).toNat) = some (.string (rdOf ByteArray.empty y2 x6_1))) (ds:=[16,18]) #[false,false,false,false,false,false,false,false,false,false,false,false,false,false,false,false,false,false,false] (by kernel_rfl) rfl rfl ⟨(blk_cell BK8.out 0).trans rfl,hx14_0⟩ (fun hHeld=>?_);refine with_tabW spec_goodTree.tab7 spec_goodTree.bits7 (fun HT_ HW_=>?_)
       generalize wr.drew = w23 at HO_3 Z9 BK1 BK8 HI0 HK HB hx14_0 hHeld ⊢
       refine pure_ (i:=0) (N:=some 19) (v:=?_) (a':=?_) #[true,false,false,false,false,false,false,false,false,false,false,false,false,false,false,false,false,false,false] rfl rfl (any_of HT_.out (by kernel_rfl)) (fun _ _ _ h=>h) (Or.inl ⟨by rfl,?_⟩) ?_ ?_
       rotate_left
       ·intro w'
        go_simp
        with_reducible rfl
       rotate_left
       ·simp only [Act.put,s1_,s2_,s3_,i64_w,i32_w]
        rfl
       refine pure_ (i:=2) (N:=some 21) (v:=?_) (a':=?_) #[true,false,true,false,false,false,false,false,false,false,false,false,false,false,false,false,false,false,false] rfl rfl (any_of HT_.out (by kernel_rfl)) (fun _ _ _ h=>h) (Or.inl ⟨by rfl,?_⟩) ?_ ?_
       rotate_left
       ·intro w'
        go_simp
        with_reducible rfl
       rotate_left
       ·simp only [Act.put,s1_,s2_,s3_,i64_w,i32_w]
        rfl
       refine pure_ (i:=3) (N:=some 22) (v:=?_) (a':=?_) #[true,false,true,true,false,false,false,false,false,false,false,false,false,false,false,false,false,false,false] rfl rfl (any_of HT_.out (by kernel_rfl)) (fun _ _ _ h=>h) (Or.inl ⟨by rfl,?_⟩) ?_ ?_
       rotate_left
       ·intro w'
        go_simp
        with_reducible rfl
       rotate_left
       ·simp only [Act.put,s1_,s2_,s3_,i64_w,i32_w]
        rfl
       refine pure_ (i:=4) (N:=some 23) (v:=?_) (a':=?_) #[true,false,true,true,true,false,false,false,false,false,false,false,false,false,false,false,false,false,false] rfl rfl (any_of HT_.out (by kernel_rfl)) (fun _ _ _ h=>h) (Or.inl ⟨by rfl,?_⟩) ?_ ?_
       rotate_left
       ·intro w'
        go_simp
        with_reducible rfl
       rotate_left
       ·simp only [Act.put,s1_,s2_,s3_,i64_w,i32_w]
        rfl
       refine pure_ (i:=6) (N:=some 25) (v:=?_) (a':=?_) #[true,false,true,true,true,false,true,false,false,false,false,false,false,false,false,false,false,false,false] rfl rfl (any_of HT_.out (by kernel_rfl)) (fun _ _ _ h=>h) (Or.inl ⟨by rfl,?_⟩) ?_ ?_
       rotate_left
       ·intro w'
        go_simp
        with_reducible rfl
       rotate_left
       ·simp only [Act.put,s1_,s2_,s3_,i64_w,i32_w]
        rfl
       refine pure_ (i:=7) (N:=some 26) (v:=?_) (a':=?_) #[true,false,true,true,true,false,true,true,false,false,false,false,false,false,false,false,false,false,false] rfl rfl (any_of HT_.out (by kernel_rfl)) (fun _ _ _ h=>h) (Or.inl ⟨by rfl,?_⟩) ?_ ?_
       rotate_left
       ·intro w'
        go_simp
        with_reducible rfl
       rotate_left
       ·simp only [Act.put,s1_,s2_,s3_,i64_w,i32_w]
        rfl
       refine pure_ (i:=8) (N:=some 27) (v:=?_) (a':=?_) #[true,false,true,true,true,false,true,true,true,false,false,false,false,false,false,false,false,false,false] rfl rfl (any_of HT_.out (by kernel_rfl)) (fun _ _ _ h=>h) (Or.inl ⟨by rfl,?_⟩) ?_ ?_
       rotate_left
       ·intro w'
        go_simp
        with_reducible rfl
       rotate_left
       ·simp only [Act.put,s1_,s2_,s3_,i64_w,i32_w]
        rfl
       refine pure_ (i:=10) (N:=some 29) (v:=?_) (a':=?_) #[true,false,true,true,true,false,true,true,true,false,true,false,false,false,false,false,false,false,false] rfl rfl (any_of HT_.out (by kernel_rfl)) (fun _ _ _ h=>h) (Or.inl ⟨by rfl,?_⟩) ?_ ?_
       rotate_left
       ·intro w'
        go_simp
        with_reducible rfl
       rotate_left
       ·simp only [Act.put,s1_,s2_,s3_,i64_w,i32_w]
        rfl
       refine pure_ (i:=11) (N:=some 30) (v:=?_) (a':=?_) #[true,false,true,true,true,false,true,true,true,false,true,true,false,false,false,false,false,false,false] rfl rfl (any_of HT_.out (by kernel_rfl)) (fun _ _ _ h=>h) (Or.inl ⟨by rfl,?_⟩) ?_ ?_
       rotate_left
       ·intro w'
        go_simp
        with_reducible rfl
       rotate_left
       ·simp only [Act.put,s1_,s2_,s3_,i64_w,i32_w]
        rfl
       refine take_ (i:=1) (N:=some 20) (v:=?_) (a':=?_) #[true,true,true,true,true,false,true,true,true,false,true,true,false,false,false,false,false,false,false] rfl rfl (take_ofW HT_.out HW_.out (by kernel_rfl)) (fun _ _ _ h=>h) (Or.inl ⟨by rfl,?_⟩) hHeld ?_ ?_
       rotate_left
       ·rintro w' ⟨s0,s1⟩
        go_simp
        with_reducible rfl
       rotate_left
       ·simp only [Act.put,s1_,s2_,s3_,i64_w,i32_w]
        rfl
       refine take_ (i:=5) (N:=some 24) (v:=?_) (a':=?_) #[true,true,true,true,true,true,true,true,true,false,true,true,false,false,false,false,false,false,false] rfl rfl (take_ofW HT_.out HW_.out (by kernel_rfl)) (fun _ _ _ h=>h) (Or.inl ⟨by rfl,?_⟩) hHeld ?_ ?_
       rotate_left
       ·rintro w' ⟨s0,s1⟩
        go_simp
        with_reducible rfl
       rotate_left
       ·simp only [Act.put,s1_,s2_,s3_,i64_w,i32_w]
        rfl
       refine one_ (i:=9) (N:=some 28) #[true,true,true,true,true,true,true,true,true,true,true,true,false,false,false,false,false,false,false] rfl rfl (one_of HT_.out (by kernel_rfl)) (by decide) (fun K hK=>?_)
       refine goes_ Try.func28 (by kernel_rfl) rfl #[.pointer (some ⟨g,0,none⟩),.int .i64 x6_1] (by rfl) rfl rfl lm_ ?_
       with_reducible refine (spec_reader_pick.calls k1 g s0_0 x1001_1 x6_1 t15 t16 w0 _ ?side1 ?side2 A20.out).mono ?_
       (case side1=>exact is0_)
       (case side2=>exact hbi0_)
       rintro e w25 ⟨rfl,hi,hb,hk⟩
       have HS1_:=keep_cell hk (hHeld.2) (by first | (rw [add_block];exact Kd.own_blk (IsS63.own_ne HI0.out HO_3.out (by decide))) | (show (Addr.add _ _).block ≠ _;rw [add_block];exact Kd.own_blk (IsS63.own_ne HI0.out HO_3.out (by decide))) | exact Kd.own_blk (IsS63.own_ne HI0.out HO_3.out (by decide)))
       refine ⟨_,rfl,?_⟩
       have n0_:=a0_ (Kd.R_mono (Kd.R_keep (IsS63.apart (is0_ : IsS63 w0 _ g s0_0 x1001_1) (rr_ HO_3.out) (by decide)) hk (fun _ h=>h.2)) (fun _ h=>h.1))
       have n1_:=a0_ (Kd.R_mono (Kd.R_keep (IsS63.apart (is0_ : IsS63 w0 _ g s0_0 x1001_1) (rr_ Z9.out) (by decide)) hk (fun _ h=>h.2)) (fun _ h=>h.1))
       have n2_:=kk_ hk BK1 NB1_0
       have n3_:=kk_ hk BK8 NB8_0
       have n4_:=a0_ (KeepBut.trans (w:=w) hk_ hk (.inl rfl))
       have n5_:=a0_ (hb)
       have n6_:=a0_ (hi)
       clear HO_3
       clear Z9
       clear BK1
       clear BK8
       clear HK
       clear HB
       clear HI0
       have HO_3:=n0_
       have Z9:=n1_
       have BK1:=n2_
       have BK8:=n3_
       have HK:=n4_
       have HB:=n5_
       have HI0:=n6_
       clear n0_ n1_ n2_ n3_ n4_ n5_ n6_
       (try clear hb)
       (try clear hb2)
       (try clear hk)
       (try clear hi)
       refine hK.out _ _ ⟨(blk_cell BK8.out 0).trans rfl,HS1_⟩ (fun hHeld=>?_)
       clear hK K
       refine norm_ (a':=?_) ?_ ?_
       rotate_left
       ·show Act.put _ (some 28) _ = _
        simp only [Act.put,s1_,s2_,s3_,i64_w,i32_w]
        rfl
       refine one_ (i:=12) (N:=some 31) #[true,true,true,true,true,true,true,true,true,true,true,true,true,false,false,false,false,false,false] rfl rfl (one_of HT_.out (by kernel_rfl)) (by decide) (fun K hK=>?_)
       refine Kd.R_lit_step (Kd.int .i64) _ 3 ?hg (N:=31) ?hd (xs:=([0,t15,wrap64 (x6_1 - 1)] : List Int)) (inner:=[.int .i64 0,.int .i64 t15,.int .i64 (wrap64 (x6_1 - 1))]) (ok:=fun _=>True) (okp:=fun _=>True) ?hr ?hp (fun _ hk=>hk) trivial (Below.refl _ _) (Nat.le_refl _) (by simp) ?_;(case hd=>rfl);(case hg=>rfl);(case hr=>first | (go_simp;done) | (go_simp;rfl));(case hp=>exact (Reps.one (show Kd.M (Kd.int .i64) _ _ _ 0 [.int .i64 0] from rfl) (Reps.one (show Kd.M (Kd.int .i64) _ _ _ t15 [.int .i64 t15] from rfl) (Reps.one (show Kd.M (Kd.int .i64) _ _ _ (wrap64 (x6_1 - 1)) [.int .i64 (wrap64 (x6_1 - 1))] from rfl) (Reps.none _ _)))))
       intro v18 w26 ho27 hb hg_ hnew_
       have HS1_:=(hb.cell (World.block_lt_of_cell? _ _ (hHeld.2))).trans (hHeld.2)
       clear hg_ hnew_
       (first | rw [← Ny17.out] at ho27 | (simp only [Int.reduceToNat] at ho27;rw [← Ny17.out] at ho27))
       have n0_:=rb_ HO_3 hb
       have n1_:=rb_ Z9 hb
       have n2_:=a0_ (Kd.R_lower ho27 (keep_size (w:=w) (g:=g) (row:=none) hk_))
       have n3_:=kb_ BK1 hb
       have n4_:=kb_ BK8 hb
       have n5_:=a0_ (IsS63.below is0_ hb)
       have n6_:=a0_ (KeepBut.trans (w:=w) hk_ (KeepBut.of_below hb g none) (.inl rfl))
       have n7_:=a0_ (below_step hbi0_ hb)
       clear HO_3
       clear Z9
       clear BK1
       clear BK8
       clear HI0
       clear HK
       clear HB
       have HO_3:=n0_
       have Z9:=n1_
       have HO19:=n2_
       have BK1:=n3_
       have BK8:=n4_
       have HI0:=n5_
       have HK:=n6_
       have HB:=n7_
       clear n0_ n1_ n2_ n3_ n4_ n5_ n6_ n7_
       clear hb ho27
       obtain ⟨Ao28,co28,eo28⟩:=Kd.R_slice HO19.out
       (first | subst eo28 | (injection eo28 with f1_ f2_ f3_;have f4_:=f1_.symm;have f5_:=f3_.symm;clear f1_ f2_ f3_;subst f4_;subst f5_))
       refine hK.out _ _ ⟨(blk_cell BK8.out 0).trans rfl,HS1_⟩ (fun hHeld=>?_)
       clear hK K
       refine norm_ (a':=?_) ?_ ?_
       rotate_left
       ·show Act.put _ (some 31) _ = _
        simp only [Act.put,s1_,s2_,s3_,i64_w,i32_w]
        rfl
       refine one_ (i:=13) (N:=some 32) #[true,true,true,true,true,true,true,true,true,true,true,true,true,true,false,false,false,false,false] rfl rfl (one_of HT_.out (by kernel_rfl)) (by decide) (fun K hK=>?_)
       refine goes_ Try.func31 (by kernel_rfl) rfl #[.pointer (some ⟨g,0,none⟩),.slice Ao28 y17.length co28] (by rfl) rfl rfl lm_ ?_
       with_reducible refine (spec_reader_one.calls k1 g s0_0 t16 _ _ y17 t20 t21 w0 _ ?side1 ?side2 ?side3 ?side4 ?side5 A21.out).mono ?_
       (case side1=>exact is0_)
       (case side2=>exact hbi0_)
       (case side3=>exact cc_ (Kd.R_reads' HO19.out).2.2)
       (case side4=>exact (Kd.R_reads' HO19.out).2.1)
       (case side5=>exact far_slice (IsS63.own_ne HI0.out HO19.out (by decide)))
       rintro e w29 ⟨rfl,hi,hb,hk⟩
       have HS1_:=keep_cell hk (hHeld.2) (by first | (rw [add_block];exact Kd.own_blk (IsS63.own_ne HI0.out HO_3.out (by decide))) | (show (Addr.add _ _).block ≠ _;rw [add_block];exact Kd.own_blk (IsS63.own_ne HI0.out HO_3.out (by decide))) | exact Kd.own_blk (IsS63.own_ne HI0.out HO_3.out (by decide)))
       refine ⟨_,rfl,?_⟩
       have n0_:=a0_ (Kd.R_mono (Kd.R_keep (IsS63.apart (is0_ : IsS63 w0 _ g s0_0 t16) (rr_ HO_3.out) (by decide)) hk (fun _ h=>h.2)) (fun _ h=>h.1))
       have n1_:=a0_ (Kd.R_mono (Kd.R_keep (IsS63.apart (is0_ : IsS63 w0 _ g s0_0 t16) (rr_ Z9.out) (by decide)) hk (fun _ h=>h.2)) (fun _ h=>h.1))
       have n2_:=kk_ hk BK1 NB1_0
       have n3_:=kk_ hk BK8 NB8_0
       have n4_:=a0_ (Kd.R_mono (Kd.R_keep (IsS63.apart (is0_ : IsS63 w0 _ g s0_0 t16) (rr_ HO19.out) (by decide)) hk (fun _ h=>h.2)) (fun _ h=>h.1))
       have n5_:=a0_ (KeepBut.trans (w:=w) hk_ hk (.inl rfl))
       have n6_:=a0_ (hb)
       have n7_:=a0_ (hi)
       clear HO_3
       clear Z9
       clear BK1
       clear BK8
       clear HO19
       clear HK
       clear HB
       clear HI0
       have HO_3:=n0_
       have Z9:=n1_
       have BK1:=n2_
       have BK8:=n3_
       have HO19:=n4_
       have HK:=n5_
       have HB:=n6_
       have HI0:=n7_
       clear n0_ n1_ n2_ n3_ n4_ n5_ n6_ n7_
       (try clear hb)
       (try clear hb2)
       (try clear hk)
       (try clear hi)
       refine hK.out _ _ ⟨(blk_cell BK8.out 0).trans rfl,HS1_⟩ (fun hHeld=>?_)
       clear hK K
       refine norm_ (a':=?_) ?_ ?_
       rotate_left
       ·show Act.put _ (some 32) _ = _
        simp only [Act.put,s1_,s2_,s3_,i64_w,i32_w]
        rfl
       refine pure_ (i:=14) (N:=some 33) (v:=?_) (a':=?_) #[true,true,true,true,true,true,true,true,true,true,true,true,true,true,true,false,false,false,false] rfl rfl (any_of HT_.out (by kernel_rfl)) (fun _ _ _ h=>h) (Or.inl ⟨by rfl,?_⟩) ?_ ?_
       rotate_left
       ·intro w'
        go_simp
        with_reducible rfl
       rotate_left
       ·simp only [Act.put,s1_,s2_,s3_,i64_w,i32_w]
        rfl
       refine one_ (i:=15) (N:=some 34) #[true,true,true,true,true,true,true,true,true,true,true,true,true,true,true,true,false,false,false] rfl rfl (one_of HT_.out (by kernel_rfl)) (by decide) (fun K hK=>?_)
       refine value_ (w1:=?_) (v:=?_) (by rfl) rfl ?_ ?_
       rotate_left 2
       ·go_simp
        constructor
        ·rfl
        ·rfl
       refine hK.out _ _ ⟨(blk_cell (blk_alloc BK8.out _) 0).trans rfl,(World.cell?_alloc_lt _ _ _ (World.block_lt_of_cell? _ _ (hHeld.2))).trans (hHeld.2)⟩ (fun hHeld=>?_)
       clear hK K
       refine norm_ (a':=?_) ?_ ?_
       rotate_left
       ·show Act.put _ (some 34) _ = _
        simp only [Act.put,s1_,s2_,s3_,i64_w,i32_w]
        rfl
       refine last_ (i:=16) (N:=some 35) #[true,true,true,true,true,true,true,true,true,true,true,true,true,true,true,true,true,false,false] rfl rfl (one_of HT_.out (by kernel_rfl)) (by decide) (fun K hK=>?_)
       refine Kd.R_append_step k70 w.heap.size (by rfl) (.tmp 20) (.tmp 34) 23 70 (.agg #[(.string ⟨#[]⟩),(.int .i64 0)]) 24 rfl Try.underlying23 info70 rfl (by decide) (by omega) u9000 x9000_1 (⟨rdOf ByteArray.empty y2 x6_1,t20⟩ : S70) [.string (rdOf ByteArray.empty y2 x6_1),.int .i64 t20] (fun _=>True) (fun _=>False) rfl rfl ?aP (fun _ hk=>hk.elim) ?aF ?aO (Below.refl _ _) ?aS ?aL ?_
       (case aP=>exact k70_mkM _ _ _ (⟨rdOf ByteArray.empty y2 x6_1,t20⟩ : S70))
       (case aF=>exact (fun _ _=>trivial))
       (case aO=>exact (rr_ Z9.out))
       (case aS=>exact (keep_size (w:=w) (g:=g) (row:=none) hk_))
       (case aL=>have:=LMc22.out;omega)
       intro v23 w30 ho hb hg hat
       rw [← Ny22.out] at ho
       have n0_:=a0_ (Kd.R_over' (rr_ HO_3.out) (Kd.R_typed (rr_ Z9.out)) (by decide) hg)
       have n1_:=a0_ (blk_grown (bb_ BK1.out) hg (Kd.R_ne Z9.out BK1.out (by decide)))
       have n2_:=a0_ (blk_grown (bb_ BK8.out) hg (Kd.R_ne Z9.out BK8.out (by decide)))
       have n3_:=a0_ (IsS63.grown is0_ hg (IsS63.own_ne HI0.out Z9.out (by decide)))
       have n4_:=a0_ (Kd.R_over' (rr_ HO19.out) (Kd.R_typed (rr_ Z9.out)) (by decide) hg)
       have n5_:=a0_ (below_weaken hbi0_ HL.out hb)
       have n6_:=a0_ (KeepBut.trans (w:=w) hk_ (KeepBut.of_grown hg g) (Kd.R_base2 Z9.out))
       have n7_:=a0_ (ho)
       clear HO_3
       clear BK1
       clear BK8
       clear HI0
       clear HO19
       clear HB
       clear HK
       clear Z9
       have HO_3:=n0_
       have BK1:=n1_
       have BK8:=n2_
       have HI0:=n3_
       have HO19:=n4_
       have HB:=n5_
       have HK:=n6_
       have HO24:=n7_
       clear n0_ n1_ n2_ n3_ n4_ n5_ n6_ n7_
       clear ho hb hg hat
       obtain ⟨Ao31,co31,eo31⟩:=Kd.R_slice HO24.out
       (first | subst eo31 | (injection eo31 with f1_ f2_ f3_;have f4_:=f1_.symm;have f5_:=f3_.symm;clear f1_ f2_ f3_;subst f4_;subst f5_))
       refine hK.out _ _ ?_
       clear hK K
       refine norm_ (a':=?_) ?_ ?_
       rotate_left
       ·show Act.put _ (some 35) _ = _
        simp only [Act.put,s1_,s2_,s3_,i64_w,i32_w]
        rfl
       refine pure_ (i:=17) (N:=some 36) (v:=?_) (a':=?_) #[true,true,true,true,true,true,true,true,true,true,true,true,true,true,true,true,true,true,false] rfl rfl (any_of HT_.out (by kernel_rfl)) (fun _ _ _ h=>h) (Or.inl ⟨by rfl,?_⟩) ?_ ?_
       rotate_left
       ·intro w'
        go_simp
        with_reducible rfl
       rotate_left
       ·simp only [Act.put,s1_,s2_,s3_,i64_w,i32_w]
        rfl
       refine last_ (i:=18) (N:=none) #[true,true,true,true,true,true,true,true,true,true,true,true,true,true,true,true,true,true,true] rfl rfl (one_of HT_.out (by kernel_rfl)) (by decide) (fun K hK=>?_)
       have hs32 : w30.cell? ⟨gb8,0,none⟩ = some (u9000):=(blk_cell BK8.out 0).trans rfl
       have hfs32:=blk_frozen BK8.out 0
       have hns32_0:=NB1_8.out
       have hms32_0:=NB8_1.out
       refine skip_ (w1:=?_) (by rfl) rfl ?_ ?_
       rotate_left
       ·go_simp
        rfl
       refine hK.out _ _ ?_
       clear hK K
       refine done_ (done_of HT_.out (by kernel_rfl)) ?_
       try go_wp2
       go_roundg k1
       case measure=>have:=HK1.out;omega
       case rel=>exact ⟨(wrap64 (x6_1 + 1)),(t21),(y22),(.slice Ao31 y22.length co31),(by first | rfl | (simp;done) | (simp [*];done)),H',⟨by have:=HK1.out;omega⟩,⟨by (with_reducible repeat (first | apply Kd.R_alloc | apply Kd.R_drewN | apply Kd.R_drew));exact Kd.R_mono (Kd.R_far (p:=⟨gb8,0,none⟩) (Kd.R_types HO_3.out BK8.out (by decide)) (fun _ hk=>hk.2) (.slice Ao31 y22.length co31)) (fun _ hk=>trivial)⟩,⟨by (with_reducible repeat (first | apply Kd.R_alloc | apply Kd.R_drewN | apply Kd.R_drew));exact Kd.R_mono (Kd.R_far (p:=⟨gb8,0,none⟩) (Kd.R_types HO24.out BK8.out (by decide)) (fun _ hk=>hk.2) (.slice Ao31 y22.length co31)) (fun _ hk=>trivial)⟩,⟨by (with_reducible repeat (first | refine blk_drewN ?_ _ | refine blk_drew ?_ | refine blk_alloc ?_ _));refine blk_far ?_ NB1_8.out _;(with_reducible repeat (first | refine blk_drewN ?_ _ | refine blk_drew ?_ | refine blk_alloc ?_ _));exact BK1.out⟩,⟨by (with_reducible repeat (first | refine blk_drewN ?_ _ | refine blk_drew ?_ | refine blk_alloc ?_ _));refine blk_put (cs:=#[u9000]) ?_ 0 _ rfl;(with_reducible repeat (first | refine blk_drewN ?_ _ | refine blk_drew ?_ | refine blk_alloc ?_ _));exact BK8.out⟩,⟨is0_⟩,⟨hk_⟩,⟨hbi0_⟩⟩
      ·rw [if_neg c22] at H
       exact absurd H (by simp)
     ·rw [if_neg c19] at H
      exact absurd H (by simp)
    ·rw [if_neg c18] at H
     exact absurd H (by simp)
   ·rw [if_neg c17] at H
    have c17b0 : decide (x6_1 < t12) = false:=decide_eq_false c17
    clear c17
    simp only [Option.some.injEq,Prod.mk.injEq] at H
    obtain ⟨rfl,rfl⟩:=H
    have hnb33:=NB8_1.out
    have hnc33:=NB1_8.out
    have hnb34:=NB8_0.out
    have hnc34:=NB0_8.out
    have hcz35_0 : wr.cell? ⟨gb8,0,none⟩ = some (u9000):=(blk_cell BK8.out 0).trans rfl
    have hfz35_0:=blk_frozen BK8.out 0
    obtain ⟨Ao36,co36,eo36⟩:=Kd.R_slice Z9.out
    subst eo36
    have hnb37:=NB1_0.out
    have hnc37:=NB0_1.out
    have hcz38_0 : wr.cell? ⟨gb1,0,none⟩ = some (.slice none 0 0):=(blk_cell BK1.out 0).trans rfl
    have hfz38_0:=blk_frozen BK1.out 0
    go_wp2
    refine bodyPost_ret (results_cell_row rfl _ _ gb1 25 #[.slice Ao36 x9000_1.length co36] (0,0) _ rfl (by (with_reducible repeat (first | refine blk_drewN ?_ _ | refine blk_drew ?_ | refine blk_alloc ?_ _));refine blk_put (cs:=#[.slice none 0 0]) ?_ 0 _ rfl;(with_reducible repeat (first | refine blk_drewN ?_ _ | refine blk_drew ?_ | refine blk_alloc ?_ _));exact BK1.out) Try.underlying25 rfl (by kernel_rfl)) rfl ?_
    exact ⟨_,by first | rfl | (simp [errW_none,errW_some] <;> rfl) | (simp [*,errW_none,errW_some] <;> rfl),by (with_reducible repeat (first | apply Kd.R_alloc | apply Kd.R_drewN | apply Kd.R_drew));exact Kd.R_mono (Kd.R_far (p:=⟨gb1,0,none⟩) (Kd.R_types Z9.out BK1.out (by decide)) (fun _ hk=>hk.2) (.slice Ao36 x9000_1.length co36)) (fun _ hk=>trivial),is0_,hbi0_,hk_⟩
theorem spec_goodTree_l0 (b : List Int) (hb : byL b) (nm : List ByteArray) (hm : nm.length = 8) (hs : ∀ x ∈ nm,x.size ≤ 7) (n : Nat) (hn : n ≤ 8) : ∀ (d i : Nat) (q : Int) (t : List Cls),i + d = n → 1 ≤ i → t.length = i → 0 ≤ q → q + 2 * d ≤ 1099511627776 → gT t → ∃ t' q',Ev (fun k=>spec_goodTree.l0 k nm (n : Int) (i : Int) b q t) (t',q') ∧ q ≤ q' ∧ q' ≤ q + 2 * d ∧ t'.length = n ∧ gT t':=by
 intro d
 induction d with
 | zero =>
  intro i q t hi h1 hl hq0 hq1 hg
  refine ⟨t,q,Ev.succ ?_,by omega,by omega,by omega,hg⟩
  simp only [spec_goodTree.l0]
  exact Ev.neg (by omega) (Ev.const rfl)
 | succ d ih =>
  intro i q t hi h1 hl hq0 hq1 hg
  obtain ⟨x,hx,x0,x1,_⟩:=spec_pick_ev b q (i : Int) hb hq0 (by omega)
  have hxi:=x1 (by omega)
  have ew : wrap64 ((i : Int) - 1) = (i : Int) - 1:=wrap_in (by omega) (by omega)
  obtain ⟨y,hy,hym⟩:=spec_one_ev b (q + 1) [0,x,(i : Int) - 1] hb (by omega) (by omega) (by simp)
  have hyr : 0 ≤ y ∧ y ≤ (i : Int) - 1:=by
   simp only [List.mem_cons,List.not_mem_nil,or_false] at hym
   omega
  have hnm : (rdOf ByteArray.empty nm (i : Int)).size ≤ 7:=by
   refine hs _ ?_
   unfold rdOf
   rw [Int.toNat_natCast,List.getD_eq_getElem?_getD,List.getElem?_eq_getElem (show i < nm.length by omega)]
   exact List.getElem_mem _
  obtain ⟨t',q',he,h2,h3,h4,h5⟩:=ih (i + 1) (q + 1 + 1) (t ++ [⟨rdOf ByteArray.empty nm (i : Int),y⟩]) (by omega) (by omega) (by simp;omega) (by omega) (by omega) (gT_snoc hg (by omega) _ hnm hyr.1 (by rw [hl];exact hyr.2))
  refine ⟨t',q',Ev.succ ?_,by omega,by omega,h4,h5⟩
  simp only [spec_goodTree.l0,ew]
  refine Ev.pos (by omega) (Ev.pos (by omega) (Ev.pos (by omega) (Ev.bind hx (Ev.bind hy (Ev.pos (by omega) ?_)))))
  rw [wrap_succ (i:=(i : Int)) (n:=8) (by omega) (by omega) (by omega)]
  exact he
theorem spec_goodTree_ev (b : List Int) (p : Int) (hb : byL b) (h0 : 0 ≤ p) (hp : p ≤ 1099511627000) : ∃ t q,Ev (fun k=>spec_goodTree.f k b p) (t,q) ∧ p ≤ q ∧ q ≤ p + 20 ∧ 1 ≤ t.length ∧ t.length ≤ 8 ∧ gT t:=by
 obtain ⟨n,hn,hnm⟩:=spec_one_ev b p [4,5,3,6,2,1,8] hb h0 (by omega) (by simp)
 have hr : 1 ≤ n ∧ n ≤ 8:=by
  simp only [List.mem_cons,List.not_mem_nil,or_false] at hnm
  omega
 obtain ⟨m,rfl⟩:=Int.eq_ofNat_of_zero_le (show 0 ≤ n by omega)
 obtain ⟨t,q,he,h2,h3,h4,h5⟩:=spec_goodTree_l0 b hb [(⟨#[97,110,121]⟩ : ByteArray),(⟨#[105,111]⟩ : ByteArray),(⟨#[107,101,121]⟩ : ByteArray),(⟨#[116,105,109,101]⟩ : ByteArray),(⟨#[110,101,116]⟩ : ByteArray),(⟨#[100,105,115,107]⟩ : ByteArray),(⟨#[116,121,112,101]⟩ : ByteArray),(⟨#[111,100,100]⟩ : ByteArray)] rfl (by
  intro x hx
  simp only [List.mem_cons,List.not_mem_nil,or_false] at hx
  rcases hx with rfl | rfl | rfl | rfl | rfl | rfl | rfl | rfl <;> decide) m (by omega) (m - 1) 1 (p + 1) [⟨(⟨#[97,110,121]⟩ : ByteArray),(-1)⟩] (by omega) (by omega) rfl (by omega) (by omega) (by
  refine ⟨fun x hx=>?_,fun j hj=>?_⟩
  ·obtain rfl : x = ⟨(⟨#[97,110,121]⟩ : ByteArray),(-1)⟩:=by simpa using hx
   decide
  ·obtain rfl : j = 0:=by simp at hj;omega
   exact ⟨fun _=>rfl,fun h=>by omega⟩)
 exact ⟨t,q,Ev.bind hn he,by omega,by omega,by omega,by omega,h5⟩
end Go.Proofs.Ytjdpaholpfpiiaa.P
namespace Go.Proofs.Ytjdpaholpfpiiaa.P
open Go.RowKit Go.Proofs.YtjdpaholpfpiiaaW.PrintWords Go.Proofs.YtjdpaholpfpiiaaW.PrintLast Go.Proofs.YtjdpaholpfpiiaaW.PrintMore
attribute [local go_sem] max2_int min2_int max_two min_two max_three min_three max_four min_four
set_option linter.unusedVariables false
set_option linter.unusedSimpArgs false
def spec_reader_of.f (k : Nat) (s0_0 : List Int) (s0_1 : Int) (l1 : List ByteArray) : Option (ByteArray × Int):=(spec_reader_pick.f k s0_0 s0_1 (l1.length : Int)).bind fun bt1=>(if 0 ≤ bt1.1 then (if bt1.1 < (l1.length : Int) then (some (rdOf ByteArray.empty l1 bt1.1,bt1.2)) else (none)) else (none))
theorem spec_reader_of.mono : ∀ a0 a1 a2 k,LeO (spec_reader_of.f k a0 a1 a2) (spec_reader_of.f (k + 1) a0 a1 a2):=by
 intro a0 a1 a2 k
 unfold spec_reader_of.f
 repeat' first
   | (with_reducible exact spec_reader_pick.mono _ _ _ _)
   | (with_reducible exact LeO.refl _)
   | (with_reducible exact LeO.none _)
   | (with_reducible refine LeO.ite ?_ ?_)
   | (with_reducible refine LeO.bind ?_ (fun _=>?_))
   | exact spec_reader_pick.mono _ _ _ _
   | exact LeO.none _
   | refine LeO.ite ?_ ?_
   | refine LeO.bind ?_ (fun _=>?_)
set_option maxHeartbeats 8000000 in
set_option maxRecDepth 100000 in
theorem spec_reader_of.calls (k : Nat) (g : Nat) (s0_0 : List Int) (s0_1 : Int) (A1 : Option Addr) (c1 : Nat) (l1 : List ByteArray) (r1 : ByteArray) (r2 : Int) (w0 w : World) (hI : IsS63 w0 w g s0_0 s0_1) (hB : Below w0.heap.size w0 w) (hr1 : Kd.C Kd.string w A1 l1.length l1) (hc1 : l1.length ≤ c1) (hf1 : ∀ ad,A1 = some ad → 0 < l1.length → ad.block ≠ g) (h : spec_reader_of.f k s0_0 s0_1 l1 = some (r1,r2)) :
  Calls Try.prog 54 #[.pointer (some ⟨g,0,none⟩),.slice A1 l1.length c1] w fun e w'=>e = .returned (.string r1) ∧ IsS63 w0 w' g s0_0 r2 ∧ Below w0.heap.size w0 w' ∧ KeepBut w w' g none:=by
 have HR1:=a0_ hr1
 have HC1:=a0_ hc1
 clear hr1 hc1
 have HI0:=a0_ hI
 have HK:=a0_ (KeepBut.refl w g none)
 have HL:=a0_ hB.size
 clear hI
 have HW0:=a0_ hB.size
 have HB:=a0_ hB
 clear hB
 have H : ((spec_reader_pick.f k s0_0 s0_1 (l1.length : Int)).bind fun bt1=>(if 0 ≤ bt1.1 then (if bt1.1 < (l1.length : Int) then (some (rdOf ByteArray.empty l1 bt1.1,bt1.2)) else (none)) else (none))) = some (r1,r2):=h
 clear h
 replace H:=Option.bind_eq_some_iff.mp H
 obtain ⟨⟨t1,t2⟩,A30,H⟩:=H
 try dsimp only at H
 have A3:=a0_ A30
 clear A30
 by_cases c4 : 0 ≤ t1
 ·rw [if_pos c4] at H
  have c4b0 : decide (0 ≤ t1) = true:=decide_eq_true c4
  clear c4
  by_cases c5 : t1 < (l1.length : Int)
  ·rw [if_pos c5] at H
   have c5b0 : decide (t1 < (l1.length : Int)) = true:=decide_eq_true c5
   clear c5
   simp only [Option.some.injEq,Prod.mk.injEq] at H
   obtain ⟨rfl,rfl⟩:=H
   go_enter Try.func54,Try.ntmps54
   go_wp2_with (first | ((with_reducible refine gate_callee (f:=28) rfl ?_);refine goesL_ (some 9) rfl rfl Try.func28 (by kernel_rfl) rfl #[.pointer (some ⟨g,0,none⟩),.int .i64 (l1.length : Int)] rfl lm_ ?_;(with_reducible refine (spec_reader_pick.calls k g s0_0 s0_1 (l1.length : Int) t1 t2 w0 _ ?side1 ?side2 A3.out).mono ?_);(case side1=>exact is0_);(case side2=>exact hbi0_);rintro e w6 ⟨rfl,hi,hb,hk⟩;refine ⟨_,rfl,?_⟩;replace HK:=a0_ (KeepBut.trans (w:=w) hk_ hk (.inl rfl));replace HI0:=a0_ (hi);replace HB:=a0_ (hb);(try clear hb);have p3 : 0 ≤ (t1 : Int):=of_decide_eq_true (by first | (with_reducible assumption) | assumption);have q3 : t1 < (l1.length : Int):=of_decide_eq_true (by first | (with_reducible assumption) | assumption);obtain ⟨ad3,e3,hx3_0⟩:=Kd.at_string HR1.out t1 p3 q3;cases e3;replace hx3_0:=keep_cell HK.out hx3_0 (by first | (rw [add_block];exact hf1 _ rfl (by omega)) | exact hf1 _ rfl (by omega) | exact hf1 ad3 rfl (by omega));replace p3:=eq_true p3;replace q3:=eq_true q3))
   go_ret
   exact ⟨by first | rfl | (simp [errW_none,errW_some] <;> rfl) | (simp [*,errW_none,errW_some] <;> rfl),is0_,hbi0_,hk_⟩
  ·rw [if_neg c5] at H
   exact absurd H (by simp)
 ·rw [if_neg c4] at H
  exact absurd H (by simp)
theorem spec_of_ev (b : List Int) (p : Int) (l : List ByteArray) (hb : byL b) (h0 : 0 ≤ p) (hp : p ≤ 1099511627776) (hl : 1 ≤ l.length) : ∃ x,Ev (fun k=>spec_reader_of.f k b p l) (x,p + 1) ∧ x ∈ l:=by
 obtain ⟨x,hx,x0,x1,_⟩:=spec_pick_ev b p (l.length : Int) hb h0 hp
 have hlt:=x1 (by omega)
 have hn : x.toNat < l.length:=by omega
 refine ⟨rdOf ByteArray.empty l x,Ev.bind hx (Ev.pos x0 (Ev.pos hlt (Ev.const rfl))),?_⟩
 unfold rdOf
 rw [List.getD_eq_getElem?_getD,List.getElem?_eq_getElem hn]
 exact List.getElem_mem hn
end Go.Proofs.Ytjdpaholpfpiiaa.P
namespace Go.Proofs.Ytjdpaholpfpiiaa.P
open Go.RowKit Go.Proofs.YtjdpaholpfpiiaaW.PrintWords Go.Proofs.YtjdpaholpfpiiaaW.PrintLast Go.Proofs.YtjdpaholpfpiiaaW.PrintMore
attribute [local go_sem] max2_int min2_int max_two min_two max_three min_three max_four min_four
set_option linter.unusedVariables false
set_option linter.unusedSimpArgs false
def spec_someTree.f (k : Nat) (s0_0 : List Int) (s0_1 : Int) : Option ((List (S70)) × Int):=(spec_goodTree.f k s0_0 s0_1).bind fun bt2=>((spec_reader_pick.f k s0_0 bt2.2 (bt2.1.length : Int)).bind fun bt7=>((spec_reader_pick.f k s0_0 bt7.2 24).bind fun bt9=>(if bt9.1 = 0 then ((spec_reader_of.f k s0_0 bt9.2 (([(⟨#[]⟩ : ByteArray),(⟨#[97,110,121]⟩ : ByteArray),(⟨#[65]⟩ : ByteArray),(⟨#[116,111,111,108,111,110,103]⟩ : ByteArray)] : List ByteArray))).bind fun bt14=>(if 0 ≤ bt7.1 then (if bt7.1 < (bt2.1.length : Int) then (some ((bt2.1.set (bt7.1 : Int).toNat (⟨bt14.1,(rd_T70 bt2.1 bt7.1).f1⟩ : S70)),bt14.2)) else (none)) else (none))) else (if bt9.1 = 1 then ((spec_reader_one.f k s0_0 bt9.2 (([bt7.1,(-1),8,(-2)] : List Int))).bind fun bt20=>(if 0 ≤ bt7.1 then (if bt7.1 < (bt2.1.length : Int) then (some ((bt2.1.set (bt7.1 : Int).toNat (⟨(rd_T70 bt2.1 bt7.1).f0,bt20.1⟩ : S70)),bt20.2)) else (none)) else (none))) else (if bt9.1 = 2 then (some (([] : List (S70)),bt9.2)) else (some (bt2.1,bt9.2)))))))
theorem spec_someTree.mono : ∀ a0 a1 k,LeO (spec_someTree.f k a0 a1) (spec_someTree.f (k + 1) a0 a1):=by
 intro a0 a1 k
 unfold spec_someTree.f
 repeat' first
   | (with_reducible exact spec_goodTree.mono _ _ _)
   | (with_reducible exact spec_reader_of.mono _ _ _ _)
   | (with_reducible exact spec_reader_one.mono _ _ _ _)
   | (with_reducible exact spec_reader_pick.mono _ _ _ _)
   | (with_reducible exact LeO.refl _)
   | (with_reducible exact LeO.none _)
   | (with_reducible refine LeO.ite ?_ ?_)
   | (with_reducible refine LeO.bind ?_ (fun _=>?_))
   | exact spec_goodTree.mono _ _ _
   | exact spec_reader_of.mono _ _ _ _
   | exact spec_reader_one.mono _ _ _ _
   | exact spec_reader_pick.mono _ _ _ _
   | exact LeO.none _
   | refine LeO.ite ?_ ?_
   | refine LeO.bind ?_ (fun _=>?_)
def spec_someTree.T5 : Bool × List (List Nat × List Nat):=(true,[([],[]),([0],[0]),([],[]),([],[]),([],[]),([3,4],[3,4]),([1,2,0,1,2,3,4,5],[1,2]),([6,0,1,2,3,4,5],[6]),([7,5,5,0,1,2,3,4,5],[5,7])])
def spec_someTree.B5 : List Nat:=[0,1,0,0,0,24,63,127,255]
theorem spec_someTree.tab5 : rtab .any (opsOf Try.f37 5) = spec_someTree.T5:=by kernel_rfl
theorem spec_someTree.bits5 : waitsOk spec_someTree.T5.2 spec_someTree.B5 = true:=by kernel_rfl
def spec_someTree.T7 : Bool × List (List Nat × List Nat):=(true,[([],[]),([0],[0]),([],[]),([],[]),([],[]),([4],[4]),([3,5],[3,5]),([1,2,0,1,2,3,4,5,6],[1,2]),([7,0,1,2,3,4,5,6],[7]),([8,6,6,0,1,2,3,4,5,6],[6,8])])
def spec_someTree.B7 : List Nat:=[0,1,0,0,0,16,56,127,255,511]
theorem spec_someTree.tab7 : rtab .any (opsOf Try.f37 7) = spec_someTree.T7:=by kernel_rfl
theorem spec_someTree.bits7 : waitsOk spec_someTree.T7.2 spec_someTree.B7 = true:=by kernel_rfl
set_option maxHeartbeats 8000000 in
set_option maxRecDepth 100000 in
theorem spec_someTree.calls (k : Nat) (g : Nat) (s0_0 : List Int) (s0_1 : Int) (r1 : List (S70)) (r2 : Int) (w0 w : World) (hI : IsS63 w0 w g s0_0 s0_1) (hB : Below w0.heap.size w0 w) (h : spec_someTree.f k s0_0 s0_1 = some (r1,r2)) :
  Calls Try.prog 37 #[.pointer (some ⟨g,0,none⟩)] w fun e w'=>∃ v0_ : Value,e = .returned (.agg #[v0_]) ∧ Kd.R k70 70 w' w.heap.size (fun _=>True) v0_ r1 ∧ IsS63 w0 w' g s0_0 r2 ∧ Below w0.heap.size w0 w' ∧ KeepBut w w' g none:=by
 have hu25:=Try.underlying25
 have HI0:=a0_ hI
 have HK:=a0_ (KeepBut.refl w g none)
 have HL:=a0_ hB.size
 clear hI
 have HW0:=a0_ hB.size
 have HB:=a0_ hB
 clear hB
 have H : ((spec_goodTree.f k s0_0 s0_1).bind fun bt2=>((spec_reader_pick.f k s0_0 bt2.2 (bt2.1.length : Int)).bind fun bt7=>((spec_reader_pick.f k s0_0 bt7.2 24).bind fun bt9=>(if bt9.1 = 0 then ((spec_reader_of.f k s0_0 bt9.2 (([(⟨#[]⟩ : ByteArray),(⟨#[97,110,121]⟩ : ByteArray),(⟨#[65]⟩ : ByteArray),(⟨#[116,111,111,108,111,110,103]⟩ : ByteArray)] : List ByteArray))).bind fun bt14=>(if 0 ≤ bt7.1 then (if bt7.1 < (bt2.1.length : Int) then (some ((bt2.1.set (bt7.1 : Int).toNat (⟨bt14.1,(rd_T70 bt2.1 bt7.1).f1⟩ : S70)),bt14.2)) else (none)) else (none))) else (if bt9.1 = 1 then ((spec_reader_one.f k s0_0 bt9.2 (([bt7.1,(-1),8,(-2)] : List Int))).bind fun bt20=>(if 0 ≤ bt7.1 then (if bt7.1 < (bt2.1.length : Int) then (some ((bt2.1.set (bt7.1 : Int).toNat (⟨(rd_T70 bt2.1 bt7.1).f0,bt20.1⟩ : S70)),bt20.2)) else (none)) else (none))) else (if bt9.1 = 2 then (some (([] : List (S70)),bt9.2)) else (some (bt2.1,bt9.2)))))))) = some (r1,r2):=h
 clear h
 replace H:=Option.bind_eq_some_iff.mp H
 obtain ⟨⟨t2,t5⟩,A20,H⟩:=H
 try dsimp only at H
 have A2:=a0_ A20
 clear A20
 replace H:=Option.bind_eq_some_iff.mp H
 obtain ⟨⟨t7,t8⟩,A30,H⟩:=H
 try dsimp only at H
 have A3:=a0_ A30
 clear A30
 replace H:=Option.bind_eq_some_iff.mp H
 obtain ⟨⟨t9,t10⟩,A40,H⟩:=H
 try dsimp only at H
 have A4:=a0_ A40
 clear A40
 by_cases c5 : t9 = 0
 ·rw [if_pos c5] at H
  have c5b0 : (t9 == 0) = true:=beq_iff_eq.mpr c5
  have c5b1 : (t9 != 0) = false:=bne_eq_false_iff_eq.mpr c5
  clear c5
  obtain ⟨y11,hy11⟩ : ∃ y_ : List ByteArray,y_ = (([(⟨#[]⟩ : ByteArray),(⟨#[97,110,121]⟩ : ByteArray),(⟨#[65]⟩ : ByteArray),(⟨#[116,111,111,108,111,110,103]⟩ : ByteArray)] : List ByteArray)):=⟨_,rfl⟩
  replace H : ((spec_reader_of.f k s0_0 t10 y11).bind fun bt14=>(if 0 ≤ t7 then (if t7 < (t2.length : Int) then (some ((t2.set (t7 : Int).toNat (⟨bt14.1,(rd_T70 t2 t7).f1⟩ : S70)),bt14.2)) else (none)) else (none))) = some (r1,r2):=by first | (rw [hy11];with_reducible exact H) | (have H2_:=(Option.bind_some _ _).symm.trans H;rw [hy11];with_reducible exact H2_) | (have H2_:=(Option.bind_some _ _).symm.trans H;with_reducible exact H2_) | with_reducible exact H | (rw [hy11];exact H) | exact H
  have Ny11:=a0_ hy11
  clear hy11
  replace H:=Option.bind_eq_some_iff.mp H
  obtain ⟨⟨t14,t15⟩,A60,H⟩:=H
  try dsimp only at H
  have A6:=a0_ A60
  clear A60
  by_cases c7 : 0 ≤ t7
  ·rw [if_pos c7] at H
   have c7b0 : decide (0 ≤ t7) = true:=decide_eq_true c7
   clear c7
   by_cases c8 : t7 < (t2.length : Int)
   ·rw [if_pos c8] at H
    have c8b0 : decide (t7 < (t2.length : Int)) = true:=decide_eq_true c8
    clear c8
    obtain ⟨y16,hy16⟩ : ∃ y_ : List (S70),y_ = (t2.set (t7 : Int).toNat (⟨t14,(rd_T70 t2 t7).f1⟩ : S70)):=⟨_,rfl⟩
    replace H : (some (y16,t15)) = some (r1,r2):=by first | (rw [hy16];with_reducible exact H) | (have H2_:=(Option.bind_some _ _).symm.trans H;rw [hy16];with_reducible exact H2_) | (have H2_:=(Option.bind_some _ _).symm.trans H;with_reducible exact H2_) | with_reducible exact H | (rw [hy16];exact H) | exact H
    have Ny16:=a0_ hy16
    clear hy16
    simp only [Option.some.injEq,Prod.mk.injEq] at H
    obtain ⟨rfl,rfl⟩:=H
    go_enter Try.func37,Try.ntmps37
    try go_wp2_with (first | ((with_reducible refine gate_dst (N:=2) rfl ?_);refine box_event ?hg (N:=2) ?hd (cs:=#[.slice none 0 0]) (t:=25) ?hr ?_;(case hd=>rfl);(case hg=>rfl);(case hr=>first | (go_simp;done) | (go_simp;rfl));intro gb1 hg w10 hbox hb;have n0_:=a0_ (IsS63.below is0_ hb);have n1_:=a0_ (KeepBut.trans (w:=w) hk_ (KeepBut.of_below hb g none) (.inl rfl));have n2_:=a0_ (below_step hbi0_ hb);have n3_:=a0_ (hbox);have n4_:=a0_ ((by rw [hg];exact (keep_size (w:=w) (g:=g) (row:=none) hk_) : w.heap.size ≤ gb1));have n5_:=a0_ ((Nat.le_trans HW0.out (by rw [hg];exact (keep_size (w:=w) (g:=g) (row:=none) hk_) : w.heap.size ≤ gb1) : w0.heap.size ≤ gb1));have n6_:=a0_ ((by rw [hg];exact Nat.ne_of_lt (IsS63.lt (is0_ : IsS63 w0 _ g s0_0 s0_1)) : g ≠ gb1));have n7_:=a0_ ((by rw [hg];exact Nat.ne_of_gt (IsS63.lt (is0_ : IsS63 w0 _ g s0_0 s0_1)) : gb1 ≠ g));clear HI0 HK HB;have HI0:=n0_;have HK:=n1_;have HB:=n2_;have BK1:=n3_;have GW1:=n4_;have GE1:=n5_;have NB0_1:=n6_;have NB1_0:=n7_;clear n0_ n1_ n2_ n3_ n4_ n5_ n6_ n7_;clear hb hbox hg) | ((with_reducible refine gate_callee (f:=53) rfl ?_);refine goesL_ (some 6) rfl rfl Try.func53 (by kernel_rfl) rfl #[.pointer (some ⟨g,0,none⟩)] rfl lm_ ?_;(with_reducible refine (spec_goodTree.calls k g s0_0 s0_1 t2 t5 w0 _ ?side1 ?side2 A2.out).mono ?_);(case side1=>exact is0_);(case side2=>exact hbi0_);rintro e w11 ⟨v3,rfl,ho0,hi,hb,hk⟩;refine ⟨_,rfl,?_⟩;replace BK1:=kk_ hk BK1 NB1_0;have HO4:=a0_ (Kd.R_lower ho0 (keep_size (w:=w) (g:=g) (row:=none) hk_));replace HK:=a0_ (KeepBut.trans (w:=w) hk_ hk (.inl rfl));replace HI0:=a0_ (hi);replace HB:=a0_ (hb);(try clear hb);(try clear ho0)) | ((with_reducible refine gate_dst (N:=3) rfl ?_);refine box_event ?hg (N:=3) ?hd (cs:=#[.slice none 0 0]) (t:=25) ?hr ?_;(case hd=>rfl);(case hg=>rfl);(case hr=>first | (go_simp;done) | (go_simp;rfl));intro gb6 hg w12 hbox hb;have n0_:=rb_ HO4 hb;have n1_:=a0_ (IsS63.below is0_ hb);have n2_:=kb_ BK1 hb;have n3_:=a0_ (KeepBut.trans (w:=w) hk_ (KeepBut.of_below hb g none) (.inl rfl));have n4_:=a0_ (below_step hbi0_ hb);have n5_:=a0_ (hbox);have n6_:=a0_ ((by rw [hg];exact (keep_size (w:=w) (g:=g) (row:=none) hk_) : w.heap.size ≤ gb6));have n7_:=a0_ ((Nat.le_trans HW0.out (by rw [hg];exact (keep_size (w:=w) (g:=g) (row:=none) hk_) : w.heap.size ≤ gb6) : w0.heap.size ≤ gb6));have n8_:=a0_ ((by rw [hg];exact Nat.ne_of_lt (blk_lt (bb_ BK1.out)) : gb1 ≠ gb6));have n9_:=a0_ ((by rw [hg];exact Nat.ne_of_gt (blk_lt (bb_ BK1.out)) : gb6 ≠ gb1));have n10_:=a0_ ((by rw [hg];exact Nat.ne_of_lt (IsS63.lt (is0_ : IsS63 w0 _ g s0_0 t5)) : g ≠ gb6));have n11_:=a0_ ((by rw [hg];exact Nat.ne_of_gt (IsS63.lt (is0_ : IsS63 w0 _ g s0_0 t5)) : gb6 ≠ g));clear HO4 HI0;clear BK1 HK HB;have HO4:=n0_;have HI0:=n1_;have BK1:=n2_;have HK:=n3_;have HB:=n4_;have BK6:=n5_;have GW6:=n6_;have GE6:=n7_;have NB1_6:=n8_;have NB6_1:=n9_;have NB0_6:=n10_;have NB6_0:=n11_;clear n0_ n1_ n2_ n3_ n4_ n5_ n6_ n7_ n8_ n9_ n10_ n11_;clear hb hbox hg;obtain ⟨Ao13,co13,eo13⟩:=Kd.R_slice HO4.out;subst eo13;have hnb14:=NB6_1.out;have hnc14:=NB1_6.out;have hnb15:=NB6_0.out;have hnc15:=NB0_6.out;have hcz16_0 : w12.cell? ⟨gb6,0,none⟩ = some (.slice none 0 0):=(blk_cell BK6.out 0).trans rfl;have hfz16_0:=blk_frozen BK6.out 0) | ((with_reducible refine gate_callee (f:=28) rfl ?_);refine goesL_ (some 11) rfl rfl Try.func28 (by kernel_rfl) rfl #[.pointer (some ⟨g,0,none⟩),.int .i64 (t2.length : Int)] rfl lm_ ?_;(with_reducible refine (spec_reader_pick.calls k g s0_0 t5 (t2.length : Int) t7 t8 w0 _ ?side1 ?side2 A3.out).mono ?_);(case side1=>exact is0_);(case side2=>exact hbi0_);rintro e w17 ⟨rfl,hi,hb,hk⟩;refine ⟨_,rfl,?_⟩;replace BK1:=kk_ hk BK1 NB1_0;replace HO4:=a0_ (Kd.R_mono (Kd.R_keep (IsS63.apart (is0_ : IsS63 w0 _ g s0_0 t5) (by (with_reducible repeat (first | apply Kd.R_alloc | apply Kd.R_drewN | apply Kd.R_drew));exact (Kd.R_mono (Kd.R_far (p:=⟨gb6,0,none⟩) (Kd.R_types HO4.out BK6.out (by decide)) (fun _ hk=>hk.2) (.slice Ao13 t2.length co13)) (fun _ h_=>h_.1))) (by decide)) hk (fun _ h=>h.2)) (fun _ h=>h.1));replace BK6:=a0_ (KeepBut.blk hk (g':=gb6) (o:=.cells #[.slice Ao13 t2.length co13] 25 (0,0)) (by (with_reducible repeat (first | refine blk_drewN ?_ _ | refine blk_drew ?_ | refine blk_alloc ?_ _));refine blk_put (cs:=#[.slice none 0 0]) ?_ 0 _ rfl;(with_reducible repeat (first | refine blk_drewN ?_ _ | refine blk_drew ?_ | refine blk_alloc ?_ _));exact BK6.out) NB6_0.out (by simp));replace HK:=a0_ (KeepBut.trans (w:=w) hk_ hk (.inl rfl));replace HI0:=a0_ (hi);replace HB:=a0_ (hb);(try clear hb);(try clear hb2);(try clear hk);(try clear hi)) | ((with_reducible refine gate_callee (f:=28) rfl ?_);refine goesL_ (some 13) rfl rfl Try.func28 (by kernel_rfl) rfl #[.pointer (some ⟨g,0,none⟩),.int .i64 24] rfl lm_ ?_;(with_reducible refine (spec_reader_pick.calls k g s0_0 t8 24 t9 t10 w0 _ ?side1 ?side2 A4.out).mono ?_);(case side1=>exact is0_);(case side2=>exact hbi0_);rintro e w18 ⟨rfl,hi,hb,hk⟩;refine ⟨_,rfl,?_⟩;replace BK1:=kk_ hk BK1 NB1_0;replace HO4:=a0_ (Kd.R_mono (Kd.R_keep (IsS63.apart (is0_ : IsS63 w0 _ g s0_0 t8) (rr_ HO4.out) (by decide)) hk (fun _ h=>h.2)) (fun _ h=>h.1));replace BK6:=kk_ hk BK6 NB6_0;replace HK:=a0_ (KeepBut.trans (w:=w) hk_ hk (.inl rfl));replace HI0:=a0_ (hi);replace HB:=a0_ (hb);(try clear hb);(try clear hb2);(try clear hk);(try clear hi)))
    have n0_:=a0_ (Kd.R_drew HO4.out)
    have n1_:=a0_ (blk_drew BK1.out)
    have n2_:=a0_ (blk_drew BK6.out)
    have n3_:=a0_ (IsS63.drew HI0.out)
    have n4_:=a0_ (keep_drew HK.out)
    have n5_:=a0_ (below_drew1 HB.out)
    clear HO4
    clear BK1
    clear BK6
    clear HI0
    clear HK
    clear HB
    have HO4:=n0_
    have BK1:=n1_
    have BK6:=n2_
    have HI0:=n3_
    have HK:=n4_
    have HB:=n5_
    clear n0_ n1_ n2_ n3_ n4_ n5_
    refine start_ (n:=9) (S:=fun w'=>w'.cell? ⟨gb6,0,none⟩ = some (.slice Ao13 t2.length co13)) (ds:=[8]) #[false,false,false,false,false,false,false,false,false] (by kernel_rfl) rfl rfl ((blk_cell BK6.out 0).trans rfl) (fun hHeld=>?_);refine with_tabW spec_someTree.tab5 spec_someTree.bits5 (fun HT_ HW_=>?_)
    generalize w18.drew = w19 at HO4 BK1 BK6 HI0 HK HB hHeld ⊢
    refine pure_ (i:=0) (N:=some 16) (v:=?_) (a':=?_) #[true,false,false,false,false,false,false,false,false] rfl rfl (any_of HT_.out (by kernel_rfl)) (fun _ _ _ h=>h) (Or.inl ⟨by rfl,?_⟩) ?_ ?_
    rotate_left
    ·intro w'
     go_simp
     with_reducible rfl
    rotate_left
    ·simp only [Act.put,s1_,s2_,s3_,i64_w,i32_w]
     rfl
    refine pure_ (i:=2) (N:=some 18) (v:=?_) (a':=?_) #[true,false,true,false,false,false,false,false,false] rfl rfl (any_of HT_.out (by kernel_rfl)) (fun _ _ _ h=>h) (Or.inl ⟨by rfl,?_⟩) ?_ ?_
    rotate_left
    ·intro w'
     go_simp
     with_reducible rfl
    rotate_left
    ·simp only [Act.put,s1_,s2_,s3_,i64_w,i32_w]
     rfl
    refine pure_ (i:=3) (N:=some 19) (v:=?_) (a':=?_) #[true,false,true,true,false,false,false,false,false] rfl rfl (any_of HT_.out (by kernel_rfl)) (fun _ _ _ h=>h) (Or.inl ⟨by rfl,?_⟩) ?_ ?_
    rotate_left
    ·intro w'
     go_simp
     with_reducible rfl
    rotate_left
    ·simp only [Act.put,s1_,s2_,s3_,i64_w,i32_w]
     rfl
    refine take_ (i:=1) (N:=some 17) (v:=?_) (a':=?_) #[true,true,true,true,false,false,false,false,false] rfl rfl (take_ofW HT_.out HW_.out (by kernel_rfl)) (fun _ _ _ h=>h) (Or.inl ⟨by rfl,?_⟩) hHeld ?_ ?_
    rotate_left
    ·intro w' s0
     go_simp
     with_reducible rfl
    rotate_left
    ·simp only [Act.put,s1_,s2_,s3_,i64_w,i32_w]
     rfl
    refine one_ (i:=4) (N:=some 20) #[true,true,true,true,true,false,false,false,false] rfl rfl (one_of HT_.out (by kernel_rfl)) (by decide) (fun K hK=>?_)
    refine Kd.R_lit_step Kd.string _ 9 ?hg (N:=20) ?hd (xs:=([(⟨#[]⟩ : ByteArray),(⟨#[97,110,121]⟩ : ByteArray),(⟨#[65]⟩ : ByteArray),(⟨#[116,111,111,108,111,110,103]⟩ : ByteArray)] : List ByteArray)) (inner:=[.string (⟨#[]⟩ : ByteArray),.string (⟨#[97,110,121]⟩ : ByteArray),.string (⟨#[65]⟩ : ByteArray),.string (⟨#[116,111,111,108,111,110,103]⟩ : ByteArray)]) (ok:=fun _=>True) (okp:=fun _=>True) ?hr ?hp (fun _ hk=>hk) trivial (Below.refl _ _) (Nat.le_refl _) (by simp) ?_;(case hd=>rfl);(case hg=>rfl);(case hr=>first | (go_simp;done) | (go_simp;rfl));(case hp=>exact (Reps.one (show Kd.M Kd.string _ _ _ (⟨#[]⟩ : ByteArray) [.string (⟨#[]⟩ : ByteArray)] from rfl) (Reps.one (show Kd.M Kd.string _ _ _ (⟨#[97,110,121]⟩ : ByteArray) [.string (⟨#[97,110,121]⟩ : ByteArray)] from rfl) (Reps.one (show Kd.M Kd.string _ _ _ (⟨#[65]⟩ : ByteArray) [.string (⟨#[65]⟩ : ByteArray)] from rfl) (Reps.one (show Kd.M Kd.string _ _ _ (⟨#[116,111,111,108,111,110,103]⟩ : ByteArray) [.string (⟨#[116,111,111,108,111,110,103]⟩ : ByteArray)] from rfl) (Reps.none _ _))))))
    intro v12 w20 ho21 hb hg_ hnew_
    clear hg_ hnew_
    (first | rw [← Ny11.out] at ho21 | (simp only [Int.reduceToNat] at ho21;rw [← Ny11.out] at ho21))
    have n0_:=rb_ HO4 hb
    have n1_:=a0_ (Kd.R_lower ho21 (keep_size (w:=w) (g:=g) (row:=none) hk_))
    have n2_:=a0_ (IsS63.below is0_ hb)
    have n3_:=kb_ BK1 hb
    have n4_:=kb_ BK6 hb
    have n5_:=a0_ (KeepBut.trans (w:=w) hk_ (KeepBut.of_below hb g none) (.inl rfl))
    have n6_:=a0_ (below_step hbi0_ hb)
    clear HO4
    clear HI0
    clear BK1
    clear BK6
    clear HK
    clear HB
    have HO4:=n0_
    have HO13:=n1_
    have HI0:=n2_
    have BK1:=n3_
    have BK6:=n4_
    have HK:=n5_
    have HB:=n6_
    clear n0_ n1_ n2_ n3_ n4_ n5_ n6_
    clear hb ho21
    obtain ⟨Ao22,co22,eo22⟩:=Kd.R_slice HO13.out
    (first | subst eo22 | (injection eo22 with f1_ f2_ f3_;have f4_:=f1_.symm;have f5_:=f3_.symm;clear f1_ f2_ f3_;subst f4_;subst f5_))
    refine hK.out _ _ ((blk_cell BK6.out 0).trans rfl) (fun hHeld=>?_)
    clear hK K
    refine norm_ (a':=?_) ?_ ?_
    rotate_left
    ·show Act.put _ (some 20) _ = _
     simp only [Act.put,s1_,s2_,s3_,i64_w,i32_w]
     rfl
    refine one_ (i:=5) (N:=some 21) #[true,true,true,true,true,true,false,false,false] rfl rfl (one_of HT_.out (by kernel_rfl)) (by decide) (fun K hK=>?_)
    refine goes_ Try.func54 (by kernel_rfl) rfl #[.pointer (some ⟨g,0,none⟩),.slice Ao22 y11.length co22] (by rfl) rfl rfl lm_ ?_
    with_reducible refine (spec_reader_of.calls k g s0_0 t10 _ _ y11 t14 t15 w0 _ ?side1 ?side2 ?side3 ?side4 ?side5 A6.out).mono ?_
    (case side1=>exact is0_)
    (case side2=>exact hbi0_)
    (case side3=>exact cc_ (Kd.R_reads' HO13.out).2.2)
    (case side4=>exact (Kd.R_reads' HO13.out).2.1)
    (case side5=>exact far_slice (IsS63.own_ne HI0.out HO13.out (by decide)))
    rintro e w23 ⟨rfl,hi,hb,hk⟩
    refine ⟨_,rfl,?_⟩
    have n0_:=kk_ hk BK1 NB1_0
    have n1_:=a0_ (Kd.R_mono (Kd.R_keep (IsS63.apart (is0_ : IsS63 w0 _ g s0_0 t10) (rr_ HO4.out) (by decide)) hk (fun _ h=>h.2)) (fun _ h=>h.1))
    have n2_:=kk_ hk BK6 NB6_0
    have n3_:=a0_ (Kd.R_mono (Kd.R_keep (IsS63.apart (is0_ : IsS63 w0 _ g s0_0 t10) (rr_ HO13.out) (by decide)) hk (fun _ h=>h.2)) (fun _ h=>h.1))
    have n4_:=a0_ (KeepBut.trans (w:=w) hk_ hk (.inl rfl))
    have n5_:=a0_ (hb)
    have n6_:=a0_ (hi)
    clear BK1
    clear HO4
    clear BK6
    clear HO13
    clear HK
    clear HB
    clear HI0
    have BK1:=n0_
    have HO4:=n1_
    have BK6:=n2_
    have HO13:=n3_
    have HK:=n4_
    have HB:=n5_
    have HI0:=n6_
    clear n0_ n1_ n2_ n3_ n4_ n5_ n6_
    (try clear hb)
    (try clear hb2)
    (try clear hk)
    (try clear hi)
    have p9 : 0 ≤ (t7 : Int):=of_decide_eq_true (by first | (with_reducible assumption) | assumption)
    have q9 : (t7 : Int) < ((t2.length : Int) : Int):=of_decide_eq_true (by first | (with_reducible assumption) | assumption)
    obtain ⟨go9,co9,eo9,gb9,gl9,cl9,HG9⟩:=Kd.R_form HO4.out (by omega)
    (first | cases eo9 | (injection eo9 with ea_ en_ ec_;(first | subst ea_ | (injection ea_ with ea_;subst ea_));subst ec_;clear en_))
    have GB9:=a0_ gb9
    have GG9:=a0_ HG9
    clear gb9 gl9 HG9
    obtain ⟨ce9,hcl9,hM9,hcc9,hfr9⟩:=Kd.R_elem HO4.out z70 (t7 : Int) p9 q9
    obtain rfl:=k70_openM hM9
    have hx9_0 : World.cell? _ ⟨go9,(t7 : Int).toNat * 2,none⟩ = some (.string ((rd_T70 t2 t7).f0)):=hcc9 0 _ rfl
    have hx9_1 : World.cell? _ ⟨go9,(t7 : Int).toNat * 2 + 1,none⟩ = some (.int .i64 ((rd_T70 t2 t7).f1)):=hcc9 1 _ rfl
    have hf9_0 : World.frozen? _ ⟨go9,(t7 : Int).toNat * 2,none⟩ = false:=hfr9 0
    have hf9_1 : World.frozen? _ ⟨go9,(t7 : Int).toNat * 2 + 1,none⟩ = false:=hfr9 1
    clear hcl9 hcc9 hfr9 hM9
    replace p9:=eq_true p9
    replace q9:=eq_true q9
    have HN0_go9:=a0_ (show g ≠ go9 from by have h_:=IsS63.own_ne HI0.out HO4.out (by decide);intro e_;exact h_ (by rw [e_];rfl))
    obtain ⟨ce24,hcl24,hM24,hcc24,hfr24⟩:=Kd.R_elem HO4.out z70 (t7 : Int) (of_decide_eq_true (by first | (with_reducible assumption) | assumption)) (by have h_ : (t7 : Int) < ((t2.length : Int) : Int):=of_decide_eq_true (by first | (with_reducible assumption) | assumption);first | exact h_ | (have e_:=(Kd.R_reads' HO4.out).1;omega) | simpa using h_)
    obtain rfl:=k70_openM hM24
    have HP24:=(Kd.R_seg HO4.out (t7 : Int) (of_decide_eq_true (by first | (with_reducible assumption) | assumption)) (by have h_ : (t7 : Int) < ((t2.length : Int) : Int):=of_decide_eq_true (by first | (with_reducible assumption) | assumption);first | exact h_ | (have e_:=(Kd.R_reads' HO4.out).1;omega) | simpa using h_) (seg:=[.string t14]) (j:=0) hcl24 hcc24 (show 1 ≤ 2 from by decide) (x':=(⟨t14,(rd_T70 t2 t7).f1⟩ : S70)) (k70_mkM _ _ _ (⟨t14,(rd_T70 t2 t7).f1⟩ : S70) ) (fun _ hk=>hk)).1
    rw [← Ny16.out] at HP24
    have HQ24:=a0_ HP24
    clear hcl24 hcc24 hfr24 hM24 HP24
    refine hK.out _ _ ((blk_cell BK6.out 0).trans rfl) (fun hHeld=>?_)
    clear hK K
    refine norm_ (a':=?_) ?_ ?_
    rotate_left
    ·show Act.put _ (some 21) _ = _
     simp only [Act.put,s1_,s2_,s3_,i64_w,i32_w]
     rfl
    refine pure_ (i:=6) (N:=some 22) (v:=?_) (a':=?_) #[true,true,true,true,true,true,true,false,false] rfl rfl (any_of HT_.out (by kernel_rfl)) (fun _ _ _ h=>h) (Or.inl ⟨by rfl,?_⟩) ?_ ?_
    rotate_left
    ·intro w'
     go_simp
     with_reducible rfl
    rotate_left
    ·simp only [Act.put,s1_,s2_,s3_,i64_w,i32_w]
     rfl
    refine pure_ (i:=7) (N:=some 23) (v:=?_) (a':=?_) #[true,true,true,true,true,true,true,true,false] rfl rfl (any_of HT_.out (by kernel_rfl)) (fun _ _ _ h=>h) (Or.inl ⟨by rfl,?_⟩) ?_ ?_
    rotate_left
    ·intro w'
     go_simp
     with_reducible rfl
    rotate_left
    ·simp only [Act.put,s1_,s2_,s3_,i64_w,i32_w]
     rfl
    refine last_ (i:=8) (N:=none) #[true,true,true,true,true,true,true,true,true] rfl rfl (one_of HT_.out (by kernel_rfl)) (by decide) (fun K hK=>?_)
    refine skip_ (w1:=?_) (by rfl) rfl ?_ ?_
    rotate_left
    ·go_simp
     rfl
    refine hK.out _ _ ?_
    clear hK K
    refine done_ (done_of HT_.out (by kernel_rfl)) ?_
    have n0_ : Aside0 (Kd.R k70 70 (w23.setCell ⟨go9,(t7 : Int).toNat * 2,none⟩ (.string t14)) w.heap.size (fun _=>True) (.slice (some ⟨go9,0,none⟩) t2.length co13) y16):=⟨by (with_reducible repeat (first | apply Kd.R_alloc | apply Kd.R_drewN | apply Kd.R_drew));exact HQ24.out⟩
    have n1_ : Aside0 (Kd.R Kd.string 9 (w23.setCell ⟨go9,(t7 : Int).toNat * 2,none⟩ (.string t14)) w.heap.size (fun _=>True) (.slice Ao22 y11.length co22) y11):=⟨by (with_reducible repeat (first | apply Kd.R_alloc | apply Kd.R_drewN | apply Kd.R_drew));exact Kd.R_mono (Kd.R_far (p:=⟨go9,(t7 : Int).toNat * 2,none⟩) (Kd.R_types HO13.out GG9.out (by decide)) (fun _ hk=>hk.2) (.string t14)) (fun _ hk=>trivial)⟩
    have n2_ : Aside0 ((w23.setCell ⟨go9,(t7 : Int).toNat * 2,none⟩ (.string t14)).heap[gb1]? = some (.cells #[.slice none 0 0] 25 (0,0))):=⟨by (with_reducible repeat (first | refine blk_drewN ?_ _ | refine blk_drew ?_ | refine blk_alloc ?_ _));refine blk_far ?_ (by have h_:=Kd.R_ne HO4.out BK1.out (by decide);intro e_;exact h_ (by rw [e_];rfl)) _;(with_reducible repeat (first | refine blk_drewN ?_ _ | refine blk_drew ?_ | refine blk_alloc ?_ _));exact BK1.out⟩
    have n3_ : Aside0 ((w23.setCell ⟨go9,(t7 : Int).toNat * 2,none⟩ (.string t14)).heap[gb6]? = some (.cells #[.slice (some ⟨go9,0,none⟩) t2.length co13] 25 (0,0))):=⟨by (with_reducible repeat (first | refine blk_drewN ?_ _ | refine blk_drew ?_ | refine blk_alloc ?_ _));refine blk_far ?_ (by have h_:=Kd.R_ne HO4.out BK6.out (by decide);intro e_;exact h_ (by rw [e_];rfl)) _;(with_reducible repeat (first | refine blk_drewN ?_ _ | refine blk_drew ?_ | refine blk_alloc ?_ _));exact BK6.out⟩
    have n4_ : Aside0 (IsS63 w0 (w23.setCell ⟨go9,(t7 : Int).toNat * 2,none⟩ (.string t14)) g s0_0 t15):=⟨is0_⟩
    have n5_ : Aside0 (KeepBut w (w23.setCell ⟨go9,(t7 : Int).toNat * 2,none⟩ (.string t14)) g none):=⟨hk_⟩
    have n6_ : Aside0 (Below w0.heap.size w0 (w23.setCell ⟨go9,(t7 : Int).toNat * 2,none⟩ (.string t14))):=⟨by repeat (first | (with_reducible first | exact HB.out | apply below_alloc | apply pw_below_drewN | apply below_drew1 | refine below_set ?_ (Nat.le_trans HL.out GB9.out) | refine below_set ?_ (IsS63.ge HI0.out) | refine below_set ?_ GE1.out | refine below_set ?_ GE6.out) | exact HB.out)⟩
    (try clear HO4)
    (try clear HO13)
    (try clear BK1)
    (try clear BK6)
    (try clear HI0)
    (try clear HK)
    (try clear HB)
    generalize (w23.setCell ⟨go9,(t7 : Int).toNat * 2,none⟩ (.string t14)) = w25 at n0_ n1_ n2_ n3_ n4_ n5_ n6_ ⊢
    have HO4:=n0_
    have HO13:=n1_
    have BK1:=n2_
    have BK6:=n3_
    have HI0:=n4_
    have HK:=n5_
    have HB:=n6_
    clear n0_ n1_ n2_ n3_ n4_ n5_ n6_
    have hcz26_0 : w25.cell? ⟨gb6,0,none⟩ = some (.slice (some ⟨go9,0,none⟩) t2.length co13):=(blk_cell BK6.out 0).trans rfl
    have hfz26_0:=blk_frozen BK6.out 0
    have hnb27:=NB1_0.out
    have hnc27:=NB0_1.out
    have hcz28_0 : w25.cell? ⟨gb1,0,none⟩ = some (.slice none 0 0):=(blk_cell BK1.out 0).trans rfl
    have hfz28_0:=blk_frozen BK1.out 0
    try go_wp2
    refine bodyPost_ret (results_cell_row rfl _ _ gb1 25 #[.slice (some ⟨go9,0,none⟩) t2.length co13] (0,0) _ rfl (by (with_reducible repeat (first | refine blk_drewN ?_ _ | refine blk_drew ?_ | refine blk_alloc ?_ _));refine blk_put (cs:=#[.slice none 0 0]) ?_ 0 _ rfl;(with_reducible repeat (first | refine blk_drewN ?_ _ | refine blk_drew ?_ | refine blk_alloc ?_ _));exact BK1.out) Try.underlying25 rfl (by kernel_rfl)) rfl ?_
    exact ⟨_,by first | rfl | (simp [errW_none,errW_some] <;> rfl) | (simp [*,errW_none,errW_some] <;> rfl),by (with_reducible repeat (first | apply Kd.R_alloc | apply Kd.R_drewN | apply Kd.R_drew));exact Kd.R_mono (Kd.R_far (p:=⟨gb1,0,none⟩) (Kd.R_types HO4.out BK1.out (by decide)) (fun _ hk=>hk.2) (.slice (some ⟨go9,0,none⟩) t2.length co13)) (fun _ hk=>trivial),is0_,hbi0_,hk_⟩
   ·rw [if_neg c8] at H
    exact absurd H (by simp)
  ·rw [if_neg c7] at H
   exact absurd H (by simp)
 ·rw [if_neg c5] at H
  have c5b0 : (t9 == 0) = false:=beq_eq_false_iff_ne.mpr c5
  have c5b1 : (t9 != 0) = true:=bne_iff_ne.mpr c5
  by_cases c29 : t9 = 1
  ·rw [if_pos c29] at H
   have c29b0 : (t9 == 1) = true:=beq_iff_eq.mpr c29
   have c29b1 : (t9 != 1) = false:=bne_eq_false_iff_eq.mpr c29
   clear c29
   obtain ⟨y17,hy17⟩ : ∃ y_ : List Int,y_ = (([t7,(-1),8,(-2)] : List Int)):=⟨_,rfl⟩
   replace H : ((spec_reader_one.f k s0_0 t10 y17).bind fun bt20=>(if 0 ≤ t7 then (if t7 < (t2.length : Int) then (some ((t2.set (t7 : Int).toNat (⟨(rd_T70 t2 t7).f0,bt20.1⟩ : S70)),bt20.2)) else (none)) else (none))) = some (r1,r2):=by first | (rw [hy17];with_reducible exact H) | (have H2_:=(Option.bind_some _ _).symm.trans H;rw [hy17];with_reducible exact H2_) | (have H2_:=(Option.bind_some _ _).symm.trans H;with_reducible exact H2_) | with_reducible exact H | (rw [hy17];exact H) | exact H
   have Ny17:=a0_ hy17
   clear hy17
   replace H:=Option.bind_eq_some_iff.mp H
   obtain ⟨⟨t20,t21⟩,A300,H⟩:=H
   try dsimp only at H
   have A30:=a0_ A300
   clear A300
   by_cases c31 : 0 ≤ t7
   ·rw [if_pos c31] at H
    have c31b0 : decide (0 ≤ t7) = true:=decide_eq_true c31
    clear c31
    by_cases c32 : t7 < (t2.length : Int)
    ·rw [if_pos c32] at H
     have c32b0 : decide (t7 < (t2.length : Int)) = true:=decide_eq_true c32
     clear c32
     obtain ⟨y22,hy22⟩ : ∃ y_ : List (S70),y_ = (t2.set (t7 : Int).toNat (⟨(rd_T70 t2 t7).f0,t20⟩ : S70)):=⟨_,rfl⟩
     replace H : (some (y22,t21)) = some (r1,r2):=by first | (rw [hy22];with_reducible exact H) | (have H2_:=(Option.bind_some _ _).symm.trans H;rw [hy22];with_reducible exact H2_) | (have H2_:=(Option.bind_some _ _).symm.trans H;with_reducible exact H2_) | with_reducible exact H | (rw [hy22];exact H) | exact H
     have Ny22:=a0_ hy22
     clear hy22
     simp only [Option.some.injEq,Prod.mk.injEq] at H
     obtain ⟨rfl,rfl⟩:=H
     go_enter Try.func37,Try.ntmps37
     try go_wp2_with (first | ((with_reducible refine gate_dst (N:=2) rfl ?_);refine box_event ?hg (N:=2) ?hd (cs:=#[.slice none 0 0]) (t:=25) ?hr ?_;(case hd=>rfl);(case hg=>rfl);(case hr=>first | (go_simp;done) | (go_simp;rfl));intro gb1 hg w34 hbox hb;have n0_:=a0_ (IsS63.below is0_ hb);have n1_:=a0_ (KeepBut.trans (w:=w) hk_ (KeepBut.of_below hb g none) (.inl rfl));have n2_:=a0_ (below_step hbi0_ hb);have n3_:=a0_ (hbox);have n4_:=a0_ ((by rw [hg];exact (keep_size (w:=w) (g:=g) (row:=none) hk_) : w.heap.size ≤ gb1));have n5_:=a0_ ((Nat.le_trans HW0.out (by rw [hg];exact (keep_size (w:=w) (g:=g) (row:=none) hk_) : w.heap.size ≤ gb1) : w0.heap.size ≤ gb1));have n6_:=a0_ ((by rw [hg];exact Nat.ne_of_lt (IsS63.lt (is0_ : IsS63 w0 _ g s0_0 s0_1)) : g ≠ gb1));have n7_:=a0_ ((by rw [hg];exact Nat.ne_of_gt (IsS63.lt (is0_ : IsS63 w0 _ g s0_0 s0_1)) : gb1 ≠ g));clear HI0 HK HB;have HI0:=n0_;have HK:=n1_;have HB:=n2_;have BK1:=n3_;have GW1:=n4_;have GE1:=n5_;have NB0_1:=n6_;have NB1_0:=n7_;clear n0_ n1_ n2_ n3_ n4_ n5_ n6_ n7_;clear hb hbox hg) | ((with_reducible refine gate_callee (f:=53) rfl ?_);refine goesL_ (some 6) rfl rfl Try.func53 (by kernel_rfl) rfl #[.pointer (some ⟨g,0,none⟩)] rfl lm_ ?_;(with_reducible refine (spec_goodTree.calls k g s0_0 s0_1 t2 t5 w0 _ ?side1 ?side2 A2.out).mono ?_);(case side1=>exact is0_);(case side2=>exact hbi0_);rintro e w35 ⟨v3,rfl,ho0,hi,hb,hk⟩;refine ⟨_,rfl,?_⟩;replace BK1:=kk_ hk BK1 NB1_0;have HO4:=a0_ (Kd.R_lower ho0 (keep_size (w:=w) (g:=g) (row:=none) hk_));replace HK:=a0_ (KeepBut.trans (w:=w) hk_ hk (.inl rfl));replace HI0:=a0_ (hi);replace HB:=a0_ (hb);(try clear hb);(try clear ho0)) | ((with_reducible refine gate_dst (N:=3) rfl ?_);refine box_event ?hg (N:=3) ?hd (cs:=#[.slice none 0 0]) (t:=25) ?hr ?_;(case hd=>rfl);(case hg=>rfl);(case hr=>first | (go_simp;done) | (go_simp;rfl));intro gb6 hg w36 hbox hb;have n0_:=rb_ HO4 hb;have n1_:=a0_ (IsS63.below is0_ hb);have n2_:=kb_ BK1 hb;have n3_:=a0_ (KeepBut.trans (w:=w) hk_ (KeepBut.of_below hb g none) (.inl rfl));have n4_:=a0_ (below_step hbi0_ hb);have n5_:=a0_ (hbox);have n6_:=a0_ ((by rw [hg];exact (keep_size (w:=w) (g:=g) (row:=none) hk_) : w.heap.size ≤ gb6));have n7_:=a0_ ((Nat.le_trans HW0.out (by rw [hg];exact (keep_size (w:=w) (g:=g) (row:=none) hk_) : w.heap.size ≤ gb6) : w0.heap.size ≤ gb6));have n8_:=a0_ ((by rw [hg];exact Nat.ne_of_lt (blk_lt (bb_ BK1.out)) : gb1 ≠ gb6));have n9_:=a0_ ((by rw [hg];exact Nat.ne_of_gt (blk_lt (bb_ BK1.out)) : gb6 ≠ gb1));have n10_:=a0_ ((by rw [hg];exact Nat.ne_of_lt (IsS63.lt (is0_ : IsS63 w0 _ g s0_0 t5)) : g ≠ gb6));have n11_:=a0_ ((by rw [hg];exact Nat.ne_of_gt (IsS63.lt (is0_ : IsS63 w0 _ g s0_0 t5)) : gb6 ≠ g));clear HO4 HI0;clear BK1 HK HB;have HO4:=n0_;have HI0:=n1_;have BK1:=n2_;have HK:=n3_;have HB:=n4_;have BK6:=n5_;have GW6:=n6_;have GE6:=n7_;have NB1_6:=n8_;have NB6_1:=n9_;have NB0_6:=n10_;have NB6_0:=n11_;clear n0_ n1_ n2_ n3_ n4_ n5_ n6_ n7_ n8_ n9_ n10_ n11_;clear hb hbox hg;obtain ⟨Ao37,co37,eo37⟩:=Kd.R_slice HO4.out;subst eo37;have hnb38:=NB6_1.out;have hnc38:=NB1_6.out;have hnb39:=NB6_0.out;have hnc39:=NB0_6.out;have hcz40_0 : w36.cell? ⟨gb6,0,none⟩ = some (.slice none 0 0):=(blk_cell BK6.out 0).trans rfl;have hfz40_0:=blk_frozen BK6.out 0) | ((with_reducible refine gate_callee (f:=28) rfl ?_);refine goesL_ (some 11) rfl rfl Try.func28 (by kernel_rfl) rfl #[.pointer (some ⟨g,0,none⟩),.int .i64 (t2.length : Int)] rfl lm_ ?_;(with_reducible refine (spec_reader_pick.calls k g s0_0 t5 (t2.length : Int) t7 t8 w0 _ ?side1 ?side2 A3.out).mono ?_);(case side1=>exact is0_);(case side2=>exact hbi0_);rintro e w41 ⟨rfl,hi,hb,hk⟩;refine ⟨_,rfl,?_⟩;replace BK1:=kk_ hk BK1 NB1_0;replace HO4:=a0_ (Kd.R_mono (Kd.R_keep (IsS63.apart (is0_ : IsS63 w0 _ g s0_0 t5) (by (with_reducible repeat (first | apply Kd.R_alloc | apply Kd.R_drewN | apply Kd.R_drew));exact (Kd.R_mono (Kd.R_far (p:=⟨gb6,0,none⟩) (Kd.R_types HO4.out BK6.out (by decide)) (fun _ hk=>hk.2) (.slice Ao37 t2.length co37)) (fun _ h_=>h_.1))) (by decide)) hk (fun _ h=>h.2)) (fun _ h=>h.1));replace BK6:=a0_ (KeepBut.blk hk (g':=gb6) (o:=.cells #[.slice Ao37 t2.length co37] 25 (0,0)) (by (with_reducible repeat (first | refine blk_drewN ?_ _ | refine blk_drew ?_ | refine blk_alloc ?_ _));refine blk_put (cs:=#[.slice none 0 0]) ?_ 0 _ rfl;(with_reducible repeat (first | refine blk_drewN ?_ _ | refine blk_drew ?_ | refine blk_alloc ?_ _));exact BK6.out) NB6_0.out (by simp));replace HK:=a0_ (KeepBut.trans (w:=w) hk_ hk (.inl rfl));replace HI0:=a0_ (hi);replace HB:=a0_ (hb);(try clear hb);(try clear hb2);(try clear hk);(try clear hi)) | ((with_reducible refine gate_callee (f:=28) rfl ?_);refine goesL_ (some 13) rfl rfl Try.func28 (by kernel_rfl) rfl #[.pointer (some ⟨g,0,none⟩),.int .i64 24] rfl lm_ ?_;(with_reducible refine (spec_reader_pick.calls k g s0_0 t8 24 t9 t10 w0 _ ?side1 ?side2 A4.out).mono ?_);(case side1=>exact is0_);(case side2=>exact hbi0_);rintro e w42 ⟨rfl,hi,hb,hk⟩;refine ⟨_,rfl,?_⟩;replace BK1:=kk_ hk BK1 NB1_0;replace HO4:=a0_ (Kd.R_mono (Kd.R_keep (IsS63.apart (is0_ : IsS63 w0 _ g s0_0 t8) (rr_ HO4.out) (by decide)) hk (fun _ h=>h.2)) (fun _ h=>h.1));replace BK6:=kk_ hk BK6 NB6_0;replace HK:=a0_ (KeepBut.trans (w:=w) hk_ hk (.inl rfl));replace HI0:=a0_ (hi);replace HB:=a0_ (hb);(try clear hb);(try clear hb2);(try clear hk);(try clear hi)))
     have n0_:=a0_ (Kd.R_drew HO4.out)
     have n1_:=a0_ (blk_drew BK1.out)
     have n2_:=a0_ (blk_drew BK6.out)
     have n3_:=a0_ (IsS63.drew HI0.out)
     have n4_:=a0_ (keep_drew HK.out)
     have n5_:=a0_ (below_drew1 HB.out)
     clear HO4
     clear BK1
     clear BK6
     clear HI0
     clear HK
     clear HB
     have HO4:=n0_
     have BK1:=n1_
     have BK6:=n2_
     have HI0:=n3_
     have HK:=n4_
     have HB:=n5_
     clear n0_ n1_ n2_ n3_ n4_ n5_
     refine start_ (n:=10) (S:=fun w'=>w'.cell? ⟨gb6,0,none⟩ = some (.slice Ao37 t2.length co37)) (ds:=[9]) #[false,false,false,false,false,false,false,false,false,false] (by kernel_rfl) rfl rfl ((blk_cell BK6.out 0).trans rfl) (fun hHeld=>?_);refine with_tabW spec_someTree.tab7 spec_someTree.bits7 (fun HT_ HW_=>?_)
     generalize w42.drew = w43 at HO4 BK1 BK6 HI0 HK HB hHeld ⊢
     refine pure_ (i:=0) (N:=some 26) (v:=?_) (a':=?_) #[true,false,false,false,false,false,false,false,false,false] rfl rfl (any_of HT_.out (by kernel_rfl)) (fun _ _ _ h=>h) (Or.inl ⟨by rfl,?_⟩) ?_ ?_
     rotate_left
     ·intro w'
      go_simp
      with_reducible rfl
     rotate_left
     ·simp only [Act.put,s1_,s2_,s3_,i64_w,i32_w]
      rfl
     refine pure_ (i:=2) (N:=some 28) (v:=?_) (a':=?_) #[true,false,true,false,false,false,false,false,false,false] rfl rfl (any_of HT_.out (by kernel_rfl)) (fun _ _ _ h=>h) (Or.inl ⟨by rfl,?_⟩) ?_ ?_
     rotate_left
     ·intro w'
      go_simp
      with_reducible rfl
     rotate_left
     ·simp only [Act.put,s1_,s2_,s3_,i64_w,i32_w]
      rfl
     refine pure_ (i:=3) (N:=some 29) (v:=?_) (a':=?_) #[true,false,true,true,false,false,false,false,false,false] rfl rfl (any_of HT_.out (by kernel_rfl)) (fun _ _ _ h=>h) (Or.inl ⟨by rfl,?_⟩) ?_ ?_
     rotate_left
     ·intro w'
      go_simp
      with_reducible rfl
     rotate_left
     ·simp only [Act.put,s1_,s2_,s3_,i64_w,i32_w]
      rfl
     refine pure_ (i:=4) (N:=some 30) (v:=?_) (a':=?_) #[true,false,true,true,true,false,false,false,false,false] rfl rfl (any_of HT_.out (by kernel_rfl)) (fun _ _ _ h=>h) (Or.inl ⟨by rfl,?_⟩) ?_ ?_
     rotate_left
     ·intro w'
      go_simp
      with_reducible rfl
     rotate_left
     ·simp only [Act.put,s1_,s2_,s3_,i64_w,i32_w]
      rfl
     refine take_ (i:=1) (N:=some 27) (v:=?_) (a':=?_) #[true,true,true,true,true,false,false,false,false,false] rfl rfl (take_ofW HT_.out HW_.out (by kernel_rfl)) (fun _ _ _ h=>h) (Or.inl ⟨by rfl,?_⟩) hHeld ?_ ?_
     rotate_left
     ·intro w' s0
      go_simp
      with_reducible rfl
     rotate_left
     ·simp only [Act.put,s1_,s2_,s3_,i64_w,i32_w]
      rfl
     refine one_ (i:=5) (N:=some 31) #[true,true,true,true,true,true,false,false,false,false] rfl rfl (one_of HT_.out (by kernel_rfl)) (by decide) (fun K hK=>?_)
     refine Kd.R_lit_step (Kd.int .i64) _ 3 ?hg (N:=31) ?hd (xs:=([t7,(-1),8,(-2)] : List Int)) (inner:=[.int .i64 t7,.int .i64 (-1),.int .i64 8,.int .i64 (-2)]) (ok:=fun _=>True) (okp:=fun _=>True) ?hr ?hp (fun _ hk=>hk) trivial (Below.refl _ _) (Nat.le_refl _) (by simp) ?_;(case hd=>rfl);(case hg=>rfl);(case hr=>first | (go_simp;done) | (go_simp;rfl));(case hp=>exact (Reps.one (show Kd.M (Kd.int .i64) _ _ _ t7 [.int .i64 t7] from rfl) (Reps.one (show Kd.M (Kd.int .i64) _ _ _ (-1) [.int .i64 (-1)] from rfl) (Reps.one (show Kd.M (Kd.int .i64) _ _ _ 8 [.int .i64 8] from rfl) (Reps.one (show Kd.M (Kd.int .i64) _ _ _ (-2) [.int .i64 (-2)] from rfl) (Reps.none _ _))))))
     intro v18 w44 ho45 hb hg_ hnew_
     clear hg_ hnew_
     (first | rw [← Ny17.out] at ho45 | (simp only [Int.reduceToNat] at ho45;rw [← Ny17.out] at ho45))
     have n0_:=rb_ HO4 hb
     have n1_:=a0_ (Kd.R_lower ho45 (keep_size (w:=w) (g:=g) (row:=none) hk_))
     have n2_:=a0_ (IsS63.below is0_ hb)
     have n3_:=kb_ BK1 hb
     have n4_:=kb_ BK6 hb
     have n5_:=a0_ (KeepBut.trans (w:=w) hk_ (KeepBut.of_below hb g none) (.inl rfl))
     have n6_:=a0_ (below_step hbi0_ hb)
     clear HO4
     clear HI0
     clear BK1
     clear BK6
     clear HK
     clear HB
     have HO4:=n0_
     have HO19:=n1_
     have HI0:=n2_
     have BK1:=n3_
     have BK6:=n4_
     have HK:=n5_
     have HB:=n6_
     clear n0_ n1_ n2_ n3_ n4_ n5_ n6_
     clear hb ho45
     obtain ⟨Ao46,co46,eo46⟩:=Kd.R_slice HO19.out
     (first | subst eo46 | (injection eo46 with f1_ f2_ f3_;have f4_:=f1_.symm;have f5_:=f3_.symm;clear f1_ f2_ f3_;subst f4_;subst f5_))
     refine hK.out _ _ ((blk_cell BK6.out 0).trans rfl) (fun hHeld=>?_)
     clear hK K
     refine norm_ (a':=?_) ?_ ?_
     rotate_left
     ·show Act.put _ (some 31) _ = _
      simp only [Act.put,s1_,s2_,s3_,i64_w,i32_w]
      rfl
     refine one_ (i:=6) (N:=some 32) #[true,true,true,true,true,true,true,false,false,false] rfl rfl (one_of HT_.out (by kernel_rfl)) (by decide) (fun K hK=>?_)
     refine goes_ Try.func31 (by kernel_rfl) rfl #[.pointer (some ⟨g,0,none⟩),.slice Ao46 y17.length co46] (by rfl) rfl rfl lm_ ?_
     with_reducible refine (spec_reader_one.calls k g s0_0 t10 _ _ y17 t20 t21 w0 _ ?side1 ?side2 ?side3 ?side4 ?side5 A30.out).mono ?_
     (case side1=>exact is0_)
     (case side2=>exact hbi0_)
     (case side3=>exact cc_ (Kd.R_reads' HO19.out).2.2)
     (case side4=>exact (Kd.R_reads' HO19.out).2.1)
     (case side5=>exact far_slice (IsS63.own_ne HI0.out HO19.out (by decide)))
     rintro e w47 ⟨rfl,hi,hb,hk⟩
     refine ⟨_,rfl,?_⟩
     have n0_:=kk_ hk BK1 NB1_0
     have n1_:=a0_ (Kd.R_mono (Kd.R_keep (IsS63.apart (is0_ : IsS63 w0 _ g s0_0 t10) (rr_ HO4.out) (by decide)) hk (fun _ h=>h.2)) (fun _ h=>h.1))
     have n2_:=kk_ hk BK6 NB6_0
     have n3_:=a0_ (Kd.R_mono (Kd.R_keep (IsS63.apart (is0_ : IsS63 w0 _ g s0_0 t10) (rr_ HO19.out) (by decide)) hk (fun _ h=>h.2)) (fun _ h=>h.1))
     have n4_:=a0_ (KeepBut.trans (w:=w) hk_ hk (.inl rfl))
     have n5_:=a0_ (hb)
     have n6_:=a0_ (hi)
     clear BK1
     clear HO4
     clear BK6
     clear HO19
     clear HK
     clear HB
     clear HI0
     have BK1:=n0_
     have HO4:=n1_
     have BK6:=n2_
     have HO19:=n3_
     have HK:=n4_
     have HB:=n5_
     have HI0:=n6_
     clear n0_ n1_ n2_ n3_ n4_ n5_ n6_
     (try clear hb)
     (try clear hb2)
     (try clear hk)
     (try clear hi)
     have p33 : 0 ≤ (t7 : Int):=of_decide_eq_true (by first | (with_reducible assumption) | assumption)
     have q33 : (t7 : Int) < ((t2.length : Int) : Int):=of_decide_eq_true (by first | (with_reducible assumption) | assumption)
     obtain ⟨go33,co33,eo33,gb33,gl33,cl33,HG33⟩:=Kd.R_form HO4.out (by omega)
     (first | cases eo33 | (injection eo33 with ea_ en_ ec_;(first | subst ea_ | (injection ea_ with ea_;subst ea_));subst ec_;clear en_))
     have GB33:=a0_ gb33
     have GG33:=a0_ HG33
     clear gb33 gl33 HG33
     obtain ⟨ce33,hcl33,hM33,hcc33,hfr33⟩:=Kd.R_elem HO4.out z70 (t7 : Int) p33 q33
     obtain rfl:=k70_openM hM33
     have hx33_0 : World.cell? _ ⟨go33,(t7 : Int).toNat * 2,none⟩ = some (.string ((rd_T70 t2 t7).f0)):=hcc33 0 _ rfl
     have hx33_1 : World.cell? _ ⟨go33,(t7 : Int).toNat * 2 + 1,none⟩ = some (.int .i64 ((rd_T70 t2 t7).f1)):=hcc33 1 _ rfl
     have hf33_0 : World.frozen? _ ⟨go33,(t7 : Int).toNat * 2,none⟩ = false:=hfr33 0
     have hf33_1 : World.frozen? _ ⟨go33,(t7 : Int).toNat * 2 + 1,none⟩ = false:=hfr33 1
     clear hcl33 hcc33 hfr33 hM33
     replace p33:=eq_true p33
     replace q33:=eq_true q33
     have HN0_go33:=a0_ (show g ≠ go33 from by have h_:=IsS63.own_ne HI0.out HO4.out (by decide);intro e_;exact h_ (by rw [e_];rfl))
     obtain ⟨ce48,hcl48,hM48,hcc48,hfr48⟩:=Kd.R_elem HO4.out z70 (t7 : Int) (of_decide_eq_true (by first | (with_reducible assumption) | assumption)) (by have h_ : (t7 : Int) < ((t2.length : Int) : Int):=of_decide_eq_true (by first | (with_reducible assumption) | assumption);first | exact h_ | (have e_:=(Kd.R_reads' HO4.out).1;omega) | simpa using h_)
     obtain rfl:=k70_openM hM48
     have HP48:=(Kd.R_seg HO4.out (t7 : Int) (of_decide_eq_true (by first | (with_reducible assumption) | assumption)) (by have h_ : (t7 : Int) < ((t2.length : Int) : Int):=of_decide_eq_true (by first | (with_reducible assumption) | assumption);first | exact h_ | (have e_:=(Kd.R_reads' HO4.out).1;omega) | simpa using h_) (seg:=[.int .i64 t20]) (j:=1) hcl48 hcc48 (show 2 ≤ 2 from by decide) (x':=(⟨(rd_T70 t2 t7).f0,t20⟩ : S70)) (k70_mkM _ _ _ (⟨(rd_T70 t2 t7).f0,t20⟩ : S70) ) (fun _ hk=>hk)).1
     rw [← Ny22.out] at HP48
     have HQ48:=a0_ HP48
     clear hcl48 hcc48 hfr48 hM48 HP48
     refine hK.out _ _ ((blk_cell BK6.out 0).trans rfl) (fun hHeld=>?_)
     clear hK K
     refine norm_ (a':=?_) ?_ ?_
     rotate_left
     ·show Act.put _ (some 32) _ = _
      simp only [Act.put,s1_,s2_,s3_,i64_w,i32_w]
      rfl
     refine pure_ (i:=7) (N:=some 33) (v:=?_) (a':=?_) #[true,true,true,true,true,true,true,true,false,false] rfl rfl (any_of HT_.out (by kernel_rfl)) (fun _ _ _ h=>h) (Or.inl ⟨by rfl,?_⟩) ?_ ?_
     rotate_left
     ·intro w'
      go_simp
      with_reducible rfl
     rotate_left
     ·simp only [Act.put,s1_,s2_,s3_,i64_w,i32_w]
      rfl
     refine pure_ (i:=8) (N:=some 34) (v:=?_) (a':=?_) #[true,true,true,true,true,true,true,true,true,false] rfl rfl (any_of HT_.out (by kernel_rfl)) (fun _ _ _ h=>h) (Or.inl ⟨by rfl,?_⟩) ?_ ?_
     rotate_left
     ·intro w'
      go_simp
      with_reducible rfl
     rotate_left
     ·simp only [Act.put,s1_,s2_,s3_,i64_w,i32_w]
      rfl
     refine last_ (i:=9) (N:=none) #[true,true,true,true,true,true,true,true,true,true] rfl rfl (one_of HT_.out (by kernel_rfl)) (by decide) (fun K hK=>?_)
     refine skip_ (w1:=?_) (by rfl) rfl ?_ ?_
     rotate_left
     ·go_simp
      rfl
     refine hK.out _ _ ?_
     clear hK K
     refine done_ (done_of HT_.out (by kernel_rfl)) ?_
     have n0_ : Aside0 (Kd.R k70 70 (w47.setCell ⟨go33,(t7 : Int).toNat * 2 + 1,none⟩ (.int .i64 t20)) w.heap.size (fun _=>True) (.slice (some ⟨go33,0,none⟩) t2.length co37) y22):=⟨by (with_reducible repeat (first | apply Kd.R_alloc | apply Kd.R_drewN | apply Kd.R_drew));exact HQ48.out⟩
     have n1_ : Aside0 (Kd.R (Kd.int .i64) 3 (w47.setCell ⟨go33,(t7 : Int).toNat * 2 + 1,none⟩ (.int .i64 t20)) w.heap.size (fun _=>True) (.slice Ao46 y17.length co46) y17):=⟨by (with_reducible repeat (first | apply Kd.R_alloc | apply Kd.R_drewN | apply Kd.R_drew));exact Kd.R_mono (Kd.R_far (p:=⟨go33,(t7 : Int).toNat * 2 + 1,none⟩) (Kd.R_types HO19.out GG33.out (by decide)) (fun _ hk=>hk.2) (.int .i64 t20)) (fun _ hk=>trivial)⟩
     have n2_ : Aside0 ((w47.setCell ⟨go33,(t7 : Int).toNat * 2 + 1,none⟩ (.int .i64 t20)).heap[gb1]? = some (.cells #[.slice none 0 0] 25 (0,0))):=⟨by (with_reducible repeat (first | refine blk_drewN ?_ _ | refine blk_drew ?_ | refine blk_alloc ?_ _));refine blk_far ?_ (by have h_:=Kd.R_ne HO4.out BK1.out (by decide);intro e_;exact h_ (by rw [e_];rfl)) _;(with_reducible repeat (first | refine blk_drewN ?_ _ | refine blk_drew ?_ | refine blk_alloc ?_ _));exact BK1.out⟩
     have n3_ : Aside0 ((w47.setCell ⟨go33,(t7 : Int).toNat * 2 + 1,none⟩ (.int .i64 t20)).heap[gb6]? = some (.cells #[.slice (some ⟨go33,0,none⟩) t2.length co37] 25 (0,0))):=⟨by (with_reducible repeat (first | refine blk_drewN ?_ _ | refine blk_drew ?_ | refine blk_alloc ?_ _));refine blk_far ?_ (by have h_:=Kd.R_ne HO4.out BK6.out (by decide);intro e_;exact h_ (by rw [e_];rfl)) _;(with_reducible repeat (first | refine blk_drewN ?_ _ | refine blk_drew ?_ | refine blk_alloc ?_ _));exact BK6.out⟩
     have n4_ : Aside0 (IsS63 w0 (w47.setCell ⟨go33,(t7 : Int).toNat * 2 + 1,none⟩ (.int .i64 t20)) g s0_0 t21):=⟨is0_⟩
     have n5_ : Aside0 (KeepBut w (w47.setCell ⟨go33,(t7 : Int).toNat * 2 + 1,none⟩ (.int .i64 t20)) g none):=⟨hk_⟩
     have n6_ : Aside0 (Below w0.heap.size w0 (w47.setCell ⟨go33,(t7 : Int).toNat * 2 + 1,none⟩ (.int .i64 t20))):=⟨by repeat (first | (with_reducible first | exact HB.out | apply below_alloc | apply pw_below_drewN | apply below_drew1 | refine below_set ?_ (Nat.le_trans HL.out GB33.out) | refine below_set ?_ (IsS63.ge HI0.out) | refine below_set ?_ GE1.out | refine below_set ?_ GE6.out) | exact HB.out)⟩
     (try clear HO4)
     (try clear HO19)
     (try clear BK1)
     (try clear BK6)
     (try clear HI0)
     (try clear HK)
     (try clear HB)
     generalize (w47.setCell ⟨go33,(t7 : Int).toNat * 2 + 1,none⟩ (.int .i64 t20)) = w49 at n0_ n1_ n2_ n3_ n4_ n5_ n6_ ⊢
     have HO4:=n0_
     have HO19:=n1_
     have BK1:=n2_
     have BK6:=n3_
     have HI0:=n4_
     have HK:=n5_
     have HB:=n6_
     clear n0_ n1_ n2_ n3_ n4_ n5_ n6_
     have hcz50_0 : w49.cell? ⟨gb6,0,none⟩ = some (.slice (some ⟨go33,0,none⟩) t2.length co37):=(blk_cell BK6.out 0).trans rfl
     have hfz50_0:=blk_frozen BK6.out 0
     have hnb51:=NB1_0.out
     have hnc51:=NB0_1.out
     have hcz52_0 : w49.cell? ⟨gb1,0,none⟩ = some (.slice none 0 0):=(blk_cell BK1.out 0).trans rfl
     have hfz52_0:=blk_frozen BK1.out 0
     try go_wp2
     refine bodyPost_ret (results_cell_row rfl _ _ gb1 25 #[.slice (some ⟨go33,0,none⟩) t2.length co37] (0,0) _ rfl (by (with_reducible repeat (first | refine blk_drewN ?_ _ | refine blk_drew ?_ | refine blk_alloc ?_ _));refine blk_put (cs:=#[.slice none 0 0]) ?_ 0 _ rfl;(with_reducible repeat (first | refine blk_drewN ?_ _ | refine blk_drew ?_ | refine blk_alloc ?_ _));exact BK1.out) Try.underlying25 rfl (by kernel_rfl)) rfl ?_
     exact ⟨_,by first | rfl | (simp [errW_none,errW_some] <;> rfl) | (simp [*,errW_none,errW_some] <;> rfl),by (with_reducible repeat (first | apply Kd.R_alloc | apply Kd.R_drewN | apply Kd.R_drew));exact Kd.R_mono (Kd.R_far (p:=⟨gb1,0,none⟩) (Kd.R_types HO4.out BK1.out (by decide)) (fun _ hk=>hk.2) (.slice (some ⟨go33,0,none⟩) t2.length co37)) (fun _ hk=>trivial),is0_,hbi0_,hk_⟩
    ·rw [if_neg c32] at H
     exact absurd H (by simp)
   ·rw [if_neg c31] at H
    exact absurd H (by simp)
  ·rw [if_neg c29] at H
   have c29b0 : (t9 == 1) = false:=beq_eq_false_iff_ne.mpr c29
   have c29b1 : (t9 != 1) = true:=bne_iff_ne.mpr c29
   by_cases c53 : t9 = 2
   ·rw [if_pos c53] at H
    have c53b0 : (t9 == 2) = true:=beq_iff_eq.mpr c53
    have c53b1 : (t9 != 2) = false:=bne_eq_false_iff_eq.mpr c53
    clear c53
    simp only [Option.some.injEq,Prod.mk.injEq] at H
    obtain ⟨rfl,rfl⟩:=H
    go_enter Try.func37,Try.ntmps37
    go_wp2_with (first | ((with_reducible refine gate_dst (N:=2) rfl ?_);refine box_event ?hg (N:=2) ?hd (cs:=#[.slice none 0 0]) (t:=25) ?hr ?_;(case hd=>rfl);(case hg=>rfl);(case hr=>first | (go_simp;done) | (go_simp;rfl));intro gb1 hg w54 hbox hb;have n0_:=a0_ (IsS63.below is0_ hb);have n1_:=a0_ (KeepBut.trans (w:=w) hk_ (KeepBut.of_below hb g none) (.inl rfl));have n2_:=a0_ (below_step hbi0_ hb);have n3_:=a0_ (hbox);have n4_:=a0_ ((by rw [hg];exact (keep_size (w:=w) (g:=g) (row:=none) hk_) : w.heap.size ≤ gb1));have n5_:=a0_ ((Nat.le_trans HW0.out (by rw [hg];exact (keep_size (w:=w) (g:=g) (row:=none) hk_) : w.heap.size ≤ gb1) : w0.heap.size ≤ gb1));have n6_:=a0_ ((by rw [hg];exact Nat.ne_of_lt (IsS63.lt (is0_ : IsS63 w0 _ g s0_0 s0_1)) : g ≠ gb1));have n7_:=a0_ ((by rw [hg];exact Nat.ne_of_gt (IsS63.lt (is0_ : IsS63 w0 _ g s0_0 s0_1)) : gb1 ≠ g));clear HI0 HK HB;have HI0:=n0_;have HK:=n1_;have HB:=n2_;have BK1:=n3_;have GW1:=n4_;have GE1:=n5_;have NB0_1:=n6_;have NB1_0:=n7_;clear n0_ n1_ n2_ n3_ n4_ n5_ n6_ n7_;clear hb hbox hg) | ((with_reducible refine gate_callee (f:=53) rfl ?_);refine goesL_ (some 6) rfl rfl Try.func53 (by kernel_rfl) rfl #[.pointer (some ⟨g,0,none⟩)] rfl lm_ ?_;(with_reducible refine (spec_goodTree.calls k g s0_0 s0_1 t2 t5 w0 _ ?side1 ?side2 A2.out).mono ?_);(case side1=>exact is0_);(case side2=>exact hbi0_);rintro e w55 ⟨v3,rfl,ho0,hi,hb,hk⟩;refine ⟨_,rfl,?_⟩;replace BK1:=kk_ hk BK1 NB1_0;have HO4:=a0_ (Kd.R_lower ho0 (keep_size (w:=w) (g:=g) (row:=none) hk_));replace HK:=a0_ (KeepBut.trans (w:=w) hk_ hk (.inl rfl));replace HI0:=a0_ (hi);replace HB:=a0_ (hb);(try clear hb);(try clear ho0)) | ((with_reducible refine gate_dst (N:=3) rfl ?_);refine box_event ?hg (N:=3) ?hd (cs:=#[.slice none 0 0]) (t:=25) ?hr ?_;(case hd=>rfl);(case hg=>rfl);(case hr=>first | (go_simp;done) | (go_simp;rfl));intro gb6 hg w56 hbox hb;have n0_:=rb_ HO4 hb;have n1_:=a0_ (IsS63.below is0_ hb);have n2_:=kb_ BK1 hb;have n3_:=a0_ (KeepBut.trans (w:=w) hk_ (KeepBut.of_below hb g none) (.inl rfl));have n4_:=a0_ (below_step hbi0_ hb);have n5_:=a0_ (hbox);have n6_:=a0_ ((by rw [hg];exact (keep_size (w:=w) (g:=g) (row:=none) hk_) : w.heap.size ≤ gb6));have n7_:=a0_ ((Nat.le_trans HW0.out (by rw [hg];exact (keep_size (w:=w) (g:=g) (row:=none) hk_) : w.heap.size ≤ gb6) : w0.heap.size ≤ gb6));have n8_:=a0_ ((by rw [hg];exact Nat.ne_of_lt (blk_lt (bb_ BK1.out)) : gb1 ≠ gb6));have n9_:=a0_ ((by rw [hg];exact Nat.ne_of_gt (blk_lt (bb_ BK1.out)) : gb6 ≠ gb1));have n10_:=a0_ ((by rw [hg];exact Nat.ne_of_lt (IsS63.lt (is0_ : IsS63 w0 _ g s0_0 t5)) : g ≠ gb6));have n11_:=a0_ ((by rw [hg];exact Nat.ne_of_gt (IsS63.lt (is0_ : IsS63 w0 _ g s0_0 t5)) : gb6 ≠ g));clear HO4 HI0;clear BK1 HK HB;have HO4:=n0_;have HI0:=n1_;have BK1:=n2_;have HK:=n3_;have HB:=n4_;have BK6:=n5_;have GW6:=n6_;have GE6:=n7_;have NB1_6:=n8_;have NB6_1:=n9_;have NB0_6:=n10_;have NB6_0:=n11_;clear n0_ n1_ n2_ n3_ n4_ n5_ n6_ n7_ n8_ n9_ n10_ n11_;clear hb hbox hg;obtain ⟨Ao57,co57,eo57⟩:=Kd.R_slice HO4.out;subst eo57;have hnb58:=NB6_1.out;have hnc58:=NB1_6.out;have hnb59:=NB6_0.out;have hnc59:=NB0_6.out;have hcz60_0 : w56.cell? ⟨gb6,0,none⟩ = some (.slice none 0 0):=(blk_cell BK6.out 0).trans rfl;have hfz60_0:=blk_frozen BK6.out 0) | ((with_reducible refine gate_callee (f:=28) rfl ?_);refine goesL_ (some 11) rfl rfl Try.func28 (by kernel_rfl) rfl #[.pointer (some ⟨g,0,none⟩),.int .i64 (t2.length : Int)] rfl lm_ ?_;(with_reducible refine (spec_reader_pick.calls k g s0_0 t5 (t2.length : Int) t7 t8 w0 _ ?side1 ?side2 A3.out).mono ?_);(case side1=>exact is0_);(case side2=>exact hbi0_);rintro e w61 ⟨rfl,hi,hb,hk⟩;refine ⟨_,rfl,?_⟩;replace BK1:=kk_ hk BK1 NB1_0;replace HO4:=a0_ (Kd.R_mono (Kd.R_keep (IsS63.apart (is0_ : IsS63 w0 _ g s0_0 t5) (by (with_reducible repeat (first | apply Kd.R_alloc | apply Kd.R_drewN | apply Kd.R_drew));exact (Kd.R_mono (Kd.R_far (p:=⟨gb6,0,none⟩) (Kd.R_types HO4.out BK6.out (by decide)) (fun _ hk=>hk.2) (.slice Ao57 t2.length co57)) (fun _ h_=>h_.1))) (by decide)) hk (fun _ h=>h.2)) (fun _ h=>h.1));replace BK6:=a0_ (KeepBut.blk hk (g':=gb6) (o:=.cells #[.slice Ao57 t2.length co57] 25 (0,0)) (by (with_reducible repeat (first | refine blk_drewN ?_ _ | refine blk_drew ?_ | refine blk_alloc ?_ _));refine blk_put (cs:=#[.slice none 0 0]) ?_ 0 _ rfl;(with_reducible repeat (first | refine blk_drewN ?_ _ | refine blk_drew ?_ | refine blk_alloc ?_ _));exact BK6.out) NB6_0.out (by simp));replace HK:=a0_ (KeepBut.trans (w:=w) hk_ hk (.inl rfl));replace HI0:=a0_ (hi);replace HB:=a0_ (hb);(try clear hb);(try clear hb2);(try clear hk);(try clear hi)) | ((with_reducible refine gate_callee (f:=28) rfl ?_);refine goesL_ (some 13) rfl rfl Try.func28 (by kernel_rfl) rfl #[.pointer (some ⟨g,0,none⟩),.int .i64 24] rfl lm_ ?_;(with_reducible refine (spec_reader_pick.calls k g s0_0 t8 24 t9 t10 w0 _ ?side1 ?side2 A4.out).mono ?_);(case side1=>exact is0_);(case side2=>exact hbi0_);rintro e w62 ⟨rfl,hi,hb,hk⟩;refine ⟨_,rfl,?_⟩;replace BK1:=kk_ hk BK1 NB1_0;replace HO4:=a0_ (Kd.R_mono (Kd.R_keep (IsS63.apart (is0_ : IsS63 w0 _ g s0_0 t8) (rr_ HO4.out) (by decide)) hk (fun _ h=>h.2)) (fun _ h=>h.1));replace BK6:=kk_ hk BK6 NB6_0;replace HK:=a0_ (KeepBut.trans (w:=w) hk_ hk (.inl rfl));replace HI0:=a0_ (hi);replace HB:=a0_ (hb);(try clear hb);have hnb63:=NB1_0.out;have hnc63:=NB0_1.out;have hcz64_0 : w62.cell? ⟨gb1,0,none⟩ = some (.slice none 0 0):=(blk_cell BK1.out 0).trans rfl;have hfz64_0:=blk_frozen BK1.out 0))
    refine bodyPost_ret (results_cell_row rfl _ _ gb1 25 #[.slice none 0 0] (0,0) _ rfl (by (with_reducible repeat (first | refine blk_drewN ?_ _ | refine blk_drew ?_ | refine blk_alloc ?_ _));refine blk_put (cs:=#[.slice none 0 0]) ?_ 0 _ rfl;(with_reducible repeat (first | refine blk_drewN ?_ _ | refine blk_drew ?_ | refine blk_alloc ?_ _));exact BK1.out) Try.underlying25 rfl (by kernel_rfl)) rfl ?_
    exact ⟨_,by first | rfl | (simp [errW_none,errW_some] <;> rfl) | (simp [*,errW_none,errW_some] <;> rfl),by first | exact Kd.R_nil _ _ _ _ _ | exact Kd.N_nil _ _ _ _ _ | exact Kd.V_nil _ _ _ _ _ | exact Kd.Q_nil _ _ _ _ _ | exact Kd.S_nil _ _ _ _ _,is0_,hbi0_,hk_⟩
   ·rw [if_neg c53] at H
    have c53b0 : (t9 == 2) = false:=beq_eq_false_iff_ne.mpr c53
    have c53b1 : (t9 != 2) = true:=bne_iff_ne.mpr c53
    simp only [Option.some.injEq,Prod.mk.injEq] at H
    obtain ⟨rfl,rfl⟩:=H
    go_enter Try.func37,Try.ntmps37
    go_wp2_with (first | ((with_reducible refine gate_dst (N:=2) rfl ?_);refine box_event ?hg (N:=2) ?hd (cs:=#[.slice none 0 0]) (t:=25) ?hr ?_;(case hd=>rfl);(case hg=>rfl);(case hr=>first | (go_simp;done) | (go_simp;rfl));intro gb1 hg w65 hbox hb;have n0_:=a0_ (IsS63.below is0_ hb);have n1_:=a0_ (KeepBut.trans (w:=w) hk_ (KeepBut.of_below hb g none) (.inl rfl));have n2_:=a0_ (below_step hbi0_ hb);have n3_:=a0_ (hbox);have n4_:=a0_ ((by rw [hg];exact (keep_size (w:=w) (g:=g) (row:=none) hk_) : w.heap.size ≤ gb1));have n5_:=a0_ ((Nat.le_trans HW0.out (by rw [hg];exact (keep_size (w:=w) (g:=g) (row:=none) hk_) : w.heap.size ≤ gb1) : w0.heap.size ≤ gb1));have n6_:=a0_ ((by rw [hg];exact Nat.ne_of_lt (IsS63.lt (is0_ : IsS63 w0 _ g s0_0 s0_1)) : g ≠ gb1));have n7_:=a0_ ((by rw [hg];exact Nat.ne_of_gt (IsS63.lt (is0_ : IsS63 w0 _ g s0_0 s0_1)) : gb1 ≠ g));clear HI0 HK HB;have HI0:=n0_;have HK:=n1_;have HB:=n2_;have BK1:=n3_;have GW1:=n4_;have GE1:=n5_;have NB0_1:=n6_;have NB1_0:=n7_;clear n0_ n1_ n2_ n3_ n4_ n5_ n6_ n7_;clear hb hbox hg) | ((with_reducible refine gate_callee (f:=53) rfl ?_);refine goesL_ (some 6) rfl rfl Try.func53 (by kernel_rfl) rfl #[.pointer (some ⟨g,0,none⟩)] rfl lm_ ?_;(with_reducible refine (spec_goodTree.calls k g s0_0 s0_1 t2 t5 w0 _ ?side1 ?side2 A2.out).mono ?_);(case side1=>exact is0_);(case side2=>exact hbi0_);rintro e w66 ⟨v3,rfl,ho0,hi,hb,hk⟩;refine ⟨_,rfl,?_⟩;replace BK1:=kk_ hk BK1 NB1_0;have HO4:=a0_ (Kd.R_lower ho0 (keep_size (w:=w) (g:=g) (row:=none) hk_));replace HK:=a0_ (KeepBut.trans (w:=w) hk_ hk (.inl rfl));replace HI0:=a0_ (hi);replace HB:=a0_ (hb);(try clear hb);(try clear ho0)) | ((with_reducible refine gate_dst (N:=3) rfl ?_);refine box_event ?hg (N:=3) ?hd (cs:=#[.slice none 0 0]) (t:=25) ?hr ?_;(case hd=>rfl);(case hg=>rfl);(case hr=>first | (go_simp;done) | (go_simp;rfl));intro gb6 hg w67 hbox hb;have n0_:=rb_ HO4 hb;have n1_:=a0_ (IsS63.below is0_ hb);have n2_:=kb_ BK1 hb;have n3_:=a0_ (KeepBut.trans (w:=w) hk_ (KeepBut.of_below hb g none) (.inl rfl));have n4_:=a0_ (below_step hbi0_ hb);have n5_:=a0_ (hbox);have n6_:=a0_ ((by rw [hg];exact (keep_size (w:=w) (g:=g) (row:=none) hk_) : w.heap.size ≤ gb6));have n7_:=a0_ ((Nat.le_trans HW0.out (by rw [hg];exact (keep_size (w:=w) (g:=g) (row:=none) hk_) : w.heap.size ≤ gb6) : w0.heap.size ≤ gb6));have n8_:=a0_ ((by rw [hg];exact Nat.ne_of_lt (blk_lt (bb_ BK1.out)) : gb1 ≠ gb6));have n9_:=a0_ ((by rw [hg];exact Nat.ne_of_gt (blk_lt (bb_ BK1.out)) : gb6 ≠ gb1));have n10_:=a0_ ((by rw [hg];exact Nat.ne_of_lt (IsS63.lt (is0_ : IsS63 w0 _ g s0_0 t5)) : g ≠ gb6));have n11_:=a0_ ((by rw [hg];exact Nat.ne_of_gt (IsS63.lt (is0_ : IsS63 w0 _ g s0_0 t5)) : gb6 ≠ g));clear HO4 HI0;clear BK1 HK HB;have HO4:=n0_;have HI0:=n1_;have BK1:=n2_;have HK:=n3_;have HB:=n4_;have BK6:=n5_;have GW6:=n6_;have GE6:=n7_;have NB1_6:=n8_;have NB6_1:=n9_;have NB0_6:=n10_;have NB6_0:=n11_;clear n0_ n1_ n2_ n3_ n4_ n5_ n6_ n7_ n8_ n9_ n10_ n11_;clear hb hbox hg;obtain ⟨Ao68,co68,eo68⟩:=Kd.R_slice HO4.out;subst eo68;have hnb69:=NB6_1.out;have hnc69:=NB1_6.out;have hnb70:=NB6_0.out;have hnc70:=NB0_6.out;have hcz71_0 : w67.cell? ⟨gb6,0,none⟩ = some (.slice none 0 0):=(blk_cell BK6.out 0).trans rfl;have hfz71_0:=blk_frozen BK6.out 0) | ((with_reducible refine gate_callee (f:=28) rfl ?_);refine goesL_ (some 11) rfl rfl Try.func28 (by kernel_rfl) rfl #[.pointer (some ⟨g,0,none⟩),.int .i64 (t2.length : Int)] rfl lm_ ?_;(with_reducible refine (spec_reader_pick.calls k g s0_0 t5 (t2.length : Int) t7 t8 w0 _ ?side1 ?side2 A3.out).mono ?_);(case side1=>exact is0_);(case side2=>exact hbi0_);rintro e w72 ⟨rfl,hi,hb,hk⟩;refine ⟨_,rfl,?_⟩;replace BK1:=kk_ hk BK1 NB1_0;replace HO4:=a0_ (Kd.R_mono (Kd.R_keep (IsS63.apart (is0_ : IsS63 w0 _ g s0_0 t5) (by (with_reducible repeat (first | apply Kd.R_alloc | apply Kd.R_drewN | apply Kd.R_drew));exact (Kd.R_mono (Kd.R_far (p:=⟨gb6,0,none⟩) (Kd.R_types HO4.out BK6.out (by decide)) (fun _ hk=>hk.2) (.slice Ao68 t2.length co68)) (fun _ h_=>h_.1))) (by decide)) hk (fun _ h=>h.2)) (fun _ h=>h.1));replace BK6:=a0_ (KeepBut.blk hk (g':=gb6) (o:=.cells #[.slice Ao68 t2.length co68] 25 (0,0)) (by (with_reducible repeat (first | refine blk_drewN ?_ _ | refine blk_drew ?_ | refine blk_alloc ?_ _));refine blk_put (cs:=#[.slice none 0 0]) ?_ 0 _ rfl;(with_reducible repeat (first | refine blk_drewN ?_ _ | refine blk_drew ?_ | refine blk_alloc ?_ _));exact BK6.out) NB6_0.out (by simp));replace HK:=a0_ (KeepBut.trans (w:=w) hk_ hk (.inl rfl));replace HI0:=a0_ (hi);replace HB:=a0_ (hb);(try clear hb);(try clear hb2);(try clear hk);(try clear hi)) | ((with_reducible refine gate_callee (f:=28) rfl ?_);refine goesL_ (some 13) rfl rfl Try.func28 (by kernel_rfl) rfl #[.pointer (some ⟨g,0,none⟩),.int .i64 24] rfl lm_ ?_;(with_reducible refine (spec_reader_pick.calls k g s0_0 t8 24 t9 t10 w0 _ ?side1 ?side2 A4.out).mono ?_);(case side1=>exact is0_);(case side2=>exact hbi0_);rintro e w73 ⟨rfl,hi,hb,hk⟩;refine ⟨_,rfl,?_⟩;replace BK1:=kk_ hk BK1 NB1_0;replace HO4:=a0_ (Kd.R_mono (Kd.R_keep (IsS63.apart (is0_ : IsS63 w0 _ g s0_0 t8) (rr_ HO4.out) (by decide)) hk (fun _ h=>h.2)) (fun _ h=>h.1));replace BK6:=kk_ hk BK6 NB6_0;replace HK:=a0_ (KeepBut.trans (w:=w) hk_ hk (.inl rfl));replace HI0:=a0_ (hi);replace HB:=a0_ (hb);(try clear hb);have hcz74_0 : w73.cell? ⟨gb6,0,none⟩ = some (.slice Ao68 t2.length co68):=(blk_cell BK6.out 0).trans rfl;have hfz74_0:=blk_frozen BK6.out 0;have hnb75:=NB1_0.out;have hnc75:=NB0_1.out;have hcz76_0 : w73.cell? ⟨gb1,0,none⟩ = some (.slice none 0 0):=(blk_cell BK1.out 0).trans rfl;have hfz76_0:=blk_frozen BK1.out 0))
    refine bodyPost_ret (results_cell_row rfl _ _ gb1 25 #[.slice Ao68 t2.length co68] (0,0) _ rfl (by (with_reducible repeat (first | refine blk_drewN ?_ _ | refine blk_drew ?_ | refine blk_alloc ?_ _));refine blk_put (cs:=#[.slice none 0 0]) ?_ 0 _ rfl;(with_reducible repeat (first | refine blk_drewN ?_ _ | refine blk_drew ?_ | refine blk_alloc ?_ _));exact BK1.out) Try.underlying25 rfl (by kernel_rfl)) rfl ?_
    exact ⟨_,by first | rfl | (simp [errW_none,errW_some] <;> rfl) | (simp [*,errW_none,errW_some] <;> rfl),by (with_reducible repeat (first | apply Kd.R_alloc | apply Kd.R_drewN | apply Kd.R_drew));exact Kd.R_mono (Kd.R_far (p:=⟨gb1,0,none⟩) (Kd.R_types HO4.out BK1.out (by decide)) (fun _ hk=>hk.2) (.slice Ao68 t2.length co68)) (fun _ hk=>trivial),is0_,hbi0_,hk_⟩
theorem spec_someTree_ev (b : List Int) (p : Int) (hb : byL b) (h0 : 0 ≤ p) (hp : p ≤ 1099511626000) : ∃ t q,Ev (fun k=>spec_someTree.f k b p) (t,q) ∧ p ≤ q ∧ q ≤ p + 23 ∧ t.length ≤ 8 ∧ ∀ x ∈ t,x.f0.size ≤ 7:=by
 obtain ⟨t,q,ht,h1,h2,h3,h4,hg⟩:=spec_goodTree_ev b p hb h0 (by omega)
 obtain ⟨x,hx,x0,x1,_⟩:=spec_pick_ev b q (t.length : Int) hb (by omega) (by omega)
 have hxi:=x1 (by omega)
 obtain ⟨y,hy,y0,y1,_⟩:=spec_pick_ev b (q + 1) 24 hb (by omega) (by omega)
 by_cases c0 : y = 0
 ·obtain ⟨s,hs,hsm⟩:=spec_of_ev b (q + 1 + 1) [(⟨#[]⟩ : ByteArray),(⟨#[97,110,121]⟩ : ByteArray),(⟨#[65]⟩ : ByteArray),(⟨#[116,111,111,108,111,110,103]⟩ : ByteArray)] hb (by omega) (by omega) (by simp)
  have hsz : s.size ≤ 7:=by
   simp only [List.mem_cons,List.not_mem_nil,or_false] at hsm
   rcases hsm with rfl | rfl | rfl | rfl <;> decide
  refine ⟨_,_,Ev.bind ht (Ev.bind hx (Ev.bind hy (Ev.pos c0 (Ev.bind hs (Ev.pos x0 (Ev.pos hxi (Ev.const rfl))))))),by omega,by omega,by rw [List.length_set];exact h4,fun z hz=>?_⟩
  rcases set_mem hz with rfl | hz
  ·exact hsz
  ·exact hg.1 z hz
 by_cases c1 : y = 1
 ·obtain ⟨s,hs,hsm⟩:=spec_one_ev b (q + 1 + 1) [x,(-1),8,(-2)] hb (by omega) (by omega) (by simp)
  refine ⟨_,_,Ev.bind ht (Ev.bind hx (Ev.bind hy (Ev.neg c0 (Ev.pos c1 (Ev.bind hs (Ev.pos x0 (Ev.pos hxi (Ev.const rfl)))))))),by omega,by omega,by rw [List.length_set];exact h4,fun z hz=>?_⟩
  rcases set_mem hz with rfl | hz
  ·refine hg.1 (rd_T70 t x) ?_
   unfold rd_T70
   rw [List.getD_eq_getElem?_getD,List.getElem?_eq_getElem (show x.toNat < t.length by omega)]
   exact List.getElem_mem _
  ·exact hg.1 z hz
 by_cases c2 : y = 2
 ·exact ⟨_,_,Ev.bind ht (Ev.bind hx (Ev.bind hy (Ev.neg c0 (Ev.neg c1 (Ev.pos c2 (Ev.const rfl)))))),by omega,by omega,by simp,fun z hz=>absurd hz (by simp)⟩
 ·exact ⟨_,_,Ev.bind ht (Ev.bind hx (Ev.bind hy (Ev.neg c0 (Ev.neg c1 (Ev.neg c2 (Ev.const rfl)))))),by omega,by omega,h4,hg.1⟩
end Go.Proofs.Ytjdpaholpfpiiaa.P
