/- Texts under the proof of FnExactParseTree: helper words, the functions' contracts and the plain laws. No condition. -/
import Derived.Lib.AppendStr
import Derived.Lib.Builder
import Derived.Lib.UnsafeStr
import Derived.Test.YtacgehaipacehaaQFnExactParseTreewShelf
import Derived.Test.YtacgehaipacehaaQFnExactParseTreea
import Derived.Lib.CutLaws
namespace Go.Proofs.Ytacgehaipacehaa.P
open Go.RowKit Go.Proofs.YtacgehaipacehaaW.PrintWords Go.Proofs.YtacgehaipacehaaW.PrintLast Go.Proofs.YtacgehaipacehaaW.PrintMore
attribute [local go_sem] max2_int min2_int max_two min_two max_three min_three max_four min_four
set_option linter.unusedVariables false
set_option linter.unusedSimpArgs false
theorem sb_size : (Try.prog.info? 137).map (·.size) = some 2:=by kernel_rfl
theorem sb_lies : liesAt Try.prog Try.prog.depth 137 (2 / Try.prog.cellsOf 137) 0 137 1 = true:=by kernel_rfl
theorem sb_byte : (Try.prog.info? 5).map (fun i=>(i.zero,i.size,i.bytes)) = some (some (.int .u8 0),1,1):=by kernel_rfl
set_option maxHeartbeats 1000000 in
set_option maxRecDepth 100000 in
theorem sb_check_used (b : Nat) (w : World) (h0 : w.cell? ⟨b,0,none⟩ = some (.pointer (some ⟨b,0,none⟩))) :
  Calls Try.prog 148 #[.pointer (some ⟨b,0,none⟩)] w fun e w'=>e = .returned (.tuple #[]) ∧ w' = w:=by
 obtain ⟨j,hj,_⟩:=Option.map_eq_some_iff.1 sb_size
 go_enter Try.func148,Try.ntmps148
 go_wp2
 rw [Lib.run_neq_ptr_same w _ Try.underlying135 hj]
 go_wp2
 go_end0
 exact ⟨rfl,rfl⟩
set_option maxHeartbeats 1000000 in
set_option maxRecDepth 100000 in
theorem sb_check_fresh (b : Nat) (w : World) (h0 : w.cell? ⟨b,0,none⟩ = some (.pointer none)) (hsh : w.shape? b = some (137,2)) (hfz : w.frozen? ⟨b,0,none⟩ = false) :
  Calls Try.prog 148 #[.pointer (some ⟨b,0,none⟩)] w fun e w'=>e = .returned (.tuple #[]) ∧ w' = w.setCell ⟨b,0,none⟩ (.pointer (some ⟨b,0,none⟩)):=by
 obtain ⟨j,hj,hjs⟩:=Option.map_eq_some_iff.1 sb_size
 go_enter Try.func148,Try.ntmps148
 go_wp2
 rw [Lib.run_to_unsafe w ⟨b,0,none⟩ Try.underlying135 Try.underlying191 hj (by rw [hjs];decide) hsh (Nat.zero_lt_succ 1)]
 simp only [Result.andThen]
 rw [Oper.upon_value]
 go_wp2
 rw [run_callFunc_extern Try.func165 (by kernel_rfl) (by kernel_rfl) (by kernel_rfl) (e:=Extern.AbiNoEscape.same) (by kernel_rfl)]
 rw [Lib.run_noEscape]
 simp only [Result.andThen]
 rw [Oper.upon_value]
 go_wp2
 rw [Lib.run_from_unsafe w ⟨b,0,none⟩ Try.underlying191 Try.underlying135 hj hsh sb_lies]
 simp only [Result.andThen]
 rw [Oper.upon_value]
 go_wp2
 go_end0
 exact ⟨rfl,rfl⟩
theorem sb_check (B b : Nat) (bs : List Value) (w : World) (h : Lib.IsBuilderF 137 5 B b bs w) :
  Calls Try.prog 148 #[.pointer (some ⟨b,0,none⟩)] w fun e w'=>e = .returned (.tuple #[]) ∧ (Lib.BuilderAtF 137 5 B b (.pointer (some ⟨b,0,none⟩)) bs w' ∧ Below B w w' ∧ Lib.OthersKept 5 (some b) w w'):=by
 rcases h with h | h
 ·refine (sb_check_fresh b w h.cell0 h.shape h.frozen0).mono ?_
  rintro e w' ⟨rfl,rfl⟩
  exact ⟨rfl,h.used _,(Below.refl B w).setCell (p:=⟨b,0,none⟩) h.1 _,(Lib.OthersKept.refl _ _ w).setCell ⟨b,0,none⟩ rfl _⟩
 ·refine (sb_check_used b w h.cell0).mono ?_
  rintro e w' ⟨rfl,rfl⟩
  exact ⟨rfl,h,Below.refl B _,Lib.OthersKept.refl _ _ _⟩
end Go.Proofs.Ytacgehaipacehaa.P
namespace Go.Proofs.Ytacgehaipacehaa.P
open Go.RowKit Go.Proofs.YtacgehaipacehaaW.PrintWords Go.Proofs.YtacgehaipacehaaW.PrintLast Go.Proofs.YtacgehaipacehaaW.PrintMore
attribute [local go_sem] max2_int min2_int max_two min_two max_three min_three max_four min_four
set_option linter.unusedVariables false
set_option linter.unusedSimpArgs false
set_option maxHeartbeats 2000000 in
set_option maxRecDepth 100000 in
theorem sb_WriteString (B b : Nat) (bs : List Value) (s : ByteArray) (w : World) (h : Lib.IsBuilderF 137 5 B b bs w) (hlen : bs.length + s.size ≤ 140737488355328) (hBw : B ≤ w.heap.size) :
  Calls Try.prog 104 #[.pointer (some ⟨b,0,none⟩),.string s] w fun e w'=>e = .returned (.tuple #[.int .i64 s.size,.nilIface]) ∧ (Lib.BuilderAtF 137 5 B b (.pointer (some ⟨b,0,none⟩)) (bs ++ Lib.strCells s) w' ∧ Below B w w' ∧ Lib.OthersKept 5 (some b) w w'):=by
 obtain ⟨i0,hi,hz0,hz1,hz2⟩:=info_parts sb_byte
 go_enter Try.func104,Try.ntmps104
 go_wp2_with (go_at_call 148;refine (sb_check B b bs _ h).mono ?_)
 rintro e w1 ⟨rfl,h1,hb1,hk1⟩
 obtain ⟨hB,v,hbk,hown,hne⟩:=h1
 have c0 : w1.cell? ⟨b,0,none⟩ = some (.pointer (some ⟨b,0,none⟩)):=by rw [Lib.cell_of_heap hbk];rfl
 have c1 : w1.cell? ⟨b,1,none⟩ = some v:=by rw [Lib.cell_of_heap hbk];rfl
 go_wp2_with (at_builtin;refine Lib.wpList_append_own_stringF _ rfl _ _ 22 9 rfl B 5 i0 Try.underlying22 Try.underlying9 hi hz0 hz1 hz2 _ _ _ rfl hown s rfl ?c3 ?c4 ?c5 ?_)
 case c3=>unfold maxLen;omega
 case c4=>omega
 case c5=>have:=hb1.size;omega
 intro v' w2 hown' hgrow _
 have hlt : b < w1.heap.size:=by
  rcases Nat.lt_or_ge b w1.heap.size with h' | h'
  ·exact h'
  ·simp [Array.getElem?_eq_none h'] at hbk
 have hb2 : w2.heap[b]? = some (.cells #[.pointer (some ⟨b,0,none⟩),v] 137 (0,0)):=by
  rw [hgrow.block b hlt (fun e=>hne e.symm)]
  exact hbk
 have d0 : w2.cell? ⟨b,0,none⟩ = some (.pointer (some ⟨b,0,none⟩)):=by rw [Lib.cell_of_heap hb2];rfl
 have d1 : w2.cell? ⟨b,1,none⟩ = some v:=by rw [Lib.cell_of_heap hb2];rfl
 have f1 : w2.frozen? ⟨b,1,none⟩ = false:=Lib.frozen_of_heap hb2 1
 obtain ⟨ao,n',cap,rfl⟩ : ∃ ao n' cap,v' = .slice ao n' cap:=by
  rcases hown'.2 with ⟨hv,_⟩ | ⟨g,cap,cur,fz,hv,_⟩
  ·exact ⟨_,_,_,hv⟩
  ·exact ⟨_,_,_,hv⟩
 go_wp2
 go_ret2
 refine ⟨rfl,?_,?_,(hk1.grown hgrow (Lib.ownsRowF_kind hown)).setCell ⟨b,1,none⟩ rfl _⟩
 ·exact Lib.BuilderAtF.put (T:=137) (e:=5) hB hb2 (bs':=bs ++ Lib.strCells s) (by simpa [Lib.strCells_length] using hown') (by decide)
 ·exact (hb1.grown hgrow (by have:=hb1.size;omega) (fun k hk=>(hown.lt k hk).1)).setCell (p:=⟨b,1,none⟩) hB _
end Go.Proofs.Ytacgehaipacehaa.P
namespace Go.Proofs.Ytacgehaipacehaa.P
open Go.RowKit Go.Proofs.YtacgehaipacehaaW.PrintWords Go.Proofs.YtacgehaipacehaaW.PrintLast Go.Proofs.YtacgehaipacehaaW.PrintMore
attribute [local go_sem] max2_int min2_int max_two min_two max_three min_three max_four min_four
set_option linter.unusedVariables false
set_option linter.unusedSimpArgs false
set_option maxHeartbeats 2000000 in
set_option maxRecDepth 100000 in
theorem sb_WriteByte (B b : Nat) (bs : List Value) (c : Int) (w : World) (h : Lib.IsBuilderF 137 5 B b bs w) (hlen : bs.length + 1 ≤ 140737488355328) (hBw : B ≤ w.heap.size) :
  Calls Try.prog 105 #[.pointer (some ⟨b,0,none⟩),.int .u8 c] w fun e w'=>e = .returned .nilIface ∧ (Lib.BuilderAtF 137 5 B b (.pointer (some ⟨b,0,none⟩)) (bs ++ [.int .u8 c]) w' ∧ Below B w w' ∧ Lib.OthersKept 5 (some b) w w'):=by
 obtain ⟨i0,hi,hz0,hz1,hz2⟩:=info_parts sb_byte
 go_enter Try.func105,Try.ntmps105
 go_wp2_with (go_at_call 148;refine (sb_check B b bs _ h).mono ?_)
 rintro e w1 ⟨rfl,h1,hb1,hk1⟩
 obtain ⟨hB,v,hbk,hown,hne⟩:=h1
 have c0 : w1.cell? ⟨b,0,none⟩ = some (.pointer (some ⟨b,0,none⟩)):=by rw [Lib.cell_of_heap hbk];rfl
 have c1 : w1.cell? ⟨b,1,none⟩ = some v:=by rw [Lib.cell_of_heap hbk];rfl
 go_wp2_with (at_builtin;refine wpList_append_ownF _ rfl _ _ 22 rfl B 5 i0 (.int .u8 0) 1 1 Try.underlying22 hi hz0 hz1 hz2 rfl (by decide) _ _ _ rfl (hown.alloc _) ⟨w1.heap.size,0,none⟩ 1 1 [.int .u8 c] rfl rfl ?c1 ?c2 ?c3 ?c4 ?c5 ?_)
 case c1 =>
  intro j u hj
  match j,hj with
  | 0,hj=>simp at hj;subst hj;simp [Addr.add]
 case c2=>intro u hu;simp at hu;subst hu;rfl
 case c3=>unfold maxLen;omega
 case c4=>omega
 case c5=>have:=hb1.size;simp;omega
 intro v' w2 hown' hgrow _
 have hlt : b < w1.heap.size:=by
  rcases Nat.lt_or_ge b w1.heap.size with h' | h'
  ·exact h'
  ·simp [Array.getElem?_eq_none h'] at hbk
 have hb2 : w2.heap[b]? = some (.cells #[.pointer (some ⟨b,0,none⟩),v] 137 (0,0)):=by
  rw [hgrow.block b (by simp;omega) (fun e=>hne e.symm),Lib.alloc_old w1 _ b hlt]
  exact hbk
 have d0 : w2.cell? ⟨b,0,none⟩ = some (.pointer (some ⟨b,0,none⟩)):=by rw [Lib.cell_of_heap hb2];rfl
 have d1 : w2.cell? ⟨b,1,none⟩ = some v:=by rw [Lib.cell_of_heap hb2];rfl
 have f1 : w2.frozen? ⟨b,1,none⟩ = false:=Lib.frozen_of_heap hb2 1
 obtain ⟨g,cap,rfl⟩ : ∃ g cap,v' = .slice (some ⟨g,0,none⟩) (bs.length + 1) cap:=by
  rcases hown'.2 with ⟨_,h0⟩ | ⟨g,cap,cur,fz,hv,_⟩
  ·omega
  ·exact ⟨g,cap,hv⟩
 go_wp2
 go_ret
 refine ⟨rfl,?_,?_,((hk1.alloc _).grown hgrow (Lib.ownsRowF_kind (hown.alloc _))).setCell ⟨b,1,none⟩ rfl _⟩
 ·exact Lib.BuilderAtF.put (T:=137) (e:=5) hB hb2 (bs':=bs ++ [.int .u8 c]) (by simpa using hown') (by decide)
 ·exact ((hb1.alloc (by have:=hb1.size;omega) _).grown hgrow (by have:=hb1.size;simp;omega) (fun k hk=>(hown.lt k hk).1)).setCell (p:=⟨b,1,none⟩) hB _
end Go.Proofs.Ytacgehaipacehaa.P
namespace Go.Proofs.Ytacgehaipacehaa.P
open Go.RowKit Go.Proofs.YtacgehaipacehaaW.PrintWords Go.Proofs.YtacgehaipacehaaW.PrintLast Go.Proofs.YtacgehaipacehaaW.PrintMore
attribute [local go_sem] max2_int min2_int max_two min_two max_three min_three max_four min_four
set_option linter.unusedVariables false
set_option linter.unusedSimpArgs false
theorem sb_ws (B b : Nat) (l : List UInt8) (s : ByteArray) (w : World) (h : Lib.IsBuilderF 137 5 B b (Lib.byteCells l) w) (hlen : l.length + s.size ≤ 140737488355328) (hBw : B ≤ w.heap.size) :
  Calls Try.prog 104 #[.pointer (some ⟨b,0,none⟩),.string s] w fun e w'=>e = .returned (.tuple #[.int .i64 s.size,.nilIface]) ∧ (Lib.IsBuilderF 137 5 B b (Lib.byteCells (l ++ ofB s)) w' ∧ Below B w w' ∧ Lib.OthersKept 5 (some b) w w'):=by
 refine (sb_WriteString B b _ s w h (by rw [Lib.byteCells_length];exact hlen) hBw).mono ?_
 rintro e w' ⟨rfl,h1,h2,h3⟩
 exact ⟨rfl,by rw [Lib.byteCells_append];exact Or.inr h1,h2,h3⟩
theorem sb_wb (B b : Nat) (l : List UInt8) (w : World) (h : Lib.IsBuilderF 137 5 B b (Lib.byteCells l) w) (hlen : l.length + 1 ≤ 140737488355328) (hBw : B ≤ w.heap.size) :
  Calls Try.prog 105 #[.pointer (some ⟨b,0,none⟩),.int .u8 10] w fun e w'=>e = .returned .nilIface ∧ (Lib.IsBuilderF 137 5 B b (Lib.byteCells (l ++ [10])) w' ∧ Below B w w' ∧ Lib.OthersKept 5 (some b) w w'):=by
 refine (sb_WriteByte B b _ 10 w h (by rw [Lib.byteCells_length];exact hlen) hBw).mono ?_
 rintro e w' ⟨rfl,h1,h2,h3⟩
 exact ⟨rfl,by rw [Lib.byteCells_append];exact Or.inr h1,h2,h3⟩
theorem ofB_line (s : ByteArray) : ofB ((⟨#[32]⟩ : ByteArray) ++ s) = 32 :: ofB s:=by
 unfold ofB
 simp
theorem cells_ne {cs : Array Value} {t : TypeId} {fr : Nat × Nat} (h : t ≠ 5) : ∀ c fz,Obj.cells cs t fr ≠ .cells c 5 fz:=fun c fz e=>by injection e with _ h2 _;exact h h2
def impl_TreeText.f (l0_0 : List (S125)) : Option ByteArray:=if smT l0_0 = true then some (textP l0_0) else none
set_option maxHeartbeats 4000000 in
set_option maxRecDepth 100000 in
theorem impl_TreeText.calls (A0_0 : Option Addr) (c0_0 : Nat) (l0_0 : List (S125)) (r : ByteArray) (w : World) (hr0_0 : Kd.C k125 w A0_0 l0_0.length l0_0) (hc0_0 : l0_0.length ≤ c0_0) (h : impl_TreeText.f l0_0 = some r) :
  Calls Try.prog 49 #[.agg #[.slice A0_0 l0_0.length c0_0]] w fun e w'=>e = .returned (.string r) ∧ Below w.heap.size w w':=by
 have hu31:=Try.underlying25
 have hu37:=Try.underlying125
 have hu38:=Try.underlying137
 have hsm : smT l0_0 = true:=by
  apply Classical.byContradiction
  intro hn
  rw [impl_TreeText.f,if_neg hn] at h
  cases h
 rw [impl_TreeText.f,if_pos hsm] at h
 have hR:=Option.some.inj h
 clear h
 have HV:=a0_ (fun (W : World) (hb : Below w.heap.size w W)=>impl_ValidTree.calls A0_0 c0_0 l0_0 (vT l0_0) W (Kd.C_below hr0_0 hb) hc0_0 (by rw [impl_ValidTree.f,if_pos hsm]))
 have HR:=a0_ hr0_0
 have BK:=a0_ (heap_new1 w (.cells #[.slice A0_0 l0_0.length c0_0] 25))
 have HB:=a0_ (below1 w (.cells #[.slice A0_0 l0_0.length c0_0] 25))
 have hcell:=(blk_cell BK.out 0).trans rfl
 unfold textP at hR
 clear hr0_0
 cases hv : vT l0_0 with
 | false =>
  rw [hv] at HV hR
  rw [if_neg (by simp)] at hR
  subst hR
  clear hv
  go_enter Try.func49,Try.ntmps49
  go_wp2_with (go_at_call 54;refine (HV.out _ HB.out).mono ?_;rintro e w' ⟨rfl,hb'⟩;replace HB:=a0_ (below_step HB.out hb');clear hb')
  go_ret
  exact ⟨rfl,HB.out⟩
 | true =>
  have hlen8:=(vT_len hv).2
  rw [hv] at HV hR
  rw [if_pos rfl] at hR
  have HVT:=a0_ hv
  clear hv hsm
  go_enter Try.func49,Try.ntmps49
  go_upto_region 4 with (go_at_call 54;refine (HV.out _ HB.out).mono ?_;rintro e w2 ⟨rfl,hb'⟩;replace BK:=a0_ (blk_keptB BK.out hb');replace HB:=a0_ (below_step HB.out hb');clear hb' hcell)
  have HS:=a0_ (blk_lt BK.out)
  have HI:=a0_ (Lib.IsBuilderF.of (Lib.fresh_isBuilder 137 5 w2))
  replace BK:=a0_ (blk_alloc BK.out (.cells #[.pointer none,.slice none 0 0] 137))
  replace HB:=a0_ (below_alloc HB.out (.cells #[.pointer none,.slice none 0 0] 137))
  have HZ:=a0_ (show w2.heap.size ≤ (w2.alloc (.cells #[.pointer none,.slice none 0 0] 137)).heap.size by simp)
  generalize w2.alloc (.cells #[.pointer none,.slice none 0 0] 137) = w3 at HI BK HB HZ ⊢
  generalize w2.heap.size = gb at HI HZ HS ⊢
  have hcell : w3.cell? ⟨w.heap.size,0,none⟩ = some (.slice A0_0 l0_0.length c0_0):=(blk_cell BK.out 0).trans rfl
  go_wp2
  go_loopg [12] l0_0.length (fun gg s12 wr=>∃ kk : Nat,kk ≤ l0_0.length ∧ l0_0.length - kk ≤ gg ∧ s12 = .int .i64 kk ∧ Aside0 (Lib.IsBuilderF 137 5 gb gb (Lib.byteCells (linesL l0_0 (l0_0.take kk))) wr) ∧ Aside0 (Below w.heap.size w wr) ∧ Aside0 (gb ≤ wr.heap.size) ∧ Aside0 (wr.heap[w.heap.size]? = some (.cells #[.slice A0_0 l0_0.length c0_0] 25 (0,0))))
  case atStart=>exact ⟨0,Nat.zero_le _,by omega,rfl,HI,HB,HZ,BK⟩
  case round =>
   clear HB BK HI HZ hcell
   obtain ⟨kk,hkk,hg,rfl,HI,HB,HZ,BK⟩:=hrel
   have hcell : wr.cell? ⟨w.heap.size,0,none⟩ = some (.slice A0_0 l0_0.length c0_0):=(blk_cell BK.out 0).trans rfl
   have hll:=(linesL_len HVT.out kk hkk).1
   by_cases hlt : kk < l0_0.length
   ·have hltz : (kk : Int) < (l0_0.length : Int):=by omega
    have hln:=okName_len (vT_name HVT.out kk hlt).1
    have hp:=vT_parent HVT.out kk hlt
    have hst : linesL l0_0 (l0_0.take (kk + 1)) = linesL l0_0 (l0_0.take kk) ++ lineL l0_0 (l0_0.getD kk z125):=by
     rw [← take_snoc kk hlt]
     unfold linesL
     rw [List.flatMap_append,List.flatMap_singleton]
    obtain ⟨ad,ea,hx0,hx1⟩:=at_T125 HR.out (kk : Int) (by omega) (by omega)
    cases ea
    have hrd : rd_T125 l0_0 (kk : Int) = l0_0.getD kk z125:=by simp [rd_T125]
    rw [hrd] at hx0 hx1
    rw [Int.toNat_natCast] at hx0 hx1
    replace hx0:=(HB.out.cell (World.block_lt_of_cell? w _ hx0)).trans hx0
    replace hx1:=(HB.out.cell (World.block_lt_of_cell? w _ hx1)).trans hx1
    generalize hy : l0_0.getD kk z125 = y at hx0 hx1 hst hln hp
    obtain ⟨y0,y1⟩:=y
    simp only at hx0 hx1 hst hln hp
    clear hrd hy
    go_upto_region 7 with (fail)
    have HB1:=a0_ (below_alloc HB.out (.cells #[.string y0,.int .i64 y1] 125))
    have BK1:=a0_ (blk_alloc BK.out (.cells #[.string y0,.int .i64 y1] 125))
    have BY:=a0_ (heap_new1 wr (.cells #[.string y0,.int .i64 y1] 125))
    have HI1:=a0_ (Lib.IsBuilderF.alloc HI.out (.cells #[.string y0,.int .i64 y1] 125))
    have HZ1:=a0_ (show gb ≤ (wr.alloc (.cells #[.string y0,.int .i64 y1] 125)).heap.size by have:=HZ.out;simp;omega)
    have NY:=a0_ (show some wr.heap.size ≠ some gb by
     have:=(show gb < wr.heap.size by rcases HI.out with h_ | h_ <;> exact h_.lt)
     intro e;injection e with e;omega)
    have NK:=a0_ (show some w.heap.size ≠ some gb by
     have:=blk_lt BK.out
     intro e;injection e with e;have:=HS.out;omega)
    clear HB BK HI HZ hx0 hx1 hcell
    generalize wr.alloc (.cells #[.string y0,.int .i64 y1] 125) = W1 at HB1 BK1 BY HI1 HZ1 ⊢
    generalize wr.heap.size = gy at BY NY ⊢
    have hcell : W1.cell? ⟨w.heap.size,0,none⟩ = some (.slice (some ad) l0_0.length c0_0):=(blk_cell BK1.out 0).trans rfl
    have hz0 : W1.cell? ⟨gy,0,none⟩ = some (.string y0):=(blk_cell BY.out 0).trans rfl
    have hz1 : W1.cell? ⟨gy,1,none⟩ = some (.int .i64 y1):=(blk_cell BY.out 1).trans rfl
    by_cases h0 : 0 ≤ y1
    ·have h0b:=eq_true h0
     have h1:=hp.2 (by have:=hp.1;omega)
     have h1b : (y1 < (l0_0.length : Int)) = True:=eq_true (by omega)
     obtain ⟨ad2,ea2,hq0,_⟩:=at_T125 HR.out y1 h0 (by omega)
     obtain rfl : ad = ad2:=by injection ea2
     obtain ⟨p0,hp0⟩ : ∃ p0,p0 = (l0_0.getD y1.toNat z125).f0:=⟨_,rfl⟩
     have hps:=okName_len (vT_name HVT.out y1.toNat (by omega)).1
     rw [← hp0] at hps
     have hrd2 : (rd_T125 l0_0 y1).f0 = p0:=by rw [hp0];rfl
     rw [hrd2] at hq0
     have HQ:=a0_ hq0
     replace hq0:=(HB1.out.cell (World.block_lt_of_cell? w _ hq0)).trans hq0
     have HST:=a0_ (show linesL l0_0 (l0_0.take (kk + 1)) = ((linesL l0_0 (l0_0.take kk) ++ ofB y0) ++ ofB ((⟨#[32]⟩ : ByteArray) ++ p0)) ++ [10] by
      rw [hst,ofB_line]
      unfold lineL
      rw [if_pos h0,← hp0]
      simp)
     clear hp0 hrd2 hst hp
     go_wp2_with (first
      | (go_at_call 104;refine (sb_ws gb gb _ _ _ HI1.out ?hl HZ1.out).mono ?_;(case hl=>(try simp only [List.length_append,ofB_len,List.length_cons,List.length_nil,ByteArray.size_append]);first | omega | (have : (⟨#[32]⟩ : ByteArray).size = 1:=rfl;omega));rintro e w5 ⟨rfl,hi5,hb5,hk5⟩;replace HI1:=a0_ hi5;replace BK1:=a0_ (hk5 _ _ BK1.out NK.out (cells_ne (by decide)));replace BY:=a0_ (hk5 _ _ BY.out NY.out (cells_ne (by decide)));replace HZ1:=a0_ (Nat.le_trans HZ1.out hb5.size);replace HB1:=a0_ (HB1.out.trans (hb5.mono (Nat.le_of_lt HS.out)));clear hi5 hb5 hk5 hz0 hz1 hcell hq0;have hcell : w5.cell? ⟨w.heap.size,0,none⟩ = some (.slice (some ad) l0_0.length c0_0):=(blk_cell BK1.out 0).trans rfl;have hz0 : w5.cell? ⟨gy,0,none⟩ = some (.string y0):=(blk_cell BY.out 0).trans rfl;have hz1 : w5.cell? ⟨gy,1,none⟩ = some (.int .i64 y1):=(blk_cell BY.out 1).trans rfl;have hq0:=(HB1.out.cell (World.block_lt_of_cell? w _ HQ.out)).trans HQ.out)
      | (go_at_call 105;refine (sb_wb gb gb _ _ HI1.out ?hl HZ1.out).mono ?_;(case hl=>(try simp only [List.length_append,ofB_len,List.length_cons,List.length_nil,ByteArray.size_append]);first | omega | (have : (⟨#[32]⟩ : ByteArray).size = 1:=rfl;omega));rintro e w5 ⟨rfl,hi5,hb5,hk5⟩;replace HI1:=a0_ hi5;replace BK1:=a0_ (hk5 _ _ BK1.out NK.out (cells_ne (by decide)));replace BY:=a0_ (hk5 _ _ BY.out NY.out (cells_ne (by decide)));replace HZ1:=a0_ (Nat.le_trans HZ1.out hb5.size);replace HB1:=a0_ (HB1.out.trans (hb5.mono (Nat.le_of_lt HS.out)));clear hi5 hb5 hk5 hz0 hz1 hcell hq0;have hcell : w5.cell? ⟨w.heap.size,0,none⟩ = some (.slice (some ad) l0_0.length c0_0):=(blk_cell BK1.out 0).trans rfl;have hz0 : w5.cell? ⟨gy,0,none⟩ = some (.string y0):=(blk_cell BY.out 0).trans rfl;have hz1 : w5.cell? ⟨gy,1,none⟩ = some (.int .i64 y1):=(blk_cell BY.out 1).trans rfl;have hq0:=(HB1.out.cell (World.block_lt_of_cell? w _ HQ.out)).trans HQ.out))
     go_roundg (l0_0.length - (kk + 1))
     case measure=>omega
     case rel=>exact ⟨kk + 1,by omega,by omega,by go_num,⟨by rw [HST.out];exact HI1.out⟩,HB1,HZ1,BK1⟩
    ·have h0b : (0 ≤ y1) = False:=eq_false h0
     have HST:=a0_ (show linesL l0_0 (l0_0.take (kk + 1)) = (linesL l0_0 (l0_0.take kk) ++ ofB y0) ++ [10] by
      rw [hst]
      unfold lineL
      rw [if_neg h0]
      simp)
     clear hst hp
     go_wp2_with (first
      | (go_at_call 104;refine (sb_ws gb gb _ _ _ HI1.out ?hl HZ1.out).mono ?_;(case hl=>(try simp only [List.length_append,ofB_len,List.length_cons,List.length_nil,ByteArray.size_append]);first | omega | (have : (⟨#[32]⟩ : ByteArray).size = 1:=rfl;omega));rintro e w5 ⟨rfl,hi5,hb5,hk5⟩;replace HI1:=a0_ hi5;replace BK1:=a0_ (hk5 _ _ BK1.out NK.out (cells_ne (by decide)));replace BY:=a0_ (hk5 _ _ BY.out NY.out (cells_ne (by decide)));replace HZ1:=a0_ (Nat.le_trans HZ1.out hb5.size);replace HB1:=a0_ (HB1.out.trans (hb5.mono (Nat.le_of_lt HS.out)));clear hi5 hb5 hk5 hz0 hz1 hcell;have hcell : w5.cell? ⟨w.heap.size,0,none⟩ = some (.slice (some ad) l0_0.length c0_0):=(blk_cell BK1.out 0).trans rfl;have hz0 : w5.cell? ⟨gy,0,none⟩ = some (.string y0):=(blk_cell BY.out 0).trans rfl;have hz1 : w5.cell? ⟨gy,1,none⟩ = some (.int .i64 y1):=(blk_cell BY.out 1).trans rfl)
      | (go_at_call 105;refine (sb_wb gb gb _ _ HI1.out ?hl HZ1.out).mono ?_;(case hl=>(try simp only [List.length_append,ofB_len,List.length_cons,List.length_nil,ByteArray.size_append]);first | omega | (have : (⟨#[32]⟩ : ByteArray).size = 1:=rfl;omega));rintro e w5 ⟨rfl,hi5,hb5,hk5⟩;replace HI1:=a0_ hi5;replace BK1:=a0_ (hk5 _ _ BK1.out NK.out (cells_ne (by decide)));replace BY:=a0_ (hk5 _ _ BY.out NY.out (cells_ne (by decide)));replace HZ1:=a0_ (Nat.le_trans HZ1.out hb5.size);replace HB1:=a0_ (HB1.out.trans (hb5.mono (Nat.le_of_lt HS.out)));clear hi5 hb5 hk5 hz0 hz1 hcell;have hcell : w5.cell? ⟨w.heap.size,0,none⟩ = some (.slice (some ad) l0_0.length c0_0):=(blk_cell BK1.out 0).trans rfl;have hz0 : w5.cell? ⟨gy,0,none⟩ = some (.string y0):=(blk_cell BY.out 0).trans rfl;have hz1 : w5.cell? ⟨gy,1,none⟩ = some (.int .i64 y1):=(blk_cell BY.out 1).trans rfl))
     go_roundg (l0_0.length - (kk + 1))
     case measure=>omega
     case rel=>exact ⟨kk + 1,by omega,by omega,by go_num,⟨by rw [HST.out];exact HI1.out⟩,HB1,HZ1,BK1⟩
   ·have hltz : ¬ (kk : Int) < (l0_0.length : Int):=by omega
    have : kk = l0_0.length:=by omega
    subst this
    rw [List.take_of_length_le (Nat.le_refl _)] at HI
    go_wp2_with (go_at_call 106;refine (Try.Builder_String_any_k gb gb _ _ HI.out HZ.out).mono ?_;rintro e w5 ⟨rfl,_,hb5,_⟩)
    go_ret
    exact ⟨by rw [← hR];rfl,HB.out.trans (hb5.mono (Nat.le_of_lt HS.out))⟩
theorem impl_TreeText_ev (t : List Cls) (hs : smT t = true) : impl_TreeText.f t = some (textP t):=by rw [impl_TreeText.f,if_pos hs]
end Go.Proofs.Ytacgehaipacehaa.P
namespace Go.Proofs.Ytacgehaipacehaa.P
open Go.RowKit Go.Proofs.YtacgehaipacehaaW.PrintWords Go.Proofs.YtacgehaipacehaaW.PrintLast Go.Proofs.YtacgehaipacehaaW.PrintMore
attribute [local go_sem] max2_int min2_int max_two min_two max_three min_three max_four min_four
set_option linter.unusedVariables false
set_option linter.unusedSimpArgs false
theorem cuL_none (c : UInt8) : ∀ l : List UInt8,Lib.indexByte l c = -1 → cuL c l = (l,[],false):=by
 intro l
 induction l with
 | nil=>intro _;rfl
 | cons x l ih =>
  intro h
  unfold Lib.indexByte at h
  split at h
  ·omega
  ·rename_i hx
   rw [cuL,if_neg (fun e=>hx (beq_iff_eq.2 e))]
   split at h
   ·rename_i h2
    rw [ih (beq_iff_eq.1 h2)]
   ·have:=Lib.indexByte_ge l c
    omega
theorem cuL_some (c : UInt8) : ∀ (l : List UInt8) (o : Nat),Lib.indexByte l c = (o : Int) → cuL c l = (l.take o,l.drop (o + 1),true) ∧ o + 1 ≤ l.length:=by
 intro l
 induction l with
 | nil=>intro o h;simp [Lib.indexByte] at h
 | cons x l ih =>
  intro o h
  unfold Lib.indexByte at h
  split at h
  ·rename_i hx
   obtain rfl : o = 0:=by omega
   rw [cuL,if_pos (beq_iff_eq.1 hx)]
   exact ⟨by simp,by simp⟩
  ·rename_i hx
   split at h
   ·omega
   ·rename_i h2
    have hge:=Lib.indexByte_ge l c
    have hne : Lib.indexByte l c ≠ -1:=fun e=>h2 (beq_iff_eq.2 e)
    obtain ⟨o',rfl⟩ : ∃ o',o = o' + 1:=⟨o - 1,by omega⟩
    have h3:=ih o' (by omega)
    rw [cuL,if_neg (fun e=>hx (beq_iff_eq.2 e)),h3.1]
    exact ⟨by simp,by simp;omega⟩
theorem cutB_some (c : UInt8) (s : ByteArray) (o : Nat) (h : Lib.indexByte s.data.toList c = (o : Int)) : (cutB c s).1 = s.extract 0 o ∧ (cutB c s).2.1 = s.extract (o + 1) s.size ∧ (cutB c s).2.2 = true ∧ o + 1 ≤ s.size:=by
 obtain ⟨h1,h2⟩:=cuL_some c _ o h
 rw [show s.data.toList.length = s.size from toL_len s] at h2
 unfold cutB
 rw [h1]
 refine ⟨?_,?_,rfl,h2⟩
 ·rw [Lib.extract_eq];simp
 ·have ht : List.take (s.size - (o + 1)) (List.drop (o + 1) s.data.toList) = List.drop (o + 1) s.data.toList :=
   List.take_of_length_le (by rw [List.length_drop,toL_len];exact Nat.le_refl _)
  rw [Lib.extract_eq,ht]
theorem cutB_none (c : UInt8) (s : ByteArray) (h : Lib.indexByte s.data.toList c = -1) : cutB c s = (s,ByteArray.empty,false):=by
 unfold cutB
 rw [cuL_none c _ h]
 rfl
set_option maxHeartbeats 2000000 in
set_option maxRecDepth 100000 in
theorem sl_Cut (s : ByteArray) (c : UInt8) (w : World) (hs : s.size ≤ 9223372036854775807) :
  Calls Try.prog 136 #[.string s,.string ⟨#[c]⟩] w fun e w'=>e = .returned (.tuple #[.string (cutB c s).1,.string (cutB c s).2.1,.bool (cutB c s).2.2]) ∧ Drawn0 w w':=by
 have hge:=Lib.indexByte_ge s.data.toList c
 have HI:=a0_ (Try.stringslite_Index_one s c)
 by_cases hix : Lib.indexByte s.data.toList c = -1
 ·rw [cutB_none c s hix]
  rw [hix] at HI
  clear hix hge
  go_enter Try.func136,Try.ntmps136
  go_wp2_with (go_at_call 156;refine (HI.out _).mono ?_;rintro e w' ⟨rfl,rfl⟩)
  go_ret3
  exact ⟨rfl,Drawn0.refl _⟩
 ·obtain ⟨o,ho⟩ : ∃ o : Nat,Lib.indexByte s.data.toList c = o:=⟨(Lib.indexByte s.data.toList c).toNat,by omega⟩
  obtain ⟨e1,e2,e3,hr⟩:=cutB_some c s o ho
  rw [e1,e2,e3]
  rw [ho] at HI
  have c1 : (0 : Int) ≤ ↑o:=by omega
  have c2 : (↑o : Int) ≤ ↑s.size:=by omega
  have c3 : (0 : Int) ≤ ↑o + 1:=by omega
  have c4 : (↑o + 1 : Int) ≤ ↑s.size:=by omega
  have c5 : wrap64 ((o : Int) + 1) = (o : Int) + 1:=wrap_in (by omega) (by omega)
  have c6 : IntKind.i64.wrap ((o : Int) + 1) = (o : Int) + 1:=by rw [IntKind.wrap_i64];omega
  have c7 : ((o : Int) + 1).toNat = o + 1:=by omega
  clear e1 e2 e3 ho hix hge
  go_enter Try.func136,Try.ntmps136
  go_wp2_with (go_at_call 156;refine (HI.out _).mono ?_;rintro e w' ⟨rfl,rfl⟩)
  go_region
  go_wp2
  go_ret3
  exact ⟨by simp,(Drawn0.refl _).step 1⟩
end Go.Proofs.Ytacgehaipacehaa.P
namespace Go.Proofs.Ytacgehaipacehaa.P
open Go.RowKit Go.Proofs.YtacgehaipacehaaW.PrintWords Go.Proofs.YtacgehaipacehaaW.PrintLast Go.Proofs.YtacgehaipacehaaW.PrintMore
attribute [local go_sem] max2_int min2_int max_two min_two max_three min_three max_four min_four
set_option linter.unusedVariables false
set_option linter.unusedSimpArgs false
def strings_Cut.f (a0 : ByteArray) (a1 : ByteArray) : Option (ByteArray × ByteArray × Bool):=if a1.size = 1 ∧ a0.size ≤ 9223372036854775807 then some (cutB (a1.data.toList.getD 0 0) a0) else none
set_option maxHeartbeats 2000000 in
set_option maxRecDepth 100000 in
theorem strings_Cut.calls (a0 : ByteArray) (a1 : ByteArray) (r1 : ByteArray) (r2 : ByteArray) (r3 : Bool) (w : World) (h : strings_Cut.f a0 a1 = some (r1,r2,r3)) :
  Calls Try.prog 91 #[.string a0,.string a1] w fun e w'=>e = .returned (.tuple #[.string r1,.string r2,.bool r3]) ∧ Drawn0 w w':=by
 have h1 : a1.size = 1 ∧ a0.size ≤ 9223372036854775807:=by
  apply Classical.byContradiction
  intro hn
  rw [strings_Cut.f,if_neg hn] at h
  cases h
 rw [strings_Cut.f,if_pos h1] at h
 obtain ⟨c,rfl⟩ : ∃ c,a1 = ⟨#[c]⟩:=by
  obtain ⟨⟨l⟩⟩:=a1
  match l,h1.1 with
  | [c],_=>exact ⟨c,rfl⟩
 have h2 : cutB c a0 = (r1,r2,r3):=Option.some.inj h
 have HC:=a0_ (fun W=>sl_Cut a0 c W h1.2)
 rw [h2] at HC
 clear h h1 h2
 go_enter Try.func91,Try.ntmps91
 go_wp2_with (go_at_call 136;refine (HC.out _).mono ?_;rintro e w' ⟨rfl,hd⟩)
 go_ret3
 exact ⟨rfl,hd⟩
end Go.Proofs.Ytacgehaipacehaa.P
namespace Go.Proofs.Ytacgehaipacehaa.P
open Go.RowKit Go.Proofs.YtacgehaipacehaaW.PrintWords Go.Proofs.YtacgehaipacehaaW.PrintLast Go.Proofs.YtacgehaipacehaaW.PrintMore
attribute [local go_sem] max2_int min2_int max_two min_two max_three min_three max_four min_four
set_option linter.unusedVariables false
set_option linter.unusedSimpArgs false
def slices_Clip_Class.f (l0 : List (S125)) : Option ((List (S125))):=if 0 ≤ (l0.length : Int) then (if (l0.length : Int) ≤ (l0.length : Int) then (some (l0.take ((l0.length : Int) : Int).toNat)) else (none)) else (none)
set_option maxHeartbeats 8000000 in
set_option maxRecDepth 100000 in
theorem slices_Clip_Class.calls (P0_ : Nat → Prop) (u9000_ : Value) (l0 : List (S125)) (r : List (S125)) (w0 w : World) (hB : Below w0.heap.size w0 w) (ho0 : Kd.R k125 125 w w0.heap.size P0_ u9000_ l0) (h : slices_Clip_Class.f l0 = some r) :
  Calls Try.prog 93 #[u9000_] w fun e w'=>∃ v0_ : Value,e = .returned (v0_) ∧ Kd.R k125 125 w' w0.heap.size (fun k_=>(P0_ k_ ∨ w.heap.size ≤ k_)) v0_ r ∧ Below w0.heap.size w0 w' ∧ Kept w w' (fun k_=>P0_ k_):=by
 have HO0:=a0_ (show Kd.R k125 125 w w0.heap.size (fun k_=>(P0_ k_ ∨ w.heap.size ≤ k_)) u9000_ l0 from Kd.R_mono ho0 (fun k_ hk=>(.inl hk)))
 have HK:=a0_ (Kept.refl w (fun k_=>P0_ k_))
 have HW0:=a0_ hB.size
 have HB:=a0_ hB
 clear hB
 have H : (if 0 ≤ (l0.length : Int) then (if (l0.length : Int) ≤ (l0.length : Int) then (some (l0.take ((l0.length : Int) : Int).toNat)) else (none)) else (none)) = some r:=h
 clear h
 by_cases c2 : 0 ≤ (l0.length : Int)
 ·rw [if_pos c2] at H
  have c2b0:=eq_true c2
  have c2b1 : decide (0 ≤ (l0.length : Int)) = true:=decide_eq_true c2
  clear c2
  by_cases c3 : (l0.length : Int) ≤ (l0.length : Int)
  ·rw [if_pos c3] at H
   have c3b0:=eq_true c3
   have c3b1 : decide ((l0.length : Int) ≤ (l0.length : Int)) = true:=decide_eq_true c3
   clear c3
   obtain ⟨y1,hy1⟩ : ∃ y_ : List (S125),y_ = (l0.take ((l0.length : Int) : Int).toNat):=⟨_,rfl⟩
   replace H : (some y1) = some r:=by first | (rw [hy1];with_reducible exact H) | (have H2_:=(Option.bind_some _ _).symm.trans H;rw [hy1];with_reducible exact H2_) | (have H2_:=(Option.bind_some _ _).symm.trans H;with_reducible exact H2_) | with_reducible exact H | (rw [hy1];exact H) | exact H
   have Ny1:=a0_ hy1
   clear hy1
   obtain rfl:=Option.some.inj H
   obtain ⟨Ao4,co4,eo4⟩:=Kd.R_slice HO0.out
   subst eo4
   have q5 : l0.length ≤ co4:=(Kd.R_reads' HO0.out).2.1
   have hr5:=Kd.R_clip2 HO0.out (((l0.length : Int) : Int).toNat) (by omega)
   rw [← Ny1.out] at hr5
   clear HO0
   have HO3:=a0_ hr5
   clear hr5
   go_enter Try.func93,Try.ntmps93
   go_wp2
   go_ret
   exact ⟨_,by first | rfl | (simp [errW_none,errW_some] <;> rfl) | (simp [*,errW_none,errW_some] <;> rfl),by (with_reducible repeat (first | apply Kd.R_alloc | apply Kd.R_drewN | apply Kd.R_drew));exact HO3.out,hbw_,by repeat (first | (with_reducible first | exact HK.out | apply Kept.alloc | apply Kept.drewN | apply Kept.drew) | exact HK.out)⟩
  ·rw [if_neg c3] at H
   exact absurd H (by simp)
 ·rw [if_neg c2] at H
  exact absurd H (by simp)
theorem slices_Clip_Class_ev (l : List Cls) : slices_Clip_Class.f l = some l:=by
 unfold slices_Clip_Class.f
 rw [if_pos (by omega),if_pos (by omega)]
 simp
end Go.Proofs.Ytacgehaipacehaa.P
namespace Go.Proofs.Ytacgehaipacehaa.P
open Go.RowKit Go.Proofs.YtacgehaipacehaaW.PrintWords Go.Proofs.YtacgehaipacehaaW.PrintLast Go.Proofs.YtacgehaipacehaaW.PrintMore
attribute [local go_sem] max2_int min2_int max_two min_two max_three min_three max_four min_four
set_option linter.unusedVariables false
set_option linter.unusedSimpArgs false
def impl_ParseTree.l0 : Nat → ByteArray → ByteArray → List (S125) → Option ((List (S125)) × Bool)
 | 0,_,_,_=>none
 | k + 1,x0,x5,x3000=>if x5.toList = ([] : List UInt8) then ((impl_TreeText.f x3000).bind fun t17=>(if t17.toList = x0.toList then (if x0.toList = ([] : List UInt8) then (some (([] : List (S125)),false)) else ((slices_Clip_Class.f x3000).bind fun t18=>(some (t18,true)))) else (some (([] : List (S125)),false)))) else ((strings_Cut.f x5 (⟨#[10]⟩ : ByteArray)).bind fun bt3=>((strings_Cut.f bt3.1 (⟨#[32]⟩ : ByteArray)).bind fun bt6=>(if bt6.2.2 = true then ((impl_Tree_named.f x3000 bt6.2.1).bind fun t10=>(if x3000.length < 5864062014805 then (impl_ParseTree.l0 k x0 bt3.2.1 (x3000 ++ [(⟨bt6.1,t10⟩ : S125)])) else (none))) else (if x3000.length < 5864062014805 then (impl_ParseTree.l0 k x0 bt3.2.1 (x3000 ++ [(⟨bt6.1,(-1)⟩ : S125)])) else (none)))))
def impl_ParseTree.f (k : Nat) (a0 : ByteArray) : Option ((List (S125)) × Bool):=impl_ParseTree.l0 k a0 a0 ([] : List (S125))
theorem impl_ParseTree.mono_l : ∀ k,(∀ y0 y1 y2,LeO (impl_ParseTree.l0 k y0 y1 y2) (impl_ParseTree.l0 (k + 1) y0 y1 y2))
 | 0=>fun _ _ _ r h=>by simp [impl_ParseTree.l0] at h
 | k + 1=>by
  have ih0:=impl_ParseTree.mono_l k
  ·intro y0 y1 y2
   unfold impl_ParseTree.l0
   repeat' first
   | (with_reducible exact ih0 _ _ _)
   | (with_reducible exact LeO.refl _)
   | (with_reducible exact LeO.none _)
   | (with_reducible refine LeO.ite ?_ ?_)
   | (with_reducible refine LeO.bind ?_ (fun _=>?_))
   | exact ih0 _ _ _
   | exact LeO.none _
   | refine LeO.ite ?_ ?_
   | refine LeO.bind ?_ (fun _=>?_)
theorem impl_ParseTree.mono : ∀ a0 k,LeO (impl_ParseTree.f k a0) (impl_ParseTree.f (k + 1) a0):=by
 intro a0 k
 have ih0:=impl_ParseTree.mono_l k
 unfold impl_ParseTree.f
 repeat' first
   | (with_reducible exact ih0 _ _ _)
   | (with_reducible exact LeO.refl _)
   | (with_reducible exact LeO.none _)
   | (with_reducible refine LeO.ite ?_ ?_)
   | (with_reducible refine LeO.bind ?_ (fun _=>?_))
   | exact ih0 _ _ _
   | exact LeO.none _
   | refine LeO.ite ?_ ?_
   | refine LeO.bind ?_ (fun _=>?_)
set_option maxHeartbeats 8000000 in
set_option maxRecDepth 100000 in
theorem impl_ParseTree.calls (k : Nat) (a0 : ByteArray) (r1 : List (S125)) (r2 : Bool) (w : World) (h : impl_ParseTree.f k a0 = some (r1,r2)) :
  Calls Try.prog 39 #[.string a0] w fun e w'=>∃ v0_ : Value,e = .returned (.tuple #[.agg #[v0_],.bool r2]) ∧ Kd.R k125 125 w' w.heap.size (fun _=>True) v0_ r1 ∧ Below w.heap.size w w':=by
 have hu25:=Try.underlying25
 have hu125:=Try.underlying125
 have HB:=a0_ (Below.refl w.heap.size w)
 have H : (impl_ParseTree.l0 k a0 a0 ([] : List (S125))) = some (r1,r2):=h
 clear h
 have H':=a0_ H
 clear H
 go_enter Try.func39,Try.ntmps39
 go_wp2_with (first | ((with_reducible refine gate_dst (N:=2) rfl ?_);refine box_event ?hg (N:=2) ?hd (cs:=#[.slice none 0 0]) (t:=25) ?hr ?_;(case hd=>rfl);(case hg=>rfl);(case hr=>first | (go_simp;done) | (go_simp;rfl));intro gb1 hg w2 hbox hb;have BK1:=a0_ (hbox);have GW1:=a0_ ((by rw [hg];exact (below_size hbw_) : w.heap.size ≤ gb1));have GE1:=a0_ ((by rw [hg];exact (below_size hbw_) : w.heap.size ≤ gb1));replace HB:=a0_ (below_step hbw_ hb);clear hb hbox hg) | ((with_reducible refine gate_dst (N:=4) rfl ?_);refine box_event ?hg (N:=4) ?hd (cs:=#[.slice none 0 0]) (t:=25) ?hr ?_;(case hd=>rfl);(case hg=>rfl);(case hr=>first | (go_simp;done) | (go_simp;rfl));intro gb2 hg w3 hbox hb;have n0_:=kb_ BK1 hb;have n1_:=a0_ (below_step hbw_ hb);have n2_:=a0_ (hbox);have n3_:=a0_ ((by rw [hg];exact (below_size hbw_) : w.heap.size ≤ gb2));have n4_:=a0_ ((by rw [hg];exact (below_size hbw_) : w.heap.size ≤ gb2));have n5_:=a0_ ((by rw [hg];exact Nat.ne_of_lt (blk_lt (bb_ BK1.out)) : gb1 ≠ gb2));have n6_:=a0_ ((by rw [hg];exact Nat.ne_of_gt (blk_lt (bb_ BK1.out)) : gb2 ≠ gb1));clear BK1 HB;have BK1:=n0_;have HB:=n1_;have BK2:=n2_;have GW2:=n3_;have GE2:=n4_;have NB1_2:=n5_;have NB2_1:=n6_;clear n0_ n1_ n2_ n3_ n4_ n5_ n6_;clear hb hbox hg;have hnb4:=NB2_1.out;have hnc4:=NB1_2.out;have hcz5_0 : w3.cell? ⟨gb2,0,none⟩ = some (.slice none 0 0):=(blk_cell BK2.out 0).trans rfl;have hfz5_0:=blk_frozen BK2.out 0))
 go_loopg [5] k (fun kq v5 w'=>∃ (x5_1 : ByteArray) (x3000_1 : List (S125)) (u3000 : Value),v5 = .string x5_1 ∧ Aside0 (impl_ParseTree.l0 kq a0 x5_1 x3000_1 = some (r1,r2)) ∧ Aside0 (kq ≤ k) ∧ Aside0 (Kd.R k125 125 w' w.heap.size (fun _=>True) u3000 x3000_1) ∧ Aside0 (w'.heap[gb1]? = some (.cells #[(.slice none 0 0)] 25 (0,0))) ∧ Aside0 (w'.heap[gb2]? = some (.cells #[u3000] 25 (0,0))) ∧ Aside0 (Below w.heap.size w w'))
 case atStart=>exact ⟨(a0),(([] : List (S125))),(.slice none 0 0),(by first | rfl | (simp;done) | (simp [*];done)),H',⟨Nat.le_refl _⟩,⟨by first | exact Kd.R_nil _ _ _ _ _ | exact Kd.N_nil _ _ _ _ _ | exact Kd.V_nil _ _ _ _ _ | exact Kd.Q_nil _ _ _ _ _ | exact Kd.S_nil _ _ _ _ _⟩,⟨by (with_reducible repeat (first | refine blk_drewN ?_ _ | refine blk_drew ?_ | refine blk_alloc ?_ _));refine blk_far ?_ NB1_2.out _;(with_reducible repeat (first | refine blk_drewN ?_ _ | refine blk_drew ?_ | refine blk_alloc ?_ _));exact BK1.out⟩,⟨by (with_reducible repeat (first | refine blk_drewN ?_ _ | refine blk_drew ?_ | refine blk_alloc ?_ _));refine blk_put (cs:=#[.slice none 0 0]) ?_ 0 _ rfl;(with_reducible repeat (first | refine blk_drewN ?_ _ | refine blk_drew ?_ | refine blk_alloc ?_ _));exact BK2.out⟩,⟨hbw_⟩⟩
 case round =>
  clear H'
  try clear p2
  try clear c3
  try clear c4
  try clear hcz5_0
  try clear hfz5_0
  obtain ⟨x5_1,x3000_1,u3000,rfl,HA,HK1,Z3,BK1,BK2,HB⟩:=hrel
  cases gk with
  | zero=>exact absurd HA.out (by simp [impl_ParseTree.l0])
  | succ k1 =>
   have H:=HA.out
   clear HA
   simp only [impl_ParseTree.l0] at H
   by_cases c6 : x5_1.toList = ([] : List UInt8)
   ·rw [if_pos c6] at H
    have c6b0 : (x5_1.toList == ([] : List UInt8)) = true:=beq_iff_eq.mpr c6
    have c6b1 : (x5_1.toList != ([] : List UInt8)) = false:=bne_eq_false_iff_eq.mpr c6
    clear c6
    replace H:=Option.bind_eq_some_iff.mp H
    obtain ⟨t17,A70,H⟩:=H
    try dsimp only at H
    have A7:=a0_ A70
    clear A70
    by_cases c8 : t17.toList = a0.toList
    ·rw [if_pos c8] at H
     have c8b0 : (t17.toList == a0.toList) = true:=beq_iff_eq.mpr c8
     have c8b1 : (t17.toList != a0.toList) = false:=bne_eq_false_iff_eq.mpr c8
     clear c8
     by_cases c9 : a0.toList = ([] : List UInt8)
     ·rw [if_pos c9] at H
      have c9b0 : (a0.toList == ([] : List UInt8)) = true:=beq_iff_eq.mpr c9
      have c9b1 : (a0.toList != ([] : List UInt8)) = false:=bne_eq_false_iff_eq.mpr c9
      clear c9
      simp only [Option.some.injEq,Prod.mk.injEq] at H
      obtain ⟨rfl,rfl⟩:=H
      have hnb10:=NB2_1.out
      have hnc10:=NB1_2.out
      have hcz11_0 : wr.cell? ⟨gb2,0,none⟩ = some (u3000):=(blk_cell BK2.out 0).trans rfl
      have hfz11_0:=blk_frozen BK2.out 0
      obtain ⟨Ao12,co12,eo12⟩:=Kd.R_slice Z3.out
      subst eo12
      go_wp2_with (first | ((with_reducible refine gate_callee (f:=49) rfl ?_);refine goesL_ (some 44) rfl rfl Try.func49 (by kernel_rfl) rfl #[.agg #[.slice Ao12 x3000_1.length co12]] rfl lm_ ?_;(with_reducible refine (impl_TreeText.calls _ _ x3000_1 t17 _ ?side1 ?side2 A7.out).mono ?_);(case side1=>exact cc_ (Kd.R_reads' Z3.out).2.2);(case side2=>exact (Kd.R_reads' Z3.out).2.1);rintro e w13 ⟨rfl,hb⟩;refine ⟨_,rfl,?_⟩;replace Z3:=rb_ Z3 hb;replace BK1:=kb_ BK1 hb;replace BK2:=kb_ BK2 hb;replace HB:=a0_ (below_step hbw_ hb);(try clear hb);have hcz14_0 : w13.cell? ⟨gb1,0,none⟩ = some (.slice none 0 0):=(blk_cell BK1.out 0).trans rfl;have hfz14_0:=blk_frozen BK1.out 0))
      refine bodyPost_ret (results_ct rfl _ _ gb1 25 #[.slice none 0 0] (0,0) _ rfl (by (with_reducible repeat (first | refine blk_drewN ?_ _ | refine blk_drew ?_ | refine blk_alloc ?_ _));refine blk_put (cs:=#[.slice none 0 0]) ?_ 0 _ rfl;(with_reducible repeat (first | refine blk_drewN ?_ _ | refine blk_drew ?_ | refine blk_alloc ?_ _));exact BK1.out) Try.underlying25 rfl (by kernel_rfl)) rfl ?_
      exact ⟨_,by first | rfl | (simp [errW_none,errW_some] <;> rfl) | (simp [*,errW_none,errW_some] <;> rfl),by first | exact Kd.R_nil _ _ _ _ _ | exact Kd.N_nil _ _ _ _ _ | exact Kd.V_nil _ _ _ _ _ | exact Kd.Q_nil _ _ _ _ _ | exact Kd.S_nil _ _ _ _ _,hbw_⟩
     ·rw [if_neg c9] at H
      have c9b0 : (a0.toList == ([] : List UInt8)) = false:=beq_eq_false_iff_ne.mpr c9
      have c9b1 : (a0.toList != ([] : List UInt8)) = true:=bne_iff_ne.mpr c9
      replace H:=Option.bind_eq_some_iff.mp H
      obtain ⟨t18,A150,H⟩:=H
      replace H : (some (t18,true)) = some (r1,r2):=H
      have A15:=a0_ A150
      clear A150
      simp only [Option.some.injEq,Prod.mk.injEq] at H
      obtain ⟨rfl,rfl⟩:=H
      have hnb16:=NB2_1.out
      have hnc16:=NB1_2.out
      have hcz17_0 : wr.cell? ⟨gb2,0,none⟩ = some (u3000):=(blk_cell BK2.out 0).trans rfl
      have hfz17_0:=blk_frozen BK2.out 0
      obtain ⟨Ao18,co18,eo18⟩:=Kd.R_slice Z3.out
      subst eo18
      go_wp2_with (first | ((with_reducible refine gate_callee (f:=49) rfl ?_);refine goesL_ (some 44) rfl rfl Try.func49 (by kernel_rfl) rfl #[.agg #[.slice Ao18 x3000_1.length co18]] rfl lm_ ?_;(with_reducible refine (impl_TreeText.calls _ _ x3000_1 t17 _ ?side1 ?side2 A7.out).mono ?_);(case side1=>exact cc_ (Kd.R_reads' Z3.out).2.2);(case side2=>exact (Kd.R_reads' Z3.out).2.1);rintro e w19 ⟨rfl,hb⟩;refine ⟨_,rfl,?_⟩;replace Z3:=rb_ Z3 hb;replace BK1:=kb_ BK1 hb;replace BK2:=kb_ BK2 hb;replace HB:=a0_ (below_step hbw_ hb);(try clear hb);have hcz20_0 : w19.cell? ⟨gb2,0,none⟩ = some (.slice Ao18 x3000_1.length co18):=(blk_cell BK2.out 0).trans rfl;have hfz20_0:=blk_frozen BK2.out 0) | ((with_reducible refine gate_callee (f:=93) rfl ?_);refine goesL_ (some 54) rfl rfl Try.func93 (by kernel_rfl) rfl #[.slice Ao18 x3000_1.length co18] rfl lm_ ?_;(with_reducible refine (slices_Clip_Class.calls (fun k_=>some k_ = (.slice Ao18 x3000_1.length co18 : Value).ownBlock) (.slice Ao18 x3000_1.length co18) x3000_1 t18 w _ ?side1 ?side2 A15.out).mono ?_);(case side1=>exact hbw_);(case side2=>exact Kd.R_tight rfl Z3.out);rintro e w21 ⟨v19,rfl,ho0,hb,hkp⟩;refine ⟨_,rfl,?_⟩;replace BK1:=a0_ (blk_kept (bb_ BK1.out) hkp (fun hs_=>(fun e_=>(Kd.R_ne Z3.out BK1.out (by decide)) e_) hs_));replace BK2:=a0_ (blk_kept (bb_ BK2.out) hkp (fun hs_=>(fun e_=>(Kd.R_ne Z3.out BK2.out (by decide)) e_) hs_));have HO20:=a0_ (Kd.R_mono (ok':=fun k_=>True) ho0 (fun k_ hk_=>trivial));replace HB:=a0_ (hb);clear Z3;(try clear hb);(try clear hkp);(try clear ho0);obtain ⟨Ao22,co22,eo22⟩:=Kd.R_slice HO20.out;subst eo22;have hcz23_0 : w21.cell? ⟨gb1,0,none⟩ = some (.slice none 0 0):=(blk_cell BK1.out 0).trans rfl;have hfz23_0:=blk_frozen BK1.out 0))
      refine bodyPost_ret (results_ct rfl _ _ gb1 25 #[.slice Ao22 t18.length co22] (0,0) _ rfl (by (with_reducible repeat (first | refine blk_drewN ?_ _ | refine blk_drew ?_ | refine blk_alloc ?_ _));refine blk_put (cs:=#[.slice none 0 0]) ?_ 0 _ rfl;(with_reducible repeat (first | refine blk_drewN ?_ _ | refine blk_drew ?_ | refine blk_alloc ?_ _));exact BK1.out) Try.underlying25 rfl (by kernel_rfl)) rfl ?_
      exact ⟨_,by first | rfl | (simp [errW_none,errW_some] <;> rfl) | (simp [*,errW_none,errW_some] <;> rfl),by (with_reducible repeat (first | apply Kd.R_alloc | apply Kd.R_drewN | apply Kd.R_drew));exact Kd.R_mono (Kd.R_far (p:=⟨gb1,0,none⟩) (Kd.R_types HO20.out BK1.out (by decide)) (fun _ hk=>hk.2) (.slice Ao22 t18.length co22)) (fun _ hk=>trivial),hbw_⟩
    ·rw [if_neg c8] at H
     have c8b0 : (t17.toList == a0.toList) = false:=beq_eq_false_iff_ne.mpr c8
     have c8b1 : (t17.toList != a0.toList) = true:=bne_iff_ne.mpr c8
     simp only [Option.some.injEq,Prod.mk.injEq] at H
     obtain ⟨rfl,rfl⟩:=H
     have hnb24:=NB2_1.out
     have hnc24:=NB1_2.out
     have hcz25_0 : wr.cell? ⟨gb2,0,none⟩ = some (u3000):=(blk_cell BK2.out 0).trans rfl
     have hfz25_0:=blk_frozen BK2.out 0
     obtain ⟨Ao26,co26,eo26⟩:=Kd.R_slice Z3.out
     subst eo26
     go_wp2_with (first | ((with_reducible refine gate_callee (f:=49) rfl ?_);refine goesL_ (some 44) rfl rfl Try.func49 (by kernel_rfl) rfl #[.agg #[.slice Ao26 x3000_1.length co26]] rfl lm_ ?_;(with_reducible refine (impl_TreeText.calls _ _ x3000_1 t17 _ ?side1 ?side2 A7.out).mono ?_);(case side1=>exact cc_ (Kd.R_reads' Z3.out).2.2);(case side2=>exact (Kd.R_reads' Z3.out).2.1);rintro e w27 ⟨rfl,hb⟩;refine ⟨_,rfl,?_⟩;replace Z3:=rb_ Z3 hb;replace BK1:=kb_ BK1 hb;replace BK2:=kb_ BK2 hb;replace HB:=a0_ (below_step hbw_ hb);(try clear hb);have hcz28_0 : w27.cell? ⟨gb1,0,none⟩ = some (.slice none 0 0):=(blk_cell BK1.out 0).trans rfl;have hfz28_0:=blk_frozen BK1.out 0))
     refine bodyPost_ret (results_ct rfl _ _ gb1 25 #[.slice none 0 0] (0,0) _ rfl (by (with_reducible repeat (first | refine blk_drewN ?_ _ | refine blk_drew ?_ | refine blk_alloc ?_ _));refine blk_put (cs:=#[.slice none 0 0]) ?_ 0 _ rfl;(with_reducible repeat (first | refine blk_drewN ?_ _ | refine blk_drew ?_ | refine blk_alloc ?_ _));exact BK1.out) Try.underlying25 rfl (by kernel_rfl)) rfl ?_
     exact ⟨_,by first | rfl | (simp [errW_none,errW_some] <;> rfl) | (simp [*,errW_none,errW_some] <;> rfl),by first | exact Kd.R_nil _ _ _ _ _ | exact Kd.N_nil _ _ _ _ _ | exact Kd.V_nil _ _ _ _ _ | exact Kd.Q_nil _ _ _ _ _ | exact Kd.S_nil _ _ _ _ _,hbw_⟩
   ·rw [if_neg c6] at H
    have c6b0 : (x5_1.toList == ([] : List UInt8)) = false:=beq_eq_false_iff_ne.mpr c6
    have c6b1 : (x5_1.toList != ([] : List UInt8)) = true:=bne_iff_ne.mpr c6
    replace H:=Option.bind_eq_some_iff.mp H
    obtain ⟨⟨t3,t4,t5⟩,A290,H⟩:=H
    try dsimp only at H
    have A29:=a0_ A290
    clear A290
    replace H:=Option.bind_eq_some_iff.mp H
    obtain ⟨⟨t6,t7,t8⟩,A300,H⟩:=H
    try dsimp only at H
    have A30:=a0_ A300
    clear A300
    by_cases c31 : t8 = true
    ·subst c31
     have H1 : ((impl_Tree_named.f x3000_1 t7).bind fun t10=>(if x3000_1.length < 5864062014805 then (impl_ParseTree.l0 k1 a0 t4 (x3000_1 ++ [(⟨t6,t10⟩ : S125)])) else (none))) = some (r1,r2):=by rw [if_pos rfl] at H;exact H
     clear H
     have H:=H1
     clear H1
     replace H:=Option.bind_eq_some_iff.mp H
     obtain ⟨t10,A320,H⟩:=H
     try dsimp only at H
     have A32:=a0_ A320
     clear A320
     by_cases c33 : x3000_1.length < 5864062014805
     ·rw [if_pos c33] at H
      have LMc33:=a0_ c33
      clear c33
      obtain ⟨y11,hy11⟩ : ∃ y_ : List (S125),y_ = (x3000_1 ++ [(⟨t6,t10⟩ : S125)]):=⟨_,rfl⟩
      replace H : (impl_ParseTree.l0 k1 a0 t4 y11) = some (r1,r2):=by first | (rw [hy11];with_reducible exact H) | (have H2_:=(Option.bind_some _ _).symm.trans H;rw [hy11];with_reducible exact H2_) | (have H2_:=(Option.bind_some _ _).symm.trans H;with_reducible exact H2_) | with_reducible exact H | (rw [hy11];exact H) | exact H
      have Ny11:=a0_ hy11
      clear hy11
      have H':=a0_ H
      clear H
      go_wp2_with (first | ((with_reducible refine gate_callee (f:=91) rfl ?_);refine goesL_ (some 19) rfl rfl Try.func91 (by kernel_rfl) rfl #[.string x5_1,.string (⟨#[10]⟩ : ByteArray)] rfl lm_ ?_;(with_reducible refine (strings_Cut.calls x5_1 (⟨#[10]⟩ : ByteArray) t3 t4 t5 _ A29.out).mono ?_);rintro e w' ⟨rfl,⟨nd,rfl⟩⟩;refine ⟨_,rfl,?_⟩;(try (rw [drewN_self wr];generalize hq_ : World.drewN wr _ = wr;have n0_ : Aside0 (Kd.R k125 125 wr w.heap.size (fun k_=>True) u3000 x3000_1):=⟨by rw [← hq_];exact (rr_ Z3.out)⟩;have n1_ : Aside0 (wr.heap[gb1]? = some (.cells #[.slice none 0 0] 25 (0,0))):=⟨by rw [← hq_];exact (bb_ BK1.out)⟩;have n2_ : Aside0 (wr.heap[gb2]? = some (.cells #[u3000] 25 (0,0))):=⟨by rw [← hq_];exact (bb_ BK2.out)⟩;have n3_ : Aside0 (Below w.heap.size w wr):=⟨by rw [← hq_];exact hbw_⟩;clear Z3 BK1 BK2 HB hq_;have Z3:=n0_;have BK1:=n1_;have BK2:=n2_;have HB:=n3_;clear n0_ n1_ n2_ n3_))) | ((with_reducible refine gate_callee (f:=91) rfl ?_);refine goesL_ (some 25) rfl rfl Try.func91 (by kernel_rfl) rfl #[.string t3,.string (⟨#[32]⟩ : ByteArray)] rfl lm_ ?_;(with_reducible refine (strings_Cut.calls t3 (⟨#[32]⟩ : ByteArray) t6 t7 true _ A30.out).mono ?_);rintro e w' ⟨rfl,⟨nd,rfl⟩⟩;refine ⟨_,rfl,?_⟩;(try (rw [drewN_self wr];generalize hq_ : World.drewN wr _ = wr;have n0_ : Aside0 (Kd.R k125 125 wr w.heap.size (fun k_=>True) u3000 x3000_1):=⟨by rw [← hq_];exact (rr_ Z3.out)⟩;have n1_ : Aside0 (wr.heap[gb1]? = some (.cells #[.slice none 0 0] 25 (0,0))):=⟨by rw [← hq_];exact (bb_ BK1.out)⟩;have n2_ : Aside0 (wr.heap[gb2]? = some (.cells #[u3000] 25 (0,0))):=⟨by rw [← hq_];exact (bb_ BK2.out)⟩;have n3_ : Aside0 (Below w.heap.size w wr):=⟨by rw [← hq_];exact hbw_⟩;clear Z3 BK1 BK2 HB hq_;have Z3:=n0_;have BK1:=n1_;have BK2:=n2_;have HB:=n3_;clear n0_ n1_ n2_ n3_))) | ((with_reducible refine gate_dst (N:=12) rfl ?_);refine box_event ?hg (N:=12) ?hd (cs:=#[.string (⟨#[]⟩ : ByteArray),.int .i64 0]) (t:=125) ?hr ?_;(case hd=>rfl);(case hg=>rfl);(case hr=>first | (go_simp;done) | (go_simp;rfl));intro gb9 hg w34 hbox hb;have n0_:=a0_ (Kd.R_below (Kd.R_elderB (rr_ Z3.out) gb9 (Nat.le_of_eq hg.symm)) hb);have n1_:=kb_ BK1 hb;have n2_:=kb_ BK2 hb;have n3_:=a0_ (below_step hbw_ hb);have n4_:=a0_ (hbox);have n5_:=a0_ ((by rw [hg];exact (below_size hbw_) : w.heap.size ≤ gb9));have n6_:=a0_ ((by rw [hg];exact (below_size hbw_) : w.heap.size ≤ gb9));have n7_:=a0_ ((by rw [hg];exact Nat.ne_of_lt (blk_lt (bb_ BK1.out)) : gb1 ≠ gb9));have n8_:=a0_ ((by rw [hg];exact Nat.ne_of_gt (blk_lt (bb_ BK1.out)) : gb9 ≠ gb1));have n9_:=a0_ ((by rw [hg];exact Nat.ne_of_lt (blk_lt (bb_ BK2.out)) : gb2 ≠ gb9));have n10_:=a0_ ((by rw [hg];exact Nat.ne_of_gt (blk_lt (bb_ BK2.out)) : gb9 ≠ gb2));clear Z3 BK1;clear BK2 HB;have Z3:=n0_;have BK1:=n1_;have BK2:=n2_;have HB:=n3_;have BK9:=n4_;have GW9:=n5_;have GE9:=n6_;have NB1_9:=n7_;have NB9_1:=n8_;have NB2_9:=n9_;have NB9_2:=n10_;clear n0_ n1_ n2_ n3_ n4_ n5_ n6_ n7_ n8_ n9_ n10_;clear hb hbox hg;have hnb35:=NB9_1.out;have hnc35:=NB1_9.out;have hnb36:=NB9_2.out;have hnc36:=NB2_9.out;have hcz37_0 : w34.cell? ⟨gb9,0,none⟩ = some (.string (⟨#[]⟩ : ByteArray)):=(blk_cell BK9.out 0).trans rfl;have hcz37_1 : w34.cell? ⟨gb9,1,none⟩ = some (.int .i64 0):=(blk_cell BK9.out 1).trans rfl;have hfz37_0:=blk_frozen BK9.out 0;have hfz37_1:=blk_frozen BK9.out 1;have hnb38:=NB2_1.out;have hnc38:=NB1_2.out;have hcz39_0 : w34.cell? ⟨gb2,0,none⟩ = some (u3000):=(blk_cell BK2.out 0).trans rfl;have hfz39_0:=blk_frozen BK2.out 0;obtain ⟨Ao40,co40,eo40⟩:=Kd.R_slice Z3.out;subst eo40) | ((with_reducible refine gate_callee (f:=92) rfl ?_);refine goesL_ (some 34) rfl rfl Try.func92 (by kernel_rfl) rfl #[.agg #[.slice Ao40 x3000_1.length co40],.string t7] rfl lm_ ?_;(with_reducible refine (impl_Tree_named.calls _ _ x3000_1 t7 t10 _ ?side1 ?side2 A32.out).mono ?_);(case side1=>refine (Kd.R_reads' (e:=125) (base:=w.heap.size) (ok:=fun k_=>(True ∧ k_ ≠ gb9)) (n:=x3000_1.length) (c:=co40) ?_).2.2;exact (by (with_reducible repeat (first | apply Kd.R_alloc | apply Kd.R_drewN | apply Kd.R_drew));exact (Kd.R_mono (Kd.R_far (p:=⟨gb9,1,none⟩) (Kd.R_far (p:=⟨gb9,0,none⟩) (Kd.R_mono Z3.out (fun k_ hk=>(⟨hk,hk.2⟩ : _ ∧ k_ ≠ gb9))) (fun _ hk=>hk.2) (.string t6)) (fun _ hk=>hk.2) (.int .i64 (-1))) (fun _ h_=>h_.1))));(case side2=>exact (Kd.R_reads' Z3.out).2.1);rintro e w41 ⟨rfl,hb⟩;refine ⟨_,rfl,?_⟩;replace Z3:=a0_ (Kd.R_below (by (with_reducible repeat (first | apply Kd.R_alloc | apply Kd.R_drewN | apply Kd.R_drew));exact (Kd.R_mono (Kd.R_far (p:=⟨gb9,1,none⟩) (Kd.R_far (p:=⟨gb9,0,none⟩) (Kd.R_mono Z3.out (fun k_ hk=>(⟨hk,hk.2⟩ : _ ∧ k_ ≠ gb9))) (fun _ hk=>hk.2) (.string t6)) (fun _ hk=>hk.2) (.int .i64 (-1))) (fun _ h_=>h_.1))) hb);replace BK1:=a0_ (blk_below (g:=gb1) (o:=.cells #[.slice none 0 0] 25 (0,0)) (bff_ BK1.out) hb);replace BK2:=a0_ (blk_below (g:=gb2) (o:=.cells #[.slice Ao40 x3000_1.length co40] 25 (0,0)) (bff_ BK2.out) hb);replace BK9:=a0_ (blk_below (g:=gb9) (o:=.cells #[.string t6,.int .i64 (-1)] 125 (0,0)) (by (with_reducible repeat (first | refine blk_drewN ?_ _ | refine blk_drew ?_ | refine blk_alloc ?_ _));refine blk_put (cs:=#[.string t6,.int .i64 0]) ?_ 1 _ rfl;(with_reducible repeat (first | refine blk_drewN ?_ _ | refine blk_drew ?_ | refine blk_alloc ?_ _));refine blk_put (cs:=#[.string (⟨#[]⟩ : ByteArray),.int .i64 0]) ?_ 0 _ rfl;(with_reducible repeat (first | refine blk_drewN ?_ _ | refine blk_drew ?_ | refine blk_alloc ?_ _));exact BK9.out) hb);replace HB:=a0_ (below_step hbw_ hb);(try clear hb);have hcz42_0 : w41.cell? ⟨gb9,0,none⟩ = some (.string t6):=(blk_cell BK9.out 0).trans rfl;have hcz42_1 : w41.cell? ⟨gb9,1,none⟩ = some (.int .i64 (-1)):=(blk_cell BK9.out 1).trans rfl;have hfz42_0:=blk_frozen BK9.out 0;have hfz42_1:=blk_frozen BK9.out 1;have hcz43_0 : w41.cell? ⟨gb2,0,none⟩ = some (.slice Ao40 x3000_1.length co40):=(blk_cell BK2.out 0).trans rfl;have hfz43_0:=blk_frozen BK2.out 0) | ((with_reducible refine gate_builtin (b:=.append) (xs:=#[.tmp 37,.tmp 39]) rfl ?_);at_builtin;refine Kd.R_append k125 (w0:=w) w.heap.size rfl (.tmp 37) (.tmp 39) 23 125 (.agg #[(.string ⟨#[]⟩),(.int .i64 0)]) 24 rfl Try.underlying23 info125 rfl (by decide) (by omega) (.slice Ao40 x3000_1.length co40) x3000_1 (⟨t6,t10⟩ : S125) [.string t6,.int .i64 t10] (fun k_=>k_ ≠ gb9) (fun _=>False) rfl (by first | (go_simp;done) | (go_simp;rfl)) ?aP (fun _ hk=>hk.elim) ?aF ?aO ?aB ?aS ?aL ?_;(case aP=>exact k125_mkM _ _ _ (⟨t6,t10⟩ : S125));(case aB=>exact hbw_);(case aF=>exact (fun k_ hk=>Kd.freshB (g:=gb9) (o:=.cells #[.string t6,.int .i64 t10] 125 (0,0)) (by (with_reducible repeat (first | refine blk_drewN ?_ _ | refine blk_drew ?_ | refine blk_alloc ?_ _));refine blk_put (cs:=#[.string t6,.int .i64 (-1)]) ?_ 1 _ rfl;(with_reducible repeat (first | refine blk_drewN ?_ _ | refine blk_drew ?_ | refine blk_alloc ?_ _));exact BK9.out) k_ hk));(case aO=>exact (by (with_reducible repeat (first | apply Kd.R_alloc | apply Kd.R_drewN | apply Kd.R_drew));exact Kd.R_mono (Kd.R_far (p:=⟨gb9,1,none⟩) (Kd.R_mono Z3.out (fun k_ hk=>(⟨hk,hk.2⟩ : _ ∧ k_ ≠ gb9))) (fun _ hk=>hk.2) (.int .i64 t10)) (fun _ hk=>hk.1.2)));(case aS=>exact (below_size hbw_));(case aL=>have:=LMc33.out;omega);intro v12 w44 ho hb hg hat;rw [← Ny11.out] at ho;replace BK1:=a0_ (blk_grown (g:=gb1) (o:=.cells #[.slice none 0 0] 25 (0,0)) (bff_ BK1.out) hg (Kd.R_ne Z3.out BK1.out (by decide)));replace BK2:=a0_ (blk_grown (g:=gb2) (o:=.cells #[.slice Ao40 x3000_1.length co40] 25 (0,0)) (bff_ BK2.out) hg (Kd.R_ne Z3.out BK2.out (by decide)));replace BK9:=a0_ (blk_grown (g:=gb9) (o:=.cells #[.string t6,.int .i64 t10] 125 (0,0)) (by (with_reducible repeat (first | refine blk_drewN ?_ _ | refine blk_drew ?_ | refine blk_alloc ?_ _));refine blk_put (cs:=#[.string t6,.int .i64 (-1)]) ?_ 1 _ rfl;(with_reducible repeat (first | refine blk_drewN ?_ _ | refine blk_drew ?_ | refine blk_alloc ?_ _));exact BK9.out) hg (Kd.R_away Z3.out (fun _ hk=>hk.2)));have HO13:=a0_ (ho);replace HB:=a0_ (hb);clear Z3;clear ho hb hg hat;obtain ⟨Ao45,co45,eo45⟩:=Kd.R_slice HO13.out;subst eo45;have hcz46_0 : w44.cell? ⟨gb2,0,none⟩ = some (.slice Ao40 x3000_1.length co40):=(blk_cell BK2.out 0).trans rfl;have hfz46_0:=blk_frozen BK2.out 0))
      go_roundg k1
      case measure=>have:=HK1.out;omega
      case rel=>exact ⟨(t4),(y11),(.slice Ao45 y11.length co45),(by first | rfl | (simp;done) | (simp [*];done)),H',⟨by have:=HK1.out;omega⟩,⟨by (with_reducible repeat (first | apply Kd.R_alloc | apply Kd.R_drewN | apply Kd.R_drew));exact Kd.R_mono (Kd.R_far (p:=⟨gb2,0,none⟩) (Kd.R_types HO13.out BK2.out (by decide)) (fun _ hk=>hk.2) (.slice Ao45 y11.length co45)) (fun _ hk=>trivial)⟩,⟨by (with_reducible repeat (first | refine blk_drewN ?_ _ | refine blk_drew ?_ | refine blk_alloc ?_ _));refine blk_far ?_ NB1_2.out _;(with_reducible repeat (first | refine blk_drewN ?_ _ | refine blk_drew ?_ | refine blk_alloc ?_ _));exact BK1.out⟩,⟨by (with_reducible repeat (first | refine blk_drewN ?_ _ | refine blk_drew ?_ | refine blk_alloc ?_ _));refine blk_put (cs:=#[.slice Ao40 x3000_1.length co40]) ?_ 0 _ rfl;(with_reducible repeat (first | refine blk_drewN ?_ _ | refine blk_drew ?_ | refine blk_alloc ?_ _));exact BK2.out⟩,⟨hbw_⟩⟩
     ·rw [if_neg c33] at H
      exact absurd H (by simp)
    ·replace c31:=Bool.eq_false_iff.mpr c31
     subst c31
     have H1 : (if x3000_1.length < 5864062014805 then (impl_ParseTree.l0 k1 a0 t4 (x3000_1 ++ [(⟨t6,(-1)⟩ : S125)])) else (none)) = some (r1,r2):=by rw [if_neg (show ¬ (false = true) by decide)] at H;exact H
     clear H
     have H:=H1
     clear H1
     by_cases c47 : x3000_1.length < 5864062014805
     ·rw [if_pos c47] at H
      have LMc47:=a0_ c47
      clear c47
      obtain ⟨y14,hy14⟩ : ∃ y_ : List (S125),y_ = (x3000_1 ++ [(⟨t6,(-1)⟩ : S125)]):=⟨_,rfl⟩
      replace H : (impl_ParseTree.l0 k1 a0 t4 y14) = some (r1,r2):=by first | (rw [hy14];with_reducible exact H) | (have H2_:=(Option.bind_some _ _).symm.trans H;rw [hy14];with_reducible exact H2_) | (have H2_:=(Option.bind_some _ _).symm.trans H;with_reducible exact H2_) | with_reducible exact H | (rw [hy14];exact H) | exact H
      have Ny14:=a0_ hy14
      clear hy14
      have H':=a0_ H
      clear H
      go_wp2_with (first | ((with_reducible refine gate_callee (f:=91) rfl ?_);refine goesL_ (some 19) rfl rfl Try.func91 (by kernel_rfl) rfl #[.string x5_1,.string (⟨#[10]⟩ : ByteArray)] rfl lm_ ?_;(with_reducible refine (strings_Cut.calls x5_1 (⟨#[10]⟩ : ByteArray) t3 t4 t5 _ A29.out).mono ?_);rintro e w' ⟨rfl,⟨nd,rfl⟩⟩;refine ⟨_,rfl,?_⟩;(try (rw [drewN_self wr];generalize hq_ : World.drewN wr _ = wr;have n0_ : Aside0 (Kd.R k125 125 wr w.heap.size (fun k_=>True) u3000 x3000_1):=⟨by rw [← hq_];exact (rr_ Z3.out)⟩;have n1_ : Aside0 (wr.heap[gb1]? = some (.cells #[.slice none 0 0] 25 (0,0))):=⟨by rw [← hq_];exact (bb_ BK1.out)⟩;have n2_ : Aside0 (wr.heap[gb2]? = some (.cells #[u3000] 25 (0,0))):=⟨by rw [← hq_];exact (bb_ BK2.out)⟩;have n3_ : Aside0 (Below w.heap.size w wr):=⟨by rw [← hq_];exact hbw_⟩;clear Z3 BK1 BK2 HB hq_;have Z3:=n0_;have BK1:=n1_;have BK2:=n2_;have HB:=n3_;clear n0_ n1_ n2_ n3_))) | ((with_reducible refine gate_callee (f:=91) rfl ?_);refine goesL_ (some 25) rfl rfl Try.func91 (by kernel_rfl) rfl #[.string t3,.string (⟨#[32]⟩ : ByteArray)] rfl lm_ ?_;(with_reducible refine (strings_Cut.calls t3 (⟨#[32]⟩ : ByteArray) t6 t7 false _ A30.out).mono ?_);rintro e w' ⟨rfl,⟨nd,rfl⟩⟩;refine ⟨_,rfl,?_⟩;(try (rw [drewN_self wr];generalize hq_ : World.drewN wr _ = wr;have n0_ : Aside0 (Kd.R k125 125 wr w.heap.size (fun k_=>True) u3000 x3000_1):=⟨by rw [← hq_];exact (rr_ Z3.out)⟩;have n1_ : Aside0 (wr.heap[gb1]? = some (.cells #[.slice none 0 0] 25 (0,0))):=⟨by rw [← hq_];exact (bb_ BK1.out)⟩;have n2_ : Aside0 (wr.heap[gb2]? = some (.cells #[u3000] 25 (0,0))):=⟨by rw [← hq_];exact (bb_ BK2.out)⟩;have n3_ : Aside0 (Below w.heap.size w wr):=⟨by rw [← hq_];exact hbw_⟩;clear Z3 BK1 BK2 HB hq_;have Z3:=n0_;have BK1:=n1_;have BK2:=n2_;have HB:=n3_;clear n0_ n1_ n2_ n3_))) | ((with_reducible refine gate_dst (N:=12) rfl ?_);refine box_event ?hg (N:=12) ?hd (cs:=#[.string (⟨#[]⟩ : ByteArray),.int .i64 0]) (t:=125) ?hr ?_;(case hd=>rfl);(case hg=>rfl);(case hr=>first | (go_simp;done) | (go_simp;rfl));intro gb9 hg w48 hbox hb;have n0_:=a0_ (Kd.R_below (Kd.R_elderB (rr_ Z3.out) gb9 (Nat.le_of_eq hg.symm)) hb);have n1_:=kb_ BK1 hb;have n2_:=kb_ BK2 hb;have n3_:=a0_ (below_step hbw_ hb);have n4_:=a0_ (hbox);have n5_:=a0_ ((by rw [hg];exact (below_size hbw_) : w.heap.size ≤ gb9));have n6_:=a0_ ((by rw [hg];exact (below_size hbw_) : w.heap.size ≤ gb9));have n7_:=a0_ ((by rw [hg];exact Nat.ne_of_lt (blk_lt (bb_ BK1.out)) : gb1 ≠ gb9));have n8_:=a0_ ((by rw [hg];exact Nat.ne_of_gt (blk_lt (bb_ BK1.out)) : gb9 ≠ gb1));have n9_:=a0_ ((by rw [hg];exact Nat.ne_of_lt (blk_lt (bb_ BK2.out)) : gb2 ≠ gb9));have n10_:=a0_ ((by rw [hg];exact Nat.ne_of_gt (blk_lt (bb_ BK2.out)) : gb9 ≠ gb2));clear Z3 BK1;clear BK2 HB;have Z3:=n0_;have BK1:=n1_;have BK2:=n2_;have HB:=n3_;have BK9:=n4_;have GW9:=n5_;have GE9:=n6_;have NB1_9:=n7_;have NB9_1:=n8_;have NB2_9:=n9_;have NB9_2:=n10_;clear n0_ n1_ n2_ n3_ n4_ n5_ n6_ n7_ n8_ n9_ n10_;clear hb hbox hg;have hnb49:=NB9_1.out;have hnc49:=NB1_9.out;have hnb50:=NB9_2.out;have hnc50:=NB2_9.out;have hcz51_0 : w48.cell? ⟨gb9,0,none⟩ = some (.string (⟨#[]⟩ : ByteArray)):=(blk_cell BK9.out 0).trans rfl;have hcz51_1 : w48.cell? ⟨gb9,1,none⟩ = some (.int .i64 0):=(blk_cell BK9.out 1).trans rfl;have hfz51_0:=blk_frozen BK9.out 0;have hfz51_1:=blk_frozen BK9.out 1;have hnb52:=NB2_1.out;have hnc52:=NB1_2.out;have hcz53_0 : w48.cell? ⟨gb2,0,none⟩ = some (u3000):=(blk_cell BK2.out 0).trans rfl;have hfz53_0:=blk_frozen BK2.out 0) | ((with_reducible refine gate_builtin (b:=.append) (xs:=#[.tmp 37,.tmp 39]) rfl ?_);at_builtin;refine Kd.R_append k125 (w0:=w) w.heap.size rfl (.tmp 37) (.tmp 39) 23 125 (.agg #[(.string ⟨#[]⟩),(.int .i64 0)]) 24 rfl Try.underlying23 info125 rfl (by decide) (by omega) u3000 x3000_1 (⟨t6,(-1)⟩ : S125) [.string t6,.int .i64 (-1)] (fun k_=>k_ ≠ gb9) (fun _=>False) rfl (by first | (go_simp;done) | (go_simp;rfl)) ?aP (fun _ hk=>hk.elim) ?aF ?aO ?aB ?aS ?aL ?_;(case aP=>exact k125_mkM _ _ _ (⟨t6,(-1)⟩ : S125));(case aB=>exact hbw_);(case aF=>exact (fun k_ hk=>Kd.freshB (g:=gb9) (o:=.cells #[.string t6,.int .i64 (-1)] 125 (0,0)) (by (with_reducible repeat (first | refine blk_drewN ?_ _ | refine blk_drew ?_ | refine blk_alloc ?_ _));refine blk_put (cs:=#[.string t6,.int .i64 0]) ?_ 1 _ rfl;(with_reducible repeat (first | refine blk_drewN ?_ _ | refine blk_drew ?_ | refine blk_alloc ?_ _));refine blk_put (cs:=#[.string (⟨#[]⟩ : ByteArray),.int .i64 0]) ?_ 0 _ rfl;(with_reducible repeat (first | refine blk_drewN ?_ _ | refine blk_drew ?_ | refine blk_alloc ?_ _));exact BK9.out) k_ hk));(case aO=>exact (by (with_reducible repeat (first | apply Kd.R_alloc | apply Kd.R_drewN | apply Kd.R_drew));exact Kd.R_mono (Kd.R_far (p:=⟨gb9,1,none⟩) (Kd.R_far (p:=⟨gb9,0,none⟩) (Kd.R_mono Z3.out (fun k_ hk=>(⟨hk,hk.2⟩ : _ ∧ k_ ≠ gb9))) (fun _ hk=>hk.2) (.string t6)) (fun _ hk=>hk.2) (.int .i64 (-1))) (fun _ hk=>hk.1.2)));(case aS=>exact (below_size hbw_));(case aL=>have:=LMc47.out;omega);intro v15 w54 ho hb hg hat;rw [← Ny14.out] at ho;replace BK1:=a0_ (blk_grown (g:=gb1) (o:=.cells #[.slice none 0 0] 25 (0,0)) (bff_ BK1.out) hg (Kd.R_ne Z3.out BK1.out (by decide)));replace BK2:=a0_ (blk_grown (g:=gb2) (o:=.cells #[u3000] 25 (0,0)) (bff_ BK2.out) hg (Kd.R_ne Z3.out BK2.out (by decide)));replace BK9:=a0_ (blk_grown (g:=gb9) (o:=.cells #[.string t6,.int .i64 (-1)] 125 (0,0)) (by (with_reducible repeat (first | refine blk_drewN ?_ _ | refine blk_drew ?_ | refine blk_alloc ?_ _));refine blk_put (cs:=#[.string t6,.int .i64 0]) ?_ 1 _ rfl;(with_reducible repeat (first | refine blk_drewN ?_ _ | refine blk_drew ?_ | refine blk_alloc ?_ _));refine blk_put (cs:=#[.string (⟨#[]⟩ : ByteArray),.int .i64 0]) ?_ 0 _ rfl;(with_reducible repeat (first | refine blk_drewN ?_ _ | refine blk_drew ?_ | refine blk_alloc ?_ _));exact BK9.out) hg (Kd.R_away Z3.out (fun _ hk=>hk.2)));have HO16:=a0_ (ho);replace HB:=a0_ (hb);clear Z3;clear ho hb hg hat;obtain ⟨Ao55,co55,eo55⟩:=Kd.R_slice HO16.out;subst eo55;have hcz56_0 : w54.cell? ⟨gb2,0,none⟩ = some (u3000):=(blk_cell BK2.out 0).trans rfl;have hfz56_0:=blk_frozen BK2.out 0))
      go_roundg k1
      case measure=>have:=HK1.out;omega
      case rel=>exact ⟨(t4),(y14),(.slice Ao55 y14.length co55),(by first | rfl | (simp;done) | (simp [*];done)),H',⟨by have:=HK1.out;omega⟩,⟨by (with_reducible repeat (first | apply Kd.R_alloc | apply Kd.R_drewN | apply Kd.R_drew));exact Kd.R_mono (Kd.R_far (p:=⟨gb2,0,none⟩) (Kd.R_types HO16.out BK2.out (by decide)) (fun _ hk=>hk.2) (.slice Ao55 y14.length co55)) (fun _ hk=>trivial)⟩,⟨by (with_reducible repeat (first | refine blk_drewN ?_ _ | refine blk_drew ?_ | refine blk_alloc ?_ _));refine blk_far ?_ NB1_2.out _;(with_reducible repeat (first | refine blk_drewN ?_ _ | refine blk_drew ?_ | refine blk_alloc ?_ _));exact BK1.out⟩,⟨by (with_reducible repeat (first | refine blk_drewN ?_ _ | refine blk_drew ?_ | refine blk_alloc ?_ _));refine blk_put (cs:=#[u3000]) ?_ 0 _ rfl;(with_reducible repeat (first | refine blk_drewN ?_ _ | refine blk_drew ?_ | refine blk_alloc ?_ _));exact BK2.out⟩,⟨hbw_⟩⟩
     ·rw [if_neg c47] at H
      exact absurd H (by simp)
theorem cutB_size (c : UInt8) (s : ByteArray) : (cutB c s).1.size ≤ s.size ∧ (s.size ≠ 0 → (cutB c s).2.1.size < s.size):=by
 have h:=cuL_len c s.data.toList
 have e : s.data.toList.length = s.size:=toL_len s
 rw [e] at h
 have e1 : (cutB c s).1.size = (cuL c s.data.toList).1.length:=toB_size _
 have e2 : (cutB c s).2.1.size = (cuL c s.data.toList).2.1.length:=toB_size _
 rw [e1,e2]
 refine ⟨h.1,fun hn=>h.2 (fun hh=>hn ?_)⟩
 rw [← e,hh]
 rfl
theorem toL_nil {s : ByteArray} : s.toList = ([] : List UInt8) ↔ s.size = 0:=by
 rw [toL,← toL_len]
 exact List.length_eq_zero_iff.symm
theorem impl_ParseTree_l0 (s : ByteArray) (hs : s.size ≤ 5864062000000) : ∀ (n : Nat) (acc : List Cls) (r : ByteArray),r.size ≤ n → acc.length + r.size ≤ s.size → (∀ x ∈ acc,x.f0.size ≤ s.size) → Ev (fun k=>impl_ParseTree.l0 k s r acc) (if okTx (parI n acc r) s = true then (parI n acc r,true) else ([],false)):=by
 have stop : ∀ (n : Nat) (acc : List Cls) (r : ByteArray),r.size = 0 → (∀ x ∈ acc,x.f0.size ≤ s.size) → Ev (fun k=>impl_ParseTree.l0 k s r acc) (if okTx (parI n acc r) s = true then (parI n acc r,true) else ([],false)):=by
  intro n acc r hr hz
  have hp : parI n acc r = acc:=by
   cases n with
   | zero=>rfl
   | succ n=>rw [parI,if_pos hr]
  have hsm : smT acc = true:=by
   unfold smT
   rw [List.all_eq_true]
   intro x hx
   have:=hz x hx
   exact decide_eq_true (by omega)
  rw [hp]
  have hT:=impl_TreeText_ev acc hsm
  unfold textP at hT
  cases hv : vT acc with
  | true =>
   rw [hv,if_pos rfl] at hT
   have hne:=(treeTx_size hv).1
   by_cases e : treeTx acc = s
   ·rw [show okTx acc s = true by unfold okTx;rw [hv,decide_eq_true e];rfl,if_pos rfl]
    refine Ev.succ ?_
    simp only [impl_ParseTree.l0]
    refine Ev.pos (toL_nil.2 hr) ?_
    refine Ev.bind (Ev.const hT) ?_
    refine Ev.pos (by rw [e]) ?_
    refine Ev.neg (fun h=>?_) ?_
    ·rw [toL_nil,← e] at h
     omega
    ·exact Ev.bind (Ev.const (slices_Clip_Class_ev acc)) (Ev.const rfl)
   ·rw [show okTx acc s = false by unfold okTx;rw [decide_eq_false e,Bool.and_false],if_neg (by simp)]
    refine Ev.succ ?_
    simp only [impl_ParseTree.l0]
    refine Ev.pos (toL_nil.2 hr) ?_
    refine Ev.bind (Ev.const hT) ?_
    exact Ev.neg (fun h=>e (toL_inj.1 h)) (Ev.const rfl)
  | false =>
   rw [hv,if_neg (by simp)] at hT
   rw [show okTx acc s = false by unfold okTx;rw [hv,Bool.false_and],if_neg (by simp)]
   refine Ev.succ ?_
   simp only [impl_ParseTree.l0]
   refine Ev.pos (toL_nil.2 hr) ?_
   refine Ev.bind (Ev.const hT) ?_
   by_cases e : ByteArray.empty = s
   ·refine Ev.pos (congrArg ByteArray.toList e) ?_
    exact Ev.pos (toL_nil.2 (by rw [← e];rfl)) (Ev.const rfl)
   ·exact Ev.neg (fun h=>e (toL_inj.1 h)) (Ev.const rfl)
 intro n
 induction n with
 | zero=>intro acc r hr _ hz;exact stop 0 acc r (by omega) hz
 | succ n ih =>
  intro acc r hr ha hz
  by_cases h0 : r.size = 0
  ·exact stop (n + 1) acc r h0 hz
  ·have hsz:=cutB_size 10 r
   have hsz2:=cutB_size 32 (cutB 10 r).1
   have hlt:=hsz.2 h0
   rw [parI,if_neg h0]
   have c1 : strings_Cut.f r (⟨#[10]⟩ : ByteArray) = some (cutB 10 r):=by rw [strings_Cut.f,if_pos ⟨rfl,by omega⟩];rfl
   have c2 : strings_Cut.f (cutB 10 r).1 (⟨#[32]⟩ : ByteArray) = some (cutB 32 (cutB 10 r).1):=by rw [strings_Cut.f,if_pos ⟨rfl,by omega⟩];rfl
   have hnew:=ih (acc ++ [clsOf acc (cutB 10 r).1]) (cutB 10 r).2.1 (by omega) (by rw [List.length_append,List.length_singleton];omega) (fun x hx=>by
    rcases List.mem_append.1 hx with hx | hx
    ·exact hz x hx
    ·obtain rfl : x = clsOf acc (cutB 10 r).1:=by simpa using hx
     show (cutB 32 (cutB 10 r).1).1.size ≤ s.size
     omega)
   generalize hA : (if okTx (parI n (acc ++ [clsOf acc (cutB 10 r).1]) (cutB 10 r).2.1) s = true then (parI n (acc ++ [clsOf acc (cutB 10 r).1]) (cutB 10 r).2.1,true) else ([],false)) = A at hnew ⊢
   clear hA
   refine Ev.succ ?_
   simp only [impl_ParseTree.l0]
   refine Ev.neg (fun h=>h0 (toL_nil.1 h)) ?_
   refine Ev.bind (Ev.const c1) ?_
   refine Ev.bind (Ev.const c2) ?_
   unfold clsOf at hnew
   cases hb : (cutB 32 (cutB 10 r).1).2.2 with
   | true =>
    rw [hb,if_pos rfl] at hnew
    refine Ev.pos rfl ?_
    refine Ev.bind (Ev.const rfl) ?_
    exact Ev.pos (by omega) hnew
   | false =>
    rw [hb,if_neg (by simp)] at hnew
    refine Ev.neg (by simp) ?_
    exact Ev.pos (by omega) hnew
theorem impl_ParseTree_ev (s : ByteArray) (hs : s.size ≤ 5864062000000) : Ev (fun k=>impl_ParseTree.f k s) (parP s):=by
 have:=impl_ParseTree_l0 s hs s.size [] s (Nat.le_refl _) (by simp) (fun x hx=>absurd hx (by simp))
 unfold impl_ParseTree.f parP
 exact this
end Go.Proofs.Ytacgehaipacehaa.P
namespace Go.Proofs.Ytacgehaipacehaa.P
open Go.RowKit Go.Proofs.YtacgehaipacehaaW.PrintWords Go.Proofs.YtacgehaipacehaaW.PrintLast Go.Proofs.YtacgehaipacehaaW.PrintMore
attribute [local go_sem] max2_int min2_int max_two min_two max_three min_three max_four min_four
set_option linter.unusedVariables false
set_option linter.unusedSimpArgs false
def laws_markText.l0 : Nat → Int → ByteArray → Option (ByteArray)
 | 0,_,_=>none
 | k + 1,x0,x3=>if x0 > 0 then ((some (([(wrap64 (48 + (Int.tmod x0 10))) % 256] : List Int) : List Int)).bind fun y1=>(if (strOfNums y1).size + x3.size ≤ 9223372036854775807 then (laws_markText.l0 k (wrap64 (Int.tdiv x0 10)) ((strOfNums y1) ++ x3)) else (none))) else (if 1 + x3.size ≤ 9223372036854775807 then (some ((⟨#[109]⟩ : ByteArray) ++ x3)) else (none))
def laws_markText.f (k : Nat) (a0 : Int) : Option (ByteArray):=if a0 ≤ 0 then (some (⟨#[109,48]⟩ : ByteArray)) else (laws_markText.l0 k a0 (⟨#[]⟩ : ByteArray))
theorem laws_markText.mono_l : ∀ k,(∀ y0 y1,LeO (laws_markText.l0 k y0 y1) (laws_markText.l0 (k + 1) y0 y1))
 | 0=>fun _ _ r h=>by simp [laws_markText.l0] at h
 | k + 1=>by
  have ih0:=laws_markText.mono_l k
  ·intro y0 y1
   unfold laws_markText.l0
   repeat' first
   | (with_reducible exact ih0 _ _)
   | (with_reducible exact LeO.refl _)
   | (with_reducible exact LeO.none _)
   | (with_reducible refine LeO.ite ?_ ?_)
   | (with_reducible refine LeO.bind ?_ (fun _=>?_))
   | exact ih0 _ _
   | exact LeO.none _
   | refine LeO.ite ?_ ?_
   | refine LeO.bind ?_ (fun _=>?_)
theorem laws_markText.mono : ∀ a0 k,LeO (laws_markText.f k a0) (laws_markText.f (k + 1) a0):=by
 intro a0 k
 have ih0:=laws_markText.mono_l k
 unfold laws_markText.f
 repeat' first
   | (with_reducible exact ih0 _ _)
   | (with_reducible exact LeO.refl _)
   | (with_reducible exact LeO.none _)
   | (with_reducible refine LeO.ite ?_ ?_)
   | (with_reducible refine LeO.bind ?_ (fun _=>?_))
   | exact ih0 _ _
   | exact LeO.none _
   | refine LeO.ite ?_ ?_
   | refine LeO.bind ?_ (fun _=>?_)
set_option maxHeartbeats 8000000 in
set_option maxRecDepth 100000 in
theorem laws_markText.calls (k : Nat) (a0 : Int) (r : ByteArray) (w : World) (h : laws_markText.f k a0 = some r) :
  Calls Try.prog 89 #[.int .i64 a0] w fun e w'=>e = .returned (.string r) ∧ Below w.heap.size w w':=by
 have HB:=a0_ (Below.refl w.heap.size w)
 have H : (if a0 ≤ 0 then (some (⟨#[109,48]⟩ : ByteArray)) else (laws_markText.l0 k a0 (⟨#[]⟩ : ByteArray))) = some r:=h
 clear h
 by_cases c2 : a0 ≤ 0
 ·rw [if_pos c2] at H
  have c2b0 : decide (a0 ≤ 0) = true:=decide_eq_true c2
  clear c2
  obtain rfl:=Option.some.inj H
  go_enter Try.func89,Try.ntmps89
  go_wp2
  go_ret
  exact ⟨by first | rfl | (simp [errW_none,errW_some] <;> rfl) | (simp [*,errW_none,errW_some] <;> rfl),hbw_⟩
 ·rw [if_neg c2] at H
  have c2b0 : decide (a0 ≤ 0) = false:=decide_eq_false c2
  clear c2
  have H':=a0_ H
  clear H
  go_enter Try.func89,Try.ntmps89
  go_wp2
  go_loopg [0,3] k (fun kq v0 v3 w'=>∃ (x0_1 : Int) (x3_1 : ByteArray),v0 = .int .i64 x0_1 ∧ v3 = .string x3_1 ∧ Aside0 (laws_markText.l0 kq x0_1 x3_1 = some r) ∧ Aside0 (kq ≤ k) ∧ Aside0 (Below w.heap.size w w'))
  case atStart=>exact ⟨(a0),((⟨#[]⟩ : ByteArray)),(by first | rfl | (simp;done) | (simp [*];done)),(by first | rfl | (simp;done) | (simp [*];done)),H',⟨Nat.le_refl _⟩,⟨hbw_⟩⟩
  case round =>
   clear H'
   try clear c2
   try clear c2b0
   try clear p2
   obtain ⟨x0_1,x3_1,rfl,rfl,HA,HK1,HB⟩:=hrel
   cases gk with
   | zero=>exact absurd HA.out (by simp [laws_markText.l0])
   | succ k1 =>
    have H:=HA.out
    clear HA
    simp only [laws_markText.l0] at H
    by_cases c3 : x0_1 > 0
    ·rw [if_pos c3] at H
     have c3b0 : decide (0 < x0_1) = true:=decide_eq_true c3
     clear c3
     obtain ⟨y1,hy1⟩ : ∃ y_ : List Int,y_ = (([(wrap64 (48 + (Int.tmod x0_1 10))) % 256] : List Int)):=⟨_,rfl⟩
     replace H : (if (strOfNums y1).size + x3_1.size ≤ 9223372036854775807 then (laws_markText.l0 k1 (wrap64 (Int.tdiv x0_1 10)) ((strOfNums y1) ++ x3_1)) else (none)) = some r:=by first | (rw [hy1];with_reducible exact H) | (have H2_:=(Option.bind_some _ _).symm.trans H;rw [hy1];with_reducible exact H2_) | (have H2_:=(Option.bind_some _ _).symm.trans H;with_reducible exact H2_) | with_reducible exact H | (rw [hy1];exact H) | exact H
     have Ny1:=a0_ hy1
     clear hy1
     by_cases c4 : (strOfNums y1).size + x3_1.size ≤ 9223372036854775807
     ·rw [if_pos c4] at H
      have c4b0:=eq_true c4
      have c4b1 : decide ((strOfNums y1).size + x3_1.size ≤ 9223372036854775807) = true:=decide_eq_true c4
      try have c4b2 : (9223372036854775807 < (strOfNums y1).size + x3_1.size) = False:=eq_false (Nat.not_lt.2 c4)
      have H':=a0_ H
      clear H
      go_wp2_with (first | ((with_reducible refine gate_dst (N:=12) rfl ?_);refine Kd.R_lit (Kd.int .u8) _ 5 ?hg (N:=12) ?hd (xs:=([(wrap64 (48 + (Int.tmod x0_1 10))) % 256] : List Int)) (inner:=[.int .u8 ((wrap64 (48 + (Int.tmod x0_1 10))) % 256)]) (ok:=fun _=>True) (okp:=fun _=>True) ?hr ?hp (fun _ hk=>hk) trivial (Below.refl _ _) (Nat.le_refl _) (by simp) ?_;(case hd=>rfl);(case hg=>rfl);(case hr=>first | (go_simp;done) | (go_simp;rfl));(case hp=>exact (Reps.one (show Kd.M (Kd.int .u8) _ _ _ ((wrap64 (48 + (Int.tmod x0_1 10))) % 256) [.int .u8 ((wrap64 (48 + (Int.tmod x0_1 10))) % 256)] from rfl) (Reps.none _ _)));intro v2 w5 ho6 hb hg_ hnew_;clear hg_ hnew_;(first | rw [← Ny1.out] at ho6 | (simp only [Int.reduceToNat] at ho6;rw [← Ny1.out] at ho6));have HO3:=a0_ (Kd.R_lower ho6 (below_size hbw_));replace HB:=a0_ (below_step hbw_ hb);clear hb ho6;have hcv7:=own_string (P:=Try.prog) Try.underlying22 Try.underlying5 Try.underlying9 (Kd.own_of_R HO3.out)))
      go_roundg k1
      case measure=>have:=HK1.out;omega
      case rel=>exact ⟨(wrap64 (Int.tdiv x0_1 10)),((strOfNums y1) ++ x3_1),(by first | rfl | (simp;done) | (simp [*];done)),(by first | rfl | (simp;done) | (simp [*];done)),H',⟨by have:=HK1.out;omega⟩,⟨hbw_⟩⟩
     ·rw [if_neg c4] at H
      exact absurd H (by simp)
    ·rw [if_neg c3] at H
     have c3b0 : decide (0 < x0_1) = false:=decide_eq_false c3
     clear c3
     by_cases c8 : 1 + x3_1.size ≤ 9223372036854775807
     ·rw [if_pos c8] at H
      have c8b0:=eq_true c8
      have c8b1 : decide (1 + x3_1.size ≤ 9223372036854775807) = true:=decide_eq_true c8
      try have c8b2 : (9223372036854775807 < 1 + x3_1.size) = False:=eq_false (Nat.not_lt.2 c8)
      obtain rfl:=Option.some.inj H
      go_wp2
      go_ret
      exact ⟨by first | rfl | (simp [errW_none,errW_some] <;> rfl) | (simp [*,errW_none,errW_some] <;> rfl),hbw_⟩
     ·rw [if_neg c8] at H
      exact absurd H (by simp)
theorem laws_markText_l0 : ∀ (n : Nat) (a : Int) (out : ByteArray),0 ≤ a → a < (n : Int) → out.size + n ≤ 9223372036854775807 → ∃ s,laws_markText.l0 n a out = some s:=by
 intro n
 induction n with
 | zero=>intro a out h0 h;omega
 | succ n ih =>
  intro a out h0 h hs
  simp only [laws_markText.l0]
  by_cases hp : a > 0
  ·rw [if_pos hp]
   simp only [Option.bind_some]
   rw [if_pos (by rw [strOfNums_size];simp;omega)]
   have hd : Int.tdiv a 10 = a / 10:=Int.tdiv_eq_ediv_of_nonneg h0
   rw [hd,wrap_in (by omega) (by omega)]
   exact ih _ _ (by omega) (by omega) (by rw [ByteArray.size_append,strOfNums_size];simp;omega)
  ·rw [if_neg hp,if_pos (by omega)]
   exact ⟨_,rfl⟩
theorem laws_markText_ev (a : Int) (ha : a ≤ 4611686018427387904) : ∃ s,Ev (fun k=>laws_markText.f k a) s:=by
 by_cases h : a ≤ 0
 ·exact ⟨_,Ev.pos h (Ev.const rfl)⟩
 ·obtain ⟨s,hs⟩:=laws_markText_l0 (a.toNat + 1) a ⟨#[]⟩ (by omega) (by omega) (by show 0 + _ ≤ _;omega)
  refine ⟨s,Ev.of_mono (laws_markText.mono a) (K:=a.toNat + 1) ?_⟩
  unfold laws_markText.f
  rw [if_neg h]
  exact hs
end Go.Proofs.Ytacgehaipacehaa.P
namespace Go.Proofs.Ytacgehaipacehaa.P
open Go.RowKit Go.Proofs.YtacgehaipacehaaW.PrintWords Go.Proofs.YtacgehaipacehaaW.PrintLast Go.Proofs.YtacgehaipacehaaW.PrintMore
attribute [local go_sem] max2_int min2_int max_two min_two max_three min_three max_four min_four
set_option linter.unusedVariables false
set_option linter.unusedSimpArgs false
def laws_markClassS.l0 : Nat → List (S125) → Int → Int → Option (Int × (List (S125)))
 | 0,_,_,_=>none
 | k + 1,x0,x1,x5=>if x5 < (x0.length : Int) then ((laws_markText.f k x1).bind fun t1=>(if 0 ≤ x5 then ((some (x0.set (x5 : Int).toNat (⟨t1,(rd_T125 x0 x5).f1⟩ : S125) : List (S125))).bind fun y2=>(laws_markClassS.l0 k (y2.set (x5 : Int).toNat (⟨(rd_T125 y2 x5).f0,wrap64 (x1 + 1)⟩ : S125)) (wrap64 ((wrap64 (x1 + 1)) + 1)) (wrap64 (x5 + 1)))) else (none))) else (some (x1,x0))
def laws_markClassS.f (k : Nat) (l0 : List (S125)) (a1 : Int) : Option (Int × (List (S125))):=laws_markClassS.l0 k l0 a1 0
theorem laws_markClassS.mono_l : ∀ k,(∀ y0 y1 y2,LeO (laws_markClassS.l0 k y0 y1 y2) (laws_markClassS.l0 (k + 1) y0 y1 y2))
 | 0=>fun _ _ _ r h=>by simp [laws_markClassS.l0] at h
 | k + 1=>by
  have ih0:=laws_markClassS.mono_l k
  ·intro y0 y1 y2
   unfold laws_markClassS.l0
   repeat' first
   | (with_reducible exact ih0 _ _ _)
   | (with_reducible exact laws_markText.mono _ _)
   | (with_reducible exact LeO.refl _)
   | (with_reducible exact LeO.none _)
   | (with_reducible refine LeO.ite ?_ ?_)
   | (with_reducible refine LeO.bind ?_ (fun _=>?_))
   | exact ih0 _ _ _
   | exact laws_markText.mono _ _
   | exact LeO.none _
   | refine LeO.ite ?_ ?_
   | refine LeO.bind ?_ (fun _=>?_)
theorem laws_markClassS.mono : ∀ a0 a1 k,LeO (laws_markClassS.f k a0 a1) (laws_markClassS.f (k + 1) a0 a1):=by
 intro a0 a1 k
 have ih0:=laws_markClassS.mono_l k
 unfold laws_markClassS.f
 repeat' first
   | (with_reducible exact ih0 _ _ _)
   | (with_reducible exact laws_markText.mono _ _)
   | (with_reducible exact LeO.refl _)
   | (with_reducible exact LeO.none _)
   | (with_reducible refine LeO.ite ?_ ?_)
   | (with_reducible refine LeO.bind ?_ (fun _=>?_))
   | exact ih0 _ _ _
   | exact laws_markText.mono _ _
   | exact LeO.none _
   | refine LeO.ite ?_ ?_
   | refine LeO.bind ?_ (fun _=>?_)
set_option maxHeartbeats 8000000 in
set_option maxRecDepth 100000 in
theorem laws_markClassS.calls (k : Nat) (P0_ : Nat → Prop) (u9000_ : Value) (l0 : List (S125)) (a1 : Int) (r1 : Int) (r2 : List (S125)) (w0 w : World) (hB : Below w0.heap.size w0 w) (ho0 : Kd.R k125 125 w w0.heap.size P0_ u9000_ l0) (h : laws_markClassS.f k l0 a1 = some (r1,r2)) :
  Calls Try.prog 94 #[u9000_,.int .i64 a1] w fun e w'=>e = .returned (.int .i64 r1) ∧ Kd.R k125 125 w' w0.heap.size (fun k_=>(P0_ k_ ∨ w.heap.size ≤ k_)) u9000_ r2 ∧ Below w0.heap.size w0 w' ∧ Kept w w' (fun k_=>P0_ k_):=by
 have HO0:=a0_ (show Kd.R k125 125 w w0.heap.size (fun k_=>(P0_ k_ ∨ w.heap.size ≤ k_)) u9000_ l0 from Kd.R_mono ho0 (fun k_ hk=>(.inl hk)))
 have HK:=a0_ (Kept.refl w (fun k_=>P0_ k_))
 have HW0:=a0_ hB.size
 have HB:=a0_ hB
 clear hB
 have H : (laws_markClassS.l0 k l0 a1 0) = some (r1,r2):=h
 clear h
 have H':=a0_ H
 clear H
 go_enter Try.func94,Try.ntmps94
 go_wp2
 go_loopg [1,5] k (fun kq v1 v5 w'=>∃ (x0_1 : List (S125)) (x1_1 : Int) (x5_1 : Int),v1 = .int .i64 x1_1 ∧ v5 = .int .i64 x5_1 ∧ Aside0 (laws_markClassS.l0 kq x0_1 x1_1 x5_1 = some (r1,r2)) ∧ Aside0 (kq ≤ k) ∧ Aside0 (Kd.R k125 125 w' w0.heap.size (fun k_=>(P0_ k_ ∨ w.heap.size ≤ k_)) u9000_ x0_1) ∧ Aside0 (Kept w w' (fun k_=>P0_ k_)) ∧ Aside0 (Below w0.heap.size w0 w'))
 case atStart=>exact ⟨(l0),(a1),(0),(by first | rfl | (simp;done) | (simp [*];done)),(by first | rfl | (simp;done) | (simp [*];done)),H',⟨Nat.le_refl _⟩,⟨by (with_reducible repeat (first | apply Kd.R_alloc | apply Kd.R_drewN | apply Kd.R_drew));exact HO0.out⟩,⟨by repeat (first | (with_reducible first | exact HK.out | apply Kept.alloc | apply Kept.drewN | apply Kept.drew) | exact HK.out)⟩,⟨hbw_⟩⟩
 case round =>
  clear H'
  try clear p2
  obtain ⟨x0_1,x1_1,x5_1,rfl,rfl,HA,HK1,HO_0,HK,HB⟩:=hrel
  cases gk with
  | zero=>exact absurd HA.out (by simp [laws_markClassS.l0])
  | succ k1 =>
   have H:=HA.out
   clear HA
   simp only [laws_markClassS.l0] at H
   by_cases c3 : x5_1 < (x0_1.length : Int)
   ·rw [if_pos c3] at H
    have c3b0 : decide (x5_1 < (x0_1.length : Int)) = true:=decide_eq_true c3
    clear c3
    replace H:=Option.bind_eq_some_iff.mp H
    obtain ⟨t1,A40,H⟩:=H
    try dsimp only at H
    have A4:=a0_ A40
    clear A40
    by_cases c5 : 0 ≤ x5_1
    ·rw [if_pos c5] at H
     have c5b0 : decide (0 ≤ x5_1) = true:=decide_eq_true c5
     clear c5
     obtain ⟨y2,hy2⟩ : ∃ y_ : List (S125),y_ = (x0_1.set (x5_1 : Int).toNat (⟨t1,(rd_T125 x0_1 x5_1).f1⟩ : S125)):=⟨_,rfl⟩
     replace H : (laws_markClassS.l0 k1 (y2.set (x5_1 : Int).toNat (⟨(rd_T125 y2 x5_1).f0,wrap64 (x1_1 + 1)⟩ : S125)) (wrap64 ((wrap64 (x1_1 + 1)) + 1)) (wrap64 (x5_1 + 1))) = some (r1,r2):=by first | (rw [hy2];with_reducible exact H) | (have H2_:=(Option.bind_some _ _).symm.trans H;rw [hy2];with_reducible exact H2_) | (have H2_:=(Option.bind_some _ _).symm.trans H;with_reducible exact H2_) | with_reducible exact H | (rw [hy2];exact H) | exact H
     have Ny2:=a0_ hy2
     clear hy2
     obtain ⟨y3,hy3⟩ : ∃ y_ : List (S125),y_ = (y2.set (x5_1 : Int).toNat (⟨(rd_T125 y2 x5_1).f0,wrap64 (x1_1 + 1)⟩ : S125)):=⟨_,rfl⟩
     replace H : (laws_markClassS.l0 k1 y3 (wrap64 ((wrap64 (x1_1 + 1)) + 1)) (wrap64 (x5_1 + 1))) = some (r1,r2):=by first | (rw [hy3];with_reducible exact H) | (have H2_:=(Option.bind_some _ _).symm.trans H;rw [hy3];with_reducible exact H2_) | (have H2_:=(Option.bind_some _ _).symm.trans H;with_reducible exact H2_) | with_reducible exact H | (rw [hy3];exact H) | exact H
     have Ny3:=a0_ hy3
     clear hy3
     have H':=a0_ H
     clear H
     obtain ⟨Ao8,co8,eo8⟩:=Kd.R_slice HO_0.out
     subst eo8
     go_wp2_with (first | ((with_reducible refine gate_callee (f:=89) rfl ?_);refine goesL_ (some 15) rfl rfl Try.func89 (by kernel_rfl) rfl #[.int .i64 x1_1] rfl lm_ ?_;(with_reducible refine (laws_markText.calls k1 x1_1 t1 _ A4.out).mono ?_);rintro e w9 ⟨rfl,hb⟩;refine ⟨_,rfl,?_⟩;replace HO_0:=rb_ HO_0 hb;replace HK:=a0_ (Kept.below (S:=(fun k_=>P0_ k_)) (by repeat (first | (with_reducible first | exact HK.out | apply Kept.alloc | apply Kept.drewN | apply Kept.drew) | exact HK.out)) hb);replace HB:=a0_ (below_step hbw_ hb);(try clear hb);have p6 : 0 ≤ (x5_1 : Int):=of_decide_eq_true (by first | (with_reducible assumption) | assumption);have q6 : (x5_1 : Int) < ((x0_1.length : Int) : Int):=of_decide_eq_true (by first | (with_reducible assumption) | assumption);obtain ⟨go6,co6,eo6,gb6,gl6,cl6,HG6⟩:=Kd.R_form HO_0.out (by omega);(first | cases eo6 | (injection eo6 with ea_ en_ ec_;(first | subst ea_ | (injection ea_ with ea_;subst ea_));subst ec_;clear en_));have GB6:=a0_ gb6;have GG6:=a0_ HG6;clear gb6 gl6 HG6;have HMgo6:=a0_ (show (P0_ go6 ∨ w.heap.size ≤ go6) from (HO_0.out.1 _ rfl));obtain ⟨ce6,hcl6,hM6,hcc6,hfr6⟩:=Kd.R_elem HO_0.out z125 (x5_1 : Int) p6 q6;obtain rfl:=k125_openM hM6;have hx6_0 : w9.cell? ⟨go6,(x5_1 : Int).toNat * 2,none⟩ = some (.string ((rd_T125 x0_1 x5_1).f0)):=hcc6 0 _ rfl;have hx6_1 : w9.cell? ⟨go6,(x5_1 : Int).toNat * 2 + 1,none⟩ = some (.int .i64 ((rd_T125 x0_1 x5_1).f1)):=hcc6 1 _ rfl;have hf6_0 : w9.frozen? ⟨go6,(x5_1 : Int).toNat * 2,none⟩ = false:=hfr6 0;have hf6_1 : w9.frozen? ⟨go6,(x5_1 : Int).toNat * 2 + 1,none⟩ = false:=hfr6 1;clear hcl6 hcc6 hfr6 hM6;replace p6:=eq_true p6;replace q6:=eq_true q6;have HX10:=a0_ (show Kd.R k125 125 w9 w0.heap.size (fun k_=>(P0_ k_ ∨ w.heap.size ≤ k_)) (.slice (some ⟨go6,0,none⟩) x0_1.length co8) x0_1 from (rr_ HO_0.out));obtain ⟨ce10,hcl10,hM10,hcc10,hfr10⟩:=Kd.R_elem HX10.out z125 (x5_1 : Int) (of_decide_eq_true (by first | (with_reducible assumption) | assumption)) (by have h_ : (x5_1 : Int) < ((x0_1.length : Int) : Int):=of_decide_eq_true (by first | (with_reducible assumption) | assumption);first | exact h_ | (have e_:=(Kd.R_reads' HO_0.out).1;omega) | simpa using h_);obtain rfl:=k125_openM hM10;have HP10:=Kd.R_seg HX10.out (x5_1 : Int) (of_decide_eq_true (by first | (with_reducible assumption) | assumption)) (by have h_ : (x5_1 : Int) < ((x0_1.length : Int) : Int):=of_decide_eq_true (by first | (with_reducible assumption) | assumption);first | exact h_ | (have e_:=(Kd.R_reads' HO_0.out).1;omega) | simpa using h_) (seg:=[.string t1]) (j:=0) hcl10 hcc10 (show 1 ≤ 2 from by decide) (x':=(⟨t1,(rd_T125 x0_1 x5_1).f1⟩ : S125)) (k125_mkM _ _ _ (⟨t1,(rd_T125 x0_1 x5_1).f1⟩ : S125) ) (fun _ hk=>hk);have hx10_0:=hcc10 0 _ rfl;(try simp only [show (k125).sz = 2 from rfl,Nat.mul_one,Nat.add_zero] at hx10_0);have hf10_0:=hfr10 0;(try simp only [show (k125).sz = 2 from rfl,Nat.mul_one,Nat.add_zero] at hf10_0);clear hcl10 hcc10 hfr10 hM10) | ((with_reducible refine gate_store (t:=9) (p:=17) rfl ?_);refine store_event (t:=9) (p:=17) (v:=?vo_w11) (w1:=(w9.setCell ⟨go6,(x5_1 : Int).toNat * 2,none⟩ (.string t1))) ?hg ?ho ?hn ?hr ?_;(case ho=>rfl);(case hg=>rfl);(case hn=>rfl);(case hr=>first | (go_simp;done) | (go_simp;rfl));intro w11 hw;have hg : w9.grownBy w11 (some go6):=(by rw [hw];exact HP10.2);have hp_ : Kd.R k125 125 w11 w0.heap.size (fun k_=>(P0_ k_ ∨ w.heap.size ≤ k_)) (.slice (some ⟨go6,0,none⟩) x0_1.length co8) y2:=(by rw [hw,Ny2.out];exact HP10.1);clear HP10;have n0_:=a0_ (hp_);have n1_:=a0_ ((by rw [hw];exact below_set (HB.out) GB6.out : Below w0.heap.size w0 w11));have n2_:=a0_ (Kept.of_grown (S:=(fun k_=>P0_ k_)) hg (by repeat (first | (with_reducible first | exact HK.out | apply Kept.alloc | apply Kept.drewN | apply Kept.drew) | exact HK.out)) (fun k_ e_=>(HO_0.out.1 k_ e_)));clear HO_0 HB HK;have HO_0:=n0_;have HB:=n1_;have HK:=n2_;clear n0_ n1_ n2_;clear hg hw hp_;have p7 : 0 ≤ (x5_1 : Int):=of_decide_eq_true (by first | (with_reducible assumption) | assumption);have q7 : (x5_1 : Int) < ((x0_1.length : Int) : Int):=of_decide_eq_true (by first | (with_reducible assumption) | assumption);obtain ⟨ce7,hcl7,hM7,hcc7,hfr7⟩:=Kd.R_elem HO_0.out z125 (x5_1 : Int) p7 q7;obtain rfl:=k125_openM hM7;have hx7_0 : w11.cell? ⟨go6,(x5_1 : Int).toNat * 2,none⟩ = some (.string ((rd_T125 y2 x5_1).f0)):=hcc7 0 _ rfl;have hx7_1 : w11.cell? ⟨go6,(x5_1 : Int).toNat * 2 + 1,none⟩ = some (.int .i64 ((rd_T125 y2 x5_1).f1)):=hcc7 1 _ rfl;have hf7_0 : w11.frozen? ⟨go6,(x5_1 : Int).toNat * 2,none⟩ = false:=hfr7 0;have hf7_1 : w11.frozen? ⟨go6,(x5_1 : Int).toNat * 2 + 1,none⟩ = false:=hfr7 1;clear hcl7 hcc7 hfr7 hM7;replace p7:=eq_true p7;replace q7:=eq_true q7;have HX12:=a0_ (show Kd.R k125 125 w11 w0.heap.size (fun k_=>(P0_ k_ ∨ w.heap.size ≤ k_)) (.slice (some ⟨go6,0,none⟩) x0_1.length co8) y2 from (rr_ HO_0.out));obtain ⟨ce12,hcl12,hM12,hcc12,hfr12⟩:=Kd.R_elem HX12.out z125 (x5_1 : Int) (of_decide_eq_true (by first | (with_reducible assumption) | assumption)) (by have h_ : (x5_1 : Int) < ((x0_1.length : Int) : Int):=of_decide_eq_true (by first | (with_reducible assumption) | assumption);first | exact h_ | (have e_:=(Kd.R_reads' HO_0.out).1;omega) | simpa using h_);obtain rfl:=k125_openM hM12;have HP12:=Kd.R_seg HX12.out (x5_1 : Int) (of_decide_eq_true (by first | (with_reducible assumption) | assumption)) (by have h_ : (x5_1 : Int) < ((x0_1.length : Int) : Int):=of_decide_eq_true (by first | (with_reducible assumption) | assumption);first | exact h_ | (have e_:=(Kd.R_reads' HO_0.out).1;omega) | simpa using h_) (seg:=[.int .i64 (wrap64 (x1_1 + 1))]) (j:=1) hcl12 hcc12 (show 2 ≤ 2 from by decide) (x':=(⟨(rd_T125 y2 x5_1).f0,wrap64 (x1_1 + 1)⟩ : S125)) (k125_mkM _ _ _ (⟨(rd_T125 y2 x5_1).f0,wrap64 (x1_1 + 1)⟩ : S125) ) (fun _ hk=>hk);have hx12_1:=hcc12 1 _ rfl;(try simp only [show (k125).sz = 2 from rfl,Nat.mul_one,Nat.add_zero] at hx12_1);have hf12_1:=hfr12 1;(try simp only [show (k125).sz = 2 from rfl,Nat.mul_one,Nat.add_zero] at hf12_1);clear hcl12 hcc12 hfr12 hM12) | ((with_reducible refine gate_store (t:=3) (p:=24) rfl ?_);refine store_event (t:=3) (p:=24) (v:=?vo_w13) (w1:=(w11.setCell ⟨go6,(x5_1 : Int).toNat * 2 + 1,none⟩ (.int .i64 (wrap64 (x1_1 + 1))))) ?hg ?ho ?hn ?hr ?_;(case ho=>rfl);(case hg=>rfl);(case hn=>rfl);(case hr=>first | (go_simp;done) | (go_simp;rfl));intro w13 hw;have hg : w11.grownBy w13 (some go6):=(by rw [hw];exact HP12.2);have hp_ : Kd.R k125 125 w13 w0.heap.size (fun k_=>(P0_ k_ ∨ w.heap.size ≤ k_)) (.slice (some ⟨go6,0,none⟩) x0_1.length co8) y3:=(by rw [hw,Ny3.out];exact HP12.1);clear HP12;have n0_:=a0_ (hp_);have n1_:=a0_ ((by rw [hw];exact below_set (HB.out) GB6.out : Below w0.heap.size w0 w13));have n2_:=a0_ (Kept.of_grown (S:=(fun k_=>P0_ k_)) hg (by repeat (first | (with_reducible first | exact HK.out | apply Kept.alloc | apply Kept.drewN | apply Kept.drew) | exact HK.out)) (fun k_ e_=>(HO_0.out.1 k_ e_)));clear HO_0 HB HK;have HO_0:=n0_;have HB:=n1_;have HK:=n2_;clear n0_ n1_ n2_;clear hg hw hp_))
     go_roundg k1
     case measure=>have:=HK1.out;omega
     case rel=>exact ⟨(y3),(wrap64 ((wrap64 (x1_1 + 1)) + 1)),(wrap64 (x5_1 + 1)),(by first | rfl | (simp;done) | (simp [*];done)),(by first | rfl | (simp;done) | (simp [*];done)),H',⟨by have:=HK1.out;omega⟩,⟨by (with_reducible repeat (first | apply Kd.R_alloc | apply Kd.R_drewN | apply Kd.R_drew));exact HO_0.out⟩,⟨by repeat (first | (with_reducible first | exact HK.out | apply Kept.alloc | apply Kept.drewN | apply Kept.drew) | exact HK.out)⟩,⟨hbw_⟩⟩
    ·rw [if_neg c5] at H
     exact absurd H (by simp)
   ·rw [if_neg c3] at H
    have c3b0 : decide (x5_1 < (x0_1.length : Int)) = false:=decide_eq_false c3
    clear c3
    simp only [Option.some.injEq,Prod.mk.injEq] at H
    obtain ⟨rfl,rfl⟩:=H
    obtain ⟨Ao14,co14,eo14⟩:=Kd.R_slice HO_0.out
    subst eo14
    go_wp2
    go_ret
    exact ⟨by first | rfl | (simp [errW_none,errW_some] <;> rfl) | (simp [*,errW_none,errW_some] <;> rfl),by (with_reducible repeat (first | apply Kd.R_alloc | apply Kd.R_drewN | apply Kd.R_drew));exact HO_0.out,hbw_,by repeat (first | (with_reducible first | exact HK.out | apply Kept.alloc | apply Kept.drewN | apply Kept.drew) | exact HK.out)⟩
theorem laws_markClassS_ev (l : List Cls) (a : Int) (h0 : 0 ≤ a) (hl : a + 2 * l.length ≤ 4611686018427387904) : ∃ l',Ev (fun k=>laws_markClassS.f k l a) (a + 2 * l.length,l'):=by
 have key : ∀ d i (a : Int) (l : List Cls),0 ≤ a → i + d = l.length → l.length ≤ 4611686018427387904 → a + 2 * d ≤ 4611686018427387904 → ∃ l',Ev (fun k=>laws_markClassS.l0 k l a (i : Int)) (a + 2 * d,l'):=by
  intro d
  induction d with
  | zero =>
   intro i a l h0 hi hll ha
   refine ⟨l,Ev.succ (Ev.congr (Ev.const rfl) (fun k=>?_))⟩
   simp only [laws_markClassS.l0]
   rw [if_neg (by omega)]
   simp
  | succ d ih =>
   intro i a l h0 hi hll ha
   obtain ⟨s,hs⟩:=laws_markText_ev a (by omega)
   obtain ⟨l',hl'⟩:=ih (i + 1) (a + 1 + 1) ((l.set i ⟨s,(rd_T125 l i).f1⟩).set i ⟨(rd_T125 (l.set i ⟨s,(rd_T125 l i).f1⟩) i).f0,a + 1⟩) (by omega) (by simp;omega) (by simp;omega) (by omega)
   refine ⟨l',Ev.succ (Ev.congr (F:=fun k=>(laws_markText.f k a).bind fun s=>laws_markClassS.l0 k ((l.set i ⟨s,(rd_T125 l i).f1⟩).set i ⟨(rd_T125 (l.set i ⟨s,(rd_T125 l i).f1⟩) i).f0,a + 1⟩) (a + 1 + 1) ((i + 1 : Nat) : Int)) ?_ (fun k=>?_))⟩
   ·rw [show a + 2 * ((d + 1 : Nat) : Int) = a + 1 + 1 + 2 * d by omega]
    exact Ev.bind hs hl'
   ·simp only [laws_markClassS.l0]
    rw [if_pos (by omega)]
    congr 1
    funext s
    rw [if_pos (by omega),wrap_in (i:=a + 1) (by omega) (by omega),wrap_in (i:=a + 1 + 1) (by omega) (by omega),wrap_succ (i:=(i : Int)) (n:=l.length) (by omega) (by omega) (by omega)]
    rfl
 obtain ⟨l',h⟩:=key l.length 0 a l h0 (by omega) (by omega) hl
 exact ⟨l',h⟩
end Go.Proofs.Ytacgehaipacehaa.P
namespace Go.Proofs.Ytacgehaipacehaa.P
open Go.RowKit Go.Proofs.YtacgehaipacehaaW.PrintWords Go.Proofs.YtacgehaipacehaaW.PrintLast Go.Proofs.YtacgehaipacehaaW.PrintMore
attribute [local go_sem] max2_int min2_int max_two min_two max_three min_three max_four min_four
set_option linter.unusedVariables false
set_option linter.unusedSimpArgs false
def laws_markTree.f (k : Nat) (l0_0 : List (S125)) (a1 : Int) : Option (Int × (List (S125))):=(laws_markClassS.f k l0_0 a1).bind fun bt2=>(some (bt2.1,bt2.2))
theorem laws_markTree.mono : ∀ a0 a1 k,LeO (laws_markTree.f k a0 a1) (laws_markTree.f (k + 1) a0 a1):=by
 intro a0 a1 k
 unfold laws_markTree.f
 repeat' first
   | (with_reducible exact laws_markClassS.mono _ _ _)
   | (with_reducible exact LeO.refl _)
   | (with_reducible exact LeO.none _)
   | (with_reducible refine LeO.ite ?_ ?_)
   | (with_reducible refine LeO.bind ?_ (fun _=>?_))
   | exact laws_markClassS.mono _ _ _
   | exact LeO.none _
   | refine LeO.ite ?_ ?_
   | refine LeO.bind ?_ (fun _=>?_)
set_option maxHeartbeats 8000000 in
set_option maxRecDepth 100000 in
theorem laws_markTree.calls (k : Nat) (P0_0_ : Nat → Prop) (u9000_ : Value) (l0_0 : List (S125)) (a1 : Int) (r1 : Int) (r2 : List (S125)) (w0 w : World) (hB : Below w0.heap.size w0 w) (ho0_0 : Kd.R k125 125 w w0.heap.size P0_0_ u9000_ l0_0) (h : laws_markTree.f k l0_0 a1 = some (r1,r2)) :
  Calls Try.prog 40 #[.agg #[u9000_],.int .i64 a1] w fun e w'=>e = .returned (.int .i64 r1) ∧ Kd.R k125 125 w' w0.heap.size (fun k_=>(P0_0_ k_ ∨ w.heap.size ≤ k_)) u9000_ r2 ∧ Below w0.heap.size w0 w' ∧ Kept w w' (fun k_=>P0_0_ k_):=by
 have hu25:=Try.underlying25
 have HO0_0:=a0_ (show Kd.R k125 125 w w0.heap.size (fun k_=>(P0_0_ k_ ∨ w.heap.size ≤ k_)) u9000_ l0_0 from Kd.R_mono ho0_0 (fun k_ hk=>(.inl hk)))
 have HK:=a0_ (Kept.refl w (fun k_=>P0_0_ k_))
 have HW0:=a0_ hB.size
 have HB:=a0_ hB
 clear hB
 have H : ((laws_markClassS.f k l0_0 a1).bind fun bt2=>(some (bt2.1,bt2.2))) = some (r1,r2):=h
 clear h
 replace H:=Option.bind_eq_some_iff.mp H
 obtain ⟨⟨t2,t3⟩,A30,H⟩:=H
 replace H : (some (t2,t3)) = some (r1,r2):=H
 have A3:=a0_ A30
 clear A30
 simp only [Option.some.injEq,Prod.mk.injEq] at H
 obtain ⟨rfl,rfl⟩:=H
 obtain ⟨Ao4,co4,eo4⟩:=Kd.R_slice HO0_0.out
 subst eo4
 go_enter Try.func40,Try.ntmps40
 go_wp2_with (first | ((with_reducible refine gate_dst (N:=2) rfl ?_);refine box_event ?hg (N:=2) ?hd (cs:=#[.slice Ao4 l0_0.length co4]) (t:=25) ?hr ?_;(case hd=>rfl);(case hg=>rfl);(case hr=>first | (go_simp;done) | (go_simp;rfl));intro gb1 hg w5 hbox hb;have n0_:=rb_ HO0_0 hb;have n1_:=a0_ (Kept.below (S:=(fun k_=>P0_0_ k_)) (by repeat (first | (with_reducible first | exact HK.out | apply Kept.alloc | apply Kept.drewN | apply Kept.drew) | exact HK.out)) hb);have n2_:=a0_ (below_step hbw_ hb);have n3_:=a0_ (hbox);have n4_:=a0_ ((by rw [hg];exact (by first | exact HK.out.1 | exact (show Kept w _ (fun k_=>P0_0_ k_) from by repeat (first | (with_reducible first | exact HK.out | apply Kept.alloc | apply Kept.drewN | apply Kept.drew) | exact HK.out)).1) : w.heap.size ≤ gb1));have n5_:=a0_ ((by rw [hg];exact (below_size hbw_) : w0.heap.size ≤ gb1));clear HO0_0 HK HB;have HO0_0:=n0_;have HK:=n1_;have HB:=n2_;have BK1:=n3_;have GW1:=n4_;have GE1:=n5_;clear n0_ n1_ n2_ n3_ n4_ n5_;clear hb hbox hg;have hcz6_0 : w5.cell? ⟨gb1,0,none⟩ = some (.slice Ao4 l0_0.length co4):=(blk_cell BK1.out 0).trans rfl;have hfz6_0:=blk_frozen BK1.out 0) | ((with_reducible refine gate_callee (f:=94) rfl ?_);refine goesL_ (some 8) rfl rfl Try.func94 (by kernel_rfl) rfl #[.slice Ao4 l0_0.length co4,.int .i64 a1] rfl lm_ ?_;(with_reducible refine (laws_markClassS.calls k (fun k_=>some k_ = (.slice Ao4 l0_0.length co4 : Value).ownBlock) (.slice Ao4 l0_0.length co4) l0_0 a1 t2 t3 w0 _ ?side1 ?side2 A3.out).mono ?_);(case side1=>exact hbw_);(case side2=>exact Kd.R_tight rfl HO0_0.out);rintro e w7 ⟨rfl,hy0,hb,hkp⟩;refine ⟨_,rfl,?_⟩;have n0_:=a0_ (Kd.R_reok rfl hy0 (fun k_ e_=>HO0_0.out.1 k_ e_));have n1_:=a0_ (blk_kept (bb_ BK1.out) hkp (fun hs_=>(fun e_=>(Kd.R_ne HO0_0.out BK1.out (by decide)) e_) hs_));have n2_:=a0_ (Kept.then_ (S:=(fun k_=>P0_0_ k_)) (by repeat (first | (with_reducible first | exact HK.out | apply Kept.alloc | apply Kept.drewN | apply Kept.drew | refine Kept.setCell ?_ (.inr GW1.out) _) | exact HK.out)) hkp (fun k_ hs_=>(fun e_=>(HO0_0.out.1 k_ e_.symm)) hs_));have n3_:=a0_ (hb);clear HO0_0 BK1;clear HK HB;have HO0_0:=n0_;have BK1:=n1_;have HK:=n2_;have HB:=n3_;clear n0_ n1_ n2_ n3_;(try clear hb);(try clear hkp);(try clear hy0)))
 go_ret
 exact ⟨by first | rfl | (simp [errW_none,errW_some] <;> rfl) | (simp [*,errW_none,errW_some] <;> rfl),by (with_reducible repeat (first | apply Kd.R_alloc | apply Kd.R_drewN | apply Kd.R_drew));exact HO0_0.out,hbw_,by repeat (first | (with_reducible first | exact HK.out | apply Kept.alloc | apply Kept.drewN | apply Kept.drew | refine Kept.setCell ?_ (.inr GW1.out) _) | exact HK.out)⟩
theorem laws_markTree_ev (l : List Cls) (a : Int) (h0 : 0 ≤ a) (hl : a + 2 * l.length ≤ 4611686018427387904) : ∃ l',Ev (fun k=>laws_markTree.f k l a) (a + 2 * l.length,l'):=by
 obtain ⟨l',h⟩:=laws_markClassS_ev l a h0 hl
 exact ⟨l',Ev.bind h (Ev.const rfl)⟩
end Go.Proofs.Ytacgehaipacehaa.P
namespace Go.Proofs.Ytacgehaipacehaa.P
open Go.RowKit Go.Proofs.YtacgehaipacehaaW.PrintWords Go.Proofs.YtacgehaipacehaaW.PrintLast Go.Proofs.YtacgehaipacehaaW.PrintMore
attribute [local go_sem] max2_int min2_int max_two min_two max_three min_three max_four min_four
set_option linter.unusedVariables false
set_option linter.unusedSimpArgs false
def laws_heldClassS.l0 : Nat → List (S125) → Int → Int → Option (Int)
 | 0,_,_,_=>none
 | k + 1,x0,x1,x5=>if x5 < (x0.length : Int) then (if 0 ≤ x5 then ((laws_markText.f k x1).bind fun t2=>(if ((rd_T125 x0 x5).f0).toList = t2.toList then (if ((rd_T125 x0 x5).f1) = (wrap64 (x1 + 1)) then (laws_heldClassS.l0 k x0 (wrap64 ((wrap64 (x1 + 1)) + 1)) (wrap64 (x5 + 1))) else (some (-1))) else (some (-1)))) else (none)) else (some x1)
def laws_heldClassS.f (k : Nat) (l0 : List (S125)) (a1 : Int) : Option (Int):=laws_heldClassS.l0 k l0 a1 0
theorem laws_heldClassS.mono_l : ∀ k,(∀ y0 y1 y2,LeO (laws_heldClassS.l0 k y0 y1 y2) (laws_heldClassS.l0 (k + 1) y0 y1 y2))
 | 0=>fun _ _ _ r h=>by simp [laws_heldClassS.l0] at h
 | k + 1=>by
  have ih0:=laws_heldClassS.mono_l k
  ·intro y0 y1 y2
   unfold laws_heldClassS.l0
   repeat' first
   | (with_reducible exact ih0 _ _ _)
   | (with_reducible exact laws_markText.mono _ _)
   | (with_reducible exact LeO.refl _)
   | (with_reducible exact LeO.none _)
   | (with_reducible refine LeO.ite ?_ ?_)
   | (with_reducible refine LeO.bind ?_ (fun _=>?_))
   | exact ih0 _ _ _
   | exact laws_markText.mono _ _
   | exact LeO.none _
   | refine LeO.ite ?_ ?_
   | refine LeO.bind ?_ (fun _=>?_)
theorem laws_heldClassS.mono : ∀ a0 a1 k,LeO (laws_heldClassS.f k a0 a1) (laws_heldClassS.f (k + 1) a0 a1):=by
 intro a0 a1 k
 have ih0:=laws_heldClassS.mono_l k
 unfold laws_heldClassS.f
 repeat' first
   | (with_reducible exact ih0 _ _ _)
   | (with_reducible exact laws_markText.mono _ _)
   | (with_reducible exact LeO.refl _)
   | (with_reducible exact LeO.none _)
   | (with_reducible refine LeO.ite ?_ ?_)
   | (with_reducible refine LeO.bind ?_ (fun _=>?_))
   | exact ih0 _ _ _
   | exact laws_markText.mono _ _
   | exact LeO.none _
   | refine LeO.ite ?_ ?_
   | refine LeO.bind ?_ (fun _=>?_)
def laws_heldClassS.T4 : Bool × List (List Nat × List Nat):=(true,[([],[]),([],[]),([0,1],[0,1]),([2],[2]),([3],[3]),([],[]),([5],[5]),([4,6],[4,6])])
def laws_heldClassS.B4 : List Nat:=[0,0,3,7,15,0,32,127]
theorem laws_heldClassS.tab4 : rtab .any (opsOf Try.f95 4) = laws_heldClassS.T4:=by kernel_rfl
theorem laws_heldClassS.bits4 : waitsOk laws_heldClassS.T4.2 laws_heldClassS.B4 = true:=by kernel_rfl
set_option maxHeartbeats 8000000 in
set_option maxRecDepth 100000 in
theorem laws_heldClassS.calls (k : Nat) (A0 : Option Addr) (c0 : Nat) (l0 : List (S125)) (a1 : Int) (r : Int) (w : World) (hr0 : Kd.C k125 w A0 l0.length l0) (hc0 : l0.length ≤ c0) (h : laws_heldClassS.f k l0 a1 = some r) :
  Calls Try.prog 95 #[.slice A0 l0.length c0,.int .i64 a1] w fun e w'=>e = .returned (.int .i64 r) ∧ Below w.heap.size w w':=by
 have HR0:=a0_ hr0
 have HC0:=a0_ hc0
 clear hr0 hc0
 have HB:=a0_ (Below.refl w.heap.size w)
 have H : (laws_heldClassS.l0 k l0 a1 0) = some r:=h
 clear h
 have H':=a0_ H
 clear H
 go_enter Try.func95,Try.ntmps95
 go_wp2
 go_loopg [1,5] k (fun kq v1 v5 w'=>∃ (x1_1 : Int) (x5_1 : Int),v1 = .int .i64 x1_1 ∧ v5 = .int .i64 x5_1 ∧ Aside0 (laws_heldClassS.l0 kq l0 x1_1 x5_1 = some r) ∧ Aside0 (kq ≤ k) ∧ Aside0 (Below w.heap.size w w'))
 case atStart=>exact ⟨(a1),(0),(by first | rfl | (simp;done) | (simp [*];done)),(by first | rfl | (simp;done) | (simp [*];done)),H',⟨Nat.le_refl _⟩,⟨hbw_⟩⟩
 case round =>
  clear H'
  try clear p2
  obtain ⟨x1_1,x5_1,rfl,rfl,HA,HK1,HB⟩:=hrel
  cases gk with
  | zero=>exact absurd HA.out (by simp [laws_heldClassS.l0])
  | succ k1 =>
   have H:=HA.out
   clear HA
   simp only [laws_heldClassS.l0] at H
   by_cases c3 : x5_1 < (l0.length : Int)
   ·rw [if_pos c3] at H
    have c3b0 : decide (x5_1 < (l0.length : Int)) = true:=decide_eq_true c3
    clear c3
    by_cases c4 : 0 ≤ x5_1
    ·rw [if_pos c4] at H
     have c4b0 : decide (0 ≤ x5_1) = true:=decide_eq_true c4
     clear c4
     replace H:=Option.bind_eq_some_iff.mp H
     obtain ⟨t2,A50,H⟩:=H
     try dsimp only at H
     have A5:=a0_ A50
     clear A50
     by_cases c6 : ((rd_T125 l0 x5_1).f0).toList = t2.toList
     ·rw [if_pos c6] at H
      have c6b0 : (((rd_T125 l0 x5_1).f0).toList == t2.toList) = true:=beq_iff_eq.mpr c6
      have c6b1 : (((rd_T125 l0 x5_1).f0).toList != t2.toList) = false:=bne_eq_false_iff_eq.mpr c6
      clear c6
      by_cases c7 : ((rd_T125 l0 x5_1).f1) = (wrap64 (x1_1 + 1))
      ·rw [if_pos c7] at H
       have c7b0 : (((rd_T125 l0 x5_1).f1) == (wrap64 (x1_1 + 1))) = true:=beq_iff_eq.mpr c7
       have c7b1 : (((rd_T125 l0 x5_1).f1) != (wrap64 (x1_1 + 1))) = false:=bne_eq_false_iff_eq.mpr c7
       clear c7
       have H':=a0_ H
       clear H
       try go_wp2
       have n0_:=a0_ (below_drew1 HB.out)
       clear HB
       have HB:=n0_
       clear n0_
       have p1 : 0 ≤ (x5_1 : Int):=of_decide_eq_true (by first | (with_reducible assumption) | assumption)
       have q1 : x5_1 < (l0.length : Int):=of_decide_eq_true (by first | (with_reducible assumption) | assumption)
       obtain ⟨ad1,e1,hx1_0,hx1_1⟩:=at_T125 HR0.out x5_1 p1 q1
       have hw1_1:=hx1_1
       have hw1_0:=hx1_0
       cases e1
       replace hx1_0:=(HB.out.cell (World.block_lt_of_cell? w _ hx1_0)).trans hx1_0
       replace hx1_1:=(HB.out.cell (World.block_lt_of_cell? w _ hx1_1)).trans hx1_1
       replace p1:=eq_true p1
       replace q1:=eq_true q1
       refine start_ (n:=8) (S:=fun w'=>w'.cell? (ad1.add ((x5_1).toNat * 2)) = some (.string ((rd_T125 l0 x5_1).f0)) ∧ w'.cell? ⟨(ad1.add ((x5_1).toNat * 2)).block,(ad1.add ((x5_1).toNat * 2)).off + 1,none⟩ = some (.int .i64 ((rd_T125 l0 x5_1).f1))) (ds:=[]) #[false,false,false,false,false,false,false,false] (by kernel_rfl) rfl rfl ⟨((HB.out.cell (World.block_lt_of_cell? w _ hw1_0)).trans hw1_0),((HB.out.cell (World.block_lt_of_cell? w _ hw1_1)).trans hw1_1)⟩ (fun hHeld=>?_);refine with_tabW laws_heldClassS.tab4 laws_heldClassS.bits4 (fun HT_ HW_=>?_)
       generalize wr.drew = w8 at HB hx1_0 hx1_1 hHeld ⊢
       refine pure_ (i:=0) (N:=some 12) (v:=?_) (a':=?_) #[true,false,false,false,false,false,false,false] rfl rfl (any_of HT_.out (by kernel_rfl)) (fun _ _ _ h=>h) (Or.inl ⟨by rfl,?_⟩) ?_ ?_
       rotate_left
       ·intro w'
        go_simp
        with_reducible rfl
       rotate_left
       ·simp only [Act.put,s1_,s2_,s3_,i64_w,i32_w]
        rfl
       refine pure_ (i:=1) (N:=some 13) (v:=?_) (a':=?_) #[true,true,false,false,false,false,false,false] rfl rfl (any_of HT_.out (by kernel_rfl)) (fun _ _ _ h=>h) (Or.inl ⟨by rfl,?_⟩) ?_ ?_
       rotate_left
       ·intro w'
        go_simp
        with_reducible rfl
       rotate_left
       ·simp only [Act.put,s1_,s2_,s3_,i64_w,i32_w]
        rfl
       refine pure_ (i:=2) (N:=some 14) (v:=?_) (a':=?_) #[true,true,true,false,false,false,false,false] rfl rfl (any_of HT_.out (by kernel_rfl)) (fun _ _ _ h=>h) (Or.inl ⟨by rfl,?_⟩) ?_ ?_
       rotate_left
       ·intro w'
        go_simp
        with_reducible rfl
       rotate_left
       ·simp only [Act.put,s1_,s2_,s3_,i64_w,i32_w]
        rfl
       refine pure_ (i:=3) (N:=some 15) (v:=?_) (a':=?_) #[true,true,true,true,false,false,false,false] rfl rfl (any_of HT_.out (by kernel_rfl)) (fun _ _ _ h=>h) (Or.inl ⟨by rfl,?_⟩) ?_ ?_
       rotate_left
       ·intro w'
        go_simp
        with_reducible rfl
       rotate_left
       ·simp only [Act.put,s1_,s2_,s3_,i64_w,i32_w]
        rfl
       refine pure_ (i:=5) (N:=some 17) (v:=?_) (a':=?_) #[true,true,true,true,false,true,false,false] rfl rfl (any_of HT_.out (by kernel_rfl)) (fun _ _ _ h=>h) (Or.inl ⟨by rfl,?_⟩) ?_ ?_
       rotate_left
       ·intro w'
        go_simp
        with_reducible rfl
       rotate_left
       ·simp only [Act.put,s1_,s2_,s3_,i64_w,i32_w]
        rfl
       refine take_ (i:=4) (N:=some 16) (v:=?_) (a':=?_) #[true,true,true,true,true,true,false,false] rfl rfl (take_ofW HT_.out HW_.out (by kernel_rfl)) (fun _ _ _ h=>h) (Or.inl ⟨by rfl,?_⟩) hHeld ?_ ?_
       rotate_left
       ·rintro w' ⟨s0,s1⟩
        go_simp
        with_reducible rfl
       rotate_left
       ·simp only [Act.put,s1_,s2_,s3_,i64_w,i32_w]
        rfl
       refine one_ (i:=6) (N:=some 18) #[true,true,true,true,true,true,true,false] rfl rfl (one_of HT_.out (by kernel_rfl)) (by decide) (fun K hK=>?_)
       refine goes_ Try.func89 (by kernel_rfl) rfl #[.int .i64 x1_1] (by rfl) rfl rfl lm_ ?_
       with_reducible refine (laws_markText.calls k1 x1_1 t2 _ A5.out).mono ?_
       rintro e w9 ⟨rfl,hb⟩
       refine ⟨_,rfl,?_⟩
       have n0_:=a0_ (below_step hbw_ hb)
       clear HB
       have HB:=n0_
       clear n0_
       (try clear hb)
       (try clear hb2)
       (try clear hk)
       (try clear hi)
       refine hK.out _ _ ⟨((HB.out.cell (World.block_lt_of_cell? w _ hw1_0)).trans hw1_0),((HB.out.cell (World.block_lt_of_cell? w _ hw1_1)).trans hw1_1)⟩ (fun hHeld=>?_)
       clear hK K
       refine norm_ (a':=?_) ?_ ?_
       rotate_left
       ·show Act.put _ (some 18) _ = _
        simp only [Act.put,s1_,s2_,s3_,i64_w,i32_w]
        rfl
       refine pure_ (i:=7) (N:=some 19) (v:=?_) (a':=?_) #[true,true,true,true,true,true,true,true] rfl rfl (any_of HT_.out (by kernel_rfl)) (fun _ _ _ h=>h) (Or.inl ⟨by rfl,?_⟩) ?_ ?_
       rotate_left
       ·intro w'
        go_simp
        with_reducible rfl
       rotate_left
       ·simp only [Act.put,s1_,s2_,s3_,i64_w,i32_w]
        rfl
       refine done_ (done_of HT_.out (by kernel_rfl)) ?_
       have p3 : 0 ≤ (x5_1 : Int):=of_decide_eq_true (by first | (with_reducible assumption) | assumption)
       have q3 : x5_1 < (l0.length : Int):=of_decide_eq_true (by first | (with_reducible assumption) | assumption)
       obtain ⟨ad3,e3,hx3_0,hx3_1⟩:=at_T125 HR0.out x5_1 p3 q3
       obtain rfl : ad1 = ad3:=(by injection e3)
       replace hx3_0:=(HB.out.cell (World.block_lt_of_cell? w _ hx3_0)).trans hx3_0
       replace hx3_1:=(HB.out.cell (World.block_lt_of_cell? w _ hx3_1)).trans hx3_1
       replace p3:=eq_true p3
       replace q3:=eq_true q3
       try go_wp2
       go_roundg k1
       case measure=>have:=HK1.out;omega
       case rel=>exact ⟨(wrap64 ((wrap64 (x1_1 + 1)) + 1)),(wrap64 (x5_1 + 1)),(by first | rfl | (simp;done) | (simp [*];done)),(by first | rfl | (simp;done) | (simp [*];done)),H',⟨by have:=HK1.out;omega⟩,⟨hbw_⟩⟩
      ·rw [if_neg c7] at H
       have c7b0 : (((rd_T125 l0 x5_1).f1) == (wrap64 (x1_1 + 1))) = false:=beq_eq_false_iff_ne.mpr c7
       have c7b1 : (((rd_T125 l0 x5_1).f1) != (wrap64 (x1_1 + 1))) = true:=bne_iff_ne.mpr c7
       obtain rfl:=Option.some.inj H
       try go_wp2
       have n0_:=a0_ (below_drew1 HB.out)
       clear HB
       have HB:=n0_
       clear n0_
       have p1 : 0 ≤ (x5_1 : Int):=of_decide_eq_true (by first | (with_reducible assumption) | assumption)
       have q1 : x5_1 < (l0.length : Int):=of_decide_eq_true (by first | (with_reducible assumption) | assumption)
       obtain ⟨ad1,e1,hx1_0,hx1_1⟩:=at_T125 HR0.out x5_1 p1 q1
       have hw1_1:=hx1_1
       have hw1_0:=hx1_0
       cases e1
       replace hx1_0:=(HB.out.cell (World.block_lt_of_cell? w _ hx1_0)).trans hx1_0
       replace hx1_1:=(HB.out.cell (World.block_lt_of_cell? w _ hx1_1)).trans hx1_1
       replace p1:=eq_true p1
       replace q1:=eq_true q1
       refine start_ (n:=8) (S:=fun w'=>w'.cell? (ad1.add ((x5_1).toNat * 2)) = some (.string ((rd_T125 l0 x5_1).f0)) ∧ w'.cell? ⟨(ad1.add ((x5_1).toNat * 2)).block,(ad1.add ((x5_1).toNat * 2)).off + 1,none⟩ = some (.int .i64 ((rd_T125 l0 x5_1).f1))) (ds:=[]) #[false,false,false,false,false,false,false,false] (by kernel_rfl) rfl rfl ⟨((HB.out.cell (World.block_lt_of_cell? w _ hw1_0)).trans hw1_0),((HB.out.cell (World.block_lt_of_cell? w _ hw1_1)).trans hw1_1)⟩ (fun hHeld=>?_);refine with_tabW laws_heldClassS.tab4 laws_heldClassS.bits4 (fun HT_ HW_=>?_)
       generalize wr.drew = w10 at HB hx1_0 hx1_1 hHeld ⊢
       refine pure_ (i:=0) (N:=some 12) (v:=?_) (a':=?_) #[true,false,false,false,false,false,false,false] rfl rfl (any_of HT_.out (by kernel_rfl)) (fun _ _ _ h=>h) (Or.inl ⟨by rfl,?_⟩) ?_ ?_
       rotate_left
       ·intro w'
        go_simp
        with_reducible rfl
       rotate_left
       ·simp only [Act.put,s1_,s2_,s3_,i64_w,i32_w]
        rfl
       refine pure_ (i:=1) (N:=some 13) (v:=?_) (a':=?_) #[true,true,false,false,false,false,false,false] rfl rfl (any_of HT_.out (by kernel_rfl)) (fun _ _ _ h=>h) (Or.inl ⟨by rfl,?_⟩) ?_ ?_
       rotate_left
       ·intro w'
        go_simp
        with_reducible rfl
       rotate_left
       ·simp only [Act.put,s1_,s2_,s3_,i64_w,i32_w]
        rfl
       refine pure_ (i:=2) (N:=some 14) (v:=?_) (a':=?_) #[true,true,true,false,false,false,false,false] rfl rfl (any_of HT_.out (by kernel_rfl)) (fun _ _ _ h=>h) (Or.inl ⟨by rfl,?_⟩) ?_ ?_
       rotate_left
       ·intro w'
        go_simp
        with_reducible rfl
       rotate_left
       ·simp only [Act.put,s1_,s2_,s3_,i64_w,i32_w]
        rfl
       refine pure_ (i:=3) (N:=some 15) (v:=?_) (a':=?_) #[true,true,true,true,false,false,false,false] rfl rfl (any_of HT_.out (by kernel_rfl)) (fun _ _ _ h=>h) (Or.inl ⟨by rfl,?_⟩) ?_ ?_
       rotate_left
       ·intro w'
        go_simp
        with_reducible rfl
       rotate_left
       ·simp only [Act.put,s1_,s2_,s3_,i64_w,i32_w]
        rfl
       refine pure_ (i:=5) (N:=some 17) (v:=?_) (a':=?_) #[true,true,true,true,false,true,false,false] rfl rfl (any_of HT_.out (by kernel_rfl)) (fun _ _ _ h=>h) (Or.inl ⟨by rfl,?_⟩) ?_ ?_
       rotate_left
       ·intro w'
        go_simp
        with_reducible rfl
       rotate_left
       ·simp only [Act.put,s1_,s2_,s3_,i64_w,i32_w]
        rfl
       refine take_ (i:=4) (N:=some 16) (v:=?_) (a':=?_) #[true,true,true,true,true,true,false,false] rfl rfl (take_ofW HT_.out HW_.out (by kernel_rfl)) (fun _ _ _ h=>h) (Or.inl ⟨by rfl,?_⟩) hHeld ?_ ?_
       rotate_left
       ·rintro w' ⟨s0,s1⟩
        go_simp
        with_reducible rfl
       rotate_left
       ·simp only [Act.put,s1_,s2_,s3_,i64_w,i32_w]
        rfl
       refine one_ (i:=6) (N:=some 18) #[true,true,true,true,true,true,true,false] rfl rfl (one_of HT_.out (by kernel_rfl)) (by decide) (fun K hK=>?_)
       refine goes_ Try.func89 (by kernel_rfl) rfl #[.int .i64 x1_1] (by rfl) rfl rfl lm_ ?_
       with_reducible refine (laws_markText.calls k1 x1_1 t2 _ A5.out).mono ?_
       rintro e w11 ⟨rfl,hb⟩
       refine ⟨_,rfl,?_⟩
       have n0_:=a0_ (below_step hbw_ hb)
       clear HB
       have HB:=n0_
       clear n0_
       (try clear hb)
       (try clear hb2)
       (try clear hk)
       (try clear hi)
       refine hK.out _ _ ⟨((HB.out.cell (World.block_lt_of_cell? w _ hw1_0)).trans hw1_0),((HB.out.cell (World.block_lt_of_cell? w _ hw1_1)).trans hw1_1)⟩ (fun hHeld=>?_)
       clear hK K
       refine norm_ (a':=?_) ?_ ?_
       rotate_left
       ·show Act.put _ (some 18) _ = _
        simp only [Act.put,s1_,s2_,s3_,i64_w,i32_w]
        rfl
       refine pure_ (i:=7) (N:=some 19) (v:=?_) (a':=?_) #[true,true,true,true,true,true,true,true] rfl rfl (any_of HT_.out (by kernel_rfl)) (fun _ _ _ h=>h) (Or.inl ⟨by rfl,?_⟩) ?_ ?_
       rotate_left
       ·intro w'
        go_simp
        with_reducible rfl
       rotate_left
       ·simp only [Act.put,s1_,s2_,s3_,i64_w,i32_w]
        rfl
       refine done_ (done_of HT_.out (by kernel_rfl)) ?_
       have p3 : 0 ≤ (x5_1 : Int):=of_decide_eq_true (by first | (with_reducible assumption) | assumption)
       have q3 : x5_1 < (l0.length : Int):=of_decide_eq_true (by first | (with_reducible assumption) | assumption)
       obtain ⟨ad3,e3,hx3_0,hx3_1⟩:=at_T125 HR0.out x5_1 p3 q3
       obtain rfl : ad1 = ad3:=(by injection e3)
       replace hx3_0:=(HB.out.cell (World.block_lt_of_cell? w _ hx3_0)).trans hx3_0
       replace hx3_1:=(HB.out.cell (World.block_lt_of_cell? w _ hx3_1)).trans hx3_1
       replace p3:=eq_true p3
       replace q3:=eq_true q3
       try go_wp2
       go_ret
       exact ⟨by first | rfl | (simp [errW_none,errW_some] <;> rfl) | (simp [*,errW_none,errW_some] <;> rfl),hbw_⟩
     ·rw [if_neg c6] at H
      have c6b0 : (((rd_T125 l0 x5_1).f0).toList == t2.toList) = false:=beq_eq_false_iff_ne.mpr c6
      have c6b1 : (((rd_T125 l0 x5_1).f0).toList != t2.toList) = true:=bne_iff_ne.mpr c6
      obtain rfl:=Option.some.inj H
      try go_wp2
      have n0_:=a0_ (below_drew1 HB.out)
      clear HB
      have HB:=n0_
      clear n0_
      have p1 : 0 ≤ (x5_1 : Int):=of_decide_eq_true (by first | (with_reducible assumption) | assumption)
      have q1 : x5_1 < (l0.length : Int):=of_decide_eq_true (by first | (with_reducible assumption) | assumption)
      obtain ⟨ad1,e1,hx1_0,hx1_1⟩:=at_T125 HR0.out x5_1 p1 q1
      have hw1_1:=hx1_1
      have hw1_0:=hx1_0
      cases e1
      replace hx1_0:=(HB.out.cell (World.block_lt_of_cell? w _ hx1_0)).trans hx1_0
      replace hx1_1:=(HB.out.cell (World.block_lt_of_cell? w _ hx1_1)).trans hx1_1
      replace p1:=eq_true p1
      replace q1:=eq_true q1
      refine start_ (n:=8) (S:=fun w'=>w'.cell? (ad1.add ((x5_1).toNat * 2)) = some (.string ((rd_T125 l0 x5_1).f0)) ∧ w'.cell? ⟨(ad1.add ((x5_1).toNat * 2)).block,(ad1.add ((x5_1).toNat * 2)).off + 1,none⟩ = some (.int .i64 ((rd_T125 l0 x5_1).f1))) (ds:=[]) #[false,false,false,false,false,false,false,false] (by kernel_rfl) rfl rfl ⟨((HB.out.cell (World.block_lt_of_cell? w _ hw1_0)).trans hw1_0),((HB.out.cell (World.block_lt_of_cell? w _ hw1_1)).trans hw1_1)⟩ (fun hHeld=>?_);refine with_tabW laws_heldClassS.tab4 laws_heldClassS.bits4 (fun HT_ HW_=>?_)
      generalize wr.drew = w12 at HB hx1_0 hx1_1 hHeld ⊢
      refine pure_ (i:=0) (N:=some 12) (v:=?_) (a':=?_) #[true,false,false,false,false,false,false,false] rfl rfl (any_of HT_.out (by kernel_rfl)) (fun _ _ _ h=>h) (Or.inl ⟨by rfl,?_⟩) ?_ ?_
      rotate_left
      ·intro w'
       go_simp
       with_reducible rfl
      rotate_left
      ·simp only [Act.put,s1_,s2_,s3_,i64_w,i32_w]
       rfl
      refine pure_ (i:=1) (N:=some 13) (v:=?_) (a':=?_) #[true,true,false,false,false,false,false,false] rfl rfl (any_of HT_.out (by kernel_rfl)) (fun _ _ _ h=>h) (Or.inl ⟨by rfl,?_⟩) ?_ ?_
      rotate_left
      ·intro w'
       go_simp
       with_reducible rfl
      rotate_left
      ·simp only [Act.put,s1_,s2_,s3_,i64_w,i32_w]
       rfl
      refine pure_ (i:=2) (N:=some 14) (v:=?_) (a':=?_) #[true,true,true,false,false,false,false,false] rfl rfl (any_of HT_.out (by kernel_rfl)) (fun _ _ _ h=>h) (Or.inl ⟨by rfl,?_⟩) ?_ ?_
      rotate_left
      ·intro w'
       go_simp
       with_reducible rfl
      rotate_left
      ·simp only [Act.put,s1_,s2_,s3_,i64_w,i32_w]
       rfl
      refine pure_ (i:=3) (N:=some 15) (v:=?_) (a':=?_) #[true,true,true,true,false,false,false,false] rfl rfl (any_of HT_.out (by kernel_rfl)) (fun _ _ _ h=>h) (Or.inl ⟨by rfl,?_⟩) ?_ ?_
      rotate_left
      ·intro w'
       go_simp
       with_reducible rfl
      rotate_left
      ·simp only [Act.put,s1_,s2_,s3_,i64_w,i32_w]
       rfl
      refine pure_ (i:=5) (N:=some 17) (v:=?_) (a':=?_) #[true,true,true,true,false,true,false,false] rfl rfl (any_of HT_.out (by kernel_rfl)) (fun _ _ _ h=>h) (Or.inl ⟨by rfl,?_⟩) ?_ ?_
      rotate_left
      ·intro w'
       go_simp
       with_reducible rfl
      rotate_left
      ·simp only [Act.put,s1_,s2_,s3_,i64_w,i32_w]
       rfl
      refine take_ (i:=4) (N:=some 16) (v:=?_) (a':=?_) #[true,true,true,true,true,true,false,false] rfl rfl (take_ofW HT_.out HW_.out (by kernel_rfl)) (fun _ _ _ h=>h) (Or.inl ⟨by rfl,?_⟩) hHeld ?_ ?_
      rotate_left
      ·rintro w' ⟨s0,s1⟩
       go_simp
       with_reducible rfl
      rotate_left
      ·simp only [Act.put,s1_,s2_,s3_,i64_w,i32_w]
       rfl
      refine one_ (i:=6) (N:=some 18) #[true,true,true,true,true,true,true,false] rfl rfl (one_of HT_.out (by kernel_rfl)) (by decide) (fun K hK=>?_)
      refine goes_ Try.func89 (by kernel_rfl) rfl #[.int .i64 x1_1] (by rfl) rfl rfl lm_ ?_
      with_reducible refine (laws_markText.calls k1 x1_1 t2 _ A5.out).mono ?_
      rintro e w13 ⟨rfl,hb⟩
      refine ⟨_,rfl,?_⟩
      have n0_:=a0_ (below_step hbw_ hb)
      clear HB
      have HB:=n0_
      clear n0_
      (try clear hb)
      (try clear hb2)
      (try clear hk)
      (try clear hi)
      refine hK.out _ _ ⟨((HB.out.cell (World.block_lt_of_cell? w _ hw1_0)).trans hw1_0),((HB.out.cell (World.block_lt_of_cell? w _ hw1_1)).trans hw1_1)⟩ (fun hHeld=>?_)
      clear hK K
      refine norm_ (a':=?_) ?_ ?_
      rotate_left
      ·show Act.put _ (some 18) _ = _
       simp only [Act.put,s1_,s2_,s3_,i64_w,i32_w]
       rfl
      refine pure_ (i:=7) (N:=some 19) (v:=?_) (a':=?_) #[true,true,true,true,true,true,true,true] rfl rfl (any_of HT_.out (by kernel_rfl)) (fun _ _ _ h=>h) (Or.inl ⟨by rfl,?_⟩) ?_ ?_
      rotate_left
      ·intro w'
       go_simp
       with_reducible rfl
      rotate_left
      ·simp only [Act.put,s1_,s2_,s3_,i64_w,i32_w]
       rfl
      refine done_ (done_of HT_.out (by kernel_rfl)) ?_
      try go_wp2
      go_ret
      exact ⟨by first | rfl | (simp [errW_none,errW_some] <;> rfl) | (simp [*,errW_none,errW_some] <;> rfl),hbw_⟩
    ·rw [if_neg c4] at H
     exact absurd H (by simp)
   ·rw [if_neg c3] at H
    have c3b0 : decide (x5_1 < (l0.length : Int)) = false:=decide_eq_false c3
    clear c3
    obtain rfl:=Option.some.inj H
    go_wp2
    go_ret
    exact ⟨by first | rfl | (simp [errW_none,errW_some] <;> rfl) | (simp [*,errW_none,errW_some] <;> rfl),hbw_⟩
end Go.Proofs.Ytacgehaipacehaa.P
namespace Go.Proofs.Ytacgehaipacehaa.P
open Go.RowKit Go.Proofs.YtacgehaipacehaaW.PrintWords Go.Proofs.YtacgehaipacehaaW.PrintLast Go.Proofs.YtacgehaipacehaaW.PrintMore
attribute [local go_sem] max2_int min2_int max_two min_two max_three min_three max_four min_four
set_option linter.unusedVariables false
set_option linter.unusedSimpArgs false
def laws_heldTree.f (k : Nat) (l0_0 : List (S125)) (a1 : Int) : Option (Int):=(laws_heldClassS.f k l0_0 a1).bind fun t2=>(if t2 < 0 then (some (-1)) else (some t2))
theorem laws_heldTree.mono : ∀ a0 a1 k,LeO (laws_heldTree.f k a0 a1) (laws_heldTree.f (k + 1) a0 a1):=by
 intro a0 a1 k
 unfold laws_heldTree.f
 repeat' first
   | (with_reducible exact laws_heldClassS.mono _ _ _)
   | (with_reducible exact LeO.refl _)
   | (with_reducible exact LeO.none _)
   | (with_reducible refine LeO.ite ?_ ?_)
   | (with_reducible refine LeO.bind ?_ (fun _=>?_))
   | exact laws_heldClassS.mono _ _ _
   | exact LeO.none _
   | refine LeO.ite ?_ ?_
   | refine LeO.bind ?_ (fun _=>?_)
set_option maxHeartbeats 8000000 in
set_option maxRecDepth 100000 in
theorem laws_heldTree.calls (k : Nat) (A0_0 : Option Addr) (c0_0 : Nat) (l0_0 : List (S125)) (a1 : Int) (r : Int) (w : World) (hr0_0 : Kd.C k125 w A0_0 l0_0.length l0_0) (hc0_0 : l0_0.length ≤ c0_0) (h : laws_heldTree.f k l0_0 a1 = some r) :
  Calls Try.prog 41 #[.agg #[.slice A0_0 l0_0.length c0_0],.int .i64 a1] w fun e w'=>e = .returned (.int .i64 r) ∧ Below w.heap.size w w':=by
 have hu25:=Try.underlying25
 have HR0_0:=a0_ hr0_0
 have HC0_0:=a0_ hc0_0
 clear hr0_0 hc0_0
 have HB:=a0_ (Below.refl w.heap.size w)
 have H : ((laws_heldClassS.f k l0_0 a1).bind fun t2=>(if t2 < 0 then (some (-1)) else (some t2))) = some r:=h
 clear h
 replace H:=Option.bind_eq_some_iff.mp H
 obtain ⟨t2,A30,H⟩:=H
 replace H : (if t2 < 0 then (some (-1)) else (some t2)) = some r:=H
 have A3:=a0_ A30
 clear A30
 by_cases c4 : t2 < 0
 ·rw [if_pos c4] at H
  have c4b0 : decide (t2 < 0) = true:=decide_eq_true c4
  clear c4
  obtain rfl:=Option.some.inj H
  go_enter Try.func41,Try.ntmps41
  go_wp2_with (first | ((with_reducible refine gate_dst (N:=2) rfl ?_);refine box_event ?hg (N:=2) ?hd (cs:=#[.slice A0_0 l0_0.length c0_0]) (t:=25) ?hr ?_;(case hd=>rfl);(case hg=>rfl);(case hr=>first | (go_simp;done) | (go_simp;rfl));intro gb1 hg w5 hbox hb;have BK1:=a0_ (hbox);have GW1:=a0_ ((by rw [hg];exact (below_size hbw_) : w.heap.size ≤ gb1));have GE1:=a0_ ((by rw [hg];exact (below_size hbw_) : w.heap.size ≤ gb1));replace HB:=a0_ (below_step hbw_ hb);clear hb hbox hg;have hcz6_0 : w5.cell? ⟨gb1,0,none⟩ = some (.slice A0_0 l0_0.length c0_0):=(blk_cell BK1.out 0).trans rfl;have hfz6_0:=blk_frozen BK1.out 0) | ((with_reducible refine gate_callee (f:=95) rfl ?_);refine goesL_ (some 8) rfl rfl Try.func95 (by kernel_rfl) rfl #[.slice A0_0 l0_0.length c0_0,.int .i64 a1] rfl lm_ ?_;(with_reducible refine (laws_heldClassS.calls k _ _ l0_0 a1 t2 _ ?side1 ?side2 A3.out).mono ?_);(case side1=>exact cc_ (Kd.C_below HR0_0.out HB.out));(case side2=>exact HC0_0.out);rintro e w7 ⟨rfl,hb⟩;refine ⟨_,rfl,?_⟩;replace BK1:=kb_ BK1 hb;replace HB:=a0_ (below_step hbw_ hb);(try clear hb);(try clear hb2);(try clear hk);(try clear hi)))
  go_ret
  exact ⟨by first | rfl | (simp [errW_none,errW_some] <;> rfl) | (simp [*,errW_none,errW_some] <;> rfl),hbw_⟩
 ·rw [if_neg c4] at H
  have c4b0 : decide (t2 < 0) = false:=decide_eq_false c4
  clear c4
  obtain rfl:=Option.some.inj H
  go_enter Try.func41,Try.ntmps41
  go_wp2_with (first | ((with_reducible refine gate_dst (N:=2) rfl ?_);refine box_event ?hg (N:=2) ?hd (cs:=#[.slice A0_0 l0_0.length c0_0]) (t:=25) ?hr ?_;(case hd=>rfl);(case hg=>rfl);(case hr=>first | (go_simp;done) | (go_simp;rfl));intro gb1 hg w8 hbox hb;have BK1:=a0_ (hbox);have GW1:=a0_ ((by rw [hg];exact (below_size hbw_) : w.heap.size ≤ gb1));have GE1:=a0_ ((by rw [hg];exact (below_size hbw_) : w.heap.size ≤ gb1));replace HB:=a0_ (below_step hbw_ hb);clear hb hbox hg;have hcz9_0 : w8.cell? ⟨gb1,0,none⟩ = some (.slice A0_0 l0_0.length c0_0):=(blk_cell BK1.out 0).trans rfl;have hfz9_0:=blk_frozen BK1.out 0) | ((with_reducible refine gate_callee (f:=95) rfl ?_);refine goesL_ (some 8) rfl rfl Try.func95 (by kernel_rfl) rfl #[.slice A0_0 l0_0.length c0_0,.int .i64 a1] rfl lm_ ?_;(with_reducible refine (laws_heldClassS.calls k _ _ l0_0 a1 t2 _ ?side1 ?side2 A3.out).mono ?_);(case side1=>exact cc_ (Kd.C_below HR0_0.out HB.out));(case side2=>exact HC0_0.out);rintro e w10 ⟨rfl,hb⟩;refine ⟨_,rfl,?_⟩;replace BK1:=kb_ BK1 hb;replace HB:=a0_ (below_step hbw_ hb);(try clear hb);(try clear hb2);(try clear hk);(try clear hi)))
  go_ret
  exact ⟨by first | rfl | (simp [errW_none,errW_some] <;> rfl) | (simp [*,errW_none,errW_some] <;> rfl),hbw_⟩
theorem laws_markClassS_at : ∀ (d i : Nat) (a : Int) (l : List Cls),0 ≤ a → i + d = l.length → l.length ≤ 4611686018427387904 → a + 2 * d ≤ 4611686018427387904 → ∃ l',Ev (fun k=>laws_markClassS.l0 k l a (i : Int)) (a + 2 * d,l') ∧ l'.length = l.length ∧ (∀ j,j < i → l'.getD j z125 = l.getD j z125) ∧ ∀ j,j < d → ∃ s,Ev (fun k=>laws_markText.f k (a + 2 * (j : Int))) s ∧ l'.getD (i + j) z125 = ⟨s,a + 2 * (j : Int) + 1⟩:=by
 intro d
 induction d with
 | zero =>
  intro i a l h0 hi hll ha
  refine ⟨l,Ev.succ (Ev.congr (Ev.const rfl) (fun k=>?_)),rfl,fun _ _=>rfl,fun j hj=>absurd hj (Nat.not_lt_zero _)⟩
  simp only [laws_markClassS.l0]
  rw [if_neg (by omega)]
  simp
 | succ d ih =>
  intro i a l h0 hi hll ha
  obtain ⟨s,hs⟩:=laws_markText_ev a (by omega)
  have hset : ((l.set i ⟨s,(rd_T125 l i).f1⟩).set i ⟨(rd_T125 (l.set i ⟨s,(rd_T125 l i).f1⟩) i).f0,a + 1⟩) = l.set i ⟨s,a + 1⟩:=by
   have hr : rd_T125 (l.set i ⟨s,(rd_T125 l i).f1⟩) (i : Int) = ⟨s,(rd_T125 l i).f1⟩:=by
    have : i < l.length:=by omega
    simp [rd_T125,this]
   rw [hr,List.set_set]
  obtain ⟨l',hl',hlen,hlow,hat⟩:=ih (i + 1) (a + 1 + 1) (l.set i ⟨s,a + 1⟩) (by omega) (by simp;omega) (by simp;omega) (by omega)
  refine ⟨l',Ev.succ (Ev.congr (F:=fun k=>(laws_markText.f k a).bind fun s=>laws_markClassS.l0 k ((l.set i ⟨s,(rd_T125 l i).f1⟩).set i ⟨(rd_T125 (l.set i ⟨s,(rd_T125 l i).f1⟩) i).f0,a + 1⟩) (a + 1 + 1) ((i + 1 : Nat) : Int)) ?_ (fun k=>?_)),by rw [hlen,List.length_set],fun j hj=>?_,fun j hj=>?_⟩
  ·rw [show a + 2 * ((d + 1 : Nat) : Int) = a + 1 + 1 + 2 * d by omega]
   refine Ev.bind hs ?_
   rw [hset]
   exact hl'
  ·simp only [laws_markClassS.l0]
   rw [if_pos (by omega)]
   congr 1
   funext s
   rw [if_pos (by omega),wrap_in (i:=a + 1) (by omega) (by omega),wrap_in (i:=a + 1 + 1) (by omega) (by omega),wrap_succ (i:=(i : Int)) (n:=l.length) (by omega) (by omega) (by omega)]
   rfl
  ·rw [hlow j (by omega),List.getD_eq_getElem?_getD,List.getD_eq_getElem?_getD,List.getElem?_set_ne (by omega)]
  ·cases j with
   | zero =>
    refine ⟨s,by simpa using hs,?_⟩
    rw [Nat.add_zero,hlow i (by omega),List.getD_eq_getElem?_getD,List.getElem?_set_self (by omega)]
    simp
   | succ j =>
    obtain ⟨u,hu,hu2⟩:=hat j (by omega)
    refine ⟨u,?_,?_⟩
    ·rw [show a + 2 * ((j + 1 : Nat) : Int) = a + 1 + 1 + 2 * (j : Int) by omega]
     exact hu
    ·rw [show i + (j + 1) = i + 1 + j by omega,hu2,show a + 1 + 1 + 2 * (j : Int) + 1 = a + 2 * ((j + 1 : Nat) : Int) + 1 by omega]
theorem laws_heldClassS_at (l' : List Cls) (a0 : Int) (h0 : 0 ≤ a0) (hl : a0 + 2 * l'.length ≤ 4611686018427387904) (hat : ∀ j,j < l'.length → ∃ s,Ev (fun k=>laws_markText.f k (a0 + 2 * (j : Int))) s ∧ l'.getD j z125 = ⟨s,a0 + 2 * (j : Int) + 1⟩) : Ev (fun k=>laws_heldClassS.f k l' a0) (a0 + 2 * l'.length):=by
 have key : ∀ (d i : Nat),i + d = l'.length → Ev (fun k=>laws_heldClassS.l0 k l' (a0 + 2 * (i : Int)) (i : Int)) (a0 + 2 * l'.length):=by
  intro d
  induction d with
  | zero =>
   intro i hi
   refine Ev.succ ?_
   simp only [laws_heldClassS.l0]
   refine Ev.neg (by omega) (Ev.const ?_)
   rw [show i = l'.length by omega]
  | succ d ih =>
   intro i hi
   obtain ⟨s,hs,he⟩:=hat i (by omega)
   have hr : rd_T125 l' (i : Int) = ⟨s,a0 + 2 * (i : Int) + 1⟩:=by rw [← he];simp [rd_T125]
   have hn:=ih (i + 1) (by omega)
   refine Ev.succ ?_
   simp only [laws_heldClassS.l0,hr]
   rw [wrap_in (i:=a0 + 2 * (i : Int) + 1) (by omega) (by omega),wrap_in (i:=a0 + 2 * (i : Int) + 1 + 1) (by omega) (by omega),wrap_succ (i:=(i : Int)) (n:=l'.length) (by omega) (by omega) (by omega)]
   refine Ev.pos (by omega) ?_
   refine Ev.pos (by omega) ?_
   refine Ev.bind hs ?_
   refine Ev.pos rfl ?_
   refine Ev.pos rfl ?_
   rw [show a0 + 2 * ((i + 1 : Nat) : Int) = a0 + 2 * (i : Int) + 1 + 1 by omega] at hn
   exact hn
 have:=key l'.length 0 (by omega)
 unfold laws_heldClassS.f
 simpa using this
theorem laws_markHeldTree_ev (l : List Cls) (a : Int) (h0 : 0 ≤ a) (hl : a + 2 * l.length ≤ 4611686018427387904) : ∃ l',Ev (fun k=>laws_markTree.f k l a) (a + 2 * l.length,l') ∧ Ev (fun k=>laws_heldTree.f k l' a) (a + 2 * l.length):=by
 obtain ⟨l',h1,h2,_,h3⟩:=laws_markClassS_at l.length 0 a l h0 (by omega) (by omega) hl
 refine ⟨l',Ev.bind h1 (Ev.const rfl),?_⟩
 have h4:=laws_heldClassS_at l' a h0 (by rw [h2];exact hl) (fun j hj=>by
  obtain ⟨s,hs,he⟩:=h3 j (by omega)
  exact ⟨s,hs,by rw [Nat.zero_add] at he;exact he⟩)
 rw [h2] at h4
 exact Ev.bind h4 (Ev.neg (by omega) (Ev.const rfl))
end Go.Proofs.Ytacgehaipacehaa.P
namespace Go.Proofs.Ytacgehaipacehaa.P
open Go.RowKit Go.Proofs.YtacgehaipacehaaW.PrintWords Go.Proofs.YtacgehaipacehaaW.PrintLast Go.Proofs.YtacgehaipacehaaW.PrintMore
attribute [local go_sem] max2_int min2_int max_two min_two max_three min_three max_four min_four
set_option linter.unusedVariables false
set_option linter.unusedSimpArgs false
mutual
def laws_FnExactParseTree.j0 : Nat → ByteArray → Bool → Bool → List (S125) → List (S125) → Option (Bool)
 | 0,_,_,_,_,_=>none
 | k + 1,x0,x4,x32,x6000,x11000=>if x32 = true then (some false) else ((laws_markTree.f k x11000 1).bind fun bt12=>((laws_heldTree.f k bt12.2 1).bind fun t14=>(if t14 < 0 then (some false) else (if t14 = bt12.1 then ((impl_ParseTree.f k x0).bind fun bt15=>((laws_eqTree.f k bt15.1 x6000).bind fun t20=>(if t20 = true then (laws_FnExactParseTree.j1 k bt12.1 (bt15.2 != x4) bt12.2) else (laws_FnExactParseTree.j1 k bt12.1 true bt12.2)))) else (some false)))))
def laws_FnExactParseTree.j1 : Nat → Int → Bool → List (S125) → Option (Bool)
 | 0,_,_,_=>none
 | k + 1,x7,x57,x11000=>if x57 = true then (some false) else ((laws_heldTree.f k x11000 1).bind fun t21=>(if t21 < 0 then (some false) else (if t21 = x7 then (some true) else (some false))))
end
def laws_FnExactParseTree.f (k : Nat) (a0 : ByteArray) : Option (Bool):=if (a0.size : Int) > 1048576 then (some true) else ((spec_ParseTree.f k a0).bind fun bt1=>((impl_ParseTree.f k a0).bind fun bt6=>((laws_eqTree.f k bt6.1 bt1.1).bind fun t11=>(if t11 = true then (laws_FnExactParseTree.j0 k a0 bt1.2 (bt6.2 != bt1.2) bt1.1 bt6.1) else (laws_FnExactParseTree.j0 k a0 bt1.2 true bt1.1 bt6.1)))))
theorem laws_FnExactParseTree.mono_l : ∀ k,(∀ y0 y1 y2 y3 y4,LeO (laws_FnExactParseTree.j0 k y0 y1 y2 y3 y4) (laws_FnExactParseTree.j0 (k + 1) y0 y1 y2 y3 y4)) ∧ (∀ y0 y1 y2,LeO (laws_FnExactParseTree.j1 k y0 y1 y2) (laws_FnExactParseTree.j1 (k + 1) y0 y1 y2))
 | 0=>⟨fun _ _ _ _ _ r h=>by simp [laws_FnExactParseTree.j0] at h,fun _ _ _ r h=>by simp [laws_FnExactParseTree.j1] at h⟩
 | k + 1=>by
  obtain ⟨ih0,ih1⟩:=laws_FnExactParseTree.mono_l k
  refine ⟨?_,?_⟩
  ·intro y0 y1 y2 y3 y4
   unfold laws_FnExactParseTree.j0
   repeat' first
   | (with_reducible exact ih0 _ _ _ _ _)
   | (with_reducible exact ih1 _ _ _)
   | (with_reducible exact impl_ParseTree.mono _ _)
   | (with_reducible exact laws_eqTree.mono _ _ _)
   | (with_reducible exact laws_heldTree.mono _ _ _)
   | (with_reducible exact laws_markTree.mono _ _ _)
   | (with_reducible exact spec_ParseTree.mono _ _)
   | (with_reducible exact LeO.refl _)
   | (with_reducible exact LeO.none _)
   | (with_reducible refine LeO.ite ?_ ?_)
   | (with_reducible refine LeO.bind ?_ (fun _=>?_))
   | exact ih0 _ _ _ _ _
   | exact ih1 _ _ _
   | exact impl_ParseTree.mono _ _
   | exact laws_eqTree.mono _ _ _
   | exact laws_heldTree.mono _ _ _
   | exact laws_markTree.mono _ _ _
   | exact spec_ParseTree.mono _ _
   | exact LeO.none _
   | refine LeO.ite ?_ ?_
   | refine LeO.bind ?_ (fun _=>?_)
  ·intro y0 y1 y2
   unfold laws_FnExactParseTree.j1
   repeat' first
   | (with_reducible exact ih0 _ _ _ _ _)
   | (with_reducible exact ih1 _ _ _)
   | (with_reducible exact impl_ParseTree.mono _ _)
   | (with_reducible exact laws_eqTree.mono _ _ _)
   | (with_reducible exact laws_heldTree.mono _ _ _)
   | (with_reducible exact laws_markTree.mono _ _ _)
   | (with_reducible exact spec_ParseTree.mono _ _)
   | (with_reducible exact LeO.refl _)
   | (with_reducible exact LeO.none _)
   | (with_reducible refine LeO.ite ?_ ?_)
   | (with_reducible refine LeO.bind ?_ (fun _=>?_))
   | exact ih0 _ _ _ _ _
   | exact ih1 _ _ _
   | exact impl_ParseTree.mono _ _
   | exact laws_eqTree.mono _ _ _
   | exact laws_heldTree.mono _ _ _
   | exact laws_markTree.mono _ _ _
   | exact spec_ParseTree.mono _ _
   | exact LeO.none _
   | refine LeO.ite ?_ ?_
   | refine LeO.bind ?_ (fun _=>?_)
theorem laws_FnExactParseTree.mono : ∀ a0 k,LeO (laws_FnExactParseTree.f k a0) (laws_FnExactParseTree.f (k + 1) a0):=by
 intro a0 k
 obtain ⟨ih0,ih1⟩:=laws_FnExactParseTree.mono_l k
 unfold laws_FnExactParseTree.f
 repeat' first
   | (with_reducible exact ih0 _ _ _ _ _)
   | (with_reducible exact ih1 _ _ _)
   | (with_reducible exact impl_ParseTree.mono _ _)
   | (with_reducible exact laws_eqTree.mono _ _ _)
   | (with_reducible exact laws_heldTree.mono _ _ _)
   | (with_reducible exact laws_markTree.mono _ _ _)
   | (with_reducible exact spec_ParseTree.mono _ _)
   | (with_reducible exact LeO.refl _)
   | (with_reducible exact LeO.none _)
   | (with_reducible refine LeO.ite ?_ ?_)
   | (with_reducible refine LeO.bind ?_ (fun _=>?_))
   | exact ih0 _ _ _ _ _
   | exact ih1 _ _ _
   | exact impl_ParseTree.mono _ _
   | exact laws_eqTree.mono _ _ _
   | exact laws_heldTree.mono _ _ _
   | exact laws_markTree.mono _ _ _
   | exact spec_ParseTree.mono _ _
   | exact LeO.none _
   | refine LeO.ite ?_ ?_
   | refine LeO.bind ?_ (fun _=>?_)
set_option maxHeartbeats 8000000 in
set_option maxRecDepth 100000 in
theorem laws_FnExactParseTree.calls (k : Nat) (a0 : ByteArray) (r : Bool) (w : World) (h : laws_FnExactParseTree.f k a0 = some r) :
  Calls Try.prog 6 #[.string a0] w fun e w'=>e = .returned (.bool r) ∧ Below w.heap.size w w':=by
 have hu25:=Try.underlying25
 have HB:=a0_ (Below.refl w.heap.size w)
 have H : (if (a0.size : Int) > 1048576 then (some true) else ((spec_ParseTree.f k a0).bind fun bt1=>((impl_ParseTree.f k a0).bind fun bt6=>((laws_eqTree.f k bt6.1 bt1.1).bind fun t11=>(if t11 = true then (laws_FnExactParseTree.j0 k a0 bt1.2 (bt6.2 != bt1.2) bt1.1 bt6.1) else (laws_FnExactParseTree.j0 k a0 bt1.2 true bt1.1 bt6.1)))))) = some r:=h
 clear h
 by_cases c2 : (a0.size : Int) > 1048576
 ·rw [if_pos c2] at H
  have c2b0 : decide (1048576 < (a0.size : Int)) = true:=decide_eq_true c2
  have c2b1 : decide (1048576 < a0.size) = true:=decide_eq_true (by omega)
  clear c2
  obtain rfl:=Option.some.inj H
  go_enter Try.func6,Try.ntmps6
  go_wp2
  go_ret
  exact ⟨by first | rfl | (simp [errW_none,errW_some] <;> rfl) | (simp [*,errW_none,errW_some] <;> rfl),hbw_⟩
 ·rw [if_neg c2] at H
  have c2b0 : decide (1048576 < (a0.size : Int)) = false:=decide_eq_false c2
  have c2b1 : decide (1048576 < a0.size) = false:=decide_eq_false (by omega)
  clear c2
  replace H:=Option.bind_eq_some_iff.mp H
  obtain ⟨⟨t1,t4⟩,A30,H⟩:=H
  try dsimp only at H
  have A3:=a0_ A30
  clear A30
  replace H:=Option.bind_eq_some_iff.mp H
  obtain ⟨⟨t6,t9⟩,A40,H⟩:=H
  try dsimp only at H
  have A4:=a0_ A40
  clear A40
  have HC5:=a0_ H
  clear H
  go_enter Try.func6,Try.ntmps6
  go_upto_region 5 with (first | ((with_reducible refine gate_callee (f:=38) rfl ?_);refine goesL_ (some 16) rfl rfl Try.func38 (by kernel_rfl) rfl #[.string a0] rfl lm_ ?_;(with_reducible refine (spec_ParseTree.calls k a0 t1 t4 _ A3.out).mono ?_);rintro e w6 ⟨v2,rfl,ho0,hb⟩;refine ⟨_,rfl,?_⟩;have HO3:=a0_ (Kd.R_lower ho0 (below_size hbw_));replace HB:=a0_ (below_step hbw_ hb);(try clear hb);(try clear ho0)) | ((with_reducible refine gate_dst (N:=3) rfl ?_);refine box_event ?hg (N:=3) ?hd (cs:=#[.slice none 0 0]) (t:=25) ?hr ?_;(case hd=>rfl);(case hg=>rfl);(case hr=>first | (go_simp;done) | (go_simp;rfl));intro gb5 hg w7 hbox hb;replace HO3:=rb_ HO3 hb;have BK5:=a0_ (hbox);have GW5:=a0_ ((by rw [hg];exact (below_size hbw_) : w.heap.size ≤ gb5));have GE5:=a0_ ((by rw [hg];exact (below_size hbw_) : w.heap.size ≤ gb5));replace HB:=a0_ (below_step hbw_ hb);clear hb hbox hg;obtain ⟨Ao8,co8,eo8⟩:=Kd.R_slice HO3.out;subst eo8;have hcz9_0 : w7.cell? ⟨gb5,0,none⟩ = some (.slice none 0 0):=(blk_cell BK5.out 0).trans rfl;have hfz9_0:=blk_frozen BK5.out 0) | ((with_reducible refine gate_callee (f:=39) rfl ?_);refine goesL_ (some 21) rfl rfl Try.func39 (by kernel_rfl) rfl #[.string a0] rfl lm_ ?_;(with_reducible refine (impl_ParseTree.calls k a0 t6 t9 _ A4.out).mono ?_);rintro e w10 ⟨v7,rfl,ho0,hb⟩;refine ⟨_,rfl,?_⟩;have n0_:=a0_ (Kd.R_elder' (by (with_reducible repeat (first | apply Kd.R_alloc | apply Kd.R_drewN | apply Kd.R_drew));exact (Kd.R_mono (Kd.R_far (p:=⟨gb5,0,none⟩) (Kd.R_types HO3.out BK5.out (by decide)) (fun _ hk=>hk.2) (.slice Ao8 t1.length co8)) (fun _ h_=>h_.1))) (Kd.R_base ho0) hb);have n1_:=a0_ (Kd.R_lower (Kd.R_new' ho0 (Kd.R_lt (by (with_reducible repeat (first | apply Kd.R_alloc | apply Kd.R_drewN | apply Kd.R_drew));exact (Kd.R_mono (Kd.R_far (p:=⟨gb5,0,none⟩) (Kd.R_types HO3.out BK5.out (by decide)) (fun _ hk=>hk.2) (.slice Ao8 t1.length co8)) (fun _ h_=>h_.1))))) (below_size hbw_));have n2_:=a0_ (blk_below (g:=gb5) (o:=.cells #[.slice Ao8 t1.length co8] 25 (0,0)) (by (with_reducible repeat (first | refine blk_drewN ?_ _ | refine blk_drew ?_ | refine blk_alloc ?_ _));refine blk_put (cs:=#[.slice none 0 0]) ?_ 0 _ rfl;(with_reducible repeat (first | refine blk_drewN ?_ _ | refine blk_drew ?_ | refine blk_alloc ?_ _));exact BK5.out) hb);have n3_:=a0_ (below_step hbw_ hb);clear HO3 BK5 HB;have HO3:=n0_;have HO8:=n1_;have BK5:=n2_;have HB:=n3_;clear n0_ n1_ n2_ n3_;(try clear hb);(try clear ho0)) | ((with_reducible refine gate_dst (N:=5) rfl ?_);refine box_event ?hg (N:=5) ?hd (cs:=#[.slice none 0 0]) (t:=25) ?hr ?_;(case hd=>rfl);(case hg=>rfl);(case hr=>first | (go_simp;done) | (go_simp;rfl));intro gb10 hg w11 hbox hb;have n0_:=rb_ HO3 hb;have n1_:=rb_ HO8 hb;have n2_:=kb_ BK5 hb;have n3_:=a0_ (below_step hbw_ hb);have n4_:=a0_ (hbox);have n5_:=a0_ ((by rw [hg];exact (below_size hbw_) : w.heap.size ≤ gb10));have n6_:=a0_ ((by rw [hg];exact (below_size hbw_) : w.heap.size ≤ gb10));have n7_:=a0_ ((by rw [hg];exact Nat.ne_of_lt (blk_lt (bb_ BK5.out)) : gb5 ≠ gb10));have n8_:=a0_ ((by rw [hg];exact Nat.ne_of_gt (blk_lt (bb_ BK5.out)) : gb10 ≠ gb5));clear HO3 HO8;clear BK5 HB;have HO3:=n0_;have HO8:=n1_;have BK5:=n2_;have HB:=n3_;have BK10:=n4_;have GW10:=n5_;have GE10:=n6_;have NB5_10:=n7_;have NB10_5:=n8_;clear n0_ n1_ n2_ n3_ n4_ n5_ n6_ n7_ n8_;clear hb hbox hg;obtain ⟨Ao12,co12,eo12⟩:=Kd.R_slice HO8.out;subst eo12;have hnb13:=NB10_5.out;have hnc13:=NB5_10.out;have hcz14_0 : w11.cell? ⟨gb10,0,none⟩ = some (.slice none 0 0):=(blk_cell BK10.out 0).trans rfl;have hfz14_0:=blk_frozen BK10.out 0))
  (try simp only [Act.put,s1_,s2_,s3_])
  go_cut [32] (fun v32 wc=>∃ (kq : Nat) (x32_4 : Bool),v32 = .bool x32_4 ∧ Aside0 (laws_FnExactParseTree.j0 kq a0 t4 x32_4 t1 t6 = some r) ∧ Aside0 (kq ≤ k) ∧ Aside0 (Kd.R k125 125 wc w.heap.size (fun k_=>some k_ ≠ ((.slice Ao12 t6.length co12) : Value).ownBlock) (.slice Ao8 t1.length co8) t1) ∧ Aside0 (Kd.R k125 125 wc w.heap.size (fun k_=>some k_ ≠ ((.slice Ao8 t1.length co8) : Value).ownBlock) (.slice Ao12 t6.length co12) t6) ∧ Aside0 (wc.heap[gb5]? = some (.cells #[(.slice Ao8 t1.length co8)] 25 (0,0))) ∧ Aside0 (wc.heap[gb10]? = some (.cells #[(.slice Ao12 t6.length co12)] 25 (0,0))) ∧ Aside0 (Below w.heap.size w wc))
  case first =>
   have H:=HC5.out
   clear HC5
   replace H:=Option.bind_eq_some_iff.mp H
   obtain ⟨t11,A150,H⟩:=H
   try dsimp only at H
   have A15:=a0_ A150
   clear A150
   by_cases c16 : t11 = true
   ·subst c16
    have H1 : (laws_FnExactParseTree.j0 k a0 t4 (t9 != t4) t1 t6) = some r:=by rw [if_pos rfl] at H;exact H
    clear H
    have H:=H1
    clear H1
    have H':=a0_ H
    clear H
    have hnb17:=NB10_5.out
    have hnc17:=NB5_10.out
    have hcz18_0 : w11.cell? ⟨gb10,0,none⟩ = some (.slice none 0 0):=(blk_cell BK10.out 0).trans rfl
    have hfz18_0:=blk_frozen BK10.out 0
    have hcz19_0 : w11.cell? ⟨gb5,0,none⟩ = some (.slice Ao8 t1.length co8):=(blk_cell BK5.out 0).trans rfl
    have hfz19_0:=blk_frozen BK5.out 0
    go_wp2_with (first | ((with_reducible refine gate_callee (f:=27) rfl ?_);refine goesL_ (some 26) rfl rfl Try.func27 (by kernel_rfl) rfl #[.agg #[.slice Ao12 t6.length co12],.agg #[.slice Ao8 t1.length co8]] rfl lm_ ?_;(with_reducible refine (laws_eqTree.calls k _ _ t6 _ _ t1 true _ ?side1 ?side2 ?side3 ?side4 A15.out).mono ?_);(case side1=>refine (Kd.R_reads' (e:=125) (base:=w.heap.size) (ok:=fun k_=>(True ∧ some k_ ≠ (.slice Ao8 t1.length co8 : Value).ownBlock)) (n:=t6.length) (c:=co12) ?_).2.2;exact (by (with_reducible repeat (first | apply Kd.R_alloc | apply Kd.R_drewN | apply Kd.R_drew));exact (Kd.R_mono (Kd.R_far (p:=⟨gb10,0,none⟩) (Kd.R_types HO8.out BK10.out (by decide)) (fun _ hk=>hk.2) (.slice Ao12 t6.length co12)) (fun _ h_=>h_.1))));(case side2=>exact (Kd.R_reads' HO8.out).2.1);(case side3=>refine (Kd.R_reads' (e:=125) (base:=w.heap.size) (ok:=fun k_=>(True ∧ some k_ ≠ (.slice Ao12 t6.length co12 : Value).ownBlock)) (n:=t1.length) (c:=co8) ?_).2.2;exact (by (with_reducible repeat (first | apply Kd.R_alloc | apply Kd.R_drewN | apply Kd.R_drew));exact (Kd.R_mono (Kd.R_far (p:=⟨gb10,0,none⟩) (Kd.R_types HO3.out BK10.out (by decide)) (fun _ hk=>hk.2) (.slice Ao12 t6.length co12)) (fun _ h_=>h_.1))));(case side4=>exact (Kd.R_reads' HO3.out).2.1);rintro e w20 ⟨rfl,hb⟩;refine ⟨_,rfl,?_⟩;replace HO3:=a0_ (Kd.R_below (by (with_reducible repeat (first | apply Kd.R_alloc | apply Kd.R_drewN | apply Kd.R_drew));exact (Kd.R_mono (Kd.R_far (p:=⟨gb10,0,none⟩) (Kd.R_types HO3.out BK10.out (by decide)) (fun _ hk=>hk.2) (.slice Ao12 t6.length co12)) (fun _ h_=>h_.1))) hb);replace HO8:=a0_ (Kd.R_below (by (with_reducible repeat (first | apply Kd.R_alloc | apply Kd.R_drewN | apply Kd.R_drew));exact (Kd.R_mono (Kd.R_far (p:=⟨gb10,0,none⟩) (Kd.R_types HO8.out BK10.out (by decide)) (fun _ hk=>hk.2) (.slice Ao12 t6.length co12)) (fun _ h_=>h_.1))) hb);replace BK5:=kf_ BK5 NB5_10 hb;replace BK10:=a0_ (blk_below (g:=gb10) (o:=.cells #[.slice Ao12 t6.length co12] 25 (0,0)) (by (with_reducible repeat (first | refine blk_drewN ?_ _ | refine blk_drew ?_ | refine blk_alloc ?_ _));refine blk_put (cs:=#[.slice none 0 0]) ?_ 0 _ rfl;(with_reducible repeat (first | refine blk_drewN ?_ _ | refine blk_drew ?_ | refine blk_alloc ?_ _));exact BK10.out) hb);replace HB:=a0_ (below_step hbw_ hb);(try clear hb);(try clear hb2);(try clear hk);(try clear hi)))
    go_meet
    case rel=>exact ⟨_,((t9 != t4)),(by first | rfl | (simp;done) | (simp [*];done)),H',⟨by first | omega | exact Nat.le_refl _⟩,⟨by (with_reducible repeat (first | apply Kd.R_alloc | apply Kd.R_drewN | apply Kd.R_drew));exact Kd.R_mono HO3.out (fun _ hk=>hk.2)⟩,⟨by (with_reducible repeat (first | apply Kd.R_alloc | apply Kd.R_drewN | apply Kd.R_drew));exact Kd.R_mono HO8.out (fun _ hk=>hk.2)⟩,⟨by (with_reducible repeat (first | refine blk_drewN ?_ _ | refine blk_drew ?_ | refine blk_alloc ?_ _));exact BK5.out⟩,⟨by (with_reducible repeat (first | refine blk_drewN ?_ _ | refine blk_drew ?_ | refine blk_alloc ?_ _));exact BK10.out⟩,⟨hbw_⟩⟩
   ·replace c16:=Bool.eq_false_iff.mpr c16
    subst c16
    have H1 : (laws_FnExactParseTree.j0 k a0 t4 true t1 t6) = some r:=by rw [if_neg (show ¬ (false = true) by decide)] at H;exact H
    clear H
    have H:=H1
    clear H1
    have H':=a0_ H
    clear H
    have hnb21:=NB10_5.out
    have hnc21:=NB5_10.out
    have hcz22_0 : w11.cell? ⟨gb10,0,none⟩ = some (.slice none 0 0):=(blk_cell BK10.out 0).trans rfl
    have hfz22_0:=blk_frozen BK10.out 0
    have hcz23_0 : w11.cell? ⟨gb5,0,none⟩ = some (.slice Ao8 t1.length co8):=(blk_cell BK5.out 0).trans rfl
    have hfz23_0:=blk_frozen BK5.out 0
    go_wp2_with (first | ((with_reducible refine gate_callee (f:=27) rfl ?_);refine goesL_ (some 26) rfl rfl Try.func27 (by kernel_rfl) rfl #[.agg #[.slice Ao12 t6.length co12],.agg #[.slice Ao8 t1.length co8]] rfl lm_ ?_;(with_reducible refine (laws_eqTree.calls k _ _ t6 _ _ t1 false _ ?side1 ?side2 ?side3 ?side4 A15.out).mono ?_);(case side1=>refine (Kd.R_reads' (e:=125) (base:=w.heap.size) (ok:=fun k_=>(True ∧ some k_ ≠ (.slice Ao8 t1.length co8 : Value).ownBlock)) (n:=t6.length) (c:=co12) ?_).2.2;exact (by (with_reducible repeat (first | apply Kd.R_alloc | apply Kd.R_drewN | apply Kd.R_drew));exact (Kd.R_mono (Kd.R_far (p:=⟨gb10,0,none⟩) (Kd.R_types HO8.out BK10.out (by decide)) (fun _ hk=>hk.2) (.slice Ao12 t6.length co12)) (fun _ h_=>h_.1))));(case side2=>exact (Kd.R_reads' HO8.out).2.1);(case side3=>refine (Kd.R_reads' (e:=125) (base:=w.heap.size) (ok:=fun k_=>(True ∧ some k_ ≠ (.slice Ao12 t6.length co12 : Value).ownBlock)) (n:=t1.length) (c:=co8) ?_).2.2;exact (by (with_reducible repeat (first | apply Kd.R_alloc | apply Kd.R_drewN | apply Kd.R_drew));exact (Kd.R_mono (Kd.R_far (p:=⟨gb10,0,none⟩) (Kd.R_types HO3.out BK10.out (by decide)) (fun _ hk=>hk.2) (.slice Ao12 t6.length co12)) (fun _ h_=>h_.1))));(case side4=>exact (Kd.R_reads' HO3.out).2.1);rintro e w24 ⟨rfl,hb⟩;refine ⟨_,rfl,?_⟩;replace HO3:=a0_ (Kd.R_below (by (with_reducible repeat (first | apply Kd.R_alloc | apply Kd.R_drewN | apply Kd.R_drew));exact (Kd.R_mono (Kd.R_far (p:=⟨gb10,0,none⟩) (Kd.R_types HO3.out BK10.out (by decide)) (fun _ hk=>hk.2) (.slice Ao12 t6.length co12)) (fun _ h_=>h_.1))) hb);replace HO8:=a0_ (Kd.R_below (by (with_reducible repeat (first | apply Kd.R_alloc | apply Kd.R_drewN | apply Kd.R_drew));exact (Kd.R_mono (Kd.R_far (p:=⟨gb10,0,none⟩) (Kd.R_types HO8.out BK10.out (by decide)) (fun _ hk=>hk.2) (.slice Ao12 t6.length co12)) (fun _ h_=>h_.1))) hb);replace BK5:=kf_ BK5 NB5_10 hb;replace BK10:=a0_ (blk_below (g:=gb10) (o:=.cells #[.slice Ao12 t6.length co12] 25 (0,0)) (by (with_reducible repeat (first | refine blk_drewN ?_ _ | refine blk_drew ?_ | refine blk_alloc ?_ _));refine blk_put (cs:=#[.slice none 0 0]) ?_ 0 _ rfl;(with_reducible repeat (first | refine blk_drewN ?_ _ | refine blk_drew ?_ | refine blk_alloc ?_ _));exact BK10.out) hb);replace HB:=a0_ (below_step hbw_ hb);(try clear hb);(try clear hb2);(try clear hk);(try clear hi)))
    go_meet
    case rel=>exact ⟨_,(true),(by first | rfl | (simp;done) | (simp [*];done)),H',⟨by first | omega | exact Nat.le_refl _⟩,⟨by (with_reducible repeat (first | apply Kd.R_alloc | apply Kd.R_drewN | apply Kd.R_drew));exact Kd.R_mono HO3.out (fun _ hk=>hk.2)⟩,⟨by (with_reducible repeat (first | apply Kd.R_alloc | apply Kd.R_drewN | apply Kd.R_drew));exact Kd.R_mono HO8.out (fun _ hk=>hk.2)⟩,⟨by (with_reducible repeat (first | refine blk_drewN ?_ _ | refine blk_drew ?_ | refine blk_alloc ?_ _));exact BK5.out⟩,⟨by (with_reducible repeat (first | refine blk_drewN ?_ _ | refine blk_drew ?_ | refine blk_alloc ?_ _));exact BK10.out⟩,⟨hbw_⟩⟩
  case rest =>
   clear HC5
   try clear c1
   try clear c2
   try clear c2b0
   try clear c2b1
   try clear p2
   try clear c3
   try clear c6
   try clear c13
   try clear c16
   try clear c17
   try clear c21
   try clear hcz14_0
   try clear hcz18_0
   try clear hcz19_0
   try clear hcz22_0
   try clear hcz23_0
   try clear hcz9_0
   try clear hfz14_0
   try clear hfz18_0
   try clear hfz19_0
   try clear hfz22_0
   try clear hfz23_0
   try clear hfz9_0
   obtain ⟨kq,x32_4,rfl,HA,HJ4,Z6,Z11,BK5,BK10,HB⟩:=hcut
   cases kq with
   | zero=>exact absurd HA.out (by simp [laws_FnExactParseTree.j0])
   | succ kj4 =>
    have H:=HA.out
    clear HA
    simp only [laws_FnExactParseTree.j0] at H
    by_cases c25 : x32_4 = true
    ·subst c25
     have H1 : (some false) = some r:=by rw [if_pos rfl] at H;exact H
     clear H
     have H:=H1
     clear H1
     obtain rfl:=Option.some.inj H
     go_wp2
     go_ret
     exact ⟨by first | rfl | (simp [errW_none,errW_some] <;> rfl) | (simp [*,errW_none,errW_some] <;> rfl),hbw_⟩
    ·replace c25:=Bool.eq_false_iff.mpr c25
     subst c25
     have H1 : ((laws_markTree.f kj4 t6 1).bind fun bt12=>((laws_heldTree.f kj4 bt12.2 1).bind fun t14=>(if t14 < 0 then (some false) else (if t14 = bt12.1 then ((impl_ParseTree.f kj4 a0).bind fun bt15=>((laws_eqTree.f kj4 bt15.1 t1).bind fun t20=>(if t20 = true then (laws_FnExactParseTree.j1 kj4 bt12.1 (bt15.2 != t4) bt12.2) else (laws_FnExactParseTree.j1 kj4 bt12.1 true bt12.2)))) else (some false))))) = some r:=by rw [if_neg (show ¬ (false = true) by decide)] at H;exact H
     clear H
     have H:=H1
     clear H1
     replace H:=Option.bind_eq_some_iff.mp H
     obtain ⟨⟨t12,t13⟩,A260,H⟩:=H
     try dsimp only at H
     have A26:=a0_ A260
     clear A260
     replace H:=Option.bind_eq_some_iff.mp H
     obtain ⟨t14,A270,H⟩:=H
     try dsimp only at H
     have A27:=a0_ A270
     clear A270
     by_cases c28 : t14 < 0
     ·rw [if_pos c28] at H
      have c28b0 : decide (t14 < 0) = true:=decide_eq_true c28
      clear c28
      obtain rfl:=Option.some.inj H
      have hnb29:=NB10_5.out
      have hnc29:=NB5_10.out
      have hcz30_0 : wc.cell? ⟨gb10,0,none⟩ = some (.slice Ao12 t6.length co12):=(blk_cell BK10.out 0).trans rfl
      have hfz30_0:=blk_frozen BK10.out 0
      go_wp2_with (first | ((with_reducible refine gate_callee (f:=40) rfl ?_);refine goesL_ (some 35) rfl rfl Try.func40 (by kernel_rfl) rfl #[.agg #[.slice Ao12 t6.length co12],.int .i64 1] rfl lm_ ?_;(with_reducible refine (laws_markTree.calls kj4 (fun k_=>some k_ = (.slice Ao12 t6.length co12 : Value).ownBlock) (.slice Ao12 t6.length co12) t6 1 t12 t13 w _ ?side1 ?side2 A26.out).mono ?_);(case side1=>exact hbw_);(case side2=>exact Kd.R_tight rfl Z11.out);rintro e w31 ⟨rfl,hy0,hb,hkp⟩;refine ⟨_,rfl,?_⟩;have n0_:=a0_ (Kd.R_mono (ok':=fun k_=>some k_ ≠ (.slice Ao12 t6.length co12 : Value).ownBlock) (Kd.R_keptB (Z6.out) hkp (fun k_ hk_ hs_=>(hk_) hs_)) (fun k_ hk_=>hk_.1));have n1_:=a0_ (Kd.R_reok rfl hy0 (fun k_ e_=>Z11.out.1 k_ e_));have n2_:=a0_ (blk_kept (bb_ BK5.out) hkp (fun hs_=>(fun e_=>(Kd.R_ne Z11.out BK5.out (by decide)) e_) hs_));have n3_:=a0_ (blk_kept (bb_ BK10.out) hkp (fun hs_=>(fun e_=>(Kd.R_ne Z11.out BK10.out (by decide)) e_) hs_));have n4_:=a0_ (hb);clear Z6 Z11;clear BK5 BK10 HB;have Z6:=n0_;have Z11:=n1_;have BK5:=n2_;have BK10:=n3_;have HB:=n4_;clear n0_ n1_ n2_ n3_ n4_;(try clear hb);(try clear hkp);(try clear hy0);have hcz32_0 : w31.cell? ⟨gb10,0,none⟩ = some (.slice Ao12 t6.length co12):=(blk_cell BK10.out 0).trans rfl;have hfz32_0:=blk_frozen BK10.out 0) | ((with_reducible refine gate_callee (f:=41) rfl ?_);refine goesL_ (some 38) rfl rfl Try.func41 (by kernel_rfl) rfl #[.agg #[.slice Ao12 t13.length co12],.int .i64 1] rfl (by (try simp only [List.map_toArray,List.map_cons,List.map_nil]);first | done | (rw [show t13.length = t6.length from (Kd.R_reads' Z11.out).1.symm] <;> rfl) | rfl | (simp only [List.length_drop,List.length_take];rfl)) ?_;(with_reducible refine (laws_heldTree.calls kj4 _ _ t13 1 t14 _ ?side1 ?side2 A27.out).mono ?_);(case side1=>exact cc_ (Kd.R_reads' Z11.out).2.2);(case side2=>rw [show t13.length = t6.length from (Kd.R_reads' Z11.out).1.symm];exact (Kd.R_reads' Z11.out).2.1);rintro e w33 ⟨rfl,hb⟩;refine ⟨_,rfl,?_⟩;replace Z6:=rb_ Z6 hb;replace Z11:=rb_ Z11 hb;replace BK5:=kb_ BK5 hb;replace BK10:=kb_ BK10 hb;replace HB:=a0_ (below_step hbw_ hb);(try clear hb);(try clear hb2);(try clear hk);(try clear hi)))
      go_ret
      exact ⟨by first | rfl | (simp [errW_none,errW_some] <;> rfl) | (simp [*,errW_none,errW_some] <;> rfl),hbw_⟩
     ·rw [if_neg c28] at H
      have c28b0 : decide (t14 < 0) = false:=decide_eq_false c28
      clear c28
      by_cases c34 : t14 = t12
      ·rw [if_pos c34] at H
       have c34b0 : (t14 == t12) = true:=beq_iff_eq.mpr c34
       have c34b1 : (t14 != t12) = false:=bne_eq_false_iff_eq.mpr c34
       clear c34
       replace H:=Option.bind_eq_some_iff.mp H
       obtain ⟨⟨t15,t18⟩,A350,H⟩:=H
       try dsimp only at H
       have A35:=a0_ A350
       clear A350
       have HC36:=a0_ H
       clear H
       have hnb37:=NB10_5.out
       have hnc37:=NB5_10.out
       have hcz38_0 : wc.cell? ⟨gb10,0,none⟩ = some (.slice Ao12 t6.length co12):=(blk_cell BK10.out 0).trans rfl
       have hfz38_0:=blk_frozen BK10.out 0
       go_upto_region 16 with (first | ((with_reducible refine gate_callee (f:=40) rfl ?_);refine goesL_ (some 35) rfl rfl Try.func40 (by kernel_rfl) rfl #[.agg #[.slice Ao12 t6.length co12],.int .i64 1] rfl lm_ ?_;(with_reducible refine (laws_markTree.calls kj4 (fun k_=>some k_ = (.slice Ao12 t6.length co12 : Value).ownBlock) (.slice Ao12 t6.length co12) t6 1 t12 t13 w _ ?side1 ?side2 A26.out).mono ?_);(case side1=>exact hbw_);(case side2=>exact Kd.R_tight rfl Z11.out);rintro e w39 ⟨rfl,hy0,hb,hkp⟩;refine ⟨_,rfl,?_⟩;have n0_:=a0_ (Kd.R_mono (ok':=fun k_=>some k_ ≠ (.slice Ao12 t6.length co12 : Value).ownBlock) (Kd.R_keptB (Z6.out) hkp (fun k_ hk_ hs_=>(hk_) hs_)) (fun k_ hk_=>hk_.1));have n1_:=a0_ (Kd.R_reok rfl hy0 (fun k_ e_=>Z11.out.1 k_ e_));have n2_:=a0_ (blk_kept (bb_ BK5.out) hkp (fun hs_=>(fun e_=>(Kd.R_ne Z11.out BK5.out (by decide)) e_) hs_));have n3_:=a0_ (blk_kept (bb_ BK10.out) hkp (fun hs_=>(fun e_=>(Kd.R_ne Z11.out BK10.out (by decide)) e_) hs_));have n4_:=a0_ (hb);clear Z6 Z11;clear BK5 BK10 HB;have Z6:=n0_;have Z11:=n1_;have BK5:=n2_;have BK10:=n3_;have HB:=n4_;clear n0_ n1_ n2_ n3_ n4_;(try clear hb);(try clear hkp);(try clear hy0);have hcz40_0 : w39.cell? ⟨gb10,0,none⟩ = some (.slice Ao12 t6.length co12):=(blk_cell BK10.out 0).trans rfl;have hfz40_0:=blk_frozen BK10.out 0) | ((with_reducible refine gate_callee (f:=41) rfl ?_);refine goesL_ (some 38) rfl rfl Try.func41 (by kernel_rfl) rfl #[.agg #[.slice Ao12 t13.length co12],.int .i64 1] rfl (by (try simp only [List.map_toArray,List.map_cons,List.map_nil]);first | done | (rw [show t13.length = t6.length from (Kd.R_reads' Z11.out).1.symm] <;> rfl) | rfl | (simp only [List.length_drop,List.length_take];rfl)) ?_;(with_reducible refine (laws_heldTree.calls kj4 _ _ t13 1 t14 _ ?side1 ?side2 A27.out).mono ?_);(case side1=>exact cc_ (Kd.R_reads' Z11.out).2.2);(case side2=>rw [show t13.length = t6.length from (Kd.R_reads' Z11.out).1.symm];exact (Kd.R_reads' Z11.out).2.1);rintro e w41 ⟨rfl,hb⟩;refine ⟨_,rfl,?_⟩;replace Z6:=rb_ Z6 hb;replace Z11:=rb_ Z11 hb;replace BK5:=kb_ BK5 hb;replace BK10:=kb_ BK10 hb;replace HB:=a0_ (below_step hbw_ hb);(try clear hb);(try clear hb2);(try clear hk);(try clear hi)) | ((with_reducible refine gate_callee (f:=39) rfl ?_);refine goesL_ (some 46) rfl rfl Try.func39 (by kernel_rfl) rfl #[.string a0] rfl lm_ ?_;(with_reducible refine (impl_ParseTree.calls kj4 a0 t15 t18 _ A35.out).mono ?_);rintro e w42 ⟨v16,rfl,ho0,hb⟩;refine ⟨_,rfl,?_⟩;have n0_:=a0_ (Kd.R_elder' (rr_ Z6.out) (Kd.R_base ho0) hb);have n1_:=a0_ (Kd.R_elder' (rr_ Z11.out) (Kd.R_base ho0) hb);have n2_:=a0_ (Kd.R_lower (Kd.R_new' (Kd.R_new' ho0 (Kd.R_lt (rr_ Z6.out))) (Kd.R_lt (rr_ Z11.out))) (below_size hbw_));have n3_:=kb_ BK5 hb;have n4_:=kb_ BK10 hb;have n5_:=a0_ (below_step hbw_ hb);clear Z6 Z11;clear BK5 BK10 HB;have Z6:=n0_;have Z11:=n1_;have HO17:=n2_;have BK5:=n3_;have BK10:=n4_;have HB:=n5_;clear n0_ n1_ n2_ n3_ n4_ n5_;(try clear hb);(try clear ho0)) | ((with_reducible refine gate_dst (N:=9) rfl ?_);refine box_event ?hg (N:=9) ?hd (cs:=#[.slice none 0 0]) (t:=25) ?hr ?_;(case hd=>rfl);(case hg=>rfl);(case hr=>first | (go_simp;done) | (go_simp;rfl));intro gb19 hg w43 hbox hb;have n0_:=rb_ Z6 hb;have n1_:=rb_ Z11 hb;have n2_:=rb_ HO17 hb;have n3_:=kb_ BK5 hb;have n4_:=kb_ BK10 hb;have n5_:=a0_ (below_step hbw_ hb);have n6_:=a0_ (hbox);have n7_:=a0_ ((by rw [hg];exact (below_size hbw_) : w.heap.size ≤ gb19));have n8_:=a0_ ((by rw [hg];exact (below_size hbw_) : w.heap.size ≤ gb19));have n9_:=a0_ ((by rw [hg];exact Nat.ne_of_lt (blk_lt (bb_ BK5.out)) : gb5 ≠ gb19));have n10_:=a0_ ((by rw [hg];exact Nat.ne_of_gt (blk_lt (bb_ BK5.out)) : gb19 ≠ gb5));have n11_:=a0_ ((by rw [hg];exact Nat.ne_of_lt (blk_lt (bb_ BK10.out)) : gb10 ≠ gb19));have n12_:=a0_ ((by rw [hg];exact Nat.ne_of_gt (blk_lt (bb_ BK10.out)) : gb19 ≠ gb10));clear Z6 Z11;clear HO17 BK5;clear BK10 HB;have Z6:=n0_;have Z11:=n1_;have HO17:=n2_;have BK5:=n3_;have BK10:=n4_;have HB:=n5_;have BK19:=n6_;have GW19:=n7_;have GE19:=n8_;have NB5_19:=n9_;have NB19_5:=n10_;have NB10_19:=n11_;have NB19_10:=n12_;clear n0_ n1_ n2_ n3_ n4_ n5_ n6_ n7_ n8_ n9_ n10_ n11_ n12_;clear hb hbox hg;obtain ⟨Ao44,co44,eo44⟩:=Kd.R_slice HO17.out;subst eo44;have hnb45:=NB19_5.out;have hnc45:=NB5_19.out;have hnb46:=NB19_10.out;have hnc46:=NB10_19.out;have hcz47_0 : w43.cell? ⟨gb19,0,none⟩ = some (.slice none 0 0):=(blk_cell BK19.out 0).trans rfl;have hfz47_0:=blk_frozen BK19.out 0))
       (try simp only [Act.put,s1_,s2_,s3_])
       go_cut [57] (fun v57 wc=>∃ (kq : Nat) (x57_35 : Bool),v57 = .bool x57_35 ∧ Aside0 (laws_FnExactParseTree.j1 kq t12 x57_35 t13 = some r) ∧ Aside0 (kq ≤ kj4) ∧ Aside0 (Kd.R k125 125 wc w.heap.size (fun k_=>some k_ ≠ ((.slice Ao12 t6.length co12) : Value).ownBlock ∧ some k_ ≠ ((.slice Ao44 t15.length co44) : Value).ownBlock) (.slice Ao8 t1.length co8) t1) ∧ Aside0 (Kd.R k125 125 wc w.heap.size (fun k_=>some k_ ≠ ((.slice Ao8 t1.length co8) : Value).ownBlock ∧ some k_ ≠ ((.slice Ao44 t15.length co44) : Value).ownBlock) (.slice Ao12 t6.length co12) t13) ∧ Aside0 (Kd.R k125 125 wc w.heap.size (fun k_=>some k_ ≠ ((.slice Ao8 t1.length co8) : Value).ownBlock ∧ some k_ ≠ ((.slice Ao12 t6.length co12) : Value).ownBlock) (.slice Ao44 t15.length co44) t15) ∧ Aside0 (wc.heap[gb5]? = some (.cells #[(.slice Ao8 t1.length co8)] 25 (0,0))) ∧ Aside0 (wc.heap[gb10]? = some (.cells #[(.slice Ao12 t6.length co12)] 25 (0,0))) ∧ Aside0 (wc.heap[gb19]? = some (.cells #[(.slice Ao44 t15.length co44)] 25 (0,0))) ∧ Aside0 (Below w.heap.size w wc))
       case first =>
        have H:=HC36.out
        clear HC36
        replace H:=Option.bind_eq_some_iff.mp H
        obtain ⟨t20,A480,H⟩:=H
        try dsimp only at H
        have A48:=a0_ A480
        clear A480
        by_cases c49 : t20 = true
        ·subst c49
         have H1 : (laws_FnExactParseTree.j1 kj4 t12 (t18 != t4) t13) = some r:=by rw [if_pos rfl] at H;exact H
         clear H
         have H:=H1
         clear H1
         have H':=a0_ H
         clear H
         have hnb50:=NB19_5.out
         have hnc50:=NB5_19.out
         have hnb51:=NB19_10.out
         have hnc51:=NB10_19.out
         have hcz52_0 : w43.cell? ⟨gb19,0,none⟩ = some (.slice none 0 0):=(blk_cell BK19.out 0).trans rfl
         have hfz52_0:=blk_frozen BK19.out 0
         have hnb53:=NB5_10.out
         have hnc53:=NB10_5.out
         have hcz54_0 : w43.cell? ⟨gb5,0,none⟩ = some (.slice Ao8 t1.length co8):=(blk_cell BK5.out 0).trans rfl
         have hfz54_0:=blk_frozen BK5.out 0
         go_wp2_with (first | ((with_reducible refine gate_callee (f:=27) rfl ?_);refine goesL_ (some 51) rfl rfl Try.func27 (by kernel_rfl) rfl #[.agg #[.slice Ao44 t15.length co44],.agg #[.slice Ao8 t1.length co8]] rfl lm_ ?_;(with_reducible refine (laws_eqTree.calls kj4 _ _ t15 _ _ t1 true _ ?side1 ?side2 ?side3 ?side4 A48.out).mono ?_);(case side1=>refine (Kd.R_reads' (e:=125) (base:=w.heap.size) (ok:=fun k_=>((True ∧ some k_ ≠ (.slice Ao8 t1.length co8 : Value).ownBlock) ∧ some k_ ≠ (.slice Ao12 t6.length co12 : Value).ownBlock)) (n:=t15.length) (c:=co44) ?_).2.2;exact (by (with_reducible repeat (first | apply Kd.R_alloc | apply Kd.R_drewN | apply Kd.R_drew));exact (Kd.R_mono (Kd.R_far (p:=⟨gb19,0,none⟩) (Kd.R_types HO17.out BK19.out (by decide)) (fun _ hk=>hk.2) (.slice Ao44 t15.length co44)) (fun _ h_=>h_.1))));(case side2=>exact (Kd.R_reads' HO17.out).2.1);(case side3=>refine (Kd.R_reads' (e:=125) (base:=w.heap.size) (ok:=fun k_=>(some k_ ≠ (.slice Ao12 t6.length co12 : Value).ownBlock ∧ some k_ ≠ (.slice Ao44 t15.length co44 : Value).ownBlock)) (n:=t1.length) (c:=co8) ?_).2.2;exact (by (with_reducible repeat (first | apply Kd.R_alloc | apply Kd.R_drewN | apply Kd.R_drew));exact (Kd.R_mono (Kd.R_far (p:=⟨gb19,0,none⟩) (Kd.R_types Z6.out BK19.out (by decide)) (fun _ hk=>hk.2) (.slice Ao44 t15.length co44)) (fun _ h_=>h_.1))));(case side4=>exact (Kd.R_reads' Z6.out).2.1);rintro e w55 ⟨rfl,hb⟩;refine ⟨_,rfl,?_⟩;replace Z6:=a0_ (Kd.R_below (by (with_reducible repeat (first | apply Kd.R_alloc | apply Kd.R_drewN | apply Kd.R_drew));exact (Kd.R_mono (Kd.R_far (p:=⟨gb19,0,none⟩) (Kd.R_types Z6.out BK19.out (by decide)) (fun _ hk=>hk.2) (.slice Ao44 t15.length co44)) (fun _ h_=>h_.1))) hb);replace Z11:=a0_ (Kd.R_below (by (with_reducible repeat (first | apply Kd.R_alloc | apply Kd.R_drewN | apply Kd.R_drew));exact (Kd.R_mono (Kd.R_far (p:=⟨gb19,0,none⟩) (Kd.R_types Z11.out BK19.out (by decide)) (fun _ hk=>hk.2) (.slice Ao44 t15.length co44)) (fun _ h_=>h_.1))) hb);replace HO17:=a0_ (Kd.R_below (by (with_reducible repeat (first | apply Kd.R_alloc | apply Kd.R_drewN | apply Kd.R_drew));exact (Kd.R_mono (Kd.R_far (p:=⟨gb19,0,none⟩) (Kd.R_types HO17.out BK19.out (by decide)) (fun _ hk=>hk.2) (.slice Ao44 t15.length co44)) (fun _ h_=>h_.1))) hb);replace BK5:=kf_ BK5 NB5_19 hb;replace BK10:=kf_ BK10 NB10_19 hb;replace BK19:=a0_ (blk_below (g:=gb19) (o:=.cells #[.slice Ao44 t15.length co44] 25 (0,0)) (by (with_reducible repeat (first | refine blk_drewN ?_ _ | refine blk_drew ?_ | refine blk_alloc ?_ _));refine blk_put (cs:=#[.slice none 0 0]) ?_ 0 _ rfl;(with_reducible repeat (first | refine blk_drewN ?_ _ | refine blk_drew ?_ | refine blk_alloc ?_ _));exact BK19.out) hb);replace HB:=a0_ (below_step hbw_ hb);(try clear hb);(try clear hb2);(try clear hk);(try clear hi)))
         go_meet
         case rel=>exact ⟨_,((t18 != t4)),(by first | rfl | (simp;done) | (simp [*];done)),H',⟨by have:=HJ4.out;first | omega | exact Nat.le_refl _⟩,⟨by (with_reducible repeat (first | apply Kd.R_alloc | apply Kd.R_drewN | apply Kd.R_drew));exact Z6.out⟩,⟨by (with_reducible repeat (first | apply Kd.R_alloc | apply Kd.R_drewN | apply Kd.R_drew));exact Z11.out⟩,⟨by (with_reducible repeat (first | apply Kd.R_alloc | apply Kd.R_drewN | apply Kd.R_drew));exact Kd.R_mono HO17.out (fun _ hk=>⟨hk.1.2,hk.2⟩)⟩,⟨by (with_reducible repeat (first | refine blk_drewN ?_ _ | refine blk_drew ?_ | refine blk_alloc ?_ _));exact BK5.out⟩,⟨by (with_reducible repeat (first | refine blk_drewN ?_ _ | refine blk_drew ?_ | refine blk_alloc ?_ _));exact BK10.out⟩,⟨by (with_reducible repeat (first | refine blk_drewN ?_ _ | refine blk_drew ?_ | refine blk_alloc ?_ _));exact BK19.out⟩,⟨hbw_⟩⟩
        ·replace c49:=Bool.eq_false_iff.mpr c49
         subst c49
         have H1 : (laws_FnExactParseTree.j1 kj4 t12 true t13) = some r:=by rw [if_neg (show ¬ (false = true) by decide)] at H;exact H
         clear H
         have H:=H1
         clear H1
         have H':=a0_ H
         clear H
         have hnb56:=NB19_5.out
         have hnc56:=NB5_19.out
         have hnb57:=NB19_10.out
         have hnc57:=NB10_19.out
         have hcz58_0 : w43.cell? ⟨gb19,0,none⟩ = some (.slice none 0 0):=(blk_cell BK19.out 0).trans rfl
         have hfz58_0:=blk_frozen BK19.out 0
         have hnb59:=NB5_10.out
         have hnc59:=NB10_5.out
         have hcz60_0 : w43.cell? ⟨gb5,0,none⟩ = some (.slice Ao8 t1.length co8):=(blk_cell BK5.out 0).trans rfl
         have hfz60_0:=blk_frozen BK5.out 0
         go_wp2_with (first | ((with_reducible refine gate_callee (f:=27) rfl ?_);refine goesL_ (some 51) rfl rfl Try.func27 (by kernel_rfl) rfl #[.agg #[.slice Ao44 t15.length co44],.agg #[.slice Ao8 t1.length co8]] rfl lm_ ?_;(with_reducible refine (laws_eqTree.calls kj4 _ _ t15 _ _ t1 false _ ?side1 ?side2 ?side3 ?side4 A48.out).mono ?_);(case side1=>refine (Kd.R_reads' (e:=125) (base:=w.heap.size) (ok:=fun k_=>((True ∧ some k_ ≠ (.slice Ao8 t1.length co8 : Value).ownBlock) ∧ some k_ ≠ (.slice Ao12 t6.length co12 : Value).ownBlock)) (n:=t15.length) (c:=co44) ?_).2.2;exact (by (with_reducible repeat (first | apply Kd.R_alloc | apply Kd.R_drewN | apply Kd.R_drew));exact (Kd.R_mono (Kd.R_far (p:=⟨gb19,0,none⟩) (Kd.R_types HO17.out BK19.out (by decide)) (fun _ hk=>hk.2) (.slice Ao44 t15.length co44)) (fun _ h_=>h_.1))));(case side2=>exact (Kd.R_reads' HO17.out).2.1);(case side3=>refine (Kd.R_reads' (e:=125) (base:=w.heap.size) (ok:=fun k_=>(some k_ ≠ (.slice Ao12 t6.length co12 : Value).ownBlock ∧ some k_ ≠ (.slice Ao44 t15.length co44 : Value).ownBlock)) (n:=t1.length) (c:=co8) ?_).2.2;exact (by (with_reducible repeat (first | apply Kd.R_alloc | apply Kd.R_drewN | apply Kd.R_drew));exact (Kd.R_mono (Kd.R_far (p:=⟨gb19,0,none⟩) (Kd.R_types Z6.out BK19.out (by decide)) (fun _ hk=>hk.2) (.slice Ao44 t15.length co44)) (fun _ h_=>h_.1))));(case side4=>exact (Kd.R_reads' Z6.out).2.1);rintro e w61 ⟨rfl,hb⟩;refine ⟨_,rfl,?_⟩;replace Z6:=a0_ (Kd.R_below (by (with_reducible repeat (first | apply Kd.R_alloc | apply Kd.R_drewN | apply Kd.R_drew));exact (Kd.R_mono (Kd.R_far (p:=⟨gb19,0,none⟩) (Kd.R_types Z6.out BK19.out (by decide)) (fun _ hk=>hk.2) (.slice Ao44 t15.length co44)) (fun _ h_=>h_.1))) hb);replace Z11:=a0_ (Kd.R_below (by (with_reducible repeat (first | apply Kd.R_alloc | apply Kd.R_drewN | apply Kd.R_drew));exact (Kd.R_mono (Kd.R_far (p:=⟨gb19,0,none⟩) (Kd.R_types Z11.out BK19.out (by decide)) (fun _ hk=>hk.2) (.slice Ao44 t15.length co44)) (fun _ h_=>h_.1))) hb);replace HO17:=a0_ (Kd.R_below (by (with_reducible repeat (first | apply Kd.R_alloc | apply Kd.R_drewN | apply Kd.R_drew));exact (Kd.R_mono (Kd.R_far (p:=⟨gb19,0,none⟩) (Kd.R_types HO17.out BK19.out (by decide)) (fun _ hk=>hk.2) (.slice Ao44 t15.length co44)) (fun _ h_=>h_.1))) hb);replace BK5:=kf_ BK5 NB5_19 hb;replace BK10:=kf_ BK10 NB10_19 hb;replace BK19:=a0_ (blk_below (g:=gb19) (o:=.cells #[.slice Ao44 t15.length co44] 25 (0,0)) (by (with_reducible repeat (first | refine blk_drewN ?_ _ | refine blk_drew ?_ | refine blk_alloc ?_ _));refine blk_put (cs:=#[.slice none 0 0]) ?_ 0 _ rfl;(with_reducible repeat (first | refine blk_drewN ?_ _ | refine blk_drew ?_ | refine blk_alloc ?_ _));exact BK19.out) hb);replace HB:=a0_ (below_step hbw_ hb);(try clear hb);(try clear hb2);(try clear hk);(try clear hi)))
         go_meet
         case rel=>exact ⟨_,(true),(by first | rfl | (simp;done) | (simp [*];done)),H',⟨by have:=HJ4.out;first | omega | exact Nat.le_refl _⟩,⟨by (with_reducible repeat (first | apply Kd.R_alloc | apply Kd.R_drewN | apply Kd.R_drew));exact Z6.out⟩,⟨by (with_reducible repeat (first | apply Kd.R_alloc | apply Kd.R_drewN | apply Kd.R_drew));exact Z11.out⟩,⟨by (with_reducible repeat (first | apply Kd.R_alloc | apply Kd.R_drewN | apply Kd.R_drew));exact Kd.R_mono HO17.out (fun _ hk=>⟨hk.1.2,hk.2⟩)⟩,⟨by (with_reducible repeat (first | refine blk_drewN ?_ _ | refine blk_drew ?_ | refine blk_alloc ?_ _));exact BK5.out⟩,⟨by (with_reducible repeat (first | refine blk_drewN ?_ _ | refine blk_drew ?_ | refine blk_alloc ?_ _));exact BK10.out⟩,⟨by (with_reducible repeat (first | refine blk_drewN ?_ _ | refine blk_drew ?_ | refine blk_alloc ?_ _));exact BK19.out⟩,⟨hbw_⟩⟩
       case rest =>
        clear HC36
        try clear c1
        try clear c2
        try clear c2b0
        try clear c2b1
        try clear p2
        try clear c3
        try clear c4
        try clear c5
        try clear c6
        try clear c13
        try clear c16
        try clear c17
        try clear c21
        try clear c25
        try clear c27
        try clear c28
        try clear c28b0
        try clear c29
        try clear c34
        try clear c34b0
        try clear c34b1
        try clear c37
        try clear c38
        try clear c39
        try clear c40
        try clear c41
        try clear c45
        try clear c46
        try clear c49
        try clear c50
        try clear c51
        try clear c53
        try clear c56
        try clear c57
        try clear c59
        try clear hcz14_0
        try clear hcz18_0
        try clear hcz19_0
        try clear hcz22_0
        try clear hcz23_0
        try clear hcz30_0
        try clear hcz32_0
        try clear hcz38_0
        try clear hcz40_0
        try clear hcz47_0
        try clear hcz52_0
        try clear hcz54_0
        try clear hcz58_0
        try clear hcz60_0
        try clear hcz9_0
        try clear hfz14_0
        try clear hfz18_0
        try clear hfz19_0
        try clear hfz22_0
        try clear hfz23_0
        try clear hfz30_0
        try clear hfz32_0
        try clear hfz38_0
        try clear hfz40_0
        try clear hfz47_0
        try clear hfz52_0
        try clear hfz54_0
        try clear hfz58_0
        try clear hfz60_0
        try clear hfz9_0
        try clear p2
        obtain ⟨kq,x57_35,rfl,HA,HJ35,Z6,Z11,Z20,BK5,BK10,BK19,HB⟩:=hcut
        have hl11000_35:=(Kd.R_reads' Z11.out).1
        rw [hl11000_35] at Z11
        (try simp only [hl11000_35])
        (try simp only [hl11000_35] at BK5)
        (try simp only [hl11000_35] at BK10)
        (try simp only [hl11000_35] at BK19)
        (try simp only [hl11000_35] at Z6)
        (try simp only [hl11000_35] at Z20)
        cases kq with
        | zero=>exact absurd HA.out (by simp [laws_FnExactParseTree.j1])
        | succ kj35 =>
         have H:=HA.out
         clear HA
         simp only [laws_FnExactParseTree.j1] at H
         by_cases c62 : x57_35 = true
         ·subst c62
          have H1 : (some false) = some r:=by rw [if_pos rfl] at H;exact H
          clear H
          have H:=H1
          clear H1
          obtain rfl:=Option.some.inj H
          go_wp2
          go_ret
          exact ⟨by first | rfl | (simp [errW_none,errW_some] <;> rfl) | (simp [*,errW_none,errW_some] <;> rfl),hbw_⟩
         ·replace c62:=Bool.eq_false_iff.mpr c62
          subst c62
          have H1 : ((laws_heldTree.f kj35 t13 1).bind fun t21=>(if t21 < 0 then (some false) else (if t21 = t12 then (some true) else (some false)))) = some r:=by rw [if_neg (show ¬ (false = true) by decide)] at H;exact H
          clear H
          have H:=H1
          clear H1
          replace H:=Option.bind_eq_some_iff.mp H
          obtain ⟨t21,A630,H⟩:=H
          try dsimp only at H
          have A63:=a0_ A630
          clear A630
          by_cases c64 : t21 < 0
          ·rw [if_pos c64] at H
           have c64b0 : decide (t21 < 0) = true:=decide_eq_true c64
           clear c64
           obtain rfl:=Option.some.inj H
           have hnb65:=NB10_5.out
           have hnc65:=NB5_10.out
           have hnb66:=NB10_19.out
           have hnc66:=NB19_10.out
           have hcz67_0 : wc.cell? ⟨gb10,0,none⟩ = some (.slice Ao12 t13.length co12):=(blk_cell BK10.out 0).trans rfl
           have hfz67_0:=blk_frozen BK10.out 0
           go_wp2_with (first | ((with_reducible refine gate_callee (f:=41) rfl ?_);refine goesL_ (some 60) rfl rfl Try.func41 (by kernel_rfl) rfl #[.agg #[.slice Ao12 t13.length co12],.int .i64 1] rfl lm_ ?_;(with_reducible refine (laws_heldTree.calls kj35 _ _ t13 1 t21 _ ?side1 ?side2 A63.out).mono ?_);(case side1=>exact cc_ (Kd.R_reads' Z11.out).2.2);(case side2=>exact (Kd.R_reads' Z11.out).2.1);rintro e w68 ⟨rfl,hb⟩;refine ⟨_,rfl,?_⟩;replace Z6:=rb_ Z6 hb;replace Z11:=rb_ Z11 hb;replace Z20:=rb_ Z20 hb;replace BK5:=kb_ BK5 hb;replace BK10:=kb_ BK10 hb;replace BK19:=kb_ BK19 hb;replace HB:=a0_ (below_step hbw_ hb);(try clear hb);(try clear hb2);(try clear hk);(try clear hi)))
           go_ret
           exact ⟨by first | rfl | (simp [errW_none,errW_some] <;> rfl) | (simp [*,errW_none,errW_some] <;> rfl),hbw_⟩
          ·rw [if_neg c64] at H
           have c64b0 : decide (t21 < 0) = false:=decide_eq_false c64
           clear c64
           by_cases c69 : t21 = t12
           ·rw [if_pos c69] at H
            have c69b0 : (t21 == t12) = true:=beq_iff_eq.mpr c69
            have c69b1 : (t21 != t12) = false:=bne_eq_false_iff_eq.mpr c69
            clear c69
            obtain rfl:=Option.some.inj H
            have hnb70:=NB10_5.out
            have hnc70:=NB5_10.out
            have hnb71:=NB10_19.out
            have hnc71:=NB19_10.out
            have hcz72_0 : wc.cell? ⟨gb10,0,none⟩ = some (.slice Ao12 t13.length co12):=(blk_cell BK10.out 0).trans rfl
            have hfz72_0:=blk_frozen BK10.out 0
            go_wp2_with (first | ((with_reducible refine gate_callee (f:=41) rfl ?_);refine goesL_ (some 60) rfl rfl Try.func41 (by kernel_rfl) rfl #[.agg #[.slice Ao12 t13.length co12],.int .i64 1] rfl lm_ ?_;(with_reducible refine (laws_heldTree.calls kj35 _ _ t13 1 t21 _ ?side1 ?side2 A63.out).mono ?_);(case side1=>exact cc_ (Kd.R_reads' Z11.out).2.2);(case side2=>exact (Kd.R_reads' Z11.out).2.1);rintro e w73 ⟨rfl,hb⟩;refine ⟨_,rfl,?_⟩;replace Z6:=rb_ Z6 hb;replace Z11:=rb_ Z11 hb;replace Z20:=rb_ Z20 hb;replace BK5:=kb_ BK5 hb;replace BK10:=kb_ BK10 hb;replace BK19:=kb_ BK19 hb;replace HB:=a0_ (below_step hbw_ hb);(try clear hb);(try clear hb2);(try clear hk);(try clear hi)))
            go_ret
            exact ⟨by first | rfl | (simp [errW_none,errW_some] <;> rfl) | (simp [*,errW_none,errW_some] <;> rfl),hbw_⟩
           ·rw [if_neg c69] at H
            have c69b0 : (t21 == t12) = false:=beq_eq_false_iff_ne.mpr c69
            have c69b1 : (t21 != t12) = true:=bne_iff_ne.mpr c69
            obtain rfl:=Option.some.inj H
            have hnb74:=NB10_5.out
            have hnc74:=NB5_10.out
            have hnb75:=NB10_19.out
            have hnc75:=NB19_10.out
            have hcz76_0 : wc.cell? ⟨gb10,0,none⟩ = some (.slice Ao12 t13.length co12):=(blk_cell BK10.out 0).trans rfl
            have hfz76_0:=blk_frozen BK10.out 0
            go_wp2_with (first | ((with_reducible refine gate_callee (f:=41) rfl ?_);refine goesL_ (some 60) rfl rfl Try.func41 (by kernel_rfl) rfl #[.agg #[.slice Ao12 t13.length co12],.int .i64 1] rfl lm_ ?_;(with_reducible refine (laws_heldTree.calls kj35 _ _ t13 1 t21 _ ?side1 ?side2 A63.out).mono ?_);(case side1=>exact cc_ (Kd.R_reads' Z11.out).2.2);(case side2=>exact (Kd.R_reads' Z11.out).2.1);rintro e w77 ⟨rfl,hb⟩;refine ⟨_,rfl,?_⟩;replace Z6:=rb_ Z6 hb;replace Z11:=rb_ Z11 hb;replace Z20:=rb_ Z20 hb;replace BK5:=kb_ BK5 hb;replace BK10:=kb_ BK10 hb;replace BK19:=kb_ BK19 hb;replace HB:=a0_ (below_step hbw_ hb);(try clear hb);(try clear hb2);(try clear hk);(try clear hi)))
            go_ret
            exact ⟨by first | rfl | (simp [errW_none,errW_some] <;> rfl) | (simp [*,errW_none,errW_some] <;> rfl),hbw_⟩
      ·rw [if_neg c34] at H
       have c34b0 : (t14 == t12) = false:=beq_eq_false_iff_ne.mpr c34
       have c34b1 : (t14 != t12) = true:=bne_iff_ne.mpr c34
       obtain rfl:=Option.some.inj H
       have hnb78:=NB10_5.out
       have hnc78:=NB5_10.out
       have hcz79_0 : wc.cell? ⟨gb10,0,none⟩ = some (.slice Ao12 t6.length co12):=(blk_cell BK10.out 0).trans rfl
       have hfz79_0:=blk_frozen BK10.out 0
       go_wp2_with (first | ((with_reducible refine gate_callee (f:=40) rfl ?_);refine goesL_ (some 35) rfl rfl Try.func40 (by kernel_rfl) rfl #[.agg #[.slice Ao12 t6.length co12],.int .i64 1] rfl lm_ ?_;(with_reducible refine (laws_markTree.calls kj4 (fun k_=>some k_ = (.slice Ao12 t6.length co12 : Value).ownBlock) (.slice Ao12 t6.length co12) t6 1 t12 t13 w _ ?side1 ?side2 A26.out).mono ?_);(case side1=>exact hbw_);(case side2=>exact Kd.R_tight rfl Z11.out);rintro e w80 ⟨rfl,hy0,hb,hkp⟩;refine ⟨_,rfl,?_⟩;have n0_:=a0_ (Kd.R_mono (ok':=fun k_=>some k_ ≠ (.slice Ao12 t6.length co12 : Value).ownBlock) (Kd.R_keptB (Z6.out) hkp (fun k_ hk_ hs_=>(hk_) hs_)) (fun k_ hk_=>hk_.1));have n1_:=a0_ (Kd.R_reok rfl hy0 (fun k_ e_=>Z11.out.1 k_ e_));have n2_:=a0_ (blk_kept (bb_ BK5.out) hkp (fun hs_=>(fun e_=>(Kd.R_ne Z11.out BK5.out (by decide)) e_) hs_));have n3_:=a0_ (blk_kept (bb_ BK10.out) hkp (fun hs_=>(fun e_=>(Kd.R_ne Z11.out BK10.out (by decide)) e_) hs_));have n4_:=a0_ (hb);clear Z6 Z11;clear BK5 BK10 HB;have Z6:=n0_;have Z11:=n1_;have BK5:=n2_;have BK10:=n3_;have HB:=n4_;clear n0_ n1_ n2_ n3_ n4_;(try clear hb);(try clear hkp);(try clear hy0);have hcz81_0 : w80.cell? ⟨gb10,0,none⟩ = some (.slice Ao12 t6.length co12):=(blk_cell BK10.out 0).trans rfl;have hfz81_0:=blk_frozen BK10.out 0) | ((with_reducible refine gate_callee (f:=41) rfl ?_);refine goesL_ (some 38) rfl rfl Try.func41 (by kernel_rfl) rfl #[.agg #[.slice Ao12 t13.length co12],.int .i64 1] rfl (by (try simp only [List.map_toArray,List.map_cons,List.map_nil]);first | done | (rw [show t13.length = t6.length from (Kd.R_reads' Z11.out).1.symm] <;> rfl) | rfl | (simp only [List.length_drop,List.length_take];rfl)) ?_;(with_reducible refine (laws_heldTree.calls kj4 _ _ t13 1 t14 _ ?side1 ?side2 A27.out).mono ?_);(case side1=>exact cc_ (Kd.R_reads' Z11.out).2.2);(case side2=>rw [show t13.length = t6.length from (Kd.R_reads' Z11.out).1.symm];exact (Kd.R_reads' Z11.out).2.1);rintro e w82 ⟨rfl,hb⟩;refine ⟨_,rfl,?_⟩;replace Z6:=rb_ Z6 hb;replace Z11:=rb_ Z11 hb;replace BK5:=kb_ BK5 hb;replace BK10:=kb_ BK10 hb;replace HB:=a0_ (below_step hbw_ hb);(try clear hb);(try clear hb2);(try clear hk);(try clear hi)))
       go_ret
       exact ⟨by first | rfl | (simp [errW_none,errW_some] <;> rfl) | (simp [*,errW_none,errW_some] <;> rfl),hbw_⟩
def laws_FnExactParseTree.Pure : Prop:=∀ (a0 : ByteArray),a0.size ≤ 140737488351232 → ∃ k,laws_FnExactParseTree.f k a0 = some true
theorem laws_FnExactParseTree.walk (P : laws_FnExactParseTree.Pure) (a0 : ByteArray) (w : World) (w0 : a0.size ≤ 140737488351232) :
  Calls Try.prog 6 #[.string a0] w fun e w'=>e = .returned (.bool true) ∧ Below w.heap.size w w':=by
 obtain ⟨k,h⟩:=P a0 w0
 refine (laws_FnExactParseTree.calls k a0 true w h).mono ?_
 rintro e w' ⟨rfl,hd⟩
 exact ⟨rfl,hd⟩
end Go.Proofs.Ytacgehaipacehaa.P
namespace Go.Proofs.Ytacgehaipacehaa.Pure
open Go.RowKit Go.Proofs.Ytacgehaipacehaa.P
open Go.Proofs.YtacgehaipacehaaW.PrintWords (rd rdOf wrap_succ wrap_pred wrap_in toL_beq idxP)
set_option linter.unusedVariables false
theorem FnExactParseTree : laws_FnExactParseTree.Pure:=by
 intro s hw
 refine Ev.out (F:=fun k=>laws_FnExactParseTree.f k s) ?_
 unfold laws_FnExactParseTree.f
 by_cases hbig : (s.size : Int) > 1048576
 ·exact Ev.pos hbig (Ev.const rfl)
 refine Ev.neg hbig ?_
 have hI:=impl_ParseTree_ev s (by omega)
 have hS:=spec_ParseTree_ev s (by omega)
 have hr : (parP s).1.length ≤ 8:=by
  cases hp : parP s with
  | mk t ok =>
   cases ok with
   | false=>rw [parP_no hp];simp
   | true=>exact (vT_len (parP_yes hp).1).2
 generalize parP s = r at hI hS hr
 obtain ⟨t,ok⟩:=r
 simp only at hr
 have hE:=laws_eqTree_ev t (by omega)
 obtain ⟨l',hM,hH⟩:=laws_markHeldTree_ev t 1 (by omega) (by omega)
 refine Ev.bind hS ?_
 refine Ev.bind hI ?_
 refine Ev.bind hE ?_
 refine Ev.pos rfl ?_
 refine Ev.succ ?_
 simp only [laws_FnExactParseTree.j0]
 refine Ev.neg (by simp) ?_
 refine Ev.bind hM ?_
 refine Ev.bind hH ?_
 refine Ev.neg (by omega) ?_
 refine Ev.pos rfl ?_
 refine Ev.bind hI ?_
 refine Ev.bind hE ?_
 refine Ev.pos rfl ?_
 refine Ev.succ ?_
 simp only [laws_FnExactParseTree.j1]
 refine Ev.neg (by simp) ?_
 refine Ev.bind hH ?_
 refine Ev.neg (by omega) ?_
 exact Ev.pos rfl (Ev.const rfl)
end Go.Proofs.Ytacgehaipacehaa.Pure
