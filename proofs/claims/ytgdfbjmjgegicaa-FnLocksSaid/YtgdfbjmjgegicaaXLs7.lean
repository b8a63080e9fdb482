/- Proved: of each Go function here that a call comes to what the Lean function of its name tells. Written by a program of this session over the translation. No conditions beyond each theorem's own. -/
import Derived.Test.YtgdfbjmjgegicaaXLs0
import Derived.Test.YtgdfbjmjgegicaaXLs2
import Derived.Test.YtgdfbjmjgegicaaXLs3
import Derived.Test.YtgdfbjmjgegicaaXLs4
namespace Go.Proofs.Ytgdfbjmjgegicaa.XLs
open Go.RowKit Go.Proofs.Ytgdfbjmjgegicaa.Aid Go.Proofs.YtgdfbjmjgegicaaW.PrintWords Go.Proofs.YtgdfbjmjgegicaaW.PrintLast Go.Proofs.YtgdfbjmjgegicaaW.PrintMore
set_option linter.unusedVariables false
set_option linter.unusedSimpArgs false

/-! ### impl_lock: function 85 -/
mutual
def impl_lock.l0 : Nat → List (S30) → List (S59) → List (S59) → Int → Int → Option (Bool × (List (S30)))
  | 0, _, _, _, _, _ => none
  | k + 1, x0, x1, x10, x11, x12 => if x12 < x11 then (if 0 ≤ x12 then (if x12 < (x10.length : Int) then (if 0 ≤ ((rd_T59 x10 x12).f1) then (if ((rd_T59 x10 x12).f1) < (x0.length : Int) then (if (Go.bits .and .i64 ((rd_T30 x0 ((rd_T59 x10 x12).f1)).f0) 1) = 0 then (if (wrap64 (Int.tdiv ((rd_T30 x0 ((rd_T59 x10 x12).f1)).f0) 4)) = ((rd_T59 x10 x12).f4) then (impl_lock.l0 k x0 x1 x10 x11 (wrap64 (x12 + 1))) else (some (false, x0))) else (some (false, x0))) else (none)) else (none)) else (none)) else (none)) else (impl_lock.l1 k x0 x1 (x1.length : Int) 0)
def impl_lock.l1 : Nat → List (S30) → List (S59) → Int → Int → Option (Bool × (List (S30)))
  | 0, _, _, _, _ => none
  | k + 1, x0, x34, x35, x36 => if x36 < x35 then (if 0 ≤ x36 then (if x36 < (x34.length : Int) then (if 0 ≤ ((rd_T59 x34 x36).f1) then (if ((rd_T59 x34 x36).f1) < (x0.length : Int) then (impl_lock.l1 k (x0.set (((rd_T59 x34 x36).f1) : Int).toNat (⟨Go.bits .or .i64 ((rd_T30 x0 ((rd_T59 x34 x36).f1)).f0) 1, (rd_T30 x0 ((rd_T59 x34 x36).f1)).f1⟩ : S30)) x34 x35 (wrap64 (x36 + 1))) else (none)) else (none)) else (none)) else (none)) else (some (true, x0))
end
def impl_lock.f (k : Nat) (l0 : List (S30)) (l1 : List (S59)) : Option (Bool × (List (S30))) := impl_lock.l0 k l0 l1 l1 (l1.length : Int) 0

set_option maxHeartbeats 8000000 in
set_option maxRecDepth 100000 in
theorem impl_lock.calls (k : Nat) (P0_ : Nat → Prop) (u9000_ : Value) (l0 : List (S30)) (A1 : Option Addr) (c1 : Nat) (l1 : List (S59)) (r1 : Bool) (r2 : List (S30)) (w0 w : World) (hB : Below w0.heap.size w0 w) (ho0 : Kd.R k30 30 w w0.heap.size P0_ u9000_ l0) (hr1 : ∀ W_, Kept w W_ (fun k_ => P0_ k_) → Kd.C k59 W_ A1 l1.length l1) (hc1 : l1.length ≤ c1) (h : impl_lock.f k l0 l1 = some (r1, r2)) :
    Calls Try.prog 85 #[u9000_, .slice A1 l1.length c1] w fun e w' => e = .returned (.bool r1) ∧ Kd.R k30 30 w' w0.heap.size (fun k_ => (P0_ k_ ∨ w.heap.size ≤ k_)) u9000_ r2 ∧ Below w0.heap.size w0 w' ∧ Kept w w' (fun k_ => P0_ k_) := by
 have hu59 := Try.underlying59
 have hu30 := Try.underlying30
 have HO0 := Aside0.mk (show Kd.R k30 30 w w0.heap.size (fun k_ => (P0_ k_ ∨ w.heap.size ≤ k_)) u9000_ l0 from Kd.R_mono ho0 (fun k_ hk => (.inl hk)))
 have HR1 := Aside0.mk hr1
 have HC1 := Aside0.mk hc1
 clear hr1 hc1
 have HK := Aside0.mk (Kept.refl w (fun k_ => P0_ k_))
 have HW0 := Aside0.mk hB.size
 have HB := Aside0.mk hB
 clear hB
 have H : (impl_lock.l0 k l0 l1 l1 (l1.length : Int) 0) = some (r1,r2) := h
 clear h
 have H' := Aside0.mk H
 clear H
 go_enter Try.func85,Try.ntmps85
 go_wp2
 go_loopg [12] k (fun kq v12 w' => ∃ (x12_1 : Int),v12 = .int .i64 x12_1 ∧ Aside0 (impl_lock.l0 kq l0 l1 l1 (l1.length : Int) x12_1 = some (r1,r2)) ∧ Aside0 (kq ≤ k) ∧ Aside0 (Kd.R k30 30 w' w0.heap.size (fun k_ => (P0_ k_ ∨ w.heap.size ≤ k_)) u9000_ l0) ∧ Aside0 (Kept w w' (fun k_ => P0_ k_)) ∧ Aside0 (Below w0.heap.size w0 w'))
 case atStart => exact ⟨(0),(by first|rfl|(simp;done)|(simp [*];done)),H',⟨Nat.le_refl _⟩,⟨by (with_reducible repeat (first|apply Kd.R_alloc|apply Kd.R_drewN|apply Kd.R_drew));exact HO0.out⟩,⟨by repeat (first|(with_reducible first|exact HK.out|apply Kept.alloc|apply Kept.drewN|apply Kept.drew)|exact HK.out)⟩,⟨by repeat (first|(with_reducible first|exact HB.out|apply below_alloc|apply pw_below_drewN|apply below_drew1)|exact HB.out)⟩⟩
 case round =>
  clear H'
  try clear c1
  try clear p2
  obtain ⟨x12_1,rfl,HA,HK1,HO_0,HK,HB⟩ := hrel
  cases gk with
    | zero => exact absurd HA.out (by simp [impl_lock.l0])
    | succ k1 =>
   have H := HA.out
   clear HA
   simp only [impl_lock.l0] at H
   by_cases c3 : x12_1 < (l1.length : Int)
   ·rw [if_pos c3] at H
    have c3b0 : decide (x12_1 < (l1.length : Int)) = true := decide_eq_true c3
    clear c3
    by_cases c4 : 0 ≤ x12_1
    ·rw [if_pos c4] at H
     have c4b0 : decide (0 ≤ x12_1) = true := decide_eq_true c4
     clear c4
     by_cases c5 : x12_1 < (l1.length : Int)
     ·rw [if_pos c5] at H
      have c5b0 : decide (x12_1 < (l1.length : Int)) = true := decide_eq_true c5
      clear c5
      by_cases c6 : 0 ≤ ((rd_T59 l1 x12_1).f1)
      ·rw [if_pos c6] at H
       have c6b0 : decide (0 ≤ ((rd_T59 l1 x12_1).f1)) = true := decide_eq_true c6
       clear c6
       by_cases c7 : ((rd_T59 l1 x12_1).f1) < (l0.length : Int)
       ·rw [if_pos c7] at H
        have c7b0 : decide (((rd_T59 l1 x12_1).f1) < (l0.length : Int)) = true := decide_eq_true c7
        clear c7
        by_cases c8 : (Go.bits .and .i64 ((rd_T30 l0 ((rd_T59 l1 x12_1).f1)).f0) 1) = 0
        ·rw [if_pos c8] at H
         have c8b0 : ((Go.bits .and .i64 ((rd_T30 l0 ((rd_T59 l1 x12_1).f1)).f0) 1) == 0) = true := beq_iff_eq.mpr c8
         have c8b1 : ((Go.bits .and .i64 ((rd_T30 l0 ((rd_T59 l1 x12_1).f1)).f0) 1) != 0) = false := bne_eq_false_iff_eq.mpr c8
         clear c8
         by_cases c9 : (wrap64 (Int.tdiv ((rd_T30 l0 ((rd_T59 l1 x12_1).f1)).f0) 4)) = ((rd_T59 l1 x12_1).f4)
         ·rw [if_pos c9] at H
          have c9b0 : ((wrap64 (Int.tdiv ((rd_T30 l0 ((rd_T59 l1 x12_1).f1)).f0) 4)) == ((rd_T59 l1 x12_1).f4)) = true := beq_iff_eq.mpr c9
          have c9b1 : ((wrap64 (Int.tdiv ((rd_T30 l0 ((rd_T59 l1 x12_1).f1)).f0) 4)) != ((rd_T59 l1 x12_1).f4)) = false := bne_eq_false_iff_eq.mpr c9
          clear c9
          have H' := Aside0.mk H
          clear H
          have p192 : 0 ≤ (x12_1 : Int) := of_decide_eq_true (by first|(with_reducible assumption)|assumption)
          have q192 : x12_1 < (l1.length : Int) := of_decide_eq_true (by first|(with_reducible assumption)|assumption)
          obtain ⟨ad192,e192,hx192_0,hx192_1,hx192_2,hx192_3,hx192_4⟩ := at_T59 (Kd.C_kept_now HR1.out HK.out) x12_1 p192 q192
          cases e192
          replace p192 := eq_true p192
          replace q192 := eq_true q192
          go_wp2_with (first|((with_reducible refine gate_dst (N := 6) rfl ?_);refine box_event ?hg (N := 6) ?hd (cs := #[.int .i64 0,.int .i64 0,.int .i64 0,.bool false,.int .i64 0]) (t := 59) ?hr ?_;(case hd => rfl);(case hg => rfl);(case hr => first|(go_simp;done)|(go_simp;rfl));intro gb193 hg w10 hbox hb;have n0_ := Aside0.mk (Kd.R_below (by (with_reducible repeat (first|apply Kd.R_alloc|apply Kd.R_drewN|apply Kd.R_drew));exact HO_0.out) hb);have n1_ := Aside0.mk (Kept.below (S := (fun k_ => P0_ k_)) (by repeat (first|(with_reducible first|exact HK.out|apply Kept.alloc|apply Kept.drewN|apply Kept.drew)|exact HK.out)) hb);have n2_ := Aside0.mk (below_step (by repeat (first|(with_reducible first|exact HB.out|apply below_alloc|apply pw_below_drewN|apply below_drew1)|exact HB.out)) hb);have n3_ := Aside0.mk (hbox);have n4_ := Aside0.mk ((by rw [hg];exact (by first|exact HK.out.1|exact (show Kept w _ (fun k_ => P0_ k_) from by repeat (first|(with_reducible first|exact HK.out|apply Kept.alloc|apply Kept.drewN|apply Kept.drew)|exact HK.out)).1) : w.heap.size ≤ gb193));have n5_ := Aside0.mk ((by rw [hg];exact (below_size (by repeat (first|(with_reducible first|exact HB.out|apply below_alloc|apply pw_below_drewN|apply below_drew1)|exact HB.out))) : w0.heap.size ≤ gb193));clear HO_0;clear HK;clear HB;have HO_0 := n0_;have HK := n1_;have HB := n2_;have BK193 := n3_;have GW193 := n4_;have GE193 := n5_;clear n0_ n1_ n2_ n3_ n4_ n5_;clear hb hbox hg;have hcz11_0 : w10.cell? ⟨gb193,0,none⟩ = some (.int .i64 0) := (blk_cell BK193.out 0).trans rfl;have hcz11_1 : w10.cell? ⟨gb193,1,none⟩ = some (.int .i64 0) := (blk_cell BK193.out 1).trans rfl;have hcz11_2 : w10.cell? ⟨gb193,2,none⟩ = some (.int .i64 0) := (blk_cell BK193.out 2).trans rfl;have hcz11_3 : w10.cell? ⟨gb193,3,none⟩ = some (.bool false) := (blk_cell BK193.out 3).trans rfl;have hcz11_4 : w10.cell? ⟨gb193,4,none⟩ = some (.int .i64 0) := (blk_cell BK193.out 4).trans rfl;have hfz11_0 := blk_frozen BK193.out 0;have hfz11_1 := blk_frozen BK193.out 1;have hfz11_2 := blk_frozen BK193.out 2;have hfz11_3 := blk_frozen BK193.out 3;have hfz11_4 := blk_frozen BK193.out 4;obtain ⟨Ao12,co12,eo12⟩ := Kd.R_slice HO_0.out;subst eo12;have p194 : 0 ≤ (((rd_T59 l1 x12_1).f1) : Int) := of_decide_eq_true (by first|(with_reducible assumption)|assumption);have q194 : ((rd_T59 l1 x12_1).f1) < (l0.length : Int) := of_decide_eq_true (by first|(with_reducible assumption)|assumption);obtain ⟨ad194,e194,hx194_0,hx194_1⟩ := at_T30 (Kd.R_reads' HO_0.out).2.2 ((rd_T59 l1 x12_1).f1) p194 q194;cases e194;have hn194_0 : ad194.block ≠ gb193 := Kd.own_blk (Kd.R_ne HO_0.out BK193.out (by decide));have hn194_1 : ad194.block ≠ gb193 := Kd.own_blk (Kd.R_ne HO_0.out BK193.out (by decide));have hn194_2 : ad194.block ≠ gb193 := Kd.own_blk (Kd.R_ne HO_0.out BK193.out (by decide));have hn194_3 : ad194.block ≠ gb193 := Kd.own_blk (Kd.R_ne HO_0.out BK193.out (by decide));have hn194_4 : ad194.block ≠ gb193 := Kd.own_blk (Kd.R_ne HO_0.out BK193.out (by decide));replace hx194_0 := (cell_far (p := ⟨gb193,0,none⟩) (by first|(rw [add_block];exact hn194_0)|(show (Addr.add _ _).block ≠ _;rw [add_block];exact hn194_0)|exact hn194_0) (.int .i64 ((rd_T59 l1 x12_1).f0))).trans hx194_0;replace hx194_1 := (cell_far (p := ⟨gb193,0,none⟩) (by first|(rw [add_block];exact hn194_0)|(show (Addr.add _ _).block ≠ _;rw [add_block];exact hn194_0)|exact hn194_0) (.int .i64 ((rd_T59 l1 x12_1).f0))).trans hx194_1;replace hx194_0 := (cell_far (p := ⟨gb193,1,none⟩) (by first|(rw [add_block];exact hn194_1)|(show (Addr.add _ _).block ≠ _;rw [add_block];exact hn194_1)|exact hn194_1) (.int .i64 ((rd_T59 l1 x12_1).f1))).trans hx194_0;replace hx194_1 := (cell_far (p := ⟨gb193,1,none⟩) (by first|(rw [add_block];exact hn194_1)|(show (Addr.add _ _).block ≠ _;rw [add_block];exact hn194_1)|exact hn194_1) (.int .i64 ((rd_T59 l1 x12_1).f1))).trans hx194_1;replace hx194_0 := (cell_far (p := ⟨gb193,2,none⟩) (by first|(rw [add_block];exact hn194_2)|(show (Addr.add _ _).block ≠ _;rw [add_block];exact hn194_2)|exact hn194_2) (.int .i64 ((rd_T59 l1 x12_1).f2))).trans hx194_0;replace hx194_1 := (cell_far (p := ⟨gb193,2,none⟩) (by first|(rw [add_block];exact hn194_2)|(show (Addr.add _ _).block ≠ _;rw [add_block];exact hn194_2)|exact hn194_2) (.int .i64 ((rd_T59 l1 x12_1).f2))).trans hx194_1;replace hx194_0 := (cell_far (p := ⟨gb193,3,none⟩) (by first|(rw [add_block];exact hn194_3)|(show (Addr.add _ _).block ≠ _;rw [add_block];exact hn194_3)|exact hn194_3) (.bool ((rd_T59 l1 x12_1).f3))).trans hx194_0;replace hx194_1 := (cell_far (p := ⟨gb193,3,none⟩) (by first|(rw [add_block];exact hn194_3)|(show (Addr.add _ _).block ≠ _;rw [add_block];exact hn194_3)|exact hn194_3) (.bool ((rd_T59 l1 x12_1).f3))).trans hx194_1;replace hx194_0 := (cell_far (p := ⟨gb193,4,none⟩) (by first|(rw [add_block];exact hn194_4)|(show (Addr.add _ _).block ≠ _;rw [add_block];exact hn194_4)|exact hn194_4) (.int .i64 ((rd_T59 l1 x12_1).f4))).trans hx194_0;replace hx194_1 := (cell_far (p := ⟨gb193,4,none⟩) (by first|(rw [add_block];exact hn194_4)|(show (Addr.add _ _).block ≠ _;rw [add_block];exact hn194_4)|exact hn194_4) (.int .i64 ((rd_T59 l1 x12_1).f4))).trans hx194_1;clear hn194_0;clear hn194_1;clear hn194_2;clear hn194_3;clear hn194_4;replace p194 := eq_true p194;replace q194 := eq_true q194)|((with_reducible refine gate_dst (N := 7) rfl ?_);refine box_event ?hg (N := 7) ?hd (cs := #[.int .i64 0,.int .i64 0]) (t := 30) ?hr ?_;(case hd => rfl);(case hg => rfl);(case hr => first|(go_simp;done)|(go_simp;rfl));intro gb195 hg w13 hbox hb;have n0_ := Aside0.mk (Kd.R_below (Kd.R_elderB (by (with_reducible repeat (first|apply Kd.R_alloc|apply Kd.R_drewN|apply Kd.R_drew));exact (Kd.R_mono (Kd.R_far (p := ⟨gb193,4,none⟩) (Kd.R_far (p := ⟨gb193,3,none⟩) (Kd.R_far (p := ⟨gb193,2,none⟩) (Kd.R_far (p := ⟨gb193,1,none⟩) (Kd.R_far (p := ⟨gb193,0,none⟩) (Kd.R_types HO_0.out BK193.out (by decide)) (fun _ hk => hk.2) (.int .i64 ((rd_T59 l1 x12_1).f0))) (fun _ hk => hk.2) (.int .i64 ((rd_T59 l1 x12_1).f1))) (fun _ hk => hk.2) (.int .i64 ((rd_T59 l1 x12_1).f2))) (fun _ hk => hk.2) (.bool ((rd_T59 l1 x12_1).f3))) (fun _ hk => hk.2) (.int .i64 ((rd_T59 l1 x12_1).f4))) (fun _ h_ => h_.1))) gb195 (Nat.le_of_eq hg.symm)) hb);have n1_ := Aside0.mk (blk_below (g := gb193) (o := .cells #[.int .i64 ((rd_T59 l1 x12_1).f0),.int .i64 ((rd_T59 l1 x12_1).f1),.int .i64 ((rd_T59 l1 x12_1).f2),.bool ((rd_T59 l1 x12_1).f3),.int .i64 ((rd_T59 l1 x12_1).f4)] 59 (0,0)) (by (with_reducible repeat (first|refine blk_drewN ?_ _|refine blk_drew ?_|refine blk_alloc ?_ _));refine blk_put (cs := #[.int .i64 ((rd_T59 l1 x12_1).f0),.int .i64 ((rd_T59 l1 x12_1).f1),.int .i64 ((rd_T59 l1 x12_1).f2),.bool ((rd_T59 l1 x12_1).f3),.int .i64 0]) ?_ 4 _ rfl;(with_reducible repeat (first|refine blk_drewN ?_ _|refine blk_drew ?_|refine blk_alloc ?_ _));refine blk_put (cs := #[.int .i64 ((rd_T59 l1 x12_1).f0),.int .i64 ((rd_T59 l1 x12_1).f1),.int .i64 ((rd_T59 l1 x12_1).f2),.bool false,.int .i64 0]) ?_ 3 _ rfl;(with_reducible repeat (first|refine blk_drewN ?_ _|refine blk_drew ?_|refine blk_alloc ?_ _));refine blk_put (cs := #[.int .i64 ((rd_T59 l1 x12_1).f0),.int .i64 ((rd_T59 l1 x12_1).f1),.int .i64 0,.bool false,.int .i64 0]) ?_ 2 _ rfl;(with_reducible repeat (first|refine blk_drewN ?_ _|refine blk_drew ?_|refine blk_alloc ?_ _));refine blk_put (cs := #[.int .i64 ((rd_T59 l1 x12_1).f0),.int .i64 0,.int .i64 0,.bool false,.int .i64 0]) ?_ 1 _ rfl;(with_reducible repeat (first|refine blk_drewN ?_ _|refine blk_drew ?_|refine blk_alloc ?_ _));refine blk_put (cs := #[.int .i64 0,.int .i64 0,.int .i64 0,.bool false,.int .i64 0]) ?_ 0 _ rfl;(with_reducible repeat (first|refine blk_drewN ?_ _|refine blk_drew ?_|refine blk_alloc ?_ _));exact BK193.out) hb);have n2_ := Aside0.mk (Kept.below (S := (fun k_ => P0_ k_)) (by repeat (first|(with_reducible first|exact HK.out|apply Kept.alloc|apply Kept.drewN|apply Kept.drew|refine Kept.setCell ?_ (.inr GW193.out) _)|exact HK.out)) hb);have n3_ := Aside0.mk (below_step (by repeat (first|(with_reducible first|exact HB.out|apply below_alloc|apply pw_below_drewN|apply below_drew1|refine below_set ?_ GE193.out)|exact HB.out)) hb);have n4_ := Aside0.mk (hbox);have n5_ := Aside0.mk ((by rw [hg];exact (show Kept w _ (fun k_ => P0_ k_) from by repeat (first|(with_reducible first|exact HK.out|apply Kept.alloc|apply Kept.drewN|apply Kept.drew|refine Kept.setCell ?_ (.inr GW193.out) _)|exact HK.out)).1 : w.heap.size ≤ gb195));have n6_ := Aside0.mk ((by rw [hg];exact (below_size (by repeat (first|(with_reducible first|exact HB.out|apply below_alloc|apply pw_below_drewN|apply below_drew1|refine below_set ?_ GE193.out)|exact HB.out))) : w0.heap.size ≤ gb195));have n7_ := Aside0.mk ((by rw [hg];exact Nat.ne_of_lt (blk_lt (g := gb193) (o := .cells #[.int .i64 ((rd_T59 l1 x12_1).f0),.int .i64 ((rd_T59 l1 x12_1).f1),.int .i64 ((rd_T59 l1 x12_1).f2),.bool ((rd_T59 l1 x12_1).f3),.int .i64 ((rd_T59 l1 x12_1).f4)] 59 (0,0)) (by (with_reducible repeat (first|refine blk_drewN ?_ _|refine blk_drew ?_|refine blk_alloc ?_ _));refine blk_put (cs := #[.int .i64 ((rd_T59 l1 x12_1).f0),.int .i64 ((rd_T59 l1 x12_1).f1),.int .i64 ((rd_T59 l1 x12_1).f2),.bool ((rd_T59 l1 x12_1).f3),.int .i64 0]) ?_ 4 _ rfl;(with_reducible repeat (first|refine blk_drewN ?_ _|refine blk_drew ?_|refine blk_alloc ?_ _));refine blk_put (cs := #[.int .i64 ((rd_T59 l1 x12_1).f0),.int .i64 ((rd_T59 l1 x12_1).f1),.int .i64 ((rd_T59 l1 x12_1).f2),.bool false,.int .i64 0]) ?_ 3 _ rfl;(with_reducible repeat (first|refine blk_drewN ?_ _|refine blk_drew ?_|refine blk_alloc ?_ _));refine blk_put (cs := #[.int .i64 ((rd_T59 l1 x12_1).f0),.int .i64 ((rd_T59 l1 x12_1).f1),.int .i64 0,.bool false,.int .i64 0]) ?_ 2 _ rfl;(with_reducible repeat (first|refine blk_drewN ?_ _|refine blk_drew ?_|refine blk_alloc ?_ _));refine blk_put (cs := #[.int .i64 ((rd_T59 l1 x12_1).f0),.int .i64 0,.int .i64 0,.bool false,.int .i64 0]) ?_ 1 _ rfl;(with_reducible repeat (first|refine blk_drewN ?_ _|refine blk_drew ?_|refine blk_alloc ?_ _));refine blk_put (cs := #[.int .i64 0,.int .i64 0,.int .i64 0,.bool false,.int .i64 0]) ?_ 0 _ rfl;(with_reducible repeat (first|refine blk_drewN ?_ _|refine blk_drew ?_|refine blk_alloc ?_ _));exact BK193.out)) : gb193 ≠ gb195));have n8_ := Aside0.mk ((by rw [hg];exact Nat.ne_of_gt (blk_lt (g := gb193) (o := .cells #[.int .i64 ((rd_T59 l1 x12_1).f0),.int .i64 ((rd_T59 l1 x12_1).f1),.int .i64 ((rd_T59 l1 x12_1).f2),.bool ((rd_T59 l1 x12_1).f3),.int .i64 ((rd_T59 l1 x12_1).f4)] 59 (0,0)) (by (with_reducible repeat (first|refine blk_drewN ?_ _|refine blk_drew ?_|refine blk_alloc ?_ _));refine blk_put (cs := #[.int .i64 ((rd_T59 l1 x12_1).f0),.int .i64 ((rd_T59 l1 x12_1).f1),.int .i64 ((rd_T59 l1 x12_1).f2),.bool ((rd_T59 l1 x12_1).f3),.int .i64 0]) ?_ 4 _ rfl;(with_reducible repeat (first|refine blk_drewN ?_ _|refine blk_drew ?_|refine blk_alloc ?_ _));refine blk_put (cs := #[.int .i64 ((rd_T59 l1 x12_1).f0),.int .i64 ((rd_T59 l1 x12_1).f1),.int .i64 ((rd_T59 l1 x12_1).f2),.bool false,.int .i64 0]) ?_ 3 _ rfl;(with_reducible repeat (first|refine blk_drewN ?_ _|refine blk_drew ?_|refine blk_alloc ?_ _));refine blk_put (cs := #[.int .i64 ((rd_T59 l1 x12_1).f0),.int .i64 ((rd_T59 l1 x12_1).f1),.int .i64 0,.bool false,.int .i64 0]) ?_ 2 _ rfl;(with_reducible repeat (first|refine blk_drewN ?_ _|refine blk_drew ?_|refine blk_alloc ?_ _));refine blk_put (cs := #[.int .i64 ((rd_T59 l1 x12_1).f0),.int .i64 0,.int .i64 0,.bool false,.int .i64 0]) ?_ 1 _ rfl;(with_reducible repeat (first|refine blk_drewN ?_ _|refine blk_drew ?_|refine blk_alloc ?_ _));refine blk_put (cs := #[.int .i64 0,.int .i64 0,.int .i64 0,.bool false,.int .i64 0]) ?_ 0 _ rfl;(with_reducible repeat (first|refine blk_drewN ?_ _|refine blk_drew ?_|refine blk_alloc ?_ _));exact BK193.out)) : gb195 ≠ gb193));clear HO_0;clear BK193;clear HK;clear HB;have HO_0 := n0_;have BK193 := n1_;have HK := n2_;have HB := n3_;have BK195 := n4_;have GW195 := n5_;have GE195 := n6_;have NB193_195 := n7_;have NB195_193 := n8_;clear n0_ n1_ n2_ n3_ n4_ n5_ n6_ n7_ n8_;clear hb hbox hg;have hnb14 := NB195_193.out;have hnc14 := NB193_195.out;have hcz15_0 : w13.cell? ⟨gb195,0,none⟩ = some (.int .i64 0) := (blk_cell BK195.out 0).trans rfl;have hcz15_1 : w13.cell? ⟨gb195,1,none⟩ = some (.int .i64 0) := (blk_cell BK195.out 1).trans rfl;have hfz15_0 := blk_frozen BK195.out 0;have hfz15_1 := blk_frozen BK195.out 1;have hcz16_0 : w13.cell? ⟨gb193,0,none⟩ = some (.int .i64 ((rd_T59 l1 x12_1).f0)) := (blk_cell BK193.out 0).trans rfl;have hcz16_1 : w13.cell? ⟨gb193,1,none⟩ = some (.int .i64 ((rd_T59 l1 x12_1).f1)) := (blk_cell BK193.out 1).trans rfl;have hcz16_2 : w13.cell? ⟨gb193,2,none⟩ = some (.int .i64 ((rd_T59 l1 x12_1).f2)) := (blk_cell BK193.out 2).trans rfl;have hcz16_3 : w13.cell? ⟨gb193,3,none⟩ = some (.bool ((rd_T59 l1 x12_1).f3)) := (blk_cell BK193.out 3).trans rfl;have hcz16_4 : w13.cell? ⟨gb193,4,none⟩ = some (.int .i64 ((rd_T59 l1 x12_1).f4)) := (blk_cell BK193.out 4).trans rfl;have hfz16_0 := blk_frozen BK193.out 0;have hfz16_1 := blk_frozen BK193.out 1;have hfz16_2 := blk_frozen BK193.out 2;have hfz16_3 := blk_frozen BK193.out 3;have hfz16_4 := blk_frozen BK193.out 4))
          go_roundg k1
          case measure => have := HK1.out;omega
          case rel => exact ⟨(wrap64 (x12_1 + 1)),(by first|rfl|(simp;done)|(simp [*];done)),H',⟨by have := HK1.out;omega⟩,⟨by (with_reducible repeat (first|apply Kd.R_alloc|apply Kd.R_drewN|apply Kd.R_drew));exact Kd.R_mono (Kd.R_far (p := ⟨gb195,1,none⟩) (Kd.R_far (p := ⟨gb195,0,none⟩) (Kd.R_mono HO_0.out (fun k_ hk => (⟨hk,hk.2⟩ : _ ∧ k_ ≠ gb195))) (fun _ hk => hk.2) (.int .i64 ((rd_T30 l0 ((rd_T59 l1 x12_1).f1)).f0))) (fun _ hk => hk.2) (.int .i64 ((rd_T30 l0 ((rd_T59 l1 x12_1).f1)).f1))) (fun _ hk => hk.1.1)⟩,⟨by repeat (first|(with_reducible first|exact HK.out|apply Kept.alloc|apply Kept.drewN|apply Kept.drew|refine Kept.setCell ?_ (.inr GW193.out) _|refine Kept.setCell ?_ (.inr GW195.out) _)|exact HK.out)⟩,⟨by repeat (first|(with_reducible first|exact HB.out|apply below_alloc|apply pw_below_drewN|apply below_drew1|refine below_set ?_ GE193.out|refine below_set ?_ GE195.out)|exact HB.out)⟩⟩
         ·rw [if_neg c9] at H
          have c9b0 : ((wrap64 (Int.tdiv ((rd_T30 l0 ((rd_T59 l1 x12_1).f1)).f0) 4)) == ((rd_T59 l1 x12_1).f4)) = false := beq_eq_false_iff_ne.mpr c9
          have c9b1 : ((wrap64 (Int.tdiv ((rd_T30 l0 ((rd_T59 l1 x12_1).f1)).f0) 4)) != ((rd_T59 l1 x12_1).f4)) = true := bne_iff_ne.mpr c9
          simp only [Option.some.injEq,Prod.mk.injEq] at H
          obtain ⟨rfl,rfl⟩ := H
          have p192 : 0 ≤ (x12_1 : Int) := of_decide_eq_true (by first|(with_reducible assumption)|assumption)
          have q192 : x12_1 < (l1.length : Int) := of_decide_eq_true (by first|(with_reducible assumption)|assumption)
          obtain ⟨ad192,e192,hx192_0,hx192_1,hx192_2,hx192_3,hx192_4⟩ := at_T59 (Kd.C_kept_now HR1.out HK.out) x12_1 p192 q192
          cases e192
          replace p192 := eq_true p192
          replace q192 := eq_true q192
          go_wp2_with (first|((with_reducible refine gate_dst (N := 6) rfl ?_);refine box_event ?hg (N := 6) ?hd (cs := #[.int .i64 0,.int .i64 0,.int .i64 0,.bool false,.int .i64 0]) (t := 59) ?hr ?_;(case hd => rfl);(case hg => rfl);(case hr => first|(go_simp;done)|(go_simp;rfl));intro gb193 hg w17 hbox hb;have n0_ := Aside0.mk (Kd.R_below (by (with_reducible repeat (first|apply Kd.R_alloc|apply Kd.R_drewN|apply Kd.R_drew));exact HO_0.out) hb);have n1_ := Aside0.mk (Kept.below (S := (fun k_ => P0_ k_)) (by repeat (first|(with_reducible first|exact HK.out|apply Kept.alloc|apply Kept.drewN|apply Kept.drew)|exact HK.out)) hb);have n2_ := Aside0.mk (below_step (by repeat (first|(with_reducible first|exact HB.out|apply below_alloc|apply pw_below_drewN|apply below_drew1)|exact HB.out)) hb);have n3_ := Aside0.mk (hbox);have n4_ := Aside0.mk ((by rw [hg];exact (by first|exact HK.out.1|exact (show Kept w _ (fun k_ => P0_ k_) from by repeat (first|(with_reducible first|exact HK.out|apply Kept.alloc|apply Kept.drewN|apply Kept.drew)|exact HK.out)).1) : w.heap.size ≤ gb193));have n5_ := Aside0.mk ((by rw [hg];exact (below_size (by repeat (first|(with_reducible first|exact HB.out|apply below_alloc|apply pw_below_drewN|apply below_drew1)|exact HB.out))) : w0.heap.size ≤ gb193));clear HO_0;clear HK;clear HB;have HO_0 := n0_;have HK := n1_;have HB := n2_;have BK193 := n3_;have GW193 := n4_;have GE193 := n5_;clear n0_ n1_ n2_ n3_ n4_ n5_;clear hb hbox hg;have hcz18_0 : w17.cell? ⟨gb193,0,none⟩ = some (.int .i64 0) := (blk_cell BK193.out 0).trans rfl;have hcz18_1 : w17.cell? ⟨gb193,1,none⟩ = some (.int .i64 0) := (blk_cell BK193.out 1).trans rfl;have hcz18_2 : w17.cell? ⟨gb193,2,none⟩ = some (.int .i64 0) := (blk_cell BK193.out 2).trans rfl;have hcz18_3 : w17.cell? ⟨gb193,3,none⟩ = some (.bool false) := (blk_cell BK193.out 3).trans rfl;have hcz18_4 : w17.cell? ⟨gb193,4,none⟩ = some (.int .i64 0) := (blk_cell BK193.out 4).trans rfl;have hfz18_0 := blk_frozen BK193.out 0;have hfz18_1 := blk_frozen BK193.out 1;have hfz18_2 := blk_frozen BK193.out 2;have hfz18_3 := blk_frozen BK193.out 3;have hfz18_4 := blk_frozen BK193.out 4;obtain ⟨Ao19,co19,eo19⟩ := Kd.R_slice HO_0.out;subst eo19;have p194 : 0 ≤ (((rd_T59 l1 x12_1).f1) : Int) := of_decide_eq_true (by first|(with_reducible assumption)|assumption);have q194 : ((rd_T59 l1 x12_1).f1) < (l0.length : Int) := of_decide_eq_true (by first|(with_reducible assumption)|assumption);obtain ⟨ad194,e194,hx194_0,hx194_1⟩ := at_T30 (Kd.R_reads' HO_0.out).2.2 ((rd_T59 l1 x12_1).f1) p194 q194;cases e194;have hn194_0 : ad194.block ≠ gb193 := Kd.own_blk (Kd.R_ne HO_0.out BK193.out (by decide));have hn194_1 : ad194.block ≠ gb193 := Kd.own_blk (Kd.R_ne HO_0.out BK193.out (by decide));have hn194_2 : ad194.block ≠ gb193 := Kd.own_blk (Kd.R_ne HO_0.out BK193.out (by decide));have hn194_3 : ad194.block ≠ gb193 := Kd.own_blk (Kd.R_ne HO_0.out BK193.out (by decide));have hn194_4 : ad194.block ≠ gb193 := Kd.own_blk (Kd.R_ne HO_0.out BK193.out (by decide));replace hx194_0 := (cell_far (p := ⟨gb193,0,none⟩) (by first|(rw [add_block];exact hn194_0)|(show (Addr.add _ _).block ≠ _;rw [add_block];exact hn194_0)|exact hn194_0) (.int .i64 ((rd_T59 l1 x12_1).f0))).trans hx194_0;replace hx194_1 := (cell_far (p := ⟨gb193,0,none⟩) (by first|(rw [add_block];exact hn194_0)|(show (Addr.add _ _).block ≠ _;rw [add_block];exact hn194_0)|exact hn194_0) (.int .i64 ((rd_T59 l1 x12_1).f0))).trans hx194_1;replace hx194_0 := (cell_far (p := ⟨gb193,1,none⟩) (by first|(rw [add_block];exact hn194_1)|(show (Addr.add _ _).block ≠ _;rw [add_block];exact hn194_1)|exact hn194_1) (.int .i64 ((rd_T59 l1 x12_1).f1))).trans hx194_0;replace hx194_1 := (cell_far (p := ⟨gb193,1,none⟩) (by first|(rw [add_block];exact hn194_1)|(show (Addr.add _ _).block ≠ _;rw [add_block];exact hn194_1)|exact hn194_1) (.int .i64 ((rd_T59 l1 x12_1).f1))).trans hx194_1;replace hx194_0 := (cell_far (p := ⟨gb193,2,none⟩) (by first|(rw [add_block];exact hn194_2)|(show (Addr.add _ _).block ≠ _;rw [add_block];exact hn194_2)|exact hn194_2) (.int .i64 ((rd_T59 l1 x12_1).f2))).trans hx194_0;replace hx194_1 := (cell_far (p := ⟨gb193,2,none⟩) (by first|(rw [add_block];exact hn194_2)|(show (Addr.add _ _).block ≠ _;rw [add_block];exact hn194_2)|exact hn194_2) (.int .i64 ((rd_T59 l1 x12_1).f2))).trans hx194_1;replace hx194_0 := (cell_far (p := ⟨gb193,3,none⟩) (by first|(rw [add_block];exact hn194_3)|(show (Addr.add _ _).block ≠ _;rw [add_block];exact hn194_3)|exact hn194_3) (.bool ((rd_T59 l1 x12_1).f3))).trans hx194_0;replace hx194_1 := (cell_far (p := ⟨gb193,3,none⟩) (by first|(rw [add_block];exact hn194_3)|(show (Addr.add _ _).block ≠ _;rw [add_block];exact hn194_3)|exact hn194_3) (.bool ((rd_T59 l1 x12_1).f3))).trans hx194_1;replace hx194_0 := (cell_far (p := ⟨gb193,4,none⟩) (by first|(rw [add_block];exact hn194_4)|(show (Addr.add _ _).block ≠ _;rw [add_block];exact hn194_4)|exact hn194_4) (.int .i64 ((rd_T59 l1 x12_1).f4))).trans hx194_0;replace hx194_1 := (cell_far (p := ⟨gb193,4,none⟩) (by first|(rw [add_block];exact hn194_4)|(show (Addr.add _ _).block ≠ _;rw [add_block];exact hn194_4)|exact hn194_4) (.int .i64 ((rd_T59 l1 x12_1).f4))).trans hx194_1;clear hn194_0;clear hn194_1;clear hn194_2;clear hn194_3;clear hn194_4;replace p194 := eq_true p194;replace q194 := eq_true q194)|((with_reducible refine gate_dst (N := 7) rfl ?_);refine box_event ?hg (N := 7) ?hd (cs := #[.int .i64 0,.int .i64 0]) (t := 30) ?hr ?_;(case hd => rfl);(case hg => rfl);(case hr => first|(go_simp;done)|(go_simp;rfl));intro gb195 hg w20 hbox hb;have n0_ := Aside0.mk (Kd.R_below (Kd.R_elderB (by (with_reducible repeat (first|apply Kd.R_alloc|apply Kd.R_drewN|apply Kd.R_drew));exact (Kd.R_mono (Kd.R_far (p := ⟨gb193,4,none⟩) (Kd.R_far (p := ⟨gb193,3,none⟩) (Kd.R_far (p := ⟨gb193,2,none⟩) (Kd.R_far (p := ⟨gb193,1,none⟩) (Kd.R_far (p := ⟨gb193,0,none⟩) (Kd.R_types HO_0.out BK193.out (by decide)) (fun _ hk => hk.2) (.int .i64 ((rd_T59 l1 x12_1).f0))) (fun _ hk => hk.2) (.int .i64 ((rd_T59 l1 x12_1).f1))) (fun _ hk => hk.2) (.int .i64 ((rd_T59 l1 x12_1).f2))) (fun _ hk => hk.2) (.bool ((rd_T59 l1 x12_1).f3))) (fun _ hk => hk.2) (.int .i64 ((rd_T59 l1 x12_1).f4))) (fun _ h_ => h_.1))) gb195 (Nat.le_of_eq hg.symm)) hb);have n1_ := Aside0.mk (blk_below (g := gb193) (o := .cells #[.int .i64 ((rd_T59 l1 x12_1).f0),.int .i64 ((rd_T59 l1 x12_1).f1),.int .i64 ((rd_T59 l1 x12_1).f2),.bool ((rd_T59 l1 x12_1).f3),.int .i64 ((rd_T59 l1 x12_1).f4)] 59 (0,0)) (by (with_reducible repeat (first|refine blk_drewN ?_ _|refine blk_drew ?_|refine blk_alloc ?_ _));refine blk_put (cs := #[.int .i64 ((rd_T59 l1 x12_1).f0),.int .i64 ((rd_T59 l1 x12_1).f1),.int .i64 ((rd_T59 l1 x12_1).f2),.bool ((rd_T59 l1 x12_1).f3),.int .i64 0]) ?_ 4 _ rfl;(with_reducible repeat (first|refine blk_drewN ?_ _|refine blk_drew ?_|refine blk_alloc ?_ _));refine blk_put (cs := #[.int .i64 ((rd_T59 l1 x12_1).f0),.int .i64 ((rd_T59 l1 x12_1).f1),.int .i64 ((rd_T59 l1 x12_1).f2),.bool false,.int .i64 0]) ?_ 3 _ rfl;(with_reducible repeat (first|refine blk_drewN ?_ _|refine blk_drew ?_|refine blk_alloc ?_ _));refine blk_put (cs := #[.int .i64 ((rd_T59 l1 x12_1).f0),.int .i64 ((rd_T59 l1 x12_1).f1),.int .i64 0,.bool false,.int .i64 0]) ?_ 2 _ rfl;(with_reducible repeat (first|refine blk_drewN ?_ _|refine blk_drew ?_|refine blk_alloc ?_ _));refine blk_put (cs := #[.int .i64 ((rd_T59 l1 x12_1).f0),.int .i64 0,.int .i64 0,.bool false,.int .i64 0]) ?_ 1 _ rfl;(with_reducible repeat (first|refine blk_drewN ?_ _|refine blk_drew ?_|refine blk_alloc ?_ _));refine blk_put (cs := #[.int .i64 0,.int .i64 0,.int .i64 0,.bool false,.int .i64 0]) ?_ 0 _ rfl;(with_reducible repeat (first|refine blk_drewN ?_ _|refine blk_drew ?_|refine blk_alloc ?_ _));exact BK193.out) hb);have n2_ := Aside0.mk (Kept.below (S := (fun k_ => P0_ k_)) (by repeat (first|(with_reducible first|exact HK.out|apply Kept.alloc|apply Kept.drewN|apply Kept.drew|refine Kept.setCell ?_ (.inr GW193.out) _)|exact HK.out)) hb);have n3_ := Aside0.mk (below_step (by repeat (first|(with_reducible first|exact HB.out|apply below_alloc|apply pw_below_drewN|apply below_drew1|refine below_set ?_ GE193.out)|exact HB.out)) hb);have n4_ := Aside0.mk (hbox);have n5_ := Aside0.mk ((by rw [hg];exact (show Kept w _ (fun k_ => P0_ k_) from by repeat (first|(with_reducible first|exact HK.out|apply Kept.alloc|apply Kept.drewN|apply Kept.drew|refine Kept.setCell ?_ (.inr GW193.out) _)|exact HK.out)).1 : w.heap.size ≤ gb195));have n6_ := Aside0.mk ((by rw [hg];exact (below_size (by repeat (first|(with_reducible first|exact HB.out|apply below_alloc|apply pw_below_drewN|apply below_drew1|refine below_set ?_ GE193.out)|exact HB.out))) : w0.heap.size ≤ gb195));have n7_ := Aside0.mk ((by rw [hg];exact Nat.ne_of_lt (blk_lt (g := gb193) (o := .cells #[.int .i64 ((rd_T59 l1 x12_1).f0),.int .i64 ((rd_T59 l1 x12_1).f1),.int .i64 ((rd_T59 l1 x12_1).f2),.bool ((rd_T59 l1 x12_1).f3),.int .i64 ((rd_T59 l1 x12_1).f4)] 59 (0,0)) (by (with_reducible repeat (first|refine blk_drewN ?_ _|refine blk_drew ?_|refine blk_alloc ?_ _));refine blk_put (cs := #[.int .i64 ((rd_T59 l1 x12_1).f0),.int .i64 ((rd_T59 l1 x12_1).f1),.int .i64 ((rd_T59 l1 x12_1).f2),.bool ((rd_T59 l1 x12_1).f3),.int .i64 0]) ?_ 4 _ rfl;(with_reducible repeat (first|refine blk_drewN ?_ _|refine blk_drew ?_|refine blk_alloc ?_ _));refine blk_put (cs := #[.int .i64 ((rd_T59 l1 x12_1).f0),.int .i64 ((rd_T59 l1 x12_1).f1),.int .i64 ((rd_T59 l1 x12_1).f2),.bool false,.int .i64 0]) ?_ 3 _ rfl;(with_reducible repeat (first|refine blk_drewN ?_ _|refine blk_drew ?_|refine blk_alloc ?_ _));refine blk_put (cs := #[.int .i64 ((rd_T59 l1 x12_1).f0),.int .i64 ((rd_T59 l1 x12_1).f1),.int .i64 0,.bool false,.int .i64 0]) ?_ 2 _ rfl;(with_reducible repeat (first|refine blk_drewN ?_ _|refine blk_drew ?_|refine blk_alloc ?_ _));refine blk_put (cs := #[.int .i64 ((rd_T59 l1 x12_1).f0),.int .i64 0,.int .i64 0,.bool false,.int .i64 0]) ?_ 1 _ rfl;(with_reducible repeat (first|refine blk_drewN ?_ _|refine blk_drew ?_|refine blk_alloc ?_ _));refine blk_put (cs := #[.int .i64 0,.int .i64 0,.int .i64 0,.bool false,.int .i64 0]) ?_ 0 _ rfl;(with_reducible repeat (first|refine blk_drewN ?_ _|refine blk_drew ?_|refine blk_alloc ?_ _));exact BK193.out)) : gb193 ≠ gb195));have n8_ := Aside0.mk ((by rw [hg];exact Nat.ne_of_gt (blk_lt (g := gb193) (o := .cells #[.int .i64 ((rd_T59 l1 x12_1).f0),.int .i64 ((rd_T59 l1 x12_1).f1),.int .i64 ((rd_T59 l1 x12_1).f2),.bool ((rd_T59 l1 x12_1).f3),.int .i64 ((rd_T59 l1 x12_1).f4)] 59 (0,0)) (by (with_reducible repeat (first|refine blk_drewN ?_ _|refine blk_drew ?_|refine blk_alloc ?_ _));refine blk_put (cs := #[.int .i64 ((rd_T59 l1 x12_1).f0),.int .i64 ((rd_T59 l1 x12_1).f1),.int .i64 ((rd_T59 l1 x12_1).f2),.bool ((rd_T59 l1 x12_1).f3),.int .i64 0]) ?_ 4 _ rfl;(with_reducible repeat (first|refine blk_drewN ?_ _|refine blk_drew ?_|refine blk_alloc ?_ _));refine blk_put (cs := #[.int .i64 ((rd_T59 l1 x12_1).f0),.int .i64 ((rd_T59 l1 x12_1).f1),.int .i64 ((rd_T59 l1 x12_1).f2),.bool false,.int .i64 0]) ?_ 3 _ rfl;(with_reducible repeat (first|refine blk_drewN ?_ _|refine blk_drew ?_|refine blk_alloc ?_ _));refine blk_put (cs := #[.int .i64 ((rd_T59 l1 x12_1).f0),.int .i64 ((rd_T59 l1 x12_1).f1),.int .i64 0,.bool false,.int .i64 0]) ?_ 2 _ rfl;(with_reducible repeat (first|refine blk_drewN ?_ _|refine blk_drew ?_|refine blk_alloc ?_ _));refine blk_put (cs := #[.int .i64 ((rd_T59 l1 x12_1).f0),.int .i64 0,.int .i64 0,.bool false,.int .i64 0]) ?_ 1 _ rfl;(with_reducible repeat (first|refine blk_drewN ?_ _|refine blk_drew ?_|refine blk_alloc ?_ _));refine blk_put (cs := #[.int .i64 0,.int .i64 0,.int .i64 0,.bool false,.int .i64 0]) ?_ 0 _ rfl;(with_reducible repeat (first|refine blk_drewN ?_ _|refine blk_drew ?_|refine blk_alloc ?_ _));exact BK193.out)) : gb195 ≠ gb193));clear HO_0;clear BK193;clear HK;clear HB;have HO_0 := n0_;have BK193 := n1_;have HK := n2_;have HB := n3_;have BK195 := n4_;have GW195 := n5_;have GE195 := n6_;have NB193_195 := n7_;have NB195_193 := n8_;clear n0_ n1_ n2_ n3_ n4_ n5_ n6_ n7_ n8_;clear hb hbox hg;have hnb21 := NB195_193.out;have hnc21 := NB193_195.out;have hcz22_0 : w20.cell? ⟨gb195,0,none⟩ = some (.int .i64 0) := (blk_cell BK195.out 0).trans rfl;have hcz22_1 : w20.cell? ⟨gb195,1,none⟩ = some (.int .i64 0) := (blk_cell BK195.out 1).trans rfl;have hfz22_0 := blk_frozen BK195.out 0;have hfz22_1 := blk_frozen BK195.out 1;have hcz23_0 : w20.cell? ⟨gb193,0,none⟩ = some (.int .i64 ((rd_T59 l1 x12_1).f0)) := (blk_cell BK193.out 0).trans rfl;have hcz23_1 : w20.cell? ⟨gb193,1,none⟩ = some (.int .i64 ((rd_T59 l1 x12_1).f1)) := (blk_cell BK193.out 1).trans rfl;have hcz23_2 : w20.cell? ⟨gb193,2,none⟩ = some (.int .i64 ((rd_T59 l1 x12_1).f2)) := (blk_cell BK193.out 2).trans rfl;have hcz23_3 : w20.cell? ⟨gb193,3,none⟩ = some (.bool ((rd_T59 l1 x12_1).f3)) := (blk_cell BK193.out 3).trans rfl;have hcz23_4 : w20.cell? ⟨gb193,4,none⟩ = some (.int .i64 ((rd_T59 l1 x12_1).f4)) := (blk_cell BK193.out 4).trans rfl;have hfz23_0 := blk_frozen BK193.out 0;have hfz23_1 := blk_frozen BK193.out 1;have hfz23_2 := blk_frozen BK193.out 2;have hfz23_3 := blk_frozen BK193.out 3;have hfz23_4 := blk_frozen BK193.out 4))
          go_ret
          exact ⟨by first|rfl|(simp [errW_none,errW_some] <;> rfl)|(simp [*,errW_none,errW_some] <;> rfl),by (with_reducible repeat (first|apply Kd.R_alloc|apply Kd.R_drewN|apply Kd.R_drew));exact Kd.R_mono (Kd.R_far (p := ⟨gb195,1,none⟩) (Kd.R_far (p := ⟨gb195,0,none⟩) (Kd.R_mono HO_0.out (fun k_ hk => (⟨hk,hk.2⟩ : _ ∧ k_ ≠ gb195))) (fun _ hk => hk.2) (.int .i64 ((rd_T30 l0 ((rd_T59 l1 x12_1).f1)).f0))) (fun _ hk => hk.2) (.int .i64 ((rd_T30 l0 ((rd_T59 l1 x12_1).f1)).f1))) (fun _ hk => hk.1.1),by repeat (first|(with_reducible first|exact HB.out|apply below_alloc|apply pw_below_drewN|apply below_drew1|refine below_set ?_ GE193.out|refine below_set ?_ GE195.out)|exact HB.out),by repeat (first|(with_reducible first|exact HK.out|apply Kept.alloc|apply Kept.drewN|apply Kept.drew|refine Kept.setCell ?_ (.inr GW193.out) _|refine Kept.setCell ?_ (.inr GW195.out) _)|exact HK.out)⟩
        ·rw [if_neg c8] at H
         have c8b0 : ((Go.bits .and .i64 ((rd_T30 l0 ((rd_T59 l1 x12_1).f1)).f0) 1) == 0) = false := beq_eq_false_iff_ne.mpr c8
         have c8b1 : ((Go.bits .and .i64 ((rd_T30 l0 ((rd_T59 l1 x12_1).f1)).f0) 1) != 0) = true := bne_iff_ne.mpr c8
         simp only [Option.some.injEq,Prod.mk.injEq] at H
         obtain ⟨rfl,rfl⟩ := H
         have p192 : 0 ≤ (x12_1 : Int) := of_decide_eq_true (by first|(with_reducible assumption)|assumption)
         have q192 : x12_1 < (l1.length : Int) := of_decide_eq_true (by first|(with_reducible assumption)|assumption)
         obtain ⟨ad192,e192,hx192_0,hx192_1,hx192_2,hx192_3,hx192_4⟩ := at_T59 (Kd.C_kept_now HR1.out HK.out) x12_1 p192 q192
         cases e192
         replace p192 := eq_true p192
         replace q192 := eq_true q192
         go_wp2_with (first|((with_reducible refine gate_dst (N := 6) rfl ?_);refine box_event ?hg (N := 6) ?hd (cs := #[.int .i64 0,.int .i64 0,.int .i64 0,.bool false,.int .i64 0]) (t := 59) ?hr ?_;(case hd => rfl);(case hg => rfl);(case hr => first|(go_simp;done)|(go_simp;rfl));intro gb193 hg w24 hbox hb;have n0_ := Aside0.mk (Kd.R_below (by (with_reducible repeat (first|apply Kd.R_alloc|apply Kd.R_drewN|apply Kd.R_drew));exact HO_0.out) hb);have n1_ := Aside0.mk (Kept.below (S := (fun k_ => P0_ k_)) (by repeat (first|(with_reducible first|exact HK.out|apply Kept.alloc|apply Kept.drewN|apply Kept.drew)|exact HK.out)) hb);have n2_ := Aside0.mk (below_step (by repeat (first|(with_reducible first|exact HB.out|apply below_alloc|apply pw_below_drewN|apply below_drew1)|exact HB.out)) hb);have n3_ := Aside0.mk (hbox);have n4_ := Aside0.mk ((by rw [hg];exact (by first|exact HK.out.1|exact (show Kept w _ (fun k_ => P0_ k_) from by repeat (first|(with_reducible first|exact HK.out|apply Kept.alloc|apply Kept.drewN|apply Kept.drew)|exact HK.out)).1) : w.heap.size ≤ gb193));have n5_ := Aside0.mk ((by rw [hg];exact (below_size (by repeat (first|(with_reducible first|exact HB.out|apply below_alloc|apply pw_below_drewN|apply below_drew1)|exact HB.out))) : w0.heap.size ≤ gb193));clear HO_0;clear HK;clear HB;have HO_0 := n0_;have HK := n1_;have HB := n2_;have BK193 := n3_;have GW193 := n4_;have GE193 := n5_;clear n0_ n1_ n2_ n3_ n4_ n5_;clear hb hbox hg;have hcz25_0 : w24.cell? ⟨gb193,0,none⟩ = some (.int .i64 0) := (blk_cell BK193.out 0).trans rfl;have hcz25_1 : w24.cell? ⟨gb193,1,none⟩ = some (.int .i64 0) := (blk_cell BK193.out 1).trans rfl;have hcz25_2 : w24.cell? ⟨gb193,2,none⟩ = some (.int .i64 0) := (blk_cell BK193.out 2).trans rfl;have hcz25_3 : w24.cell? ⟨gb193,3,none⟩ = some (.bool false) := (blk_cell BK193.out 3).trans rfl;have hcz25_4 : w24.cell? ⟨gb193,4,none⟩ = some (.int .i64 0) := (blk_cell BK193.out 4).trans rfl;have hfz25_0 := blk_frozen BK193.out 0;have hfz25_1 := blk_frozen BK193.out 1;have hfz25_2 := blk_frozen BK193.out 2;have hfz25_3 := blk_frozen BK193.out 3;have hfz25_4 := blk_frozen BK193.out 4;obtain ⟨Ao26,co26,eo26⟩ := Kd.R_slice HO_0.out;subst eo26;have p194 : 0 ≤ (((rd_T59 l1 x12_1).f1) : Int) := of_decide_eq_true (by first|(with_reducible assumption)|assumption);have q194 : ((rd_T59 l1 x12_1).f1) < (l0.length : Int) := of_decide_eq_true (by first|(with_reducible assumption)|assumption);obtain ⟨ad194,e194,hx194_0,hx194_1⟩ := at_T30 (Kd.R_reads' HO_0.out).2.2 ((rd_T59 l1 x12_1).f1) p194 q194;cases e194;have hn194_0 : ad194.block ≠ gb193 := Kd.own_blk (Kd.R_ne HO_0.out BK193.out (by decide));have hn194_1 : ad194.block ≠ gb193 := Kd.own_blk (Kd.R_ne HO_0.out BK193.out (by decide));have hn194_2 : ad194.block ≠ gb193 := Kd.own_blk (Kd.R_ne HO_0.out BK193.out (by decide));have hn194_3 : ad194.block ≠ gb193 := Kd.own_blk (Kd.R_ne HO_0.out BK193.out (by decide));have hn194_4 : ad194.block ≠ gb193 := Kd.own_blk (Kd.R_ne HO_0.out BK193.out (by decide));replace hx194_0 := (cell_far (p := ⟨gb193,0,none⟩) (by first|(rw [add_block];exact hn194_0)|(show (Addr.add _ _).block ≠ _;rw [add_block];exact hn194_0)|exact hn194_0) (.int .i64 ((rd_T59 l1 x12_1).f0))).trans hx194_0;replace hx194_1 := (cell_far (p := ⟨gb193,0,none⟩) (by first|(rw [add_block];exact hn194_0)|(show (Addr.add _ _).block ≠ _;rw [add_block];exact hn194_0)|exact hn194_0) (.int .i64 ((rd_T59 l1 x12_1).f0))).trans hx194_1;replace hx194_0 := (cell_far (p := ⟨gb193,1,none⟩) (by first|(rw [add_block];exact hn194_1)|(show (Addr.add _ _).block ≠ _;rw [add_block];exact hn194_1)|exact hn194_1) (.int .i64 ((rd_T59 l1 x12_1).f1))).trans hx194_0;replace hx194_1 := (cell_far (p := ⟨gb193,1,none⟩) (by first|(rw [add_block];exact hn194_1)|(show (Addr.add _ _).block ≠ _;rw [add_block];exact hn194_1)|exact hn194_1) (.int .i64 ((rd_T59 l1 x12_1).f1))).trans hx194_1;replace hx194_0 := (cell_far (p := ⟨gb193,2,none⟩) (by first|(rw [add_block];exact hn194_2)|(show (Addr.add _ _).block ≠ _;rw [add_block];exact hn194_2)|exact hn194_2) (.int .i64 ((rd_T59 l1 x12_1).f2))).trans hx194_0;replace hx194_1 := (cell_far (p := ⟨gb193,2,none⟩) (by first|(rw [add_block];exact hn194_2)|(show (Addr.add _ _).block ≠ _;rw [add_block];exact hn194_2)|exact hn194_2) (.int .i64 ((rd_T59 l1 x12_1).f2))).trans hx194_1;replace hx194_0 := (cell_far (p := ⟨gb193,3,none⟩) (by first|(rw [add_block];exact hn194_3)|(show (Addr.add _ _).block ≠ _;rw [add_block];exact hn194_3)|exact hn194_3) (.bool ((rd_T59 l1 x12_1).f3))).trans hx194_0;replace hx194_1 := (cell_far (p := ⟨gb193,3,none⟩) (by first|(rw [add_block];exact hn194_3)|(show (Addr.add _ _).block ≠ _;rw [add_block];exact hn194_3)|exact hn194_3) (.bool ((rd_T59 l1 x12_1).f3))).trans hx194_1;replace hx194_0 := (cell_far (p := ⟨gb193,4,none⟩) (by first|(rw [add_block];exact hn194_4)|(show (Addr.add _ _).block ≠ _;rw [add_block];exact hn194_4)|exact hn194_4) (.int .i64 ((rd_T59 l1 x12_1).f4))).trans hx194_0;replace hx194_1 := (cell_far (p := ⟨gb193,4,none⟩) (by first|(rw [add_block];exact hn194_4)|(show (Addr.add _ _).block ≠ _;rw [add_block];exact hn194_4)|exact hn194_4) (.int .i64 ((rd_T59 l1 x12_1).f4))).trans hx194_1;clear hn194_0;clear hn194_1;clear hn194_2;clear hn194_3;clear hn194_4;replace p194 := eq_true p194;replace q194 := eq_true q194)|((with_reducible refine gate_dst (N := 7) rfl ?_);refine box_event ?hg (N := 7) ?hd (cs := #[.int .i64 0,.int .i64 0]) (t := 30) ?hr ?_;(case hd => rfl);(case hg => rfl);(case hr => first|(go_simp;done)|(go_simp;rfl));intro gb195 hg w27 hbox hb;have n0_ := Aside0.mk (Kd.R_below (Kd.R_elderB (by (with_reducible repeat (first|apply Kd.R_alloc|apply Kd.R_drewN|apply Kd.R_drew));exact (Kd.R_mono (Kd.R_far (p := ⟨gb193,4,none⟩) (Kd.R_far (p := ⟨gb193,3,none⟩) (Kd.R_far (p := ⟨gb193,2,none⟩) (Kd.R_far (p := ⟨gb193,1,none⟩) (Kd.R_far (p := ⟨gb193,0,none⟩) (Kd.R_types HO_0.out BK193.out (by decide)) (fun _ hk => hk.2) (.int .i64 ((rd_T59 l1 x12_1).f0))) (fun _ hk => hk.2) (.int .i64 ((rd_T59 l1 x12_1).f1))) (fun _ hk => hk.2) (.int .i64 ((rd_T59 l1 x12_1).f2))) (fun _ hk => hk.2) (.bool ((rd_T59 l1 x12_1).f3))) (fun _ hk => hk.2) (.int .i64 ((rd_T59 l1 x12_1).f4))) (fun _ h_ => h_.1))) gb195 (Nat.le_of_eq hg.symm)) hb);have n1_ := Aside0.mk (blk_below (g := gb193) (o := .cells #[.int .i64 ((rd_T59 l1 x12_1).f0),.int .i64 ((rd_T59 l1 x12_1).f1),.int .i64 ((rd_T59 l1 x12_1).f2),.bool ((rd_T59 l1 x12_1).f3),.int .i64 ((rd_T59 l1 x12_1).f4)] 59 (0,0)) (by (with_reducible repeat (first|refine blk_drewN ?_ _|refine blk_drew ?_|refine blk_alloc ?_ _));refine blk_put (cs := #[.int .i64 ((rd_T59 l1 x12_1).f0),.int .i64 ((rd_T59 l1 x12_1).f1),.int .i64 ((rd_T59 l1 x12_1).f2),.bool ((rd_T59 l1 x12_1).f3),.int .i64 0]) ?_ 4 _ rfl;(with_reducible repeat (first|refine blk_drewN ?_ _|refine blk_drew ?_|refine blk_alloc ?_ _));refine blk_put (cs := #[.int .i64 ((rd_T59 l1 x12_1).f0),.int .i64 ((rd_T59 l1 x12_1).f1),.int .i64 ((rd_T59 l1 x12_1).f2),.bool false,.int .i64 0]) ?_ 3 _ rfl;(with_reducible repeat (first|refine blk_drewN ?_ _|refine blk_drew ?_|refine blk_alloc ?_ _));refine blk_put (cs := #[.int .i64 ((rd_T59 l1 x12_1).f0),.int .i64 ((rd_T59 l1 x12_1).f1),.int .i64 0,.bool false,.int .i64 0]) ?_ 2 _ rfl;(with_reducible repeat (first|refine blk_drewN ?_ _|refine blk_drew ?_|refine blk_alloc ?_ _));refine blk_put (cs := #[.int .i64 ((rd_T59 l1 x12_1).f0),.int .i64 0,.int .i64 0,.bool false,.int .i64 0]) ?_ 1 _ rfl;(with_reducible repeat (first|refine blk_drewN ?_ _|refine blk_drew ?_|refine blk_alloc ?_ _));refine blk_put (cs := #[.int .i64 0,.int .i64 0,.int .i64 0,.bool false,.int .i64 0]) ?_ 0 _ rfl;(with_reducible repeat (first|refine blk_drewN ?_ _|refine blk_drew ?_|refine blk_alloc ?_ _));exact BK193.out) hb);have n2_ := Aside0.mk (Kept.below (S := (fun k_ => P0_ k_)) (by repeat (first|(with_reducible first|exact HK.out|apply Kept.alloc|apply Kept.drewN|apply Kept.drew|refine Kept.setCell ?_ (.inr GW193.out) _)|exact HK.out)) hb);have n3_ := Aside0.mk (below_step (by repeat (first|(with_reducible first|exact HB.out|apply below_alloc|apply pw_below_drewN|apply below_drew1|refine below_set ?_ GE193.out)|exact HB.out)) hb);have n4_ := Aside0.mk (hbox);have n5_ := Aside0.mk ((by rw [hg];exact (show Kept w _ (fun k_ => P0_ k_) from by repeat (first|(with_reducible first|exact HK.out|apply Kept.alloc|apply Kept.drewN|apply Kept.drew|refine Kept.setCell ?_ (.inr GW193.out) _)|exact HK.out)).1 : w.heap.size ≤ gb195));have n6_ := Aside0.mk ((by rw [hg];exact (below_size (by repeat (first|(with_reducible first|exact HB.out|apply below_alloc|apply pw_below_drewN|apply below_drew1|refine below_set ?_ GE193.out)|exact HB.out))) : w0.heap.size ≤ gb195));have n7_ := Aside0.mk ((by rw [hg];exact Nat.ne_of_lt (blk_lt (g := gb193) (o := .cells #[.int .i64 ((rd_T59 l1 x12_1).f0),.int .i64 ((rd_T59 l1 x12_1).f1),.int .i64 ((rd_T59 l1 x12_1).f2),.bool ((rd_T59 l1 x12_1).f3),.int .i64 ((rd_T59 l1 x12_1).f4)] 59 (0,0)) (by (with_reducible repeat (first|refine blk_drewN ?_ _|refine blk_drew ?_|refine blk_alloc ?_ _));refine blk_put (cs := #[.int .i64 ((rd_T59 l1 x12_1).f0),.int .i64 ((rd_T59 l1 x12_1).f1),.int .i64 ((rd_T59 l1 x12_1).f2),.bool ((rd_T59 l1 x12_1).f3),.int .i64 0]) ?_ 4 _ rfl;(with_reducible repeat (first|refine blk_drewN ?_ _|refine blk_drew ?_|refine blk_alloc ?_ _));refine blk_put (cs := #[.int .i64 ((rd_T59 l1 x12_1).f0),.int .i64 ((rd_T59 l1 x12_1).f1),.int .i64 ((rd_T59 l1 x12_1).f2),.bool false,.int .i64 0]) ?_ 3 _ rfl;(with_reducible repeat (first|refine blk_drewN ?_ _|refine blk_drew ?_|refine blk_alloc ?_ _));refine blk_put (cs := #[.int .i64 ((rd_T59 l1 x12_1).f0),.int .i64 ((rd_T59 l1 x12_1).f1),.int .i64 0,.bool false,.int .i64 0]) ?_ 2 _ rfl;(with_reducible repeat (first|refine blk_drewN ?_ _|refine blk_drew ?_|refine blk_alloc ?_ _));refine blk_put (cs := #[.int .i64 ((rd_T59 l1 x12_1).f0),.int .i64 0,.int .i64 0,.bool false,.int .i64 0]) ?_ 1 _ rfl;(with_reducible repeat (first|refine blk_drewN ?_ _|refine blk_drew ?_|refine blk_alloc ?_ _));refine blk_put (cs := #[.int .i64 0,.int .i64 0,.int .i64 0,.bool false,.int .i64 0]) ?_ 0 _ rfl;(with_reducible repeat (first|refine blk_drewN ?_ _|refine blk_drew ?_|refine blk_alloc ?_ _));exact BK193.out)) : gb193 ≠ gb195));have n8_ := Aside0.mk ((by rw [hg];exact Nat.ne_of_gt (blk_lt (g := gb193) (o := .cells #[.int .i64 ((rd_T59 l1 x12_1).f0),.int .i64 ((rd_T59 l1 x12_1).f1),.int .i64 ((rd_T59 l1 x12_1).f2),.bool ((rd_T59 l1 x12_1).f3),.int .i64 ((rd_T59 l1 x12_1).f4)] 59 (0,0)) (by (with_reducible repeat (first|refine blk_drewN ?_ _|refine blk_drew ?_|refine blk_alloc ?_ _));refine blk_put (cs := #[.int .i64 ((rd_T59 l1 x12_1).f0),.int .i64 ((rd_T59 l1 x12_1).f1),.int .i64 ((rd_T59 l1 x12_1).f2),.bool ((rd_T59 l1 x12_1).f3),.int .i64 0]) ?_ 4 _ rfl;(with_reducible repeat (first|refine blk_drewN ?_ _|refine blk_drew ?_|refine blk_alloc ?_ _));refine blk_put (cs := #[.int .i64 ((rd_T59 l1 x12_1).f0),.int .i64 ((rd_T59 l1 x12_1).f1),.int .i64 ((rd_T59 l1 x12_1).f2),.bool false,.int .i64 0]) ?_ 3 _ rfl;(with_reducible repeat (first|refine blk_drewN ?_ _|refine blk_drew ?_|refine blk_alloc ?_ _));refine blk_put (cs := #[.int .i64 ((rd_T59 l1 x12_1).f0),.int .i64 ((rd_T59 l1 x12_1).f1),.int .i64 0,.bool false,.int .i64 0]) ?_ 2 _ rfl;(with_reducible repeat (first|refine blk_drewN ?_ _|refine blk_drew ?_|refine blk_alloc ?_ _));refine blk_put (cs := #[.int .i64 ((rd_T59 l1 x12_1).f0),.int .i64 0,.int .i64 0,.bool false,.int .i64 0]) ?_ 1 _ rfl;(with_reducible repeat (first|refine blk_drewN ?_ _|refine blk_drew ?_|refine blk_alloc ?_ _));refine blk_put (cs := #[.int .i64 0,.int .i64 0,.int .i64 0,.bool false,.int .i64 0]) ?_ 0 _ rfl;(with_reducible repeat (first|refine blk_drewN ?_ _|refine blk_drew ?_|refine blk_alloc ?_ _));exact BK193.out)) : gb195 ≠ gb193));clear HO_0;clear BK193;clear HK;clear HB;have HO_0 := n0_;have BK193 := n1_;have HK := n2_;have HB := n3_;have BK195 := n4_;have GW195 := n5_;have GE195 := n6_;have NB193_195 := n7_;have NB195_193 := n8_;clear n0_ n1_ n2_ n3_ n4_ n5_ n6_ n7_ n8_;clear hb hbox hg;have hnb28 := NB195_193.out;have hnc28 := NB193_195.out;have hcz29_0 : w27.cell? ⟨gb195,0,none⟩ = some (.int .i64 0) := (blk_cell BK195.out 0).trans rfl;have hcz29_1 : w27.cell? ⟨gb195,1,none⟩ = some (.int .i64 0) := (blk_cell BK195.out 1).trans rfl;have hfz29_0 := blk_frozen BK195.out 0;have hfz29_1 := blk_frozen BK195.out 1))
         go_ret
         exact ⟨by first|rfl|(simp [errW_none,errW_some] <;> rfl)|(simp [*,errW_none,errW_some] <;> rfl),by (with_reducible repeat (first|apply Kd.R_alloc|apply Kd.R_drewN|apply Kd.R_drew));exact Kd.R_mono (Kd.R_far (p := ⟨gb195,1,none⟩) (Kd.R_far (p := ⟨gb195,0,none⟩) (Kd.R_mono HO_0.out (fun k_ hk => (⟨hk,hk.2⟩ : _ ∧ k_ ≠ gb195))) (fun _ hk => hk.2) (.int .i64 ((rd_T30 l0 ((rd_T59 l1 x12_1).f1)).f0))) (fun _ hk => hk.2) (.int .i64 ((rd_T30 l0 ((rd_T59 l1 x12_1).f1)).f1))) (fun _ hk => hk.1.1),by repeat (first|(with_reducible first|exact HB.out|apply below_alloc|apply pw_below_drewN|apply below_drew1|refine below_set ?_ GE193.out|refine below_set ?_ GE195.out)|exact HB.out),by repeat (first|(with_reducible first|exact HK.out|apply Kept.alloc|apply Kept.drewN|apply Kept.drew|refine Kept.setCell ?_ (.inr GW193.out) _|refine Kept.setCell ?_ (.inr GW195.out) _)|exact HK.out)⟩
       ·rw [if_neg c7] at H
        exact absurd H (by simp)
      ·rw [if_neg c6] at H
       exact absurd H (by simp)
     ·rw [if_neg c5] at H
      exact absurd H (by simp)
    ·rw [if_neg c4] at H
     exact absurd H (by simp)
   ·rw [if_neg c3] at H
    have c3b0 : decide (x12_1 < (l1.length : Int)) = false := decide_eq_false c3
    clear c3
    have H' := Aside0.mk H
    clear H
    go_wp2
    go_loopg [36] k1 (fun kq v36 w' => ∃ (x0_2 : List (S30)) (x36_2 : Int),v36 = .int .i64 x36_2 ∧ Aside0 (impl_lock.l1 kq x0_2 l1 (l1.length : Int) x36_2 = some (r1,r2)) ∧ Aside0 (kq ≤ k1) ∧ Aside0 (Kd.R k30 30 w' w0.heap.size (fun k_ => (P0_ k_ ∨ w.heap.size ≤ k_)) u9000_ x0_2) ∧ Aside0 (Kept w w' (fun k_ => P0_ k_)) ∧ Aside0 (Below w0.heap.size w0 w'))
    case atStart => exact ⟨(l0),(0),(by first|rfl|(simp;done)|(simp [*];done)),H',⟨Nat.le_refl _⟩,⟨by (with_reducible repeat (first|apply Kd.R_alloc|apply Kd.R_drewN|apply Kd.R_drew));exact HO_0.out⟩,⟨by repeat (first|(with_reducible first|exact HK.out|apply Kept.alloc|apply Kept.drewN|apply Kept.drew)|exact HK.out)⟩,⟨by repeat (first|(with_reducible first|exact HB.out|apply below_alloc|apply pw_below_drewN|apply below_drew1)|exact HB.out)⟩⟩
    case round =>
     clear H'
     try clear c1
     try clear p1
     try clear q1
     try clear hx1
     try clear c2
     try clear p2
     try clear c3
     try clear c3b0
     try clear c4
     try clear c4b0
     try clear c5
     try clear c5b0
     try clear c6
     try clear c6b0
     try clear p6
     try clear c7
     try clear c7b0
     try clear c8
     try clear c8b0
     try clear c8b1
     try clear c9
     try clear c9b0
     try clear c9b1
     try clear c14
     try clear p19
     try clear q19
     try clear hx19
     try clear c21
     try clear c28
     try clear hcz11_0
     try clear hcz11_1
     try clear hcz11_2
     try clear hcz11_3
     try clear hcz11_4
     try clear hcz15_0
     try clear hcz15_1
     try clear hcz16_0
     try clear hcz16_1
     try clear hcz16_2
     try clear hcz16_3
     try clear hcz16_4
     try clear hcz18_0
     try clear hcz18_1
     try clear hcz18_2
     try clear hcz18_3
     try clear hcz18_4
     try clear hcz22_0
     try clear hcz22_1
     try clear hcz23_0
     try clear hcz23_1
     try clear hcz23_2
     try clear hcz23_3
     try clear hcz23_4
     try clear hcz25_0
     try clear hcz25_1
     try clear hcz25_2
     try clear hcz25_3
     try clear hcz25_4
     try clear hcz29_0
     try clear hcz29_1
     try clear hfz11_0
     try clear hfz11_1
     try clear hfz11_2
     try clear hfz11_3
     try clear hfz11_4
     try clear hfz15_0
     try clear hfz15_1
     try clear hfz16_0
     try clear hfz16_1
     try clear hfz16_2
     try clear hfz16_3
     try clear hfz16_4
     try clear hfz18_0
     try clear hfz18_1
     try clear hfz18_2
     try clear hfz18_3
     try clear hfz18_4
     try clear hfz22_0
     try clear hfz22_1
     try clear hfz23_0
     try clear hfz23_1
     try clear hfz23_2
     try clear hfz23_3
     try clear hfz23_4
     try clear hfz25_0
     try clear hfz25_1
     try clear hfz25_2
     try clear hfz25_3
     try clear hfz25_4
     try clear hfz29_0
     try clear hfz29_1
     try clear hx192_0
     try clear hx192_1
     try clear hx192_2
     try clear hx192_3
     try clear hx192_4
     try clear hx194_0
     try clear hx194_1
     try clear p192
     try clear p194
     try clear p2
     try clear q192
     try clear q194
     obtain ⟨x0_2,x36_2,rfl,HA,HK2,HO_0,HK,HB⟩ := hrel
     cases gk with
     | zero => exact absurd HA.out (by simp [impl_lock.l1])
     | succ k2 =>
      have H := HA.out
      clear HA
      simp only [impl_lock.l1] at H
      by_cases c30 : x36_2 < (l1.length : Int)
      ·rw [if_pos c30] at H
       have c30b0 : decide (x36_2 < (l1.length : Int)) = true := decide_eq_true c30
       clear c30
       by_cases c31 : 0 ≤ x36_2
       ·rw [if_pos c31] at H
        have c31b0 : decide (0 ≤ x36_2) = true := decide_eq_true c31
        clear c31
        by_cases c32 : x36_2 < (l1.length : Int)
        ·rw [if_pos c32] at H
         have c32b0 : decide (x36_2 < (l1.length : Int)) = true := decide_eq_true c32
         clear c32
         by_cases c33 : 0 ≤ ((rd_T59 l1 x36_2).f1)
         ·rw [if_pos c33] at H
          have c33b0 : decide (0 ≤ ((rd_T59 l1 x36_2).f1)) = true := decide_eq_true c33
          clear c33
          by_cases c34 : ((rd_T59 l1 x36_2).f1) < (x0_2.length : Int)
          ·rw [if_pos c34] at H
           have c34b0 : decide (((rd_T59 l1 x36_2).f1) < (x0_2.length : Int)) = true := decide_eq_true c34
           clear c34
           obtain ⟨y199,hy199⟩ : ∃ y_ : List (S30),y_ = (x0_2.set (((rd_T59 l1 x36_2).f1) : Int).toNat (⟨Go.bits .or .i64 ((rd_T30 x0_2 ((rd_T59 l1 x36_2).f1)).f0) 1,(rd_T30 x0_2 ((rd_T59 l1 x36_2).f1)).f1⟩ : S30)) := ⟨_,rfl⟩
           replace H : (impl_lock.l1 k2 y199 l1 (l1.length : Int) (wrap64 (x36_2 + 1))) = some (r1,r2) := by first|(rw [hy199];with_reducible exact H)|(have H2_ := (Option.bind_some _ _).symm.trans H;rw [hy199];with_reducible exact H2_)|(have H2_ := (Option.bind_some _ _).symm.trans H;with_reducible exact H2_)|with_reducible exact H|(rw [hy199];exact H)|exact H
           have Ny199 := Aside0.mk hy199
           clear hy199
           have H' := Aside0.mk H
           clear H
           have p196 : 0 ≤ (x36_2 : Int) := of_decide_eq_true (by first|(with_reducible assumption)|assumption)
           have q196 : x36_2 < (l1.length : Int) := of_decide_eq_true (by first|(with_reducible assumption)|assumption)
           obtain ⟨ad196,e196,hx196_0,hx196_1,hx196_2,hx196_3,hx196_4⟩ := at_T59 (Kd.C_kept_now HR1.out HK.out) x36_2 p196 q196
           cases e196
           replace p196 := eq_true p196
           replace q196 := eq_true q196
           go_wp2_with (first|((with_reducible refine gate_dst (N := 9) rfl ?_);refine box_event ?hg (N := 9) ?hd (cs := #[.int .i64 0,.int .i64 0,.int .i64 0,.bool false,.int .i64 0]) (t := 59) ?hr ?_;(case hd => rfl);(case hg => rfl);(case hr => first|(go_simp;done)|(go_simp;rfl));intro gb197 hg w36 hbox hb;have n0_ := Aside0.mk (Kd.R_below (by (with_reducible repeat (first|apply Kd.R_alloc|apply Kd.R_drewN|apply Kd.R_drew));exact HO_0.out) hb);have n1_ := Aside0.mk (Kept.below (S := (fun k_ => P0_ k_)) (by repeat (first|(with_reducible first|exact HK.out|apply Kept.alloc|apply Kept.drewN|apply Kept.drew)|exact HK.out)) hb);have n2_ := Aside0.mk (below_step (by repeat (first|(with_reducible first|exact HB.out|apply below_alloc|apply pw_below_drewN|apply below_drew1)|exact HB.out)) hb);have n3_ := Aside0.mk (hbox);have n4_ := Aside0.mk ((by rw [hg];exact (by first|exact HK.out.1|exact (show Kept w _ (fun k_ => P0_ k_) from by repeat (first|(with_reducible first|exact HK.out|apply Kept.alloc|apply Kept.drewN|apply Kept.drew)|exact HK.out)).1) : w.heap.size ≤ gb197));have n5_ := Aside0.mk ((by rw [hg];exact (below_size (by repeat (first|(with_reducible first|exact HB.out|apply below_alloc|apply pw_below_drewN|apply below_drew1)|exact HB.out))) : w0.heap.size ≤ gb197));clear HO_0;clear HK;clear HB;have HO_0 := n0_;have HK := n1_;have HB := n2_;have BK197 := n3_;have GW197 := n4_;have GE197 := n5_;clear n0_ n1_ n2_ n3_ n4_ n5_;clear hb hbox hg;have hcz37_0 : w36.cell? ⟨gb197,0,none⟩ = some (.int .i64 0) := (blk_cell BK197.out 0).trans rfl;have hcz37_1 : w36.cell? ⟨gb197,1,none⟩ = some (.int .i64 0) := (blk_cell BK197.out 1).trans rfl;have hcz37_2 : w36.cell? ⟨gb197,2,none⟩ = some (.int .i64 0) := (blk_cell BK197.out 2).trans rfl;have hcz37_3 : w36.cell? ⟨gb197,3,none⟩ = some (.bool false) := (blk_cell BK197.out 3).trans rfl;have hcz37_4 : w36.cell? ⟨gb197,4,none⟩ = some (.int .i64 0) := (blk_cell BK197.out 4).trans rfl;have hfz37_0 := blk_frozen BK197.out 0;have hfz37_1 := blk_frozen BK197.out 1;have hfz37_2 := blk_frozen BK197.out 2;have hfz37_3 := blk_frozen BK197.out 3;have hfz37_4 := blk_frozen BK197.out 4)|((with_reducible refine gate_store (t := 59) (p := 9) rfl ?_);refine store_event (t := 59) (p := 9) (v := ?vo_w38) (w1 := (((((w36.setCell ⟨gb197,0,none⟩ (.int .i64 ((rd_T59 l1 x36_2).f0))).setCell ⟨gb197,1,none⟩ (.int .i64 ((rd_T59 l1 x36_2).f1))).setCell ⟨gb197,2,none⟩ (.int .i64 ((rd_T59 l1 x36_2).f2))).setCell ⟨gb197,3,none⟩ (.bool ((rd_T59 l1 x36_2).f3))).setCell ⟨gb197,4,none⟩ (.int .i64 ((rd_T59 l1 x36_2).f4)))) ?hg ?ho ?hn ?hr ?_;(case ho => rfl);(case hg => rfl);(case hn => rfl);(case hr => first|(go_simp;done)|(go_simp;rfl)|(obtain ⟨_,_,e_⟩ := Kd.R_slice HO_0.out;subst e_;first|(go_simp;done)|(go_simp;rfl)));intro w38 hw;have n0_ : Aside0 (Kd.R k30 30 w38 w0.heap.size (fun k_ => (P0_ k_ ∨ w.heap.size ≤ k_)) u9000_ x0_2) := ⟨(by rw [hw];exact (by (with_reducible repeat (first|apply Kd.R_alloc|apply Kd.R_drewN|apply Kd.R_drew));exact Kd.R_mono (Kd.R_far (p := ⟨gb197,4,none⟩) (Kd.R_far (p := ⟨gb197,3,none⟩) (Kd.R_far (p := ⟨gb197,2,none⟩) (Kd.R_far (p := ⟨gb197,1,none⟩) (Kd.R_far (p := ⟨gb197,0,none⟩) (Kd.R_types HO_0.out BK197.out (by decide)) (fun _ hk => hk.2) (.int .i64 ((rd_T59 l1 x36_2).f0))) (fun _ hk => hk.2) (.int .i64 ((rd_T59 l1 x36_2).f1))) (fun _ hk => hk.2) (.int .i64 ((rd_T59 l1 x36_2).f2))) (fun _ hk => hk.2) (.bool ((rd_T59 l1 x36_2).f3))) (fun _ hk => hk.2) (.int .i64 ((rd_T59 l1 x36_2).f4))) (fun _ hk => hk.1)))⟩;have n1_ : Aside0 (w38.heap[gb197]? = some (.cells #[.int .i64 ((rd_T59 l1 x36_2).f0),.int .i64 ((rd_T59 l1 x36_2).f1),.int .i64 ((rd_T59 l1 x36_2).f2),.bool ((rd_T59 l1 x36_2).f3),.int .i64 ((rd_T59 l1 x36_2).f4)] 59 (0,0))) := ⟨(by rw [hw];exact (by (with_reducible repeat (first|refine blk_drewN ?_ _|refine blk_drew ?_|refine blk_alloc ?_ _));refine blk_put (cs := #[.int .i64 ((rd_T59 l1 x36_2).f0),.int .i64 ((rd_T59 l1 x36_2).f1),.int .i64 ((rd_T59 l1 x36_2).f2),.bool ((rd_T59 l1 x36_2).f3),.int .i64 0]) ?_ 4 _ rfl;(with_reducible repeat (first|refine blk_drewN ?_ _|refine blk_drew ?_|refine blk_alloc ?_ _));refine blk_put (cs := #[.int .i64 ((rd_T59 l1 x36_2).f0),.int .i64 ((rd_T59 l1 x36_2).f1),.int .i64 ((rd_T59 l1 x36_2).f2),.bool false,.int .i64 0]) ?_ 3 _ rfl;(with_reducible repeat (first|refine blk_drewN ?_ _|refine blk_drew ?_|refine blk_alloc ?_ _));refine blk_put (cs := #[.int .i64 ((rd_T59 l1 x36_2).f0),.int .i64 ((rd_T59 l1 x36_2).f1),.int .i64 0,.bool false,.int .i64 0]) ?_ 2 _ rfl;(with_reducible repeat (first|refine blk_drewN ?_ _|refine blk_drew ?_|refine blk_alloc ?_ _));refine blk_put (cs := #[.int .i64 ((rd_T59 l1 x36_2).f0),.int .i64 0,.int .i64 0,.bool false,.int .i64 0]) ?_ 1 _ rfl;(with_reducible repeat (first|refine blk_drewN ?_ _|refine blk_drew ?_|refine blk_alloc ?_ _));refine blk_put (cs := #[.int .i64 0,.int .i64 0,.int .i64 0,.bool false,.int .i64 0]) ?_ 0 _ rfl;(with_reducible repeat (first|refine blk_drewN ?_ _|refine blk_drew ?_|refine blk_alloc ?_ _));exact BK197.out))⟩;have n2_ : Aside0 (Kept w w38 (fun k_ => P0_ k_)) := ⟨(by rw [hw];exact (by repeat (first|(with_reducible first|exact HK.out|apply Kept.alloc|apply Kept.drewN|apply Kept.drew|refine Kept.setCell ?_ (.inr GW197.out) _)|exact HK.out)))⟩;have n3_ : Aside0 (Below w0.heap.size w0 w38) := ⟨(by rw [hw];exact (by repeat (first|(with_reducible first|exact HB.out|apply below_alloc|apply pw_below_drewN|apply below_drew1|refine below_set ?_ GE197.out)|exact HB.out)))⟩;clear hw;clear HO_0;clear BK197;clear HK;clear HB;have HO_0 := n0_;have BK197 := n1_;have HK := n2_;have HB := n3_;clear n0_ n1_ n2_ n3_;have hcz39_0 : w38.cell? ⟨gb197,0,none⟩ = some (.int .i64 ((rd_T59 l1 x36_2).f0)) := (blk_cell BK197.out 0).trans rfl;have hcz39_1 : w38.cell? ⟨gb197,1,none⟩ = some (.int .i64 ((rd_T59 l1 x36_2).f1)) := (blk_cell BK197.out 1).trans rfl;have hcz39_2 : w38.cell? ⟨gb197,2,none⟩ = some (.int .i64 ((rd_T59 l1 x36_2).f2)) := (blk_cell BK197.out 2).trans rfl;have hcz39_3 : w38.cell? ⟨gb197,3,none⟩ = some (.bool ((rd_T59 l1 x36_2).f3)) := (blk_cell BK197.out 3).trans rfl;have hcz39_4 : w38.cell? ⟨gb197,4,none⟩ = some (.int .i64 ((rd_T59 l1 x36_2).f4)) := (blk_cell BK197.out 4).trans rfl;have hfz39_0 := blk_frozen BK197.out 0;have hfz39_1 := blk_frozen BK197.out 1;have hfz39_2 := blk_frozen BK197.out 2;have hfz39_3 := blk_frozen BK197.out 3;have hfz39_4 := blk_frozen BK197.out 4;obtain ⟨Ao40,co40,eo40⟩ := Kd.R_slice HO_0.out;subst eo40;have p198 : 0 ≤ (((rd_T59 l1 x36_2).f1) : Int) := of_decide_eq_true (by first|(with_reducible assumption)|assumption);have q198 : ((rd_T59 l1 x36_2).f1) < (x0_2.length : Int) := of_decide_eq_true (by first|(with_reducible assumption)|assumption);obtain ⟨ad198,e198,hx198_0,hx198_1⟩ := at_T30 (Kd.R_reads' HO_0.out).2.2 ((rd_T59 l1 x36_2).f1) p198 q198;cases e198;replace p198 := eq_true p198;replace q198 := eq_true q198;have p35 : 0 ≤ (((rd_T59 l1 x36_2).f1) : Int) := of_decide_eq_true (by first|(with_reducible assumption)|assumption);have q35 : (((rd_T59 l1 x36_2).f1) : Int) < ((x0_2.length : Int) : Int) := of_decide_eq_true (by first|(with_reducible assumption)|assumption);obtain ⟨go35,co35,eo35,gb35,gl35,cl35,HG35⟩ := Kd.R_form HO_0.out (by omega);(first|cases eo35|(injection eo35 with ea_ en_ ec_;(first|subst ea_|(injection ea_ with ea_;subst ea_));subst ec_;clear en_));have GB35 := Aside0.mk gb35;have GG35 := Aside0.mk HG35;clear gb35 gl35 HG35;have HMgo35 := Aside0.mk (show (P0_ go35 ∨ w.heap.size ≤ go35) from (HO_0.out.1 _ rfl));(first|simp only [add_plain] at hx198_0|skip);(first|simp only [add_plain] at hx198_1|skip);obtain ⟨ce35,hcl35,hM35,hcc35,hfr35⟩ := Kd.R_elem HO_0.out z30 (((rd_T59 l1 x36_2).f1) : Int) p35 q35;obtain rfl := k30_openM hM35;have hx35_0 : w38.cell? ⟨go35,(((rd_T59 l1 x36_2).f1) : Int).toNat * 2,none⟩ = some (.int .i64 ((rd_T30 x0_2 ((rd_T59 l1 x36_2).f1)).f0)) := hcc35 0 _ rfl;have hx35_1 : w38.cell? ⟨go35,(((rd_T59 l1 x36_2).f1) : Int).toNat * 2 + 1,none⟩ = some (.int .i64 ((rd_T30 x0_2 ((rd_T59 l1 x36_2).f1)).f1)) := hcc35 1 _ rfl;have hf35_0 : w38.frozen? ⟨go35,(((rd_T59 l1 x36_2).f1) : Int).toNat * 2,none⟩ = false := hfr35 0;have hf35_1 : w38.frozen? ⟨go35,(((rd_T59 l1 x36_2).f1) : Int).toNat * 2 + 1,none⟩ = false := hfr35 1;clear hcl35 hcc35 hfr35 hM35;replace p35 := eq_true p35;replace q35 := eq_true q35;have HX41 := Aside0.mk (show Kd.R k30 30 w38 w0.heap.size (fun k_ => (P0_ k_ ∨ w.heap.size ≤ k_)) (.slice (some ⟨go35,0,none⟩) x0_2.length co40) x0_2 from (by (with_reducible repeat (first|apply Kd.R_alloc|apply Kd.R_drewN|apply Kd.R_drew));exact HO_0.out));obtain ⟨ce41,hcl41,hM41,hcc41,hfr41⟩ := Kd.R_elem HX41.out z30 (((rd_T59 l1 x36_2).f1) : Int) (of_decide_eq_true (by first|(with_reducible assumption)|assumption)) (by have h_ : (((rd_T59 l1 x36_2).f1) : Int) < ((x0_2.length : Int) : Int) := of_decide_eq_true (by first|(with_reducible assumption)|assumption);first|exact h_|(have e_ := (Kd.R_reads' HO_0.out).1;omega)|simpa using h_);obtain rfl := k30_openM hM41;have HP41 := Kd.R_seg HX41.out (((rd_T59 l1 x36_2).f1) : Int) (of_decide_eq_true (by first|(with_reducible assumption)|assumption)) (by have h_ : (((rd_T59 l1 x36_2).f1) : Int) < ((x0_2.length : Int) : Int) := of_decide_eq_true (by first|(with_reducible assumption)|assumption);first|exact h_|(have e_ := (Kd.R_reads' HO_0.out).1;omega)|simpa using h_) (seg := [.int .i64 (Go.bits .or .i64 ((rd_T30 x0_2 ((rd_T59 l1 x36_2).f1)).f0) 1)]) (j := 0) hcl41 hcc41 (show 1 ≤ 2 from by decide) (x' := (⟨Go.bits .or .i64 ((rd_T30 x0_2 ((rd_T59 l1 x36_2).f1)).f0) 1,(rd_T30 x0_2 ((rd_T59 l1 x36_2).f1)).f1⟩ : S30)) (k30_mkM _ _ _ (⟨Go.bits .or .i64 ((rd_T30 x0_2 ((rd_T59 l1 x36_2).f1)).f0) 1,(rd_T30 x0_2 ((rd_T59 l1 x36_2).f1)).f1⟩ : S30) ) (fun _ hk => hk);have hx41_0 := hcc41 0 _ rfl;(try simp only [show (k30).sz = 2 from rfl,Nat.mul_one,Nat.add_zero] at hx41_0);have hf41_0 := hfr41 0;(try simp only [show (k30).sz = 2 from rfl,Nat.mul_one,Nat.add_zero] at hf41_0);clear hcl41 hcc41 hfr41 hM41)|((with_reducible refine gate_store (t := 2) (p := 48) rfl ?_);refine store_event (t := 2) (p := 48) (v := ?vo_w42) (w1 := (w38.setCell ⟨go35,(((rd_T59 l1 x36_2).f1) : Int).toNat * 2,none⟩ (.int .i64 (Go.bits .or .i64 ((rd_T30 x0_2 ((rd_T59 l1 x36_2).f1)).f0) 1)))) ?hg ?ho ?hn ?hr ?_;(case ho => rfl);(case hg => rfl);(case hn => rfl);(case hr => first|(go_simp;done)|(go_simp;rfl)|(obtain ⟨_,_,e_⟩ := Kd.R_slice HO_0.out;subst e_;first|(go_simp;done)|(go_simp;rfl)));intro w42 hw;have hg : w38.grownBy w42 (some go35) := (by rw [hw];exact HP41.2);have hp_ : Kd.R k30 30 w42 w0.heap.size (fun k_ => (P0_ k_ ∨ w.heap.size ≤ k_)) (.slice (some ⟨go35,0,none⟩) x0_2.length co40) y199 := (by rw [hw,Ny199.out];exact HP41.1);clear HP41;have n0_ := Aside0.mk (hp_);have n1_ := Aside0.mk (blk_grown (g := gb197) (o := .cells #[.int .i64 ((rd_T59 l1 x36_2).f0),.int .i64 ((rd_T59 l1 x36_2).f1),.int .i64 ((rd_T59 l1 x36_2).f2),.bool ((rd_T59 l1 x36_2).f3),.int .i64 ((rd_T59 l1 x36_2).f4)] 59 (0,0)) (by (with_reducible repeat (first|refine blk_drewN ?_ _|refine blk_drew ?_|refine blk_alloc ?_ _));exact BK197.out) hg (Kd.R_ne HO_0.out BK197.out (by decide)));have n2_ := Aside0.mk ((by rw [hw];exact below_set (HB.out) GB35.out : Below w0.heap.size w0 w42));have n3_ := Aside0.mk (Kept.of_grown (S := (fun k_ => P0_ k_)) hg (by repeat (first|(with_reducible first|exact HK.out|apply Kept.alloc|apply Kept.drewN|apply Kept.drew|refine Kept.setCell ?_ (.inr GW197.out) _)|exact HK.out)) (fun k_ e_ => (HO_0.out.1 k_ e_)));clear HO_0;clear BK197;clear HB;clear HK;have HO_0 := n0_;have BK197 := n1_;have HB := n2_;have HK := n3_;clear n0_ n1_ n2_ n3_;clear hg hw hp_))
           go_roundg k2
           case measure => have := HK1.out;have := HK2.out;omega
           case rel => exact ⟨(y199),(wrap64 (x36_2 + 1)),(by first|rfl|(simp;done)|(simp [*];done)),H',⟨by have := HK1.out;have := HK2.out;omega⟩,⟨by (with_reducible repeat (first|apply Kd.R_alloc|apply Kd.R_drewN|apply Kd.R_drew));exact HO_0.out⟩,⟨by repeat (first|(with_reducible first|exact HK.out|apply Kept.alloc|apply Kept.drewN|apply Kept.drew|refine Kept.setCell ?_ (.inr GW197.out) _)|exact HK.out)⟩,⟨by repeat (first|(with_reducible first|exact HB.out|apply below_alloc|apply pw_below_drewN|apply below_drew1|refine below_set ?_ GE197.out)|exact HB.out)⟩⟩
          ·rw [if_neg c34] at H
           exact absurd H (by simp)
         ·rw [if_neg c33] at H
          exact absurd H (by simp)
        ·rw [if_neg c32] at H
         exact absurd H (by simp)
       ·rw [if_neg c31] at H
        exact absurd H (by simp)
      ·rw [if_neg c30] at H
       have c30b0 : decide (x36_2 < (l1.length : Int)) = false := decide_eq_false c30
       clear c30
       simp only [Option.some.injEq,Prod.mk.injEq] at H
       obtain ⟨rfl,rfl⟩ := H
       go_wp2
       go_ret
       exact ⟨by first|rfl|(simp [errW_none,errW_some] <;> rfl)|(simp [*,errW_none,errW_some] <;> rfl),by (with_reducible repeat (first|apply Kd.R_alloc|apply Kd.R_drewN|apply Kd.R_drew));exact HO_0.out,by repeat (first|(with_reducible first|exact HB.out|apply below_alloc|apply pw_below_drewN|apply below_drew1)|exact HB.out),by repeat (first|(with_reducible first|exact HK.out|apply Kept.alloc|apply Kept.drewN|apply Kept.drew)|exact HK.out)⟩

/-! ### impl_Lock: function 39 -/
def impl_Lock.j0 : Nat → List (S30) → List (S59) → Bool → Option ((List (S30)) × Bool)
  | 0, _, _, _ => none
  | k + 1, x0, x1, x14 => if x14 = true then (some (([] : List (S30)), false)) else ((impl_Cell_81.f x0).bind fun t202 => ((impl_lock.f k t202 x1).bind fun bt205 => (some (bt205.2, bt205.1))))
def impl_Lock.f (k : Nat) (l0 : List (S30)) (l1 : List (S59)) : Option ((List (S30)) × Bool) := (impl_areCells.f l0).bind fun t200 => (if t200 = true then ((impl_areSets.f k l1).bind fun t201 => (impl_Lock.j0 k l0 l1 (!t201))) else (impl_Lock.j0 k l0 l1 true))

set_option maxHeartbeats 8000000 in
set_option maxRecDepth 100000 in
theorem impl_Lock.calls (k : Nat) (A0 : Option Addr) (c0 : Nat) (l0 : List (S30)) (A1 : Option Addr) (c1 : Nat) (l1 : List (S59)) (r1 : List (S30)) (r2 : Bool) (w : World) (hr0 : Kd.C k30 w A0 l0.length l0) (hc0 : l0.length ≤ c0) (hr1 : Kd.C k59 w A1 l1.length l1) (hc1 : l1.length ≤ c1) (h : impl_Lock.f k l0 l1 = some (r1, r2)) :
    Calls Try.prog 39 #[.slice A0 l0.length c0, .slice A1 l1.length c1] w fun e w' => ∃ v0_ : Value, e = .returned (.tuple #[v0_, .bool r2]) ∧ Kd.R k30 30 w' w.heap.size (fun _ => True) v0_ r1 ∧ Below w.heap.size w w' := by
 have HR0 := Aside0.mk hr0
 have HC0 := Aside0.mk hc0
 clear hr0 hc0
 have HR1 := Aside0.mk hr1
 have HC1 := Aside0.mk hc1
 clear hr1 hc1
 have HB := Aside0.mk (Below.refl w.heap.size w)
 have H : ((impl_areCells.f l0).bind fun t200 => (if t200 = true then ((impl_areSets.f k l1).bind fun t201 => (impl_Lock.j0 k l0 l1 (!t201))) else (impl_Lock.j0 k l0 l1 true))) = some (r1,r2) := h
 clear h
 have HC3 := Aside0.mk H
 clear H
 go_enter Try.func39,Try.ntmps39
 go_upto_region 1 with (fail)
 go_cut [14] (fun v14 wc => ∃ (kq : Nat) (x14_2 : Bool),v14 = .bool x14_2 ∧ Aside0 (impl_Lock.j0 kq l0 l1 x14_2 = some (r1,r2)) ∧ Aside0 (kq ≤ k) ∧ Aside0 (Below w.heap.size w wc))
 case first =>
  have H := HC3.out
  clear HC3
  replace H := Option.bind_eq_some_iff.mp H
  obtain ⟨t200,A40,H⟩ := H
  replace H : (if t200 = true then ((impl_areSets.f k l1).bind fun t201 => (impl_Lock.j0 k l0 l1 (!t201))) else (impl_Lock.j0 k l0 l1 true)) = some (r1,r2) := H
  have A4 := Aside0.mk A40
  clear A40
  by_cases c5 : t200 = true
  ·subst c5
   have H1 : ((impl_areSets.f k l1).bind fun t201 => (impl_Lock.j0 k l0 l1 (!t201))) = some (r1,r2) := by rw [if_pos rfl] at H;exact H
   clear H
   have H := H1
   clear H1
   replace H := Option.bind_eq_some_iff.mp H
   obtain ⟨t201,A60,H⟩ := H
   replace H : (impl_Lock.j0 k l0 l1 (!t201)) = some (r1,r2) := H
   have A6 := Aside0.mk A60
   clear A60
   have H' := Aside0.mk H
   clear H
   go_wp2_with (first|((with_reducible refine gcal_ (f := 66) rfl ?_);refine goesL_ (some 8) rfl rfl Try.func66 (by kernel_rfl) rfl #[.slice A0 l0.length c0] rfl (by (try simp only [List.map_toArray,List.map_cons,List.map_nil]);first|done|rfl|(simp only [List.length_drop,List.length_take];rfl)) ?_;(with_reducible refine (impl_areCells.calls _ _ l0 true _ ?side1 ?side2 A4.out).mono ?_);(case side1 => repeat (first|exact (Kd.C_below HR0.out HB.out)|(with_reducible refine Kd.C_alloc ?_ _)|(with_reducible refine Kd.C_drewN ?_ _)|(with_reducible refine Kd.C_drew ?_)));(case side2 => exact HC0.out);rintro e w7 ⟨rfl,hb⟩;refine ⟨_,rfl,?_⟩;have n0_ := Aside0.mk (below_step (by repeat (first|(with_reducible first|exact HB.out|apply below_alloc|apply pw_below_drewN|apply below_drew1)|exact HB.out)) hb);clear HB;have HB := n0_;clear n0_;(try clear hb);(try clear hb2);(try clear hk);(try clear hi))|(go_at_call 80;(with_reducible refine (impl_areSets.calls k _ _ l1 t201 _ ?side1 ?side2 A6.out).mono ?_);(case side1 => repeat (first|exact (Kd.C_below HR1.out HB.out)|(with_reducible refine Kd.C_alloc ?_ _)|(with_reducible refine Kd.C_drewN ?_ _)|(with_reducible refine Kd.C_drew ?_)));(case side2 => exact HC1.out);rintro e w8 ⟨rfl,hb⟩;have n0_ := Aside0.mk (below_step (by repeat (first|(with_reducible first|exact HB.out|apply below_alloc|apply pw_below_drewN|apply below_drew1)|exact HB.out)) hb);clear HB;have HB := n0_;clear n0_;(try clear hb);(try clear hb2);(try clear hk);(try clear hi)))
   go_meet
   case rel => exact ⟨_,(!t201),(by first|rfl|(simp;done)|(simp [*];done)),H',⟨by first|omega|exact Nat.le_refl _⟩,⟨by repeat (first|(with_reducible first|exact HB.out|apply below_alloc|apply pw_below_drewN|apply below_drew1)|exact HB.out)⟩⟩
  ·replace c5 := Bool.eq_false_iff.mpr c5
   subst c5
   have H1 : (impl_Lock.j0 k l0 l1 true) = some (r1,r2) := by rw [if_neg (show ¬ (false = true) by decide)] at H;exact H
   clear H
   have H := H1
   clear H1
   have H' := Aside0.mk H
   clear H
   go_wp2_with (first|((with_reducible refine gcal_ (f := 66) rfl ?_);refine goesL_ (some 8) rfl rfl Try.func66 (by kernel_rfl) rfl #[.slice A0 l0.length c0] rfl (by (try simp only [List.map_toArray,List.map_cons,List.map_nil]);first|done|rfl|(simp only [List.length_drop,List.length_take];rfl)) ?_;(with_reducible refine (impl_areCells.calls _ _ l0 false _ ?side1 ?side2 A4.out).mono ?_);(case side1 => repeat (first|exact (Kd.C_below HR0.out HB.out)|(with_reducible refine Kd.C_alloc ?_ _)|(with_reducible refine Kd.C_drewN ?_ _)|(with_reducible refine Kd.C_drew ?_)));(case side2 => exact HC0.out);rintro e w9 ⟨rfl,hb⟩;refine ⟨_,rfl,?_⟩;have n0_ := Aside0.mk (below_step (by repeat (first|(with_reducible first|exact HB.out|apply below_alloc|apply pw_below_drewN|apply below_drew1)|exact HB.out)) hb);clear HB;have HB := n0_;clear n0_;(try clear hb);(try clear hb2);(try clear hk);(try clear hi)))
   go_meet
   case rel => exact ⟨_,(true),(by first|rfl|(simp;done)|(simp [*];done)),H',⟨by first|omega|exact Nat.le_refl _⟩,⟨by repeat (first|(with_reducible first|exact HB.out|apply below_alloc|apply pw_below_drewN|apply below_drew1)|exact HB.out)⟩⟩
 case rest =>
  clear HC3
  try clear c1
  try clear p2
  try clear c3
  try clear c5
  try clear c6
  obtain ⟨kq,x14_2,rfl,HA,HJ2,HB⟩ := hcut
  cases kq with
    | zero => exact absurd HA.out (by simp [impl_Lock.j0])
    | succ kj2 =>
   have H := HA.out
   clear HA
   simp only [impl_Lock.j0] at H
   by_cases c10 : x14_2 = true
   ·subst c10
    have H1 : (some (([] : List (S30)),false)) = some (r1,r2) := by rw [if_pos rfl] at H;exact H
    clear H
    have H := H1
    clear H1
    simp only [Option.some.injEq,Prod.mk.injEq] at H
    obtain ⟨rfl,rfl⟩ := H
    go_wp2
    go_ret2
    exact ⟨_,by first|rfl|(simp [errW_none,errW_some] <;> rfl)|(simp [*,errW_none,errW_some] <;> rfl),by first|exact Kd.R_nil _ _ _ _ _|exact Kd.N_nil _ _ _ _ _|exact Kd.V_nil _ _ _ _ _|exact Kd.Q_nil _ _ _ _ _|exact Kd.S_nil _ _ _ _ _,by repeat (first|(with_reducible first|exact HB.out|apply below_alloc|apply pw_below_drewN|apply below_drew1)|exact HB.out)⟩
   ·replace c10 := Bool.eq_false_iff.mpr c10
    subst c10
    have H1 : ((impl_Cell_81.f l0).bind fun t202 => ((impl_lock.f kj2 t202 l1).bind fun bt205 => (some (bt205.2,bt205.1)))) = some (r1,r2) := by rw [if_neg (show ¬ (false = true) by decide)] at H;exact H
    clear H
    have H := H1
    clear H1
    replace H := Option.bind_eq_some_iff.mp H
    obtain ⟨t202,A110,H⟩ := H
    replace H : ((impl_lock.f kj2 t202 l1).bind fun bt205 => (some (bt205.2,bt205.1))) = some (r1,r2) := H
    have A11 := Aside0.mk A110
    clear A110
    replace H := Option.bind_eq_some_iff.mp H
    obtain ⟨⟨t205,t206⟩,A120,H⟩ := H
    replace H : (some (t206,t205)) = some (r1,r2) := H
    have A12 := Aside0.mk A120
    clear A120
    simp only [Option.some.injEq,Prod.mk.injEq] at H
    obtain ⟨rfl,rfl⟩ := H
    go_wp2_with (first|((with_reducible refine gcal_ (f := 81) rfl ?_);refine goesL_ (some 16) rfl rfl Try.func81 (by kernel_rfl) rfl #[.slice A0 l0.length c0] rfl (by (try simp only [List.map_toArray,List.map_cons,List.map_nil]);first|done|rfl|(simp only [List.length_drop,List.length_take];rfl)) ?_;(with_reducible refine (impl_Cell_81.calls _ _ l0 t202 _ ?side1 ?side2 A11.out).mono ?_);(case side1 => repeat (first|exact (Kd.C_below HR0.out HB.out)|(with_reducible refine Kd.C_alloc ?_ _)|(with_reducible refine Kd.C_drewN ?_ _)|(with_reducible refine Kd.C_drew ?_)));(case side2 => exact HC0.out);rintro e w13 ⟨v203,rfl,ho0,hb⟩;refine ⟨_,rfl,?_⟩;have n0_ := Aside0.mk (Kd.R_lower ho0 (below_size (by repeat (first|(with_reducible first|exact HB.out|apply below_alloc|apply pw_below_drewN|apply below_drew1)|exact HB.out))));have n1_ := Aside0.mk (below_step (by repeat (first|(with_reducible first|exact HB.out|apply below_alloc|apply pw_below_drewN|apply below_drew1)|exact HB.out)) hb);clear HB;have HO204 := n0_;have HB := n1_;clear n0_ n1_;(try clear hb);(try clear hb2);(try clear hk);(try clear hi);(try clear ho0);obtain ⟨Ao14,co14,eo14⟩ := Kd.R_slice HO204.out;subst eo14)|((with_reducible refine gcal_ (f := 85) rfl ?_);refine goesL_ (some 20) rfl rfl Try.func85 (by kernel_rfl) rfl #[.slice Ao14 t202.length co14,.slice A1 l1.length c1] rfl (by (try simp only [List.map_toArray,List.map_cons,List.map_nil]);first|done|rfl|(simp only [List.length_drop,List.length_take];rfl)) ?_;(with_reducible refine (impl_lock.calls kj2 (fun k_ => some k_ = (.slice Ao14 t202.length co14 : Value).ownBlock) (.slice Ao14 t202.length co14) t202 _ _ l1 t205 t206 w _ ?side1 ?side2 ?side3 ?side4 A12.out).mono ?_);(case side1 => repeat (first|(with_reducible first|exact HB.out|apply below_alloc|apply pw_below_drewN|apply below_drew1)|exact HB.out));(case side2 => exact Kd.R_tight rfl HO204.out);(case side3 => exact Kd.C_kept_came k59_heap HR1.out (by repeat (first|(with_reducible first|exact HB.out|apply below_alloc|apply pw_below_drewN|apply below_drew1)|exact HB.out)) (fun k_ hs_ => (fun e_ => Kd.R_base HO204.out k_ e_.symm) hs_));(case side4 => exact HC1.out);rintro e w15 ⟨rfl,hy0,hb,hkp⟩;refine ⟨_,rfl,?_⟩;have n0_ := Aside0.mk (Kd.R_reok rfl hy0 (fun k_ e_ => HO204.out.1 k_ e_));have n1_ := Aside0.mk (hb);clear HO204;clear HB;have HO204 := n0_;have HB := n1_;clear n0_ n1_;(try clear hb);(try clear hkp);(try clear hy0)))
    go_ret2
    exact ⟨_,by first|rfl|(simp [errW_none,errW_some] <;> rfl)|(simp [*,errW_none,errW_some] <;> rfl),by (with_reducible repeat (first|apply Kd.R_alloc|apply Kd.R_drewN|apply Kd.R_drew));exact HO204.out,by repeat (first|(with_reducible first|exact HB.out|apply below_alloc|apply pw_below_drewN|apply below_drew1)|exact HB.out)⟩

/-- A state of type 112 at block g of W; what its slices lead to came in by w0. -/
def IsS112 (w0 W : World) (g : Nat) (f0 : List Int) (f1 : Int) (f2 : Int) : Prop := ∃ A0 c0, W.heap[g]? = some (.cells #[.slice A0 f0.length c0, .int .i64 f1, .int .i64 f2] 112 (0, 0)) ∧ w0.heap.size ≤ g ∧ Kd.C (Kd.int .u8) w0 A0 f0.length f0
theorem IsS112.grown {w0 W : World} {g : Nat} {f0 : List Int} {f1 : Int} {f2 : Int} {W1 : World} {row : Option Nat} (h : IsS112 w0 W g f0 f1 f2) (hw : W.grownBy W1 row) (hne : some g ≠ row) : IsS112 w0 W1 g f0 f1 f2 := by
 obtain ⟨A0,c0,hb,hg,hr0⟩ := h
 exact ⟨A0,c0,blk_grown hb hw hne,hg,hr0⟩
theorem IsS112.own_neN {w0 W : World} {g : Nat} {f0 : List Int} {f1 : Int} {f2 : Int} {α : Type} {d : Kd α} {e : Nat} {base : Nat} {ok : Nat → Prop} {v : Value} {xs : List α} (h : IsS112 w0 W g f0 f1 f2) (ho : Kd.N d e W base ok v xs) (ht : e ≠ 112) : some g ≠ v.ownBlock := by
 obtain ⟨A0,c0,hb,hg,hr0⟩ := h
 exact Kd.N_ne ho hb ht
theorem IsS112.fresh {w0 W : World} {g : Nat} {f0 : List Int} {f1 : Int} {f2 : Int} (h : IsS112 w0 W g f0 f1 f2) : ∀ k, W.heap.size ≤ k → k ≠ g := by
 obtain ⟨A0,c0,hb,hg,hr0⟩ := h
 exact Kd.freshB hb
theorem IsS112.kept {w0 W : World} {g : Nat} {f0 : List Int} {f1 : Int} {f2 : Int} {W1 : World} {S : Nat → Prop} (h : IsS112 w0 W g f0 f1 f2) (hk : Kept W W1 S) (hne : ¬ S g) : IsS112 w0 W1 g f0 f1 f2 := by
 obtain ⟨A0,c0,hb,hg,hr0⟩ := h
 exact ⟨A0,c0,blk_kept hb hk hne,hg,hr0⟩
theorem IsS112.below {w0 W : World} {g : Nat} {f0 : List Int} {f1 : Int} {f2 : Int} {W1 : World} (h : IsS112 w0 W g f0 f1 f2) (hw : Below W.heap.size W W1) : IsS112 w0 W1 g f0 f1 f2 := h.grown (grown_of_below hw none) (by simp)
theorem IsS112.alloc {w0 W : World} {g : Nat} {f0 : List Int} {f1 : Int} {f2 : Int} (h : IsS112 w0 W g f0 f1 f2) (o : Obj) : IsS112 w0 (W.alloc o) g f0 f1 f2 := h.below (below_alloc (Below.refl _ _) o)
theorem IsS112.drewN {w0 W : World} {g : Nat} {f0 : List Int} {f1 : Int} {f2 : Int} (h : IsS112 w0 W g f0 f1 f2) (m : Nat) : IsS112 w0 (W.drewN m) g f0 f1 f2 := h
theorem IsS112.drew {w0 W : World} {g : Nat} {f0 : List Int} {f1 : Int} {f2 : Int} (h : IsS112 w0 W g f0 f1 f2) : IsS112 w0 W.drew g f0 f1 f2 := h
theorem IsS112.at_ {w0 W : World} {g : Nat} {f0 : List Int} {f1 : Int} {f2 : Int} {w' : World} {m : Nat} (hq : W.drewN m = w') (h : IsS112 w0 W g f0 f1 f2) : IsS112 w0 w' g f0 f1 f2 := by subst hq; exact IsS112.drewN h m
theorem IsS112.apart {w0 W : World} {g : Nat} {f0 : List Int} {f1 : Int} {f2 : Int} {α : Type} {d : Kd α} {e : Nat} {base : Nat} {ok : Nat → Prop} {v : Value} {xs : List α} (h : IsS112 w0 W g f0 f1 f2) (ho : d.R e W base ok v xs) (ht : ∀ q, q ∈ e :: d.E → q ≠ 112) : d.R e W base (fun k => ok k ∧ k ≠ g) v xs := by
 obtain ⟨A0,c0,hb,hg,hr0⟩ := h
 exact Kd.R_types ho hb ht
theorem IsS112.own_ne {w0 W : World} {g : Nat} {f0 : List Int} {f1 : Int} {f2 : Int} {α : Type} {d : Kd α} {e : Nat} {base : Nat} {ok : Nat → Prop} {v : Value} {xs : List α} (h : IsS112 w0 W g f0 f1 f2) (ho : d.R e W base ok v xs) (ht : e ≠ 112) : some g ≠ v.ownBlock := by
 obtain ⟨A0,c0,hb,hg,hr0⟩ := h
 exact Kd.R_ne ho hb ht
theorem IsS112.apartQ {w0 W : World} {g : Nat} {f0 : List Int} {f1 : Int} {f2 : Int} {α : Type} {d : Kd α} {e : Nat} {base : Nat} {ok : Nat → Prop} {v : Value} {xs : List α} (h : IsS112 w0 W g f0 f1 f2) (ho : d.Q e W base ok v xs) (ht : ∀ q, q ∈ e :: d.E → q ≠ 112) : d.Q e W base (fun k => ok k ∧ k ≠ g) v xs := by
 obtain ⟨A0,c0,hb,hg,hr0⟩ := h
 exact Kd.Q_types ho hb ht
theorem IsS112.own_neQ {w0 W : World} {g : Nat} {f0 : List Int} {f1 : Int} {f2 : Int} {α : Type} {d : Kd α} {e : Nat} {base : Nat} {ok : Nat → Prop} {v : Value} {xs : List α} (h : IsS112 w0 W g f0 f1 f2) (ho : d.Q e W base ok v xs) (ht : e ≠ 112) : some g ≠ v.ownBlock := by
 obtain ⟨A0,c0,hb,hg,hr0⟩ := h
 exact Kd.Q_ne ho hb ht
theorem IsS112.apartS {w0 W : World} {g : Nat} {f0 : List Int} {f1 : Int} {f2 : Int} {α : Type} {d : Kd α} {e : Nat} {base : Nat} {ok : Nat → Prop} {v : Value} {xs : List α} (h : IsS112 w0 W g f0 f1 f2) (ho : d.S e W base ok v xs) (ht : ∀ q, q ∈ e :: d.E → q ≠ 112) : d.S e W base (fun k => ok k ∧ k ≠ g) v xs := by
 obtain ⟨A0,c0,hb,hg,hr0⟩ := h
 exact Kd.S_types ho hb ht
theorem IsS112.own_neS {w0 W : World} {g : Nat} {f0 : List Int} {f1 : Int} {f2 : Int} {α : Type} {d : Kd α} {e : Nat} {base : Nat} {ok : Nat → Prop} {v : Value} {xs : List α} (h : IsS112 w0 W g f0 f1 f2) (ho : d.S e W base ok v xs) (ht : e ≠ 112) : some g ≠ v.ownBlock := by
 obtain ⟨A0,c0,hb,hg,hr0⟩ := h
 exact Kd.S_ne ho hb ht
theorem IsS112.lt {w0 W : World} {g : Nat} {f0 : List Int} {f1 : Int} {f2 : Int} (h : IsS112 w0 W g f0 f1 f2) : g < W.heap.size := by
 obtain ⟨A0,c0,hb,hg,hr0⟩ := h
 exact blk_lt hb
theorem IsS112.ge {w0 W : World} {g : Nat} {f0 : List Int} {f1 : Int} {f2 : Int} (h : IsS112 w0 W g f0 f1 f2) : w0.heap.size ≤ g := by
 obtain ⟨A0,c0,hb,hg,hr0⟩ := h
 exact hg
theorem IsS112.ne_blk {w0 W : World} {g : Nat} {f0 : List Int} {f1 : Int} {f2 : Int} {a : Nat} {cs : Array Value} {t : TypeId} {fr : Nat × Nat} (h : IsS112 w0 W g f0 f1 f2) (hb2 : W.heap[a]? = some (.cells cs t fr)) (ht : t ≠ 112) : g ≠ a := by
 obtain ⟨A0,c0,hb,hg,hr0⟩ := h
 rintro rfl
 rw [hb] at hb2
 injection hb2 with hb2
 injection hb2 with _ ht2
 exact ht ht2.symm
theorem IsS112.far {w0 W : World} {g : Nat} {f0 : List Int} {f1 : Int} {f2 : Int} {p : Addr} (h : IsS112 w0 W g f0 f1 f2) (hne : g ≠ p.block) (u : Value) : IsS112 w0 (W.setCell p u) g f0 f1 f2 := by
 obtain ⟨A0,c0,hb,hg,hr0⟩ := h
 exact ⟨A0,c0,blk_far hb hne u,hg,hr0⟩
theorem cellS112_0 {W : World} {g : Nat} {A0 : Option Addr} {c0 : Nat} {f0 : List Int} {f1 : Int} {f2 : Int} (h : W.heap[g]? = some (.cells #[.slice A0 f0.length c0, .int .i64 f1, .int .i64 f2] 112 (0, 0))) : W.cell? ⟨g, 0, none⟩ = some (.slice A0 f0.length c0) := (blk_cell h 0).trans rfl
theorem cellS112_1 {W : World} {g : Nat} {A0 : Option Addr} {c0 : Nat} {f0 : List Int} {f1 : Int} {f2 : Int} (h : W.heap[g]? = some (.cells #[.slice A0 f0.length c0, .int .i64 f1, .int .i64 f2] 112 (0, 0))) : W.cell? ⟨g, 1, none⟩ = some (.int .i64 f1) := (blk_cell h 1).trans rfl
theorem IsS112.set_1 {w0 W : World} {g : Nat} {f0 : List Int} {f1 : Int} {f2 : Int} (h : IsS112 w0 W g f0 f1 f2) (x : Int) : IsS112 w0 (W.setCell ⟨g, 1, none⟩ (.int .i64 x)) g f0 x f2 := by
 obtain ⟨A0,c0,hb,hg,hr0⟩ := h
 exact ⟨A0,c0,by simpa using blk_set hb 1 (.int .i64 x),hg,hr0⟩
theorem cellS112_2 {W : World} {g : Nat} {A0 : Option Addr} {c0 : Nat} {f0 : List Int} {f1 : Int} {f2 : Int} (h : W.heap[g]? = some (.cells #[.slice A0 f0.length c0, .int .i64 f1, .int .i64 f2] 112 (0, 0))) : W.cell? ⟨g, 2, none⟩ = some (.int .i64 f2) := (blk_cell h 2).trans rfl
theorem IsS112.set_2 {w0 W : World} {g : Nat} {f0 : List Int} {f1 : Int} {f2 : Int} (h : IsS112 w0 W g f0 f1 f2) (x : Int) : IsS112 w0 (W.setCell ⟨g, 2, none⟩ (.int .i64 x)) g f0 f1 x := by
 obtain ⟨A0,c0,hb,hg,hr0⟩ := h
 exact ⟨A0,c0,by simpa using blk_set hb 2 (.int .i64 x),hg,hr0⟩
theorem IsS112.new (w0 W : World) (A0 : Option Addr) (c0 : Nat) (f0 : List Int) (f1 : Int) (f2 : Int) (hB : Below w0.heap.size w0 W) (hr0 : Kd.C (Kd.int .u8) w0 A0 f0.length f0) : IsS112 w0 (W.alloc (.cells #[.slice A0 f0.length c0, .int .i64 f1, .int .i64 f2] 112)) W.heap.size f0 f1 f2 := ⟨A0, c0, by simpa using heap_alloc_new W _, hB.size, hr0⟩

/-! ### spec_l1New: function 72 -/
def spec_l1New.l0 : Nat → List Int → Int → Int → Option (List Int × Int × Int)
  | 0, _, _, _ => none
  | k + 1, x0, x3, x4 => if x4 < (x0.length : Int) then (if 0 ≤ x4 then (spec_l1New.l0 k x0 (Go.bits .and .i64 (wrap64 ((wrap64 ((wrap64 (x3 * 137)) + (wrap64 (rd x0 x4)))) + 11)) 1073741823) (wrap64 (x4 + 1))) else (none)) else (some (x0, 0, x3))
def spec_l1New.f (k : Nat) (l0 : List Int) : Option (List Int × Int × Int) := spec_l1New.l0 k l0 (wrap64 (101027 + (l0.length : Int))) 0

set_option maxHeartbeats 8000000 in
set_option maxRecDepth 100000 in
theorem spec_l1New.calls (k : Nat) (A0 : Option Addr) (c0 : Nat) (l0 : List Int) (r1 : List Int) (r2 : Int) (r3 : Int) (w0 w : World) (hB : Below w0.heap.size w0 w) (hr0 : Kd.C (Kd.int .u8) w0 A0 l0.length l0) (hc0 : l0.length ≤ c0) (h : spec_l1New.f k l0 = some (r1, r2, r3)) :
    Calls Try.prog 72 #[.slice A0 l0.length c0] w fun e w' => ∃ g_ : Nat, e = .returned (.pointer (some ⟨g_, 0, none⟩)) ∧ IsS112 w0 w' g_ r1 r2 r3 ∧ Below w0.heap.size w0 w' ∧ Below w.heap.size w w' := by
 have hu112 := Try.underlying112
 have HR0 := Aside0.mk hr0
 have HC0 := Aside0.mk hc0
 clear hr0 hc0
 have HBW := Aside0.mk (Below.refl w.heap.size w)
 have HW0 := Aside0.mk hB.size
 have HB := Aside0.mk hB
 clear hB
 have H : (spec_l1New.l0 k l0 (wrap64 (101027 + (l0.length : Int))) 0) = some (r1,r2,r3) := h
 clear h
 have H' := Aside0.mk H
 clear H
 go_enter Try.func72,Try.ntmps72
 go_wp2
 go_loopg [3,4] k (fun kq v3 v4 w' => ∃ (x3_1 : Int) (x4_1 : Int),v3 = .int .i64 x3_1 ∧ v4 = .int .i64 x4_1 ∧ Aside0 (spec_l1New.l0 kq l0 x3_1 x4_1 = some (r1,r2,r3)) ∧ Aside0 (kq ≤ k) ∧ Aside0 (Below w0.heap.size w0 w') ∧ Aside0 (Below w.heap.size w w'))
 case atStart => exact ⟨(wrap64 (101027 + (l0.length : Int))),(0),(by first|rfl|(simp;done)|(simp [*];done)),(by first|rfl|(simp;done)|(simp [*];done)),H',⟨Nat.le_refl _⟩,⟨by repeat (first|(with_reducible first|exact HB.out|apply below_alloc|apply pw_below_drewN|apply below_drew1)|exact HB.out)⟩,⟨by repeat (first|(with_reducible first|exact HBW.out|apply below_alloc|apply pw_below_drewN|apply below_drew1)|exact HBW.out)⟩⟩
 case round =>
  clear H'
  obtain ⟨x3_1,x4_1,rfl,rfl,HA,HK1,HB,HBW⟩ := hrel
  cases gk with
    | zero => exact absurd HA.out (by simp [spec_l1New.l0])
    | succ k1 =>
   have H := HA.out
   clear HA
   simp only [spec_l1New.l0] at H
   by_cases c2 : x4_1 < (l0.length : Int)
   ·rw [if_pos c2] at H
    have c2b0 : decide (x4_1 < (l0.length : Int)) = true := decide_eq_true c2
    clear c2
    by_cases c3 : 0 ≤ x4_1
    ·rw [if_pos c3] at H
     have c3b0 : decide (0 ≤ x4_1) = true := decide_eq_true c3
     clear c3
     have H' := Aside0.mk H
     clear H
     have p207 : 0 ≤ (x4_1 : Int) := of_decide_eq_true (by first|(with_reducible assumption)|assumption)
     have q207 : x4_1 < (l0.length : Int) := of_decide_eq_true (by first|(with_reducible assumption)|assumption)
     obtain ⟨ad207,e207,hx207_0⟩ := Kd.at_int HR0.out x4_1 p207 q207
     cases e207
     replace hx207_0 := pw_cell_below HB.out hx207_0
     replace p207 := eq_true p207
     replace q207 := eq_true q207
     go_wp2
     go_roundg k1
     case measure => have := HK1.out;omega
     case rel => exact ⟨(Go.bits .and .i64 (wrap64 ((wrap64 ((wrap64 (x3_1 * 137)) + (wrap64 (rd l0 x4_1)))) + 11)) 1073741823),(wrap64 (x4_1 + 1)),(by first|rfl|(simp;done)|(simp [*];done)),(by first|rfl|(simp;done)|(simp [*];done)),H',⟨by have := HK1.out;omega⟩,⟨by repeat (first|(with_reducible first|exact HB.out|apply below_alloc|apply pw_below_drewN|apply below_drew1)|exact HB.out)⟩,⟨by repeat (first|(with_reducible first|exact HBW.out|apply below_alloc|apply pw_below_drewN|apply below_drew1)|exact HBW.out)⟩⟩
    ·rw [if_neg c3] at H
     exact absurd H (by simp)
   ·rw [if_neg c2] at H
    have c2b0 : decide (x4_1 < (l0.length : Int)) = false := decide_eq_false c2
    clear c2
    simp only [Option.some.injEq,Prod.mk.injEq] at H
    obtain ⟨rfl,rfl,rfl⟩ := H
    go_wp2_with (first|((with_reducible refine gate_dst (N := 27) rfl ?_);refine box_event ?hg (N := 27) ?hd (cs := #[.slice A0 l0.length c0,.int .i64 0,.int .i64 x3_1]) (t := 112) ?hr ?_;(case hd => rfl);(case hg => rfl);(case hr => first|(go_simp;done)|(go_simp;rfl));intro gb208 hg w4 hbox hb;have n0_ := Aside0.mk (below_step HBW.out hb);have n1_ := Aside0.mk (below_step (by repeat (first|(with_reducible first|exact HB.out|apply below_alloc|apply pw_below_drewN|apply below_drew1)|exact HB.out)) hb);have n2_ := Aside0.mk (hbox);have n3_ := Aside0.mk ((by rw [hg];exact (below_size (by repeat (first|(with_reducible first|exact HBW.out|apply below_alloc|apply pw_below_drewN|apply below_drew1)|exact HBW.out))) : w.heap.size ≤ gb208));have n4_ := Aside0.mk ((Nat.le_trans HW0.out (by rw [hg];exact (below_size (by repeat (first|(with_reducible first|exact HBW.out|apply below_alloc|apply pw_below_drewN|apply below_drew1)|exact HBW.out))) : w.heap.size ≤ gb208) : w0.heap.size ≤ gb208));clear HBW;clear HB;have HBW := n0_;have HB := n1_;have BK208 := n2_;have GW208 := n3_;have GE208 := n4_;clear n0_ n1_ n2_ n3_ n4_;clear hb hbox hg))
    go_ret
    exact ⟨_,rfl,(show IsS112 w0 _ gb208 l0 0 x3_1 from ⟨_,_,by (with_reducible repeat (first|refine blk_drewN ?_ _|refine blk_drew ?_|refine blk_alloc ?_ _));exact BK208.out,GE208.out,HR0.out⟩),by repeat (first|(with_reducible first|exact HB.out|apply below_alloc|apply pw_below_drewN|apply below_drew1|refine below_set ?_ GE208.out)|exact HB.out),by repeat (first|(with_reducible first|exact HBW.out|apply below_alloc|apply pw_below_drewN|apply below_drew1|refine below_set ?_ GW208.out)|exact HBW.out)⟩

/-! ### spec_l1Byte: function 111 -/
def spec_l1Byte.f (s0_0 : List Int) (s0_1 : Int) (s0_2 : Int) : Option (Int × Int × Int) := if s0_1 < (s0_0.length : Int) then (if 0 ≤ s0_1 then (some (Go.bits .and .i64 (wrap64 ((Go.bits .and .i64 (Go.bits .xor .i64 ((wrap64 ((wrap64 (s0_2 * 6364136223846793005)) + 1442695040888963407)) / 8589934592) ((wrap64 ((wrap64 (s0_2 * 6364136223846793005)) + 1442695040888963407)) / 35184372088832)) 255) + (wrap64 (rd s0_0 s0_1)))) 255, wrap64 (s0_1 + 1), wrap64 ((wrap64 (s0_2 * 6364136223846793005)) + 1442695040888963407))) else (none)) else (some (Go.bits .and .i64 (Go.bits .xor .i64 ((wrap64 ((wrap64 (s0_2 * 6364136223846793005)) + 1442695040888963407)) / 8589934592) ((wrap64 ((wrap64 (s0_2 * 6364136223846793005)) + 1442695040888963407)) / 35184372088832)) 255, s0_1, wrap64 ((wrap64 (s0_2 * 6364136223846793005)) + 1442695040888963407)))
set_option maxHeartbeats 8000000 in
set_option maxRecDepth 100000 in
theorem spec_l1Byte.calls (g : Nat) (s0_0 : List Int) (s0_1 : Int) (s0_2 : Int) (r1 : Int) (r2 : Int) (r3 : Int) (w0 w : World) (hI : IsS112 w0 w g s0_0 s0_1 s0_2) (hB : Below w0.heap.size w0 w) (h : spec_l1Byte.f s0_0 s0_1 s0_2 = some (r1, r2, r3)) :
    Calls Try.prog 111 #[.pointer (some ⟨g, 0, none⟩)] w fun e w' => e = .returned (.int .i64 r1) ∧ IsS112 w0 w' g s0_0 r2 r3 ∧ Below w0.heap.size w0 w' ∧ KeepBut w w' g none := by
 have HI0 := Aside0.mk hI
 have HK := Aside0.mk (KeepBut.refl w g none)
 have HL := Aside0.mk hB.size
 clear hI
 have HW0 := Aside0.mk hB.size
 have HB := Aside0.mk hB
 clear hB
 have H : (if s0_1 < (s0_0.length : Int) then (if 0 ≤ s0_1 then (some (Go.bits .and .i64 (wrap64 ((Go.bits .and .i64 (Go.bits .xor .i64 ((wrap64 ((wrap64 (s0_2 * 6364136223846793005)) + 1442695040888963407)) / 8589934592) ((wrap64 ((wrap64 (s0_2 * 6364136223846793005)) + 1442695040888963407)) / 35184372088832)) 255) + (wrap64 (rd s0_0 s0_1)))) 255,wrap64 (s0_1 + 1),wrap64 ((wrap64 (s0_2 * 6364136223846793005)) + 1442695040888963407))) else (none)) else (some (Go.bits .and .i64 (Go.bits .xor .i64 ((wrap64 ((wrap64 (s0_2 * 6364136223846793005)) + 1442695040888963407)) / 8589934592) ((wrap64 ((wrap64 (s0_2 * 6364136223846793005)) + 1442695040888963407)) / 35184372088832)) 255,s0_1,wrap64 ((wrap64 (s0_2 * 6364136223846793005)) + 1442695040888963407)))) = some (r1,r2,r3) := h
 clear h
 by_cases c2 : s0_1 < (s0_0.length : Int)
 ·rw [if_pos c2] at H
  have c2b0 : decide (s0_1 < (s0_0.length : Int)) = true := decide_eq_true c2
  clear c2
  by_cases c3 : 0 ≤ s0_1
  ·rw [if_pos c3] at H
   have c3b0 : decide (0 ≤ s0_1) = true := decide_eq_true c3
   clear c3
   simp only [Option.some.injEq,Prod.mk.injEq] at H
   obtain ⟨rfl,rfl,rfl⟩ := H
   obtain ⟨ASz4_0,cSz4_0,HGz4,hgz4,HSz4_0⟩ := HI0.out
   have hcz4_0 := cellS112_0 HGz4
   have hcz4_1 := cellS112_1 HGz4
   have hcz4_2 := cellS112_2 HGz4
   have hfz4_1 := blk_frozen HGz4 1
   have hfz4_2 := blk_frozen HGz4 2
   clear HGz4 hgz4
   have p209 : 0 ≤ (s0_1 : Int) := of_decide_eq_true (by first|(with_reducible assumption)|assumption)
   have q209 : s0_1 < (s0_0.length : Int) := of_decide_eq_true (by first|(with_reducible assumption)|assumption)
   obtain ⟨ad209,e209,hx209_0⟩ := Kd.at_int HSz4_0 s0_1 p209 q209
   cases e209
   have hn209_0 : ad209.block ≠ g := Nat.ne_of_lt (Nat.lt_of_lt_of_le (by have := World.block_lt_of_cell? _ _ hx209_0;first|rwa [add_block] at this|exact this) (IsS112.ge HI0.out))
   replace hx209_0 := pw_cell_below HB.out hx209_0
   replace hx209_0 := (cell_far (p := ⟨g,2,none⟩) (by first|(rw [add_block];exact hn209_0)|(show (Addr.add _ _).block ≠ _;rw [add_block];exact hn209_0)|exact hn209_0) (.int .i64 (wrap64 ((wrap64 (s0_2 * 6364136223846793005)) + 1442695040888963407)))).trans hx209_0
   (try have hy209_0 := fun (n_ : Nat) => (show (((w.drewN n_).setCell ⟨g,2,none⟩ (.int .i64 (wrap64 ((wrap64 (s0_2 * 6364136223846793005)) + 1442695040888963407))))).cell? _ = some _ from hx209_0))
   clear hn209_0
   replace p209 := eq_true p209
   replace q209 := eq_true q209
   go_enter Try.func111,Try.ntmps111
   go_wp2
   repeat (go_quiet (fail);try go_wp2)
   go_ret
   exact ⟨by first|rfl|(simp [errW_none,errW_some] <;> rfl)|(simp [*,errW_none,errW_some] <;> rfl),by repeat (first|(with_reducible first|exact HI0.out|apply IsS112.alloc|apply IsS112.drewN|apply IsS112.drew|apply IsS112.set_1|apply IsS112.set_2)|exact HI0.out),by repeat (first|(with_reducible first|exact HB.out|apply below_alloc|apply pw_below_drewN|apply below_drew1|refine below_set ?_ (IsS112.ge HI0.out))|exact HB.out),by repeat (first|(with_reducible first|exact HK.out|apply KeepBut.set_|apply keep_drewN|apply keep_drew|apply keep_alloc)|exact HK.out)⟩
  ·rw [if_neg c3] at H
   exact absurd H (by simp)
 ·rw [if_neg c2] at H
  have c2b0 : decide (s0_1 < (s0_0.length : Int)) = false := decide_eq_false c2
  clear c2
  simp only [Option.some.injEq,Prod.mk.injEq] at H
  obtain ⟨rfl,rfl,rfl⟩ := H
  obtain ⟨ASz5_0,cSz5_0,HGz5,hgz5,HSz5_0⟩ := HI0.out
  have hcz5_0 := cellS112_0 HGz5
  have hcz5_1 := cellS112_1 HGz5
  have hcz5_2 := cellS112_2 HGz5
  have hfz5_1 := blk_frozen HGz5 1
  have hfz5_2 := blk_frozen HGz5 2
  clear HGz5 hgz5
  go_enter Try.func111,Try.ntmps111
  go_wp2
  repeat (go_quiet (fail);try go_wp2)
  go_ret
  exact ⟨by first|rfl|(simp [errW_none,errW_some] <;> rfl)|(simp [*,errW_none,errW_some] <;> rfl),by repeat (first|(with_reducible first|exact HI0.out|apply IsS112.alloc|apply IsS112.drewN|apply IsS112.drew|apply IsS112.set_1|apply IsS112.set_2)|exact HI0.out),by repeat (first|(with_reducible first|exact HB.out|apply below_alloc|apply pw_below_drewN|apply below_drew1|refine below_set ?_ (IsS112.ge HI0.out))|exact HB.out),by repeat (first|(with_reducible first|exact HK.out|apply KeepBut.set_|apply keep_drewN|apply keep_drew|apply keep_alloc)|exact HK.out)⟩

/-! ### spec_l1Below: function 74 -/
def spec_l1Below.f (s0_0 : List Int) (s0_1 : Int) (s0_2 : Int) (a1 : Int) : Option (Int × Int × Int) := if a1 ≤ 0 then (some (0, s0_1, s0_2)) else (if a1 ≤ 256 then ((spec_l1Byte.f s0_0 s0_1 s0_2).bind fun bt210 => (if a1 = 0 then (none) else (some (Int.tmod bt210.1 a1, bt210.2.1, bt210.2.2)))) else ((spec_l1Byte.f s0_0 s0_1 s0_2).bind fun bt213 => ((spec_l1Byte.f s0_0 bt213.2.1 bt213.2.2).bind fun bt216 => ((spec_l1Byte.f s0_0 bt216.2.1 bt216.2.2).bind fun bt219 => ((spec_l1Byte.f s0_0 bt219.2.1 bt219.2.2).bind fun bt222 => (if a1 = 0 then (none) else (some (Int.tmod (wrap64 ((wrap64 ((wrap64 ((wrap64 (bt213.1 * 16777216)) + (wrap64 (bt216.1 * 65536)))) + (wrap64 (bt219.1 * 256)))) + bt222.1)) a1, bt222.2.1, bt222.2.2))))))))
set_option maxHeartbeats 8000000 in
set_option maxRecDepth 100000 in
theorem spec_l1Below.calls (g : Nat) (s0_0 : List Int) (s0_1 : Int) (s0_2 : Int) (a1 : Int) (r1 : Int) (r2 : Int) (r3 : Int) (w0 w : World) (hI : IsS112 w0 w g s0_0 s0_1 s0_2) (hB : Below w0.heap.size w0 w) (h : spec_l1Below.f s0_0 s0_1 s0_2 a1 = some (r1, r2, r3)) :
    Calls Try.prog 74 #[.pointer (some ⟨g, 0, none⟩), .int .i64 a1] w fun e w' => e = .returned (.int .i64 r1) ∧ IsS112 w0 w' g s0_0 r2 r3 ∧ Below w0.heap.size w0 w' ∧ KeepBut w w' g none := by
 have HI0 := Aside0.mk hI
 have HK := Aside0.mk (KeepBut.refl w g none)
 have HL := Aside0.mk hB.size
 clear hI
 have HW0 := Aside0.mk hB.size
 have HB := Aside0.mk hB
 clear hB
 have H : (if a1 ≤ 0 then (some (0,s0_1,s0_2)) else (if a1 ≤ 256 then ((spec_l1Byte.f s0_0 s0_1 s0_2).bind fun bt210 => (if a1 = 0 then (none) else (some (Int.tmod bt210.1 a1,bt210.2.1,bt210.2.2)))) else ((spec_l1Byte.f s0_0 s0_1 s0_2).bind fun bt213 => ((spec_l1Byte.f s0_0 bt213.2.1 bt213.2.2).bind fun bt216 => ((spec_l1Byte.f s0_0 bt216.2.1 bt216.2.2).bind fun bt219 => ((spec_l1Byte.f s0_0 bt219.2.1 bt219.2.2).bind fun bt222 => (if a1 = 0 then (none) else (some (Int.tmod (wrap64 ((wrap64 ((wrap64 ((wrap64 (bt213.1 * 16777216)) + (wrap64 (bt216.1 * 65536)))) + (wrap64 (bt219.1 * 256)))) + bt222.1)) a1,bt222.2.1,bt222.2.2))))))))) = some (r1,r2,r3) := h
 clear h
 by_cases c3 : a1 ≤ 0
 ·rw [if_pos c3] at H
  have c3b0 : decide (a1 ≤ 0) = true := decide_eq_true c3
  clear c3
  simp only [Option.some.injEq,Prod.mk.injEq] at H
  obtain ⟨rfl,rfl,rfl⟩ := H
  go_enter Try.func74,Try.ntmps74
  go_wp2
  go_ret
  exact ⟨by first|rfl|(simp [errW_none,errW_some] <;> rfl)|(simp [*,errW_none,errW_some] <;> rfl),by repeat (first|(with_reducible first|exact HI0.out|apply IsS112.alloc|apply IsS112.drewN|apply IsS112.drew|apply IsS112.set_1|apply IsS112.set_2)|exact HI0.out),by repeat (first|(with_reducible first|exact HB.out|apply below_alloc|apply pw_below_drewN|apply below_drew1|refine below_set ?_ (IsS112.ge HI0.out))|exact HB.out),by repeat (first|(with_reducible first|exact HK.out|apply KeepBut.set_|apply keep_drewN|apply keep_drew|apply keep_alloc)|exact HK.out)⟩
 ·rw [if_neg c3] at H
  have c3b0 : decide (a1 ≤ 0) = false := decide_eq_false c3
  clear c3
  by_cases c4 : a1 ≤ 256
  ·rw [if_pos c4] at H
   have c4b0 : decide (a1 ≤ 256) = true := decide_eq_true c4
   clear c4
   replace H := Option.bind_eq_some_iff.mp H
   obtain ⟨⟨t210,t211,t212⟩,A50,H⟩ := H
   replace H : (if a1 = 0 then (none) else (some (Int.tmod t210 a1,t211,t212))) = some (r1,r2,r3) := H
   have A5 := Aside0.mk A50
   clear A50
   by_cases c6 : a1 = 0
   ·rw [if_pos c6] at H
    exact absurd H (by simp)
   ·rw [if_neg c6] at H
    have c6b0 : (a1 == 0) = false := beq_eq_false_iff_ne.mpr c6
    have c6b1 : (a1 != 0) = true := bne_iff_ne.mpr c6
    simp only [Option.some.injEq,Prod.mk.injEq] at H
    obtain ⟨rfl,rfl,rfl⟩ := H
    go_enter Try.func74,Try.ntmps74
    go_wp2_with (first|((with_reducible refine gcal_ (f := 111) rfl ?_);refine goesL_ (some 14) rfl rfl Try.func111 (by kernel_rfl) rfl #[.pointer (some ⟨g,0,none⟩)] rfl (by (try simp only [List.map_toArray,List.map_cons,List.map_nil]);first|done|rfl|(simp only [List.length_drop,List.length_take];rfl)) ?_;(with_reducible refine (spec_l1Byte.calls g s0_0 s0_1 s0_2 t210 t211 t212 w0 _ ?side1 ?side2 A5.out).mono ?_);(case side1 => repeat (first|(with_reducible first|exact HI0.out|apply IsS112.alloc|apply IsS112.drewN|apply IsS112.drew|apply IsS112.set_1|apply IsS112.set_2)|exact HI0.out));(case side2 => repeat (first|(with_reducible first|exact HB.out|apply below_alloc|apply pw_below_drewN|apply below_drew1|refine below_set ?_ (IsS112.ge HI0.out))|exact HB.out));rintro e w7 ⟨rfl,hi,hb,hk⟩;refine ⟨_,rfl,?_⟩;have n0_ := Aside0.mk (KeepBut.trans (by repeat (first|(with_reducible first|exact HK.out|apply KeepBut.set_|apply keep_drewN|apply keep_drew|apply keep_alloc)|exact HK.out)) hk (.inl rfl));have n1_ := Aside0.mk (hb);have n2_ := Aside0.mk (hi);clear HK;clear HB;clear HI0;have HK := n0_;have HB := n1_;have HI0 := n2_;clear n0_ n1_ n2_;(try clear hb);(try clear hb2);(try clear hk);(try clear hi)))
    go_ret
    exact ⟨by first|rfl|(simp [errW_none,errW_some] <;> rfl)|(simp [*,errW_none,errW_some] <;> rfl),by repeat (first|(with_reducible first|exact HI0.out|apply IsS112.alloc|apply IsS112.drewN|apply IsS112.drew|apply IsS112.set_1|apply IsS112.set_2)|exact HI0.out),by repeat (first|(with_reducible first|exact HB.out|apply below_alloc|apply pw_below_drewN|apply below_drew1|refine below_set ?_ (IsS112.ge HI0.out))|exact HB.out),by repeat (first|(with_reducible first|exact HK.out|apply KeepBut.set_|apply keep_drewN|apply keep_drew|apply keep_alloc)|exact HK.out)⟩
  ·rw [if_neg c4] at H
   have c4b0 : decide (a1 ≤ 256) = false := decide_eq_false c4
   clear c4
   replace H := Option.bind_eq_some_iff.mp H
   obtain ⟨⟨t213,t214,t215⟩,A80,H⟩ := H
   replace H : ((spec_l1Byte.f s0_0 t214 t215).bind fun bt216 => ((spec_l1Byte.f s0_0 bt216.2.1 bt216.2.2).bind fun bt219 => ((spec_l1Byte.f s0_0 bt219.2.1 bt219.2.2).bind fun bt222 => (if a1 = 0 then (none) else (some (Int.tmod (wrap64 ((wrap64 ((wrap64 ((wrap64 (t213 * 16777216)) + (wrap64 (bt216.1 * 65536)))) + (wrap64 (bt219.1 * 256)))) + bt222.1)) a1,bt222.2.1,bt222.2.2)))))) = some (r1,r2,r3) := H
   have A8 := Aside0.mk A80
   clear A80
   replace H := Option.bind_eq_some_iff.mp H
   obtain ⟨⟨t216,t217,t218⟩,A90,H⟩ := H
   replace H : ((spec_l1Byte.f s0_0 t217 t218).bind fun bt219 => ((spec_l1Byte.f s0_0 bt219.2.1 bt219.2.2).bind fun bt222 => (if a1 = 0 then (none) else (some (Int.tmod (wrap64 ((wrap64 ((wrap64 ((wrap64 (t213 * 16777216)) + (wrap64 (t216 * 65536)))) + (wrap64 (bt219.1 * 256)))) + bt222.1)) a1,bt222.2.1,bt222.2.2))))) = some (r1,r2,r3) := H
   have A9 := Aside0.mk A90
   clear A90
   replace H := Option.bind_eq_some_iff.mp H
   obtain ⟨⟨t219,t220,t221⟩,A100,H⟩ := H
   replace H : ((spec_l1Byte.f s0_0 t220 t221).bind fun bt222 => (if a1 = 0 then (none) else (some (Int.tmod (wrap64 ((wrap64 ((wrap64 ((wrap64 (t213 * 16777216)) + (wrap64 (t216 * 65536)))) + (wrap64 (t219 * 256)))) + bt222.1)) a1,bt222.2.1,bt222.2.2)))) = some (r1,r2,r3) := H
   have A10 := Aside0.mk A100
   clear A100
   replace H := Option.bind_eq_some_iff.mp H
   obtain ⟨⟨t222,t223,t224⟩,A110,H⟩ := H
   replace H : (if a1 = 0 then (none) else (some (Int.tmod (wrap64 ((wrap64 ((wrap64 ((wrap64 (t213 * 16777216)) + (wrap64 (t216 * 65536)))) + (wrap64 (t219 * 256)))) + t222)) a1,t223,t224))) = some (r1,r2,r3) := H
   have A11 := Aside0.mk A110
   clear A110
   by_cases c12 : a1 = 0
   ·rw [if_pos c12] at H
    exact absurd H (by simp)
   ·rw [if_neg c12] at H
    have c12b0 : (a1 == 0) = false := beq_eq_false_iff_ne.mpr c12
    have c12b1 : (a1 != 0) = true := bne_iff_ne.mpr c12
    simp only [Option.some.injEq,Prod.mk.injEq] at H
    obtain ⟨rfl,rfl,rfl⟩ := H
    go_enter Try.func74,Try.ntmps74
    go_wp2_with (first|((with_reducible refine gcal_ (f := 111) rfl ?_);refine goesL_ (some 18) rfl rfl Try.func111 (by kernel_rfl) rfl #[.pointer (some ⟨g,0,none⟩)] rfl (by (try simp only [List.map_toArray,List.map_cons,List.map_nil]);first|done|rfl|(simp only [List.length_drop,List.length_take];rfl)) ?_;(with_reducible refine (spec_l1Byte.calls g s0_0 s0_1 s0_2 t213 t214 t215 w0 _ ?side1 ?side2 A8.out).mono ?_);(case side1 => repeat (first|(with_reducible first|exact HI0.out|apply IsS112.alloc|apply IsS112.drewN|apply IsS112.drew|apply IsS112.set_1|apply IsS112.set_2)|exact HI0.out));(case side2 => repeat (first|(with_reducible first|exact HB.out|apply below_alloc|apply pw_below_drewN|apply below_drew1|refine below_set ?_ (IsS112.ge HI0.out))|exact HB.out));rintro e w13 ⟨rfl,hi,hb,hk⟩;refine ⟨_,rfl,?_⟩;have n0_ := Aside0.mk (KeepBut.trans (by repeat (first|(with_reducible first|exact HK.out|apply KeepBut.set_|apply keep_drewN|apply keep_drew|apply keep_alloc)|exact HK.out)) hk (.inl rfl));have n1_ := Aside0.mk (hb);have n2_ := Aside0.mk (hi);clear HK;clear HB;clear HI0;have HK := n0_;have HB := n1_;have HI0 := n2_;clear n0_ n1_ n2_;(try clear hb);(try clear hb2);(try clear hk);(try clear hi))|((with_reducible refine gcal_ (f := 111) rfl ?_);refine goesL_ (some 20) rfl rfl Try.func111 (by kernel_rfl) rfl #[.pointer (some ⟨g,0,none⟩)] rfl (by (try simp only [List.map_toArray,List.map_cons,List.map_nil]);first|done|rfl|(simp only [List.length_drop,List.length_take];rfl)) ?_;(with_reducible refine (spec_l1Byte.calls g s0_0 t214 t215 t216 t217 t218 w0 _ ?side1 ?side2 A9.out).mono ?_);(case side1 => repeat (first|(with_reducible first|exact HI0.out|apply IsS112.alloc|apply IsS112.drewN|apply IsS112.drew|apply IsS112.set_1|apply IsS112.set_2)|exact HI0.out));(case side2 => repeat (first|(with_reducible first|exact HB.out|apply below_alloc|apply pw_below_drewN|apply below_drew1|refine below_set ?_ (IsS112.ge HI0.out))|exact HB.out));rintro e w14 ⟨rfl,hi,hb,hk⟩;refine ⟨_,rfl,?_⟩;have n0_ := Aside0.mk (KeepBut.trans (by repeat (first|(with_reducible first|exact HK.out|apply KeepBut.set_|apply keep_drewN|apply keep_drew|apply keep_alloc)|exact HK.out)) hk (.inl rfl));have n1_ := Aside0.mk (hb);have n2_ := Aside0.mk (hi);clear HK;clear HB;clear HI0;have HK := n0_;have HB := n1_;have HI0 := n2_;clear n0_ n1_ n2_;(try clear hb);(try clear hb2);(try clear hk);(try clear hi))|((with_reducible refine gcal_ (f := 111) rfl ?_);refine goesL_ (some 22) rfl rfl Try.func111 (by kernel_rfl) rfl #[.pointer (some ⟨g,0,none⟩)] rfl (by (try simp only [List.map_toArray,List.map_cons,List.map_nil]);first|done|rfl|(simp only [List.length_drop,List.length_take];rfl)) ?_;(with_reducible refine (spec_l1Byte.calls g s0_0 t217 t218 t219 t220 t221 w0 _ ?side1 ?side2 A10.out).mono ?_);(case side1 => repeat (first|(with_reducible first|exact HI0.out|apply IsS112.alloc|apply IsS112.drewN|apply IsS112.drew|apply IsS112.set_1|apply IsS112.set_2)|exact HI0.out));(case side2 => repeat (first|(with_reducible first|exact HB.out|apply below_alloc|apply pw_below_drewN|apply below_drew1|refine below_set ?_ (IsS112.ge HI0.out))|exact HB.out));rintro e w15 ⟨rfl,hi,hb,hk⟩;refine ⟨_,rfl,?_⟩;have n0_ := Aside0.mk (KeepBut.trans (by repeat (first|(with_reducible first|exact HK.out|apply KeepBut.set_|apply keep_drewN|apply keep_drew|apply keep_alloc)|exact HK.out)) hk (.inl rfl));have n1_ := Aside0.mk (hb);have n2_ := Aside0.mk (hi);clear HK;clear HB;clear HI0;have HK := n0_;have HB := n1_;have HI0 := n2_;clear n0_ n1_ n2_;(try clear hb);(try clear hb2);(try clear hk);(try clear hi))|((with_reducible refine gcal_ (f := 111) rfl ?_);refine goesL_ (some 24) rfl rfl Try.func111 (by kernel_rfl) rfl #[.pointer (some ⟨g,0,none⟩)] rfl (by (try simp only [List.map_toArray,List.map_cons,List.map_nil]);first|done|rfl|(simp only [List.length_drop,List.length_take];rfl)) ?_;(with_reducible refine (spec_l1Byte.calls g s0_0 t220 t221 t222 t223 t224 w0 _ ?side1 ?side2 A11.out).mono ?_);(case side1 => repeat (first|(with_reducible first|exact HI0.out|apply IsS112.alloc|apply IsS112.drewN|apply IsS112.drew|apply IsS112.set_1|apply IsS112.set_2)|exact HI0.out));(case side2 => repeat (first|(with_reducible first|exact HB.out|apply below_alloc|apply pw_below_drewN|apply below_drew1|refine below_set ?_ (IsS112.ge HI0.out))|exact HB.out));rintro e w16 ⟨rfl,hi,hb,hk⟩;refine ⟨_,rfl,?_⟩;have n0_ := Aside0.mk (KeepBut.trans (by repeat (first|(with_reducible first|exact HK.out|apply KeepBut.set_|apply keep_drewN|apply keep_drew|apply keep_alloc)|exact HK.out)) hk (.inl rfl));have n1_ := Aside0.mk (hb);have n2_ := Aside0.mk (hi);clear HK;clear HB;clear HI0;have HK := n0_;have HB := n1_;have HI0 := n2_;clear n0_ n1_ n2_;(try clear hb);(try clear hb2);(try clear hk);(try clear hi)))
    go_ret
    exact ⟨by first|rfl|(simp [errW_none,errW_some] <;> rfl)|(simp [*,errW_none,errW_some] <;> rfl),by repeat (first|(with_reducible first|exact HI0.out|apply IsS112.alloc|apply IsS112.drewN|apply IsS112.drew|apply IsS112.set_1|apply IsS112.set_2)|exact HI0.out),by repeat (first|(with_reducible first|exact HB.out|apply below_alloc|apply pw_below_drewN|apply below_drew1|refine below_set ?_ (IsS112.ge HI0.out))|exact HB.out),by repeat (first|(with_reducible first|exact HK.out|apply KeepBut.set_|apply keep_drewN|apply keep_drew|apply keep_alloc)|exact HK.out)⟩

/-! ### spec_l1Once: function 88 -/
def spec_l1Once.f (s0_0 : List Int) (s0_1 : Int) (s0_2 : Int) (a1 : Int) : Option (Bool × Int × Int) := (spec_l1Below.f s0_0 s0_1 s0_2 a1).bind fun bt225 => (some ((bt225.1 == 0), bt225.2.1, bt225.2.2))
set_option maxHeartbeats 8000000 in
set_option maxRecDepth 100000 in
theorem spec_l1Once.calls (g : Nat) (s0_0 : List Int) (s0_1 : Int) (s0_2 : Int) (a1 : Int) (r1 : Bool) (r2 : Int) (r3 : Int) (w0 w : World) (hI : IsS112 w0 w g s0_0 s0_1 s0_2) (hB : Below w0.heap.size w0 w) (h : spec_l1Once.f s0_0 s0_1 s0_2 a1 = some (r1, r2, r3)) :
    Calls Try.prog 88 #[.pointer (some ⟨g, 0, none⟩), .int .i64 a1] w fun e w' => e = .returned (.bool r1) ∧ IsS112 w0 w' g s0_0 r2 r3 ∧ Below w0.heap.size w0 w' ∧ KeepBut w w' g none := by
 have HI0 := Aside0.mk hI
 have HK := Aside0.mk (KeepBut.refl w g none)
 have HL := Aside0.mk hB.size
 clear hI
 have HW0 := Aside0.mk hB.size
 have HB := Aside0.mk hB
 clear hB
 have H : ((spec_l1Below.f s0_0 s0_1 s0_2 a1).bind fun bt225 => (some ((bt225.1 == 0),bt225.2.1,bt225.2.2))) = some (r1,r2,r3) := h
 clear h
 replace H := Option.bind_eq_some_iff.mp H
 obtain ⟨⟨t225,t226,t227⟩,A30,H⟩ := H
 replace H : (some ((t225 == 0),t226,t227)) = some (r1,r2,r3) := H
 have A3 := Aside0.mk A30
 clear A30
 simp only [Option.some.injEq,Prod.mk.injEq] at H
 obtain ⟨rfl,rfl,rfl⟩ := H
 go_enter Try.func88,Try.ntmps88
 go_wp2_with (first|((with_reducible refine gcal_ (f := 74) rfl ?_);refine goesL_ (some 7) rfl rfl Try.func74 (by kernel_rfl) rfl #[.pointer (some ⟨g,0,none⟩),.int .i64 a1] rfl (by (try simp only [List.map_toArray,List.map_cons,List.map_nil]);first|done|rfl|(simp only [List.length_drop,List.length_take];rfl)) ?_;(with_reducible refine (spec_l1Below.calls g s0_0 s0_1 s0_2 a1 t225 t226 t227 w0 _ ?side1 ?side2 A3.out).mono ?_);(case side1 => repeat (first|(with_reducible first|exact HI0.out|apply IsS112.alloc|apply IsS112.drewN|apply IsS112.drew|apply IsS112.set_1|apply IsS112.set_2)|exact HI0.out));(case side2 => repeat (first|(with_reducible first|exact HB.out|apply below_alloc|apply pw_below_drewN|apply below_drew1|refine below_set ?_ (IsS112.ge HI0.out))|exact HB.out));rintro e w4 ⟨rfl,hi,hb,hk⟩;refine ⟨_,rfl,?_⟩;have n0_ := Aside0.mk (KeepBut.trans (by repeat (first|(with_reducible first|exact HK.out|apply KeepBut.set_|apply keep_drewN|apply keep_drew|apply keep_alloc)|exact HK.out)) hk (.inl rfl));have n1_ := Aside0.mk (hb);have n2_ := Aside0.mk (hi);clear HK;clear HB;clear HI0;have HK := n0_;have HB := n1_;have HI0 := n2_;clear n0_ n1_ n2_;(try clear hb);(try clear hb2);(try clear hk);(try clear hi)))
 go_ret
 exact ⟨by first|rfl|(simp [errW_none,errW_some] <;> rfl)|(simp [*,errW_none,errW_some] <;> rfl),by repeat (first|(with_reducible first|exact HI0.out|apply IsS112.alloc|apply IsS112.drewN|apply IsS112.drew|apply IsS112.set_1|apply IsS112.set_2)|exact HI0.out),by repeat (first|(with_reducible first|exact HB.out|apply below_alloc|apply pw_below_drewN|apply below_drew1|refine below_set ?_ (IsS112.ge HI0.out))|exact HB.out),by repeat (first|(with_reducible first|exact HK.out|apply KeepBut.set_|apply keep_drewN|apply keep_drew|apply keep_alloc)|exact HK.out)⟩

/-! ### spec_l1From: function 99 -/
def spec_l1From.f (s0_0 : List Int) (s0_1 : Int) (s0_2 : Int) (a1 : Int) (a2 : Int) : Option (Int × Int × Int) := (spec_l1Below.f s0_0 s0_1 s0_2 (wrap64 ((wrap64 (a2 - a1)) + 1))).bind fun bt228 => (some (wrap64 (a1 + bt228.1), bt228.2.1, bt228.2.2))
set_option maxHeartbeats 8000000 in
set_option maxRecDepth 100000 in
theorem spec_l1From.calls (g : Nat) (s0_0 : List Int) (s0_1 : Int) (s0_2 : Int) (a1 : Int) (a2 : Int) (r1 : Int) (r2 : Int) (r3 : Int) (w0 w : World) (hI : IsS112 w0 w g s0_0 s0_1 s0_2) (hB : Below w0.heap.size w0 w) (h : spec_l1From.f s0_0 s0_1 s0_2 a1 a2 = some (r1, r2, r3)) :
    Calls Try.prog 99 #[.pointer (some ⟨g, 0, none⟩), .int .i64 a1, .int .i64 a2] w fun e w' => e = .returned (.int .i64 r1) ∧ IsS112 w0 w' g s0_0 r2 r3 ∧ Below w0.heap.size w0 w' ∧ KeepBut w w' g none := by
 have HI0 := Aside0.mk hI
 have HK := Aside0.mk (KeepBut.refl w g none)
 have HL := Aside0.mk hB.size
 clear hI
 have HW0 := Aside0.mk hB.size
 have HB := Aside0.mk hB
 clear hB
 have H : ((spec_l1Below.f s0_0 s0_1 s0_2 (wrap64 ((wrap64 (a2 - a1)) + 1))).bind fun bt228 => (some (wrap64 (a1 + bt228.1),bt228.2.1,bt228.2.2))) = some (r1,r2,r3) := h
 clear h
 replace H := Option.bind_eq_some_iff.mp H
 obtain ⟨⟨t228,t229,t230⟩,A40,H⟩ := H
 replace H : (some (wrap64 (a1 + t228),t229,t230)) = some (r1,r2,r3) := H
 have A4 := Aside0.mk A40
 clear A40
 simp only [Option.some.injEq,Prod.mk.injEq] at H
 obtain ⟨rfl,rfl,rfl⟩ := H
 go_enter Try.func99,Try.ntmps99
 go_wp2_with (first|((with_reducible refine gcal_ (f := 74) rfl ?_);refine goesL_ (some 13) rfl rfl Try.func74 (by kernel_rfl) rfl #[.pointer (some ⟨g,0,none⟩),.int .i64 (wrap64 ((wrap64 (a2 - a1)) + 1))] rfl (by (try simp only [List.map_toArray,List.map_cons,List.map_nil]);first|done|rfl|(simp only [List.length_drop,List.length_take];rfl)) ?_;(with_reducible refine (spec_l1Below.calls g s0_0 s0_1 s0_2 (wrap64 ((wrap64 (a2 - a1)) + 1)) t228 t229 t230 w0 _ ?side1 ?side2 A4.out).mono ?_);(case side1 => repeat (first|(with_reducible first|exact HI0.out|apply IsS112.alloc|apply IsS112.drewN|apply IsS112.drew|apply IsS112.set_1|apply IsS112.set_2)|exact HI0.out));(case side2 => repeat (first|(with_reducible first|exact HB.out|apply below_alloc|apply pw_below_drewN|apply below_drew1|refine below_set ?_ (IsS112.ge HI0.out))|exact HB.out));rintro e w5 ⟨rfl,hi,hb,hk⟩;refine ⟨_,rfl,?_⟩;have n0_ := Aside0.mk (KeepBut.trans (by repeat (first|(with_reducible first|exact HK.out|apply KeepBut.set_|apply keep_drewN|apply keep_drew|apply keep_alloc)|exact HK.out)) hk (.inl rfl));have n1_ := Aside0.mk (hb);have n2_ := Aside0.mk (hi);clear HK;clear HB;clear HI0;have HK := n0_;have HB := n1_;have HI0 := n2_;clear n0_ n1_ n2_;(try clear hb);(try clear hb2);(try clear hk);(try clear hi)))
 go_ret
 exact ⟨by first|rfl|(simp [errW_none,errW_some] <;> rfl)|(simp [*,errW_none,errW_some] <;> rfl),by repeat (first|(with_reducible first|exact HI0.out|apply IsS112.alloc|apply IsS112.drewN|apply IsS112.drew|apply IsS112.set_1|apply IsS112.set_2)|exact HI0.out),by repeat (first|(with_reducible first|exact HB.out|apply below_alloc|apply pw_below_drewN|apply below_drew1|refine below_set ?_ (IsS112.ge HI0.out))|exact HB.out),by repeat (first|(with_reducible first|exact HK.out|apply KeepBut.set_|apply keep_drewN|apply keep_drew|apply keep_alloc)|exact HK.out)⟩

/-! ### spec_l1Head: function 114 -/
def spec_l1Head.f (a0 : Int) (a1 : Bool) (a2 : Bool) : Option (Int) := if a1 = true then (if a2 = true then (some (wrap64 ((wrap64 ((wrap64 (4 * a0)) + 2)) + 1))) else (some (wrap64 ((wrap64 (4 * a0)) + 2)))) else (if a2 = true then (some (wrap64 ((wrap64 (4 * a0)) + 1))) else (some (wrap64 (4 * a0))))
set_option maxHeartbeats 8000000 in
set_option maxRecDepth 100000 in
theorem spec_l1Head.calls (a0 : Int) (a1 : Bool) (a2 : Bool) (r : Int) (w : World) (h : spec_l1Head.f a0 a1 a2 = some r) :
    Calls Try.prog 114 #[.int .i64 a0, .bool a1, .bool a2] w fun e w' => e = .returned (.int .i64 r) ∧ Drawn0 w w' := by
 have H : (if a1 = true then (if a2 = true then (some (wrap64 ((wrap64 ((wrap64 (4 * a0)) + 2)) + 1))) else (some (wrap64 ((wrap64 (4 * a0)) + 2)))) else (if a2 = true then (some (wrap64 ((wrap64 (4 * a0)) + 1))) else (some (wrap64 (4 * a0))))) = some r := h
 clear h
 by_cases c4 : a1 = true
 ·subst c4
  have H1 : (if a2 = true then (some (wrap64 ((wrap64 ((wrap64 (4 * a0)) + 2)) + 1))) else (some (wrap64 ((wrap64 (4 * a0)) + 2)))) = some r := by rw [if_pos rfl] at H;exact H
  clear H
  have H := H1
  clear H1
  by_cases c5 : a2 = true
  ·subst c5
   have H1 : (some (wrap64 ((wrap64 ((wrap64 (4 * a0)) + 2)) + 1))) = some r := by rw [if_pos rfl] at H;exact H
   clear H
   have H := H1
   clear H1
   obtain rfl := Option.some.inj H
   go_enter Try.func114,Try.ntmps114
   go_wp2
   go_ret
   exact ⟨by first|rfl|(simp;done)|(simp [*];done),by repeat (first|exact Drawn0.refl _|apply Drawn0.step)⟩
  ·replace c5 := Bool.eq_false_iff.mpr c5
   subst c5
   have H1 : (some (wrap64 ((wrap64 (4 * a0)) + 2))) = some r := by rw [if_neg (show ¬ (false = true) by decide)] at H;exact H
   clear H
   have H := H1
   clear H1
   obtain rfl := Option.some.inj H
   go_enter Try.func114,Try.ntmps114
   go_wp2
   go_ret
   exact ⟨by first|rfl|(simp;done)|(simp [*];done),by repeat (first|exact Drawn0.refl _|apply Drawn0.step)⟩
 ·replace c4 := Bool.eq_false_iff.mpr c4
  subst c4
  have H1 : (if a2 = true then (some (wrap64 ((wrap64 (4 * a0)) + 1))) else (some (wrap64 (4 * a0)))) = some r := by rw [if_neg (show ¬ (false = true) by decide)] at H;exact H
  clear H
  have H := H1
  clear H1
  by_cases c6 : a2 = true
  ·subst c6
   have H1 : (some (wrap64 ((wrap64 (4 * a0)) + 1))) = some r := by rw [if_pos rfl] at H;exact H
   clear H
   have H := H1
   clear H1
   obtain rfl := Option.some.inj H
   go_enter Try.func114,Try.ntmps114
   go_wp2
   go_ret
   exact ⟨by first|rfl|(simp;done)|(simp [*];done),by repeat (first|exact Drawn0.refl _|apply Drawn0.step)⟩
  ·replace c6 := Bool.eq_false_iff.mpr c6
   subst c6
   have H1 : (some (wrap64 (4 * a0))) = some r := by rw [if_neg (show ¬ (false = true) by decide)] at H;exact H
   clear H
   have H := H1
   clear H1
   obtain rfl := Option.some.inj H
   go_enter Try.func114,Try.ntmps114
   go_wp2
   go_ret
   exact ⟨by first|rfl|(simp;done)|(simp [*];done),by repeat (first|exact Drawn0.refl _|apply Drawn0.step)⟩

/-! ### spec_NewCells: function 129 -/
def spec_NewCells.f  : Option ((List (S30))) := if 6 ≤ 17592186044416 then (some (List.replicate 6 z30)) else (none)
set_option maxHeartbeats 8000000 in
set_option maxRecDepth 100000 in
theorem spec_NewCells.calls  (r : List (S30)) (w : World) (h : spec_NewCells.f  = some r) :
    Calls Try.prog 129 #[] w fun e w' => ∃ v0_ : Value, e = .returned (v0_) ∧ Kd.R k30 30 w' w.heap.size (fun _ => True) v0_ r ∧ Below w.heap.size w w' := by
 have HB := Aside0.mk (Below.refl w.heap.size w)
 have H : (if 6 ≤ 17592186044416 then (some (List.replicate 6 z30)) else (none)) = some r := h
 clear h
 by_cases c1 : 6 ≤ 17592186044416
 ·rw [if_pos c1] at H
  have c1b0 := eq_true c1
  have c1b1 : decide (6 ≤ 17592186044416) = true := decide_eq_true c1
  clear c1
  obtain ⟨y231,hy231⟩ : ∃ y_ : List (S30),y_ = (List.replicate 6 z30) := ⟨_,rfl⟩
  replace H : (some y231) = some r := by first|(rw [hy231];with_reducible exact H)|(have H2_ := (Option.bind_some _ _).symm.trans H;rw [hy231];with_reducible exact H2_)|(have H2_ := (Option.bind_some _ _).symm.trans H;with_reducible exact H2_)|with_reducible exact H|(rw [hy231];exact H)|exact H
  have Ny231 := Aside0.mk hy231
  clear hy231
  obtain rfl := Option.some.inj H
  go_enter Try.func129,Try.ntmps129
  go_wp2_with (first|((with_reducible refine gate_dst (N := 1) rfl ?_);refine Kd.R_make k30 _ 30 rfl (N := 1) rfl 25 _ _ rfl 6 rfl rfl Try.underlying25 (.agg #[(.int .i64 0),(.int .i64 0)]) 16 info30 rfl (by decide) (by omega) z30 (ok := fun _ => True) (okp := fun _ => True) (k30_mkM _ _ _ z30 ) (fun _ hk => hk) trivial (by omega) (by omega) (Below.refl _ _) (Nat.le_refl _) ?_;intro v232 w2 ho3 hb hg_ hnew_;clear hg_ hnew_;(first|rw [← Ny231.out] at ho3|(simp only [Int.reduceToNat] at ho3;rw [← Ny231.out] at ho3));have n0_ := Aside0.mk (Kd.R_lower ho3 (below_size (by repeat (first|(with_reducible first|exact HB.out|apply below_alloc|apply pw_below_drewN|apply below_drew1)|exact HB.out))));have n1_ := Aside0.mk (below_step (by repeat (first|(with_reducible first|exact HB.out|apply below_alloc|apply pw_below_drewN|apply below_drew1)|exact HB.out)) hb);clear HB;have HO233 := n0_;have HB := n1_;clear n0_ n1_;clear hb ho3))
  go_ret
  exact ⟨_,by first|rfl|(simp [errW_none,errW_some] <;> rfl)|(simp [*,errW_none,errW_some] <;> rfl),by (with_reducible repeat (first|apply Kd.R_alloc|apply Kd.R_drewN|apply Kd.R_drew));exact HO233.out,by repeat (first|(with_reducible first|exact HB.out|apply below_alloc|apply pw_below_drewN|apply below_drew1)|exact HB.out)⟩
 ·rw [if_neg c1] at H
  exact absurd H (by simp)

end Go.Proofs.Ytgdfbjmjgegicaa.XLs
