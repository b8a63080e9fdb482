/- Proved: of each Go function here that a call comes to what the Lean function of its name tells. Written by a program of this session over the translation. No conditions beyond each theorem's own. -/
import Derived.Test.YtgdfbjmjgegicaaXIs0
import Derived.Test.YtgdfbjmjgegicaaXIs4
namespace Go.Proofs.Ytgdfbjmjgegicaa.XIs
open Go.RowKit Go.Proofs.Ytgdfbjmjgegicaa.Aid Go.Proofs.YtgdfbjmjgegicaaW.PrintWords Go.Proofs.YtgdfbjmjgegicaaW.PrintLast Go.Proofs.YtgdfbjmjgegicaaW.PrintMore
set_option linter.unusedVariables false
set_option linter.unusedSimpArgs false

/-! ### spec_l3Install: function 86 -/
def spec_l3Install.l0 : Nat → List (S30) → List (S59) → Int → Option ((List (S30)))
  | 0, _, _, _ => none
  | k + 1, x0, x1, x4 => if x4 < (x1.length : Int) then (if 0 ≤ x4 then (if 0 ≤ ((rd_T59 x1 x4).f1) then (if ((rd_T59 x1 x4).f1) < (x0.length : Int) then ((spec_Version.f ((rd_T30 x0 ((rd_T59 x1 x4).f1)).f0)).bind fun t141 => (if t141 > ((rd_T59 x1 x4).f4) then (spec_l3Install.l0 k x0 x1 (wrap64 (x4 + 1))) else (if ((rd_T59 x1 x4).f3 = true) then ((spec_l1Head.f (wrap64 (((rd_T59 x1 x4).f4) + 1)) ((rd_T59 x1 x4).f3) false).bind fun t142 => (spec_l3Install.l0 k (x0.set (((rd_T59 x1 x4).f1) : Int).toNat (⟨t142, (rd_T59 x1 x4).f2⟩ : S30)) x1 (wrap64 (x4 + 1)))) else ((spec_l1Head.f (wrap64 (((rd_T59 x1 x4).f4) + 1)) ((rd_T59 x1 x4).f3) false).bind fun t144 => (spec_l3Install.l0 k (x0.set (((rd_T59 x1 x4).f1) : Int).toNat (⟨t144, 0⟩ : S30)) x1 (wrap64 (x4 + 1))))))) else (none)) else (none)) else (none)) else (some x0)
def spec_l3Install.f (k : Nat) (l0 : List (S30)) (l1 : List (S59)) : Option ((List (S30))) := spec_l3Install.l0 k l0 l1 0

def spec_l3Install.T4 : Bool × List (List Nat × List Nat) := (true, [([], []), ([], []), ([1], [1]), ([0, 2], [0, 2]), ([3], [3]), ([4], [4]), ([5], [5]), ([], []), ([7], [7]), ([6, 8], [6, 8])])
def spec_l3Install.B4 : List Nat := [0, 0, 2, 7, 15, 31, 63, 0, 128, 511]
theorem spec_l3Install.tab4 : rtab .any (opsOf Try.f86 4) = spec_l3Install.T4 := by kernel_rfl
theorem spec_l3Install.bits4 : waitsOk spec_l3Install.T4.2 spec_l3Install.B4 = true := by kernel_rfl
def spec_l3Install.T8 : Bool × List (List Nat × List Nat) := (true, [([], []), ([], []), ([1], [1]), ([], []), ([3], [3]), ([4], [4]), ([], []), ([6], [6]), ([5, 7], [5, 7]), ([], []), ([8, 9], [8, 9]), ([0, 2, 0, 1, 2, 3, 4, 5, 6, 7, 8, 9, 10], [0, 2]), ([11, 10, 8, 0, 1, 2, 3, 4, 5, 6, 7, 8, 9, 10], [10, 11])])
def spec_l3Install.B8 : List Nat := [0, 0, 2, 0, 8, 24, 0, 64, 248, 0, 1016, 2047, 4095]
theorem spec_l3Install.tab8 : rtab .any (opsOf Try.f86 8) = spec_l3Install.T8 := by kernel_rfl
theorem spec_l3Install.bits8 : waitsOk spec_l3Install.T8.2 spec_l3Install.B8 = true := by kernel_rfl
set_option maxHeartbeats 8000000 in
set_option maxRecDepth 100000 in
theorem spec_l3Install.calls (k : Nat) (P0_ : Nat → Prop) (u9000_ : Value) (l0 : List (S30)) (A1 : Option Addr) (c1 : Nat) (l1 : List (S59)) (r : List (S30)) (w0 w : World) (hB : Below w0.heap.size w0 w) (ho0 : Kd.R k30 30 w w0.heap.size P0_ u9000_ l0) (hr1 : ∀ W_, Kept w W_ (fun k_ => P0_ k_) → Kd.C k59 W_ A1 l1.length l1) (hc1 : l1.length ≤ c1) (h : spec_l3Install.f k l0 l1 = some r) :
    Calls Try.prog 86 #[u9000_, .slice A1 l1.length c1] w fun e w' => e = .returned (.tuple #[]) ∧ Kd.R k30 30 w' w0.heap.size (fun k_ => (P0_ k_ ∨ w.heap.size ≤ k_)) u9000_ r ∧ Below w0.heap.size w0 w' ∧ Kept w w' (fun k_ => P0_ k_) := by
 have hu59 := Try.underlying59
 have hu30 := Try.underlying30
 have HO0 := Aside0.mk (show Kd.R k30 30 w w0.heap.size (fun k_ => (P0_ k_ ∨ w.heap.size ≤ k_)) u9000_ l0 from Kd.R_mono ho0 (fun k_ hk => (.inl hk)))
 have HR1 := Aside0.mk hr1
 have HC1 := Aside0.mk hc1
 clear hr1 hc1
 have HK := Aside0.mk (Kept.refl w (fun k_ => P0_ k_))
 have HW0 := Aside0.mk hB.size
 have HB := Aside0.mk hB
 clear hB
 have H : (spec_l3Install.l0 k l0 l1 0) = some r := h
 clear h
 have H' := Aside0.mk H
 clear H
 go_enter Try.func86,Try.ntmps86
 go_wp2
 go_loopg [4] k (fun kq v4 w' => ∃ (x0_1 : List (S30)) (x4_1 : Int),v4 = .int .i64 x4_1 ∧ Aside0 (spec_l3Install.l0 kq x0_1 l1 x4_1 = some r) ∧ Aside0 (kq ≤ k) ∧ Aside0 (Kd.R k30 30 w' w0.heap.size (fun k_ => (P0_ k_ ∨ w.heap.size ≤ k_)) u9000_ x0_1) ∧ Aside0 (Kept w w' (fun k_ => P0_ k_)) ∧ Aside0 (Below w0.heap.size w0 w'))
 case atStart => exact ⟨(l0),(0),(by first|rfl|(simp;done)|(simp [*];done)),H',⟨Nat.le_refl _⟩,⟨by (with_reducible repeat (first|apply Kd.R_alloc|apply Kd.R_drewN|apply Kd.R_drew));exact HO0.out⟩,⟨by repeat (first|(with_reducible first|exact HK.out|apply Kept.alloc|apply Kept.drewN|apply Kept.drew)|exact HK.out)⟩,⟨by repeat (first|(with_reducible first|exact HB.out|apply below_alloc|apply pw_below_drewN|apply below_drew1)|exact HB.out)⟩⟩
 case round =>
  clear H'
  try clear c1
  try clear p2
  obtain ⟨x0_1,x4_1,rfl,HA,HK1,HO_0,HK,HB⟩ := hrel
  cases gk with
    | zero => exact absurd HA.out (by simp [spec_l3Install.l0])
    | succ k1 =>
   have H := HA.out
   clear HA
   simp only [spec_l3Install.l0] at H
   by_cases c3 : x4_1 < (l1.length : Int)
   ·rw [if_pos c3] at H
    have c3b0 : decide (x4_1 < (l1.length : Int)) = true := decide_eq_true c3
    clear c3
    by_cases c4 : 0 ≤ x4_1
    ·rw [if_pos c4] at H
     have c4b0 : decide (0 ≤ x4_1) = true := decide_eq_true c4
     clear c4
     by_cases c5 : 0 ≤ ((rd_T59 l1 x4_1).f1)
     ·rw [if_pos c5] at H
      have c5b0 : decide (0 ≤ ((rd_T59 l1 x4_1).f1)) = true := decide_eq_true c5
      clear c5
      by_cases c6 : ((rd_T59 l1 x4_1).f1) < (x0_1.length : Int)
      ·rw [if_pos c6] at H
       have c6b0 : decide (((rd_T59 l1 x4_1).f1) < (x0_1.length : Int)) = true := decide_eq_true c6
       clear c6
       replace H := Option.bind_eq_some_iff.mp H
       obtain ⟨t141,A70,H⟩ := H
       replace H : (if t141 > ((rd_T59 l1 x4_1).f4) then (spec_l3Install.l0 k1 x0_1 l1 (wrap64 (x4_1 + 1))) else (if ((rd_T59 l1 x4_1).f3 = true) then ((spec_l1Head.f (wrap64 (((rd_T59 l1 x4_1).f4) + 1)) ((rd_T59 l1 x4_1).f3) false).bind fun t142 => (spec_l3Install.l0 k1 (x0_1.set (((rd_T59 l1 x4_1).f1) : Int).toNat (⟨t142,(rd_T59 l1 x4_1).f2⟩ : S30)) l1 (wrap64 (x4_1 + 1)))) else ((spec_l1Head.f (wrap64 (((rd_T59 l1 x4_1).f4) + 1)) ((rd_T59 l1 x4_1).f3) false).bind fun t144 => (spec_l3Install.l0 k1 (x0_1.set (((rd_T59 l1 x4_1).f1) : Int).toNat (⟨t144,0⟩ : S30)) l1 (wrap64 (x4_1 + 1)))))) = some r := H
       have A7 := Aside0.mk A70
       clear A70
       by_cases c8 : t141 > ((rd_T59 l1 x4_1).f4)
       ·rw [if_pos c8] at H
        have c8b0 : decide (((rd_T59 l1 x4_1).f4) < t141) = true := decide_eq_true c8
        clear c8
        have H' := Aside0.mk H
        clear H
        have p138 : 0 ≤ (x4_1 : Int) := of_decide_eq_true (by first|(with_reducible assumption)|assumption)
        have q138 : x4_1 < (l1.length : Int) := of_decide_eq_true (by first|(with_reducible assumption)|assumption)
        obtain ⟨ad138,e138,hx138_0,hx138_1,hx138_2,hx138_3,hx138_4⟩ := at_T59 (Kd.C_kept_now HR1.out HK.out) x4_1 p138 q138
        cases e138
        replace p138 := eq_true p138
        replace q138 := eq_true q138
        try go_wp2_with (first|((with_reducible refine gate_dst (N := 5) rfl ?_);refine box_event ?hg (N := 5) ?hd (cs := #[.int .i64 0,.int .i64 0,.int .i64 0,.bool false,.int .i64 0]) (t := 59) ?hr ?_;(case hd => rfl);(case hg => rfl);(case hr => first|(go_simp;done)|(go_simp;rfl));intro gb139 hg w9 hbox hb;have n0_ := Aside0.mk (Kd.R_below (by (with_reducible repeat (first|apply Kd.R_alloc|apply Kd.R_drewN|apply Kd.R_drew));exact HO_0.out) hb);have n1_ := Aside0.mk (Kept.below (S := (fun k_ => P0_ k_)) (by repeat (first|(with_reducible first|exact HK.out|apply Kept.alloc|apply Kept.drewN|apply Kept.drew)|exact HK.out)) hb);have n2_ := Aside0.mk (below_step (by repeat (first|(with_reducible first|exact HB.out|apply below_alloc|apply pw_below_drewN|apply below_drew1)|exact HB.out)) hb);have n3_ := Aside0.mk (hbox);have n4_ := Aside0.mk ((by rw [hg];exact (by first|exact HK.out.1|exact (show Kept w _ (fun k_ => P0_ k_) from by repeat (first|(with_reducible first|exact HK.out|apply Kept.alloc|apply Kept.drewN|apply Kept.drew)|exact HK.out)).1) : w.heap.size ≤ gb139));have n5_ := Aside0.mk ((by rw [hg];exact (below_size (by repeat (first|(with_reducible first|exact HB.out|apply below_alloc|apply pw_below_drewN|apply below_drew1)|exact HB.out))) : w0.heap.size ≤ gb139));clear HO_0;clear HK;clear HB;have HO_0 := n0_;have HK := n1_;have HB := n2_;have BK139 := n3_;have GW139 := n4_;have GE139 := n5_;clear n0_ n1_ n2_ n3_ n4_ n5_;clear hb hbox hg;have hcz10_0 : w9.cell? ⟨gb139,0,none⟩ = some (.int .i64 0) := (blk_cell BK139.out 0).trans rfl;have hcz10_1 : w9.cell? ⟨gb139,1,none⟩ = some (.int .i64 0) := (blk_cell BK139.out 1).trans rfl;have hcz10_2 : w9.cell? ⟨gb139,2,none⟩ = some (.int .i64 0) := (blk_cell BK139.out 2).trans rfl;have hcz10_3 : w9.cell? ⟨gb139,3,none⟩ = some (.bool false) := (blk_cell BK139.out 3).trans rfl;have hcz10_4 : w9.cell? ⟨gb139,4,none⟩ = some (.int .i64 0) := (blk_cell BK139.out 4).trans rfl;have hfz10_0 := blk_frozen BK139.out 0;have hfz10_1 := blk_frozen BK139.out 1;have hfz10_2 := blk_frozen BK139.out 2;have hfz10_3 := blk_frozen BK139.out 3;have hfz10_4 := blk_frozen BK139.out 4))
        have n0_ : Aside0 (Kd.R k30 30 (((((w9.setCell ⟨gb139,0,none⟩ (.int .i64 ((rd_T59 l1 x4_1).f0))).setCell ⟨gb139,1,none⟩ (.int .i64 ((rd_T59 l1 x4_1).f1))).setCell ⟨gb139,2,none⟩ (.int .i64 ((rd_T59 l1 x4_1).f2))).setCell ⟨gb139,3,none⟩ (.bool ((rd_T59 l1 x4_1).f3))).setCell ⟨gb139,4,none⟩ (.int .i64 ((rd_T59 l1 x4_1).f4))) w0.heap.size (fun k_ => (P0_ k_ ∨ w.heap.size ≤ k_)) u9000_ x0_1) := ⟨by (with_reducible repeat (first|apply Kd.R_alloc|apply Kd.R_drewN|apply Kd.R_drew));exact Kd.R_mono (Kd.R_far (p := ⟨gb139,4,none⟩) (Kd.R_far (p := ⟨gb139,3,none⟩) (Kd.R_far (p := ⟨gb139,2,none⟩) (Kd.R_far (p := ⟨gb139,1,none⟩) (Kd.R_far (p := ⟨gb139,0,none⟩) (Kd.R_types HO_0.out BK139.out (by decide)) (fun _ hk => hk.2) (.int .i64 ((rd_T59 l1 x4_1).f0))) (fun _ hk => hk.2) (.int .i64 ((rd_T59 l1 x4_1).f1))) (fun _ hk => hk.2) (.int .i64 ((rd_T59 l1 x4_1).f2))) (fun _ hk => hk.2) (.bool ((rd_T59 l1 x4_1).f3))) (fun _ hk => hk.2) (.int .i64 ((rd_T59 l1 x4_1).f4))) (fun _ hk => hk.1)⟩
        have n1_ : Aside0 ((((((w9.setCell ⟨gb139,0,none⟩ (.int .i64 ((rd_T59 l1 x4_1).f0))).setCell ⟨gb139,1,none⟩ (.int .i64 ((rd_T59 l1 x4_1).f1))).setCell ⟨gb139,2,none⟩ (.int .i64 ((rd_T59 l1 x4_1).f2))).setCell ⟨gb139,3,none⟩ (.bool ((rd_T59 l1 x4_1).f3))).setCell ⟨gb139,4,none⟩ (.int .i64 ((rd_T59 l1 x4_1).f4))).heap[gb139]? = some (.cells #[.int .i64 ((rd_T59 l1 x4_1).f0),.int .i64 ((rd_T59 l1 x4_1).f1),.int .i64 ((rd_T59 l1 x4_1).f2),.bool ((rd_T59 l1 x4_1).f3),.int .i64 ((rd_T59 l1 x4_1).f4)] 59 (0,0))) := ⟨by (with_reducible repeat (first|refine blk_drewN ?_ _|refine blk_drew ?_|refine blk_alloc ?_ _));refine blk_put (cs := #[.int .i64 ((rd_T59 l1 x4_1).f0),.int .i64 ((rd_T59 l1 x4_1).f1),.int .i64 ((rd_T59 l1 x4_1).f2),.bool ((rd_T59 l1 x4_1).f3),.int .i64 0]) ?_ 4 _ rfl;(with_reducible repeat (first|refine blk_drewN ?_ _|refine blk_drew ?_|refine blk_alloc ?_ _));refine blk_put (cs := #[.int .i64 ((rd_T59 l1 x4_1).f0),.int .i64 ((rd_T59 l1 x4_1).f1),.int .i64 ((rd_T59 l1 x4_1).f2),.bool false,.int .i64 0]) ?_ 3 _ rfl;(with_reducible repeat (first|refine blk_drewN ?_ _|refine blk_drew ?_|refine blk_alloc ?_ _));refine blk_put (cs := #[.int .i64 ((rd_T59 l1 x4_1).f0),.int .i64 ((rd_T59 l1 x4_1).f1),.int .i64 0,.bool false,.int .i64 0]) ?_ 2 _ rfl;(with_reducible repeat (first|refine blk_drewN ?_ _|refine blk_drew ?_|refine blk_alloc ?_ _));refine blk_put (cs := #[.int .i64 ((rd_T59 l1 x4_1).f0),.int .i64 0,.int .i64 0,.bool false,.int .i64 0]) ?_ 1 _ rfl;(with_reducible repeat (first|refine blk_drewN ?_ _|refine blk_drew ?_|refine blk_alloc ?_ _));refine blk_put (cs := #[.int .i64 0,.int .i64 0,.int .i64 0,.bool false,.int .i64 0]) ?_ 0 _ rfl;(with_reducible repeat (first|refine blk_drewN ?_ _|refine blk_drew ?_|refine blk_alloc ?_ _));exact BK139.out⟩
        have n2_ : Aside0 (Kept w (((((w9.setCell ⟨gb139,0,none⟩ (.int .i64 ((rd_T59 l1 x4_1).f0))).setCell ⟨gb139,1,none⟩ (.int .i64 ((rd_T59 l1 x4_1).f1))).setCell ⟨gb139,2,none⟩ (.int .i64 ((rd_T59 l1 x4_1).f2))).setCell ⟨gb139,3,none⟩ (.bool ((rd_T59 l1 x4_1).f3))).setCell ⟨gb139,4,none⟩ (.int .i64 ((rd_T59 l1 x4_1).f4))) (fun k_ => P0_ k_)) := ⟨by repeat (first|(with_reducible first|exact HK.out|apply Kept.alloc|apply Kept.drewN|apply Kept.drew|refine Kept.setCell ?_ (.inr GW139.out) _)|exact HK.out)⟩
        have n3_ : Aside0 (Below w0.heap.size w0 (((((w9.setCell ⟨gb139,0,none⟩ (.int .i64 ((rd_T59 l1 x4_1).f0))).setCell ⟨gb139,1,none⟩ (.int .i64 ((rd_T59 l1 x4_1).f1))).setCell ⟨gb139,2,none⟩ (.int .i64 ((rd_T59 l1 x4_1).f2))).setCell ⟨gb139,3,none⟩ (.bool ((rd_T59 l1 x4_1).f3))).setCell ⟨gb139,4,none⟩ (.int .i64 ((rd_T59 l1 x4_1).f4)))) := ⟨by repeat (first|(with_reducible first|exact HB.out|apply below_alloc|apply pw_below_drewN|apply below_drew1|refine below_set ?_ GE139.out)|exact HB.out)⟩
        (try clear HO_0)
        (try clear BK139)
        (try clear HK)
        (try clear HB)
        generalize (((((w9.setCell ⟨gb139,0,none⟩ (.int .i64 ((rd_T59 l1 x4_1).f0))).setCell ⟨gb139,1,none⟩ (.int .i64 ((rd_T59 l1 x4_1).f1))).setCell ⟨gb139,2,none⟩ (.int .i64 ((rd_T59 l1 x4_1).f2))).setCell ⟨gb139,3,none⟩ (.bool ((rd_T59 l1 x4_1).f3))).setCell ⟨gb139,4,none⟩ (.int .i64 ((rd_T59 l1 x4_1).f4))) = w11 at n0_ n1_ n2_ n3_ ⊢
        have HO_0 := n0_
        have BK139 := n1_
        have HK := n2_
        have HB := n3_
        clear n0_ n1_ n2_ n3_
        have n0_ := Aside0.mk (Kd.R_drew HO_0.out)
        have n1_ := Aside0.mk (blk_drew BK139.out)
        have n2_ := Aside0.mk (Kept.drew HK.out)
        have n3_ := Aside0.mk (below_drew1 HB.out)
        clear HO_0
        clear BK139
        clear HK
        clear HB
        have HO_0 := n0_
        have BK139 := n1_
        have HK := n2_
        have HB := n3_
        clear n0_ n1_ n2_ n3_
        obtain ⟨Ao13,co13,eo13⟩ := Kd.R_slice HO_0.out
        (first|subst eo13|(injection eo13 with f1_ f2_ f3_;have f4_ := f1_.symm;have f5_ := f3_.symm;clear f1_ f2_ f3_;subst f4_;subst f5_))
        have p140 : 0 ≤ (((rd_T59 l1 x4_1).f1) : Int) := of_decide_eq_true (by first|(with_reducible assumption)|assumption)
        have q140 : ((rd_T59 l1 x4_1).f1) < (x0_1.length : Int) := of_decide_eq_true (by first|(with_reducible assumption)|assumption)
        obtain ⟨ad140,e140,hx140_0,hx140_1⟩ := at_T30 (Kd.R_reads' HO_0.out).2.2 ((rd_T59 l1 x4_1).f1) p140 q140
        cases e140
        replace p140 := eq_true p140
        replace q140 := eq_true q140
        refine start_ (n := 10) (S := fun w' => w'.cell? ⟨gb139,0,none⟩ = some (.int .i64 ((rd_T59 l1 x4_1).f0)) ∧ w'.cell? ⟨gb139,1,none⟩ = some (.int .i64 ((rd_T59 l1 x4_1).f1)) ∧ w'.cell? ⟨gb139,2,none⟩ = some (.int .i64 ((rd_T59 l1 x4_1).f2)) ∧ w'.cell? ⟨gb139,3,none⟩ = some (.bool ((rd_T59 l1 x4_1).f3)) ∧ w'.cell? ⟨gb139,4,none⟩ = some (.int .i64 ((rd_T59 l1 x4_1).f4)) ∧ w'.cell? (ad140.add ((((rd_T59 l1 x4_1).f1)).toNat * 2)) = some (.int .i64 ((rd_T30 x0_1 ((rd_T59 l1 x4_1).f1)).f0)) ∧ w'.cell? ⟨(ad140.add ((((rd_T59 l1 x4_1).f1)).toNat * 2)).block,(ad140.add ((((rd_T59 l1 x4_1).f1)).toNat * 2)).off + 1,none⟩ = some (.int .i64 ((rd_T30 x0_1 ((rd_T59 l1 x4_1).f1)).f1))) (ds := []) #[false,false,false,false,false,false,false,false,false,false] (by kernel_rfl) rfl rfl ⟨(blk_cell BK139.out 0).trans rfl,(blk_cell BK139.out 1).trans rfl,(blk_cell BK139.out 2).trans rfl,(blk_cell BK139.out 3).trans rfl,(blk_cell BK139.out 4).trans rfl,hx140_0,hx140_1⟩ (fun hHeld => ?_);refine with_tabW spec_l3Install.tab4 spec_l3Install.bits4 (fun HT_ HW_ => ?_)
        generalize w11.drew = w12 at HO_0 BK139 HK HB hx140_0 hx140_1 hHeld ⊢
        refine pw_ 0 (some 17) HT_.out ?_
        refine pw_ 1 (some 18) HT_.out ?_
        refine pw_ 7 (some 24) HT_.out ?_
        refine tw_ 2 (some 19) HT_.out HW_.out hHeld rfl rfl (by rintro w' ⟨s0,s1,s2,s3,s4,s5,s6⟩;go_simp;with_reducible rfl) ?_
        refine pw_ 3 (some 20) HT_.out ?_
        refine pw_ 4 (some 21) HT_.out ?_
        refine tw_ 5 (some 22) HT_.out HW_.out hHeld rfl rfl (by rintro w' ⟨s0,s1,s2,s3,s4,s5,s6⟩;go_simp;with_reducible rfl) ?_
        refine tw_ 8 (some 25) HT_.out HW_.out hHeld rfl rfl (by rintro w' ⟨s0,s1,s2,s3,s4,s5,s6⟩;go_simp;with_reducible rfl) ?_
        refine oz_ (i := 6) (N := some 23) HT_.out rfl rfl (by kernel_rfl) (by decide) (fun K hK => ?_)
        refine goes_ Try.func84 (by kernel_rfl) rfl #[.int .i64 ((rd_T30 x0_1 ((rd_T59 l1 x4_1).f1)).f0)] (by rfl) rfl rfl (by (try simp only [List.map_toArray,List.map_cons,List.map_nil]);first|done|rfl|(simp only [List.length_drop,List.length_take];rfl)) ?_
        with_reducible refine (spec_Version.calls ((rd_T30 x0_1 ((rd_T59 l1 x4_1).f1)).f0) t141 _ A7.out).mono ?_
        rintro e w' ⟨rfl,⟨nd,rfl⟩⟩
        refine ⟨_,rfl,?_⟩
        refine hK.out _ _ ⟨(blk_cell BK139.out 0).trans rfl,(blk_cell BK139.out 1).trans rfl,(blk_cell BK139.out 2).trans rfl,(blk_cell BK139.out 3).trans rfl,(blk_cell BK139.out 4).trans rfl,hHeld.2.2.2.2.2.1,hHeld.2.2.2.2.2.2⟩ (fun hHeld => ?_)
        clear hK K
        refine norm_ (a' := ?_) ?_ ?_
        rotate_left
        ·show Act.put _ (some 23) _ = _
         simp only [Act.put,q1,q2,q3,i64_w,i32_w]
         rfl
        refine pw_ 9 (some 26) HT_.out ?_
        refine done_ (done_of HT_.out (by kernel_rfl)) ?_
        try go_wp2
        go_roundg k1
        case measure => have := HK1.out;omega
        case rel => exact ⟨(x0_1),(wrap64 (x4_1 + 1)),(by first|rfl|(simp;done)|(simp [*];done)),H',⟨by have := HK1.out;omega⟩,⟨by (with_reducible repeat (first|apply Kd.R_alloc|apply Kd.R_drewN|apply Kd.R_drew));exact HO_0.out⟩,⟨by repeat (first|(with_reducible first|exact HK.out|apply Kept.alloc|apply Kept.drewN|apply Kept.drew|refine Kept.setCell ?_ (.inr GW139.out) _)|exact HK.out)⟩,⟨by repeat (first|(with_reducible first|exact HB.out|apply below_alloc|apply pw_below_drewN|apply below_drew1|refine below_set ?_ GE139.out)|exact HB.out)⟩⟩
       ·rw [if_neg c8] at H
        have c8b0 : decide (((rd_T59 l1 x4_1).f4) < t141) = false := decide_eq_false c8
        clear c8
        obtain ⟨bq14,hbq14⟩ : ∃ b_ : Bool,b_ = ((rd_T59 l1 x4_1).f3) := ⟨_,rfl⟩
        replace H : (if (bq14 = true) then ((spec_l1Head.f (wrap64 (((rd_T59 l1 x4_1).f4) + 1)) (bq14) false).bind fun t142 => (spec_l3Install.l0 k1 (x0_1.set (((rd_T59 l1 x4_1).f1) : Int).toNat (⟨t142,(rd_T59 l1 x4_1).f2⟩ : S30)) l1 (wrap64 (x4_1 + 1)))) else ((spec_l1Head.f (wrap64 (((rd_T59 l1 x4_1).f4) + 1)) (bq14) false).bind fun t144 => (spec_l3Install.l0 k1 (x0_1.set (((rd_T59 l1 x4_1).f1) : Int).toNat (⟨t144,0⟩ : S30)) l1 (wrap64 (x4_1 + 1))))) = some r := by rw [← hbq14] at H;exact H
        have Nbq14 := Aside0.mk hbq14
        clear hbq14
        by_cases c15 : (bq14 = true)
        ·subst c15
         have H1 : ((spec_l1Head.f (wrap64 (((rd_T59 l1 x4_1).f4) + 1)) (true) false).bind fun t142 => (spec_l3Install.l0 k1 (x0_1.set (((rd_T59 l1 x4_1).f1) : Int).toNat (⟨t142,(rd_T59 l1 x4_1).f2⟩ : S30)) l1 (wrap64 (x4_1 + 1)))) = some r := by rw [if_pos rfl] at H;exact H
         clear H
         have H := H1
         clear H1
         replace H := Option.bind_eq_some_iff.mp H
         obtain ⟨t142,A160,H⟩ := H
         replace H : (spec_l3Install.l0 k1 (x0_1.set (((rd_T59 l1 x4_1).f1) : Int).toNat (⟨t142,(rd_T59 l1 x4_1).f2⟩ : S30)) l1 (wrap64 (x4_1 + 1))) = some r := H
         have A16 := Aside0.mk A160
         clear A160
         obtain ⟨y143,hy143⟩ : ∃ y_ : List (S30),y_ = (x0_1.set (((rd_T59 l1 x4_1).f1) : Int).toNat (⟨t142,(rd_T59 l1 x4_1).f2⟩ : S30)) := ⟨_,rfl⟩
         replace H : (spec_l3Install.l0 k1 y143 l1 (wrap64 (x4_1 + 1))) = some r := by first|(rw [hy143];with_reducible exact H)|(have H2_ := (Option.bind_some _ _).symm.trans H;rw [hy143];with_reducible exact H2_)|(have H2_ := (Option.bind_some _ _).symm.trans H;with_reducible exact H2_)|with_reducible exact H|(rw [hy143];exact H)|exact H
         have Ny143 := Aside0.mk hy143
         clear hy143
         have H' := Aside0.mk H
         clear H
         have p138 : 0 ≤ (x4_1 : Int) := of_decide_eq_true (by first|(with_reducible assumption)|assumption)
         have q138 : x4_1 < (l1.length : Int) := of_decide_eq_true (by first|(with_reducible assumption)|assumption)
         obtain ⟨ad138,e138,hx138_0,hx138_1,hx138_2,hx138_3,hx138_4⟩ := at_T59 (Kd.C_kept_now HR1.out HK.out) x4_1 p138 q138
         (try rw [← Nbq14.out] at hx138_3)
         cases e138
         replace p138 := eq_true p138
         replace q138 := eq_true q138
         try go_wp2_with (first|((with_reducible refine gate_dst (N := 5) rfl ?_);refine box_event ?hg (N := 5) ?hd (cs := #[.int .i64 0,.int .i64 0,.int .i64 0,.bool false,.int .i64 0]) (t := 59) ?hr ?_;(case hd => rfl);(case hg => rfl);(case hr => first|(go_simp;done)|(go_simp;rfl));intro gb139 hg w18 hbox hb;have n0_ := Aside0.mk (Kd.R_below (by (with_reducible repeat (first|apply Kd.R_alloc|apply Kd.R_drewN|apply Kd.R_drew));exact HO_0.out) hb);have n1_ := Aside0.mk (Kept.below (S := (fun k_ => P0_ k_)) (by repeat (first|(with_reducible first|exact HK.out|apply Kept.alloc|apply Kept.drewN|apply Kept.drew)|exact HK.out)) hb);have n2_ := Aside0.mk (below_step (by repeat (first|(with_reducible first|exact HB.out|apply below_alloc|apply pw_below_drewN|apply below_drew1)|exact HB.out)) hb);have n3_ := Aside0.mk (hbox);have n4_ := Aside0.mk ((by rw [hg];exact (by first|exact HK.out.1|exact (show Kept w _ (fun k_ => P0_ k_) from by repeat (first|(with_reducible first|exact HK.out|apply Kept.alloc|apply Kept.drewN|apply Kept.drew)|exact HK.out)).1) : w.heap.size ≤ gb139));have n5_ := Aside0.mk ((by rw [hg];exact (below_size (by repeat (first|(with_reducible first|exact HB.out|apply below_alloc|apply pw_below_drewN|apply below_drew1)|exact HB.out))) : w0.heap.size ≤ gb139));clear HO_0;clear HK;clear HB;have HO_0 := n0_;have HK := n1_;have HB := n2_;have BK139 := n3_;have GW139 := n4_;have GE139 := n5_;clear n0_ n1_ n2_ n3_ n4_ n5_;clear hb hbox hg;have hcz19_0 : w18.cell? ⟨gb139,0,none⟩ = some (.int .i64 0) := (blk_cell BK139.out 0).trans rfl;have hcz19_1 : w18.cell? ⟨gb139,1,none⟩ = some (.int .i64 0) := (blk_cell BK139.out 1).trans rfl;have hcz19_2 : w18.cell? ⟨gb139,2,none⟩ = some (.int .i64 0) := (blk_cell BK139.out 2).trans rfl;have hcz19_3 : w18.cell? ⟨gb139,3,none⟩ = some (.bool false) := (blk_cell BK139.out 3).trans rfl;have hcz19_4 : w18.cell? ⟨gb139,4,none⟩ = some (.int .i64 0) := (blk_cell BK139.out 4).trans rfl;have hfz19_0 := blk_frozen BK139.out 0;have hfz19_1 := blk_frozen BK139.out 1;have hfz19_2 := blk_frozen BK139.out 2;have hfz19_3 := blk_frozen BK139.out 3;have hfz19_4 := blk_frozen BK139.out 4))
         have n0_ : Aside0 (Kd.R k30 30 (((((w18.setCell ⟨gb139,0,none⟩ (.int .i64 ((rd_T59 l1 x4_1).f0))).setCell ⟨gb139,1,none⟩ (.int .i64 ((rd_T59 l1 x4_1).f1))).setCell ⟨gb139,2,none⟩ (.int .i64 ((rd_T59 l1 x4_1).f2))).setCell ⟨gb139,3,none⟩ (.bool true)).setCell ⟨gb139,4,none⟩ (.int .i64 ((rd_T59 l1 x4_1).f4))) w0.heap.size (fun k_ => (P0_ k_ ∨ w.heap.size ≤ k_)) u9000_ x0_1) := ⟨by (with_reducible repeat (first|apply Kd.R_alloc|apply Kd.R_drewN|apply Kd.R_drew));exact Kd.R_mono (Kd.R_far (p := ⟨gb139,4,none⟩) (Kd.R_far (p := ⟨gb139,3,none⟩) (Kd.R_far (p := ⟨gb139,2,none⟩) (Kd.R_far (p := ⟨gb139,1,none⟩) (Kd.R_far (p := ⟨gb139,0,none⟩) (Kd.R_types HO_0.out BK139.out (by decide)) (fun _ hk => hk.2) (.int .i64 ((rd_T59 l1 x4_1).f0))) (fun _ hk => hk.2) (.int .i64 ((rd_T59 l1 x4_1).f1))) (fun _ hk => hk.2) (.int .i64 ((rd_T59 l1 x4_1).f2))) (fun _ hk => hk.2) (.bool true)) (fun _ hk => hk.2) (.int .i64 ((rd_T59 l1 x4_1).f4))) (fun _ hk => hk.1)⟩
         have n1_ : Aside0 ((((((w18.setCell ⟨gb139,0,none⟩ (.int .i64 ((rd_T59 l1 x4_1).f0))).setCell ⟨gb139,1,none⟩ (.int .i64 ((rd_T59 l1 x4_1).f1))).setCell ⟨gb139,2,none⟩ (.int .i64 ((rd_T59 l1 x4_1).f2))).setCell ⟨gb139,3,none⟩ (.bool true)).setCell ⟨gb139,4,none⟩ (.int .i64 ((rd_T59 l1 x4_1).f4))).heap[gb139]? = some (.cells #[.int .i64 ((rd_T59 l1 x4_1).f0),.int .i64 ((rd_T59 l1 x4_1).f1),.int .i64 ((rd_T59 l1 x4_1).f2),.bool true,.int .i64 ((rd_T59 l1 x4_1).f4)] 59 (0,0))) := ⟨by (with_reducible repeat (first|refine blk_drewN ?_ _|refine blk_drew ?_|refine blk_alloc ?_ _));refine blk_put (cs := #[.int .i64 ((rd_T59 l1 x4_1).f0),.int .i64 ((rd_T59 l1 x4_1).f1),.int .i64 ((rd_T59 l1 x4_1).f2),.bool true,.int .i64 0]) ?_ 4 _ rfl;(with_reducible repeat (first|refine blk_drewN ?_ _|refine blk_drew ?_|refine blk_alloc ?_ _));refine blk_put (cs := #[.int .i64 ((rd_T59 l1 x4_1).f0),.int .i64 ((rd_T59 l1 x4_1).f1),.int .i64 ((rd_T59 l1 x4_1).f2),.bool false,.int .i64 0]) ?_ 3 _ rfl;(with_reducible repeat (first|refine blk_drewN ?_ _|refine blk_drew ?_|refine blk_alloc ?_ _));refine blk_put (cs := #[.int .i64 ((rd_T59 l1 x4_1).f0),.int .i64 ((rd_T59 l1 x4_1).f1),.int .i64 0,.bool false,.int .i64 0]) ?_ 2 _ rfl;(with_reducible repeat (first|refine blk_drewN ?_ _|refine blk_drew ?_|refine blk_alloc ?_ _));refine blk_put (cs := #[.int .i64 ((rd_T59 l1 x4_1).f0),.int .i64 0,.int .i64 0,.bool false,.int .i64 0]) ?_ 1 _ rfl;(with_reducible repeat (first|refine blk_drewN ?_ _|refine blk_drew ?_|refine blk_alloc ?_ _));refine blk_put (cs := #[.int .i64 0,.int .i64 0,.int .i64 0,.bool false,.int .i64 0]) ?_ 0 _ rfl;(with_reducible repeat (first|refine blk_drewN ?_ _|refine blk_drew ?_|refine blk_alloc ?_ _));exact BK139.out⟩
         have n2_ : Aside0 (Kept w (((((w18.setCell ⟨gb139,0,none⟩ (.int .i64 ((rd_T59 l1 x4_1).f0))).setCell ⟨gb139,1,none⟩ (.int .i64 ((rd_T59 l1 x4_1).f1))).setCell ⟨gb139,2,none⟩ (.int .i64 ((rd_T59 l1 x4_1).f2))).setCell ⟨gb139,3,none⟩ (.bool true)).setCell ⟨gb139,4,none⟩ (.int .i64 ((rd_T59 l1 x4_1).f4))) (fun k_ => P0_ k_)) := ⟨by repeat (first|(with_reducible first|exact HK.out|apply Kept.alloc|apply Kept.drewN|apply Kept.drew|refine Kept.setCell ?_ (.inr GW139.out) _)|exact HK.out)⟩
         have n3_ : Aside0 (Below w0.heap.size w0 (((((w18.setCell ⟨gb139,0,none⟩ (.int .i64 ((rd_T59 l1 x4_1).f0))).setCell ⟨gb139,1,none⟩ (.int .i64 ((rd_T59 l1 x4_1).f1))).setCell ⟨gb139,2,none⟩ (.int .i64 ((rd_T59 l1 x4_1).f2))).setCell ⟨gb139,3,none⟩ (.bool true)).setCell ⟨gb139,4,none⟩ (.int .i64 ((rd_T59 l1 x4_1).f4)))) := ⟨by repeat (first|(with_reducible first|exact HB.out|apply below_alloc|apply pw_below_drewN|apply below_drew1|refine below_set ?_ GE139.out)|exact HB.out)⟩
         (try clear HO_0)
         (try clear BK139)
         (try clear HK)
         (try clear HB)
         generalize (((((w18.setCell ⟨gb139,0,none⟩ (.int .i64 ((rd_T59 l1 x4_1).f0))).setCell ⟨gb139,1,none⟩ (.int .i64 ((rd_T59 l1 x4_1).f1))).setCell ⟨gb139,2,none⟩ (.int .i64 ((rd_T59 l1 x4_1).f2))).setCell ⟨gb139,3,none⟩ (.bool true)).setCell ⟨gb139,4,none⟩ (.int .i64 ((rd_T59 l1 x4_1).f4))) = w20 at n0_ n1_ n2_ n3_ ⊢
         have HO_0 := n0_
         have BK139 := n1_
         have HK := n2_
         have HB := n3_
         clear n0_ n1_ n2_ n3_
         have n0_ := Aside0.mk (Kd.R_drew HO_0.out)
         have n1_ := Aside0.mk (blk_drew BK139.out)
         have n2_ := Aside0.mk (Kept.drew HK.out)
         have n3_ := Aside0.mk (below_drew1 HB.out)
         clear HO_0
         clear BK139
         clear HK
         clear HB
         have HO_0 := n0_
         have BK139 := n1_
         have HK := n2_
         have HB := n3_
         clear n0_ n1_ n2_ n3_
         obtain ⟨Ao22,co22,eo22⟩ := Kd.R_slice HO_0.out
         (first|subst eo22|(injection eo22 with f1_ f2_ f3_;have f4_ := f1_.symm;have f5_ := f3_.symm;clear f1_ f2_ f3_;subst f4_;subst f5_))
         have p140 : 0 ≤ (((rd_T59 l1 x4_1).f1) : Int) := of_decide_eq_true (by first|(with_reducible assumption)|assumption)
         have q140 : ((rd_T59 l1 x4_1).f1) < (x0_1.length : Int) := of_decide_eq_true (by first|(with_reducible assumption)|assumption)
         obtain ⟨ad140,e140,hx140_0,hx140_1⟩ := at_T30 (Kd.R_reads' HO_0.out).2.2 ((rd_T59 l1 x4_1).f1) p140 q140
         cases e140
         replace p140 := eq_true p140
         replace q140 := eq_true q140
         refine start_ (n := 10) (S := fun w' => w'.cell? ⟨gb139,0,none⟩ = some (.int .i64 ((rd_T59 l1 x4_1).f0)) ∧ w'.cell? ⟨gb139,1,none⟩ = some (.int .i64 ((rd_T59 l1 x4_1).f1)) ∧ w'.cell? ⟨gb139,2,none⟩ = some (.int .i64 ((rd_T59 l1 x4_1).f2)) ∧ w'.cell? ⟨gb139,3,none⟩ = some (.bool true) ∧ w'.cell? ⟨gb139,4,none⟩ = some (.int .i64 ((rd_T59 l1 x4_1).f4)) ∧ w'.cell? (ad140.add ((((rd_T59 l1 x4_1).f1)).toNat * 2)) = some (.int .i64 ((rd_T30 x0_1 ((rd_T59 l1 x4_1).f1)).f0)) ∧ w'.cell? ⟨(ad140.add ((((rd_T59 l1 x4_1).f1)).toNat * 2)).block,(ad140.add ((((rd_T59 l1 x4_1).f1)).toNat * 2)).off + 1,none⟩ = some (.int .i64 ((rd_T30 x0_1 ((rd_T59 l1 x4_1).f1)).f1))) (ds := []) #[false,false,false,false,false,false,false,false,false,false] (by kernel_rfl) rfl rfl ⟨(blk_cell BK139.out 0).trans rfl,(blk_cell BK139.out 1).trans rfl,(blk_cell BK139.out 2).trans rfl,(blk_cell BK139.out 3).trans rfl,(blk_cell BK139.out 4).trans rfl,hx140_0,hx140_1⟩ (fun hHeld => ?_);refine with_tabW spec_l3Install.tab4 spec_l3Install.bits4 (fun HT_ HW_ => ?_)
         generalize w20.drew = w21 at HO_0 BK139 HK HB hx140_0 hx140_1 hHeld ⊢
         refine pw_ 0 (some 17) HT_.out ?_
         refine pw_ 1 (some 18) HT_.out ?_
         refine pw_ 7 (some 24) HT_.out ?_
         refine tw_ 2 (some 19) HT_.out HW_.out hHeld rfl rfl (by rintro w' ⟨s0,s1,s2,s3,s4,s5,s6⟩;go_simp;with_reducible rfl) ?_
         refine pw_ 3 (some 20) HT_.out ?_
         refine pw_ 4 (some 21) HT_.out ?_
         refine tw_ 5 (some 22) HT_.out HW_.out hHeld rfl rfl (by rintro w' ⟨s0,s1,s2,s3,s4,s5,s6⟩;go_simp;with_reducible rfl) ?_
         refine tw_ 8 (some 25) HT_.out HW_.out hHeld rfl rfl (by rintro w' ⟨s0,s1,s2,s3,s4,s5,s6⟩;go_simp;with_reducible rfl) ?_
         refine oz_ (i := 6) (N := some 23) HT_.out rfl rfl (by kernel_rfl) (by decide) (fun K hK => ?_)
         refine goes_ Try.func84 (by kernel_rfl) rfl #[.int .i64 ((rd_T30 x0_1 ((rd_T59 l1 x4_1).f1)).f0)] (by rfl) rfl rfl (by (try simp only [List.map_toArray,List.map_cons,List.map_nil]);first|done|rfl|(simp only [List.length_drop,List.length_take];rfl)) ?_
         with_reducible refine (spec_Version.calls ((rd_T30 x0_1 ((rd_T59 l1 x4_1).f1)).f0) t141 _ A7.out).mono ?_
         rintro e w' ⟨rfl,⟨nd,rfl⟩⟩
         refine ⟨_,rfl,?_⟩
         refine hK.out _ _ ⟨(blk_cell BK139.out 0).trans rfl,(blk_cell BK139.out 1).trans rfl,(blk_cell BK139.out 2).trans rfl,(blk_cell BK139.out 3).trans rfl,(blk_cell BK139.out 4).trans rfl,hHeld.2.2.2.2.2.1,hHeld.2.2.2.2.2.2⟩ (fun hHeld => ?_)
         clear hK K
         refine norm_ (a' := ?_) ?_ ?_
         rotate_left
         ·show Act.put _ (some 23) _ = _
          simp only [Act.put,q1,q2,q3,i64_w,i32_w]
          rfl
         refine pw_ 9 (some 26) HT_.out ?_
         refine done_ (done_of HT_.out (by kernel_rfl)) ?_
         (repeat (rw [drewN_self w21];generalize hq_ : World.drewN w21 _ = w21;have n0_ : Aside0 (Kd.R k30 30 w21 w0.heap.size (fun k_ => (P0_ k_ ∨ w.heap.size ≤ k_)) (.slice (some ad140) x0_1.length co22) x0_1) := ⟨by rw [← hq_];exact (by (with_reducible repeat (first|apply Kd.R_alloc|apply Kd.R_drewN|apply Kd.R_drew));exact HO_0.out)⟩;have n1_ : Aside0 (w21.heap[gb139]? = some (.cells #[.int .i64 ((rd_T59 l1 x4_1).f0),.int .i64 ((rd_T59 l1 x4_1).f1),.int .i64 ((rd_T59 l1 x4_1).f2),.bool true,.int .i64 ((rd_T59 l1 x4_1).f4)] 59 (0,0))) := ⟨by rw [← hq_];exact (by (with_reducible repeat (first|refine blk_drewN ?_ _|refine blk_drew ?_|refine blk_alloc ?_ _));exact BK139.out)⟩;have n2_ : Aside0 (Kept w w21 (fun k_ => P0_ k_)) := ⟨by rw [← hq_];exact (by repeat (first|(with_reducible first|exact HK.out|apply Kept.alloc|apply Kept.drewN|apply Kept.drew|refine Kept.setCell ?_ (.inr GW139.out) _)|exact HK.out))⟩;have n3_ : Aside0 (Below w0.heap.size w0 w21) := ⟨by rw [← hq_];exact (by repeat (first|(with_reducible first|exact HB.out|apply below_alloc|apply pw_below_drewN|apply below_drew1|refine below_set ?_ GE139.out)|exact HB.out))⟩;clear HO_0 BK139 HK HB hq_;have HO_0 := n0_;have BK139 := n1_;have HK := n2_;have HB := n3_;clear n0_ n1_ n2_ n3_))
         have hcz23_0 : w21.cell? ⟨gb139,0,none⟩ = some (.int .i64 ((rd_T59 l1 x4_1).f0)) := (blk_cell BK139.out 0).trans rfl
         have hcz23_1 : w21.cell? ⟨gb139,1,none⟩ = some (.int .i64 ((rd_T59 l1 x4_1).f1)) := (blk_cell BK139.out 1).trans rfl
         have hcz23_2 : w21.cell? ⟨gb139,2,none⟩ = some (.int .i64 ((rd_T59 l1 x4_1).f2)) := (blk_cell BK139.out 2).trans rfl
         have hcz23_3 : w21.cell? ⟨gb139,3,none⟩ = some (.bool true) := (blk_cell BK139.out 3).trans rfl
         have hcz23_4 : w21.cell? ⟨gb139,4,none⟩ = some (.int .i64 ((rd_T59 l1 x4_1).f4)) := (blk_cell BK139.out 4).trans rfl
         have hfz23_0 := blk_frozen BK139.out 0
         have hfz23_1 := blk_frozen BK139.out 1
         have hfz23_2 := blk_frozen BK139.out 2
         have hfz23_3 := blk_frozen BK139.out 3
         have hfz23_4 := blk_frozen BK139.out 4
         try go_wp2
         have n0_ := Aside0.mk (Kd.R_drew HO_0.out)
         have n1_ := Aside0.mk (blk_drew BK139.out)
         have n2_ := Aside0.mk (Kept.drew HK.out)
         have n3_ := Aside0.mk (below_drew1 HB.out)
         clear HO_0
         clear BK139
         clear HK
         clear HB
         have HO_0 := n0_
         have BK139 := n1_
         have HK := n2_
         have HB := n3_
         clear n0_ n1_ n2_ n3_
         refine start_ (n := 13) (S := fun w' => w'.cell? ⟨gb139,0,none⟩ = some (.int .i64 ((rd_T59 l1 x4_1).f0)) ∧ w'.cell? ⟨gb139,1,none⟩ = some (.int .i64 ((rd_T59 l1 x4_1).f1)) ∧ w'.cell? ⟨gb139,2,none⟩ = some (.int .i64 ((rd_T59 l1 x4_1).f2)) ∧ w'.cell? ⟨gb139,3,none⟩ = some (.bool true) ∧ w'.cell? ⟨gb139,4,none⟩ = some (.int .i64 ((rd_T59 l1 x4_1).f4))) (ds := [12]) #[false,false,false,false,false,false,false,false,false,false,false,false,false] (by kernel_rfl) rfl rfl ⟨(blk_cell BK139.out 0).trans rfl,(blk_cell BK139.out 1).trans rfl,(blk_cell BK139.out 2).trans rfl,(blk_cell BK139.out 3).trans rfl,(blk_cell BK139.out 4).trans rfl⟩ (fun hHeld => ?_);refine with_tabW spec_l3Install.tab8 spec_l3Install.bits8 (fun HT_ HW_ => ?_)
         generalize w21.drew = w24 at HO_0 BK139 HK HB hHeld ⊢
         refine pw_ 0 (some 32) HT_.out ?_
         refine pw_ 1 (some 33) HT_.out ?_
         refine pw_ 3 (some 35) HT_.out ?_
         refine pw_ 6 (some 38) HT_.out ?_
         refine pw_ 9 (some 41) HT_.out ?_
         refine tw_ 2 (some 34) HT_.out HW_.out hHeld rfl rfl (by rintro w' ⟨s0,s1,s2,s3,s4⟩;go_simp;with_reducible rfl) ?_
         refine tw_ 4 (some 36) HT_.out HW_.out hHeld rfl rfl (by rintro w' ⟨s0,s1,s2,s3,s4⟩;go_simp;with_reducible rfl) ?_
         refine pw_ 5 (some 37) HT_.out ?_
         refine tw_ 7 (some 39) HT_.out HW_.out hHeld rfl rfl (by rintro w' ⟨s0,s1,s2,s3,s4⟩;go_simp;with_reducible rfl) ?_
         refine oz_ (i := 8) (N := some 40) HT_.out rfl rfl (by kernel_rfl) (by decide) (fun K hK => ?_)
         refine goes_ Try.func114 (by kernel_rfl) rfl #[.int .i64 (wrap64 (((rd_T59 l1 x4_1).f4) + 1)),.bool true,.bool false] (by rfl) rfl rfl (by (try simp only [List.map_toArray,List.map_cons,List.map_nil]);first|done|rfl|(simp only [List.length_drop,List.length_take];rfl)) ?_
         with_reducible refine (spec_l1Head.calls (wrap64 (((rd_T59 l1 x4_1).f4) + 1)) true false t142 _ A16.out).mono ?_
         rintro e w' ⟨rfl,⟨nd,rfl⟩⟩
         refine ⟨_,rfl,?_⟩
         have p17 : 0 ≤ (((rd_T59 l1 x4_1).f1) : Int) := of_decide_eq_true (by first|(with_reducible assumption)|assumption)
         have q17 : (((rd_T59 l1 x4_1).f1) : Int) < ((x0_1.length : Int) : Int) := of_decide_eq_true (by first|(with_reducible assumption)|assumption)
         obtain ⟨go17,co17,eo17,gb17,gl17,cl17,HG17⟩ := Kd.R_form HO_0.out (by omega)
         (first|cases eo17|(injection eo17 with ea_ en_ ec_;(first|subst ea_|(injection ea_ with ea_;subst ea_));subst ec_;clear en_))
         have GB17 := Aside0.mk gb17
         have GG17 := Aside0.mk HG17
         clear gb17 gl17 HG17
         have HMgo17 := Aside0.mk (show (P0_ go17 ∨ w.heap.size ≤ go17) from (HO_0.out.1 _ rfl))
         (first|simp only [add_plain] at hx140_0|skip)
         (first|simp only [add_plain] at hx140_1|skip)
         obtain ⟨ce17,hcl17,hM17,hcc17,hfr17⟩ := Kd.R_elem HO_0.out z30 (((rd_T59 l1 x4_1).f1) : Int) p17 q17
         obtain rfl := k30_openM hM17
         have hx17_0 : World.cell? _ ⟨go17,(((rd_T59 l1 x4_1).f1) : Int).toNat * 2,none⟩ = some (.int .i64 ((rd_T30 x0_1 ((rd_T59 l1 x4_1).f1)).f0)) := hcc17 0 _ rfl
         have hx17_1 : World.cell? _ ⟨go17,(((rd_T59 l1 x4_1).f1) : Int).toNat * 2 + 1,none⟩ = some (.int .i64 ((rd_T30 x0_1 ((rd_T59 l1 x4_1).f1)).f1)) := hcc17 1 _ rfl
         have hf17_0 : World.frozen? _ ⟨go17,(((rd_T59 l1 x4_1).f1) : Int).toNat * 2,none⟩ = false := hfr17 0
         have hf17_1 : World.frozen? _ ⟨go17,(((rd_T59 l1 x4_1).f1) : Int).toNat * 2 + 1,none⟩ = false := hfr17 1
         clear hcl17 hcc17 hfr17 hM17
         replace p17 := eq_true p17
         replace q17 := eq_true q17
         obtain ⟨ce25,hcl25,hM25,hcc25,hfr25⟩ := Kd.R_elem HO_0.out z30 (((rd_T59 l1 x4_1).f1) : Int) (of_decide_eq_true (by first|(with_reducible assumption)|assumption)) (by have h_ : (((rd_T59 l1 x4_1).f1) : Int) < ((x0_1.length : Int) : Int) := of_decide_eq_true (by first|(with_reducible assumption)|assumption);first|exact h_|(have e_ := (Kd.R_reads' HO_0.out).1;omega)|simpa using h_)
         obtain rfl := k30_openM hM25
         have HP25 := (Kd.R_seg HO_0.out (((rd_T59 l1 x4_1).f1) : Int) (of_decide_eq_true (by first|(with_reducible assumption)|assumption)) (by have h_ : (((rd_T59 l1 x4_1).f1) : Int) < ((x0_1.length : Int) : Int) := of_decide_eq_true (by first|(with_reducible assumption)|assumption);first|exact h_|(have e_ := (Kd.R_reads' HO_0.out).1;omega)|simpa using h_) (seg := [.int .i64 t142,.int .i64 ((rd_T59 l1 x4_1).f2)]) (j := 0) hcl25 hcc25 (show 2 ≤ 2 from by decide) (x' := (⟨t142,(rd_T59 l1 x4_1).f2⟩ : S30)) (k30_mkM _ _ _ (⟨t142,(rd_T59 l1 x4_1).f2⟩ : S30) ) (fun _ hk => hk)).1
         rw [← Ny143.out] at HP25
         have HQ25 := Aside0.mk HP25
         clear hcl25 hcc25 hfr25 hM25 HP25
         refine hK.out _ _ ⟨(blk_cell BK139.out 0).trans rfl,(blk_cell BK139.out 1).trans rfl,(blk_cell BK139.out 2).trans rfl,(blk_cell BK139.out 3).trans rfl,(blk_cell BK139.out 4).trans rfl⟩ (fun hHeld => ?_)
         clear hK K
         refine norm_ (a' := ?_) ?_ ?_
         rotate_left
         ·show Act.put _ (some 40) _ = _
          simp only [Act.put,q1,q2,q3,i64_w,i32_w]
          rfl
         refine pw_ 10 (some 42) HT_.out ?_
         refine pw_ 11 (some 43) HT_.out ?_
         refine last_ (i := 12) (N := none) #[true,true,true,true,true,true,true,true,true,true,true,true,true] rfl rfl (one_of HT_.out (by kernel_rfl)) (by decide) (fun K hK => ?_)
         refine skip_ (w1 := ?_) (by rfl) rfl ?_ ?_
         rotate_left
         ·go_simp
          rfl
         refine hK.out _ _ ?_
         clear hK K
         refine done_ (done_of HT_.out (by kernel_rfl)) ?_
         try go_wp2
         go_roundg k1
         case measure => have := HK1.out;omega
         case rel => exact ⟨(y143),(wrap64 (x4_1 + 1)),(by first|rfl|(simp;done)|(simp [*];done)),H',⟨by have := HK1.out;omega⟩,⟨by (with_reducible repeat (first|apply Kd.R_alloc|apply Kd.R_drewN|apply Kd.R_drew));exact HQ25.out⟩,⟨by repeat (first|(with_reducible first|exact HK.out|apply Kept.alloc|apply Kept.drewN|apply Kept.drew|refine Kept.setCell ?_ HMgo17.out _|refine Kept.setCell ?_ HMgo17.out _|refine Kept.setCell ?_ (.inr GW139.out) _)|exact HK.out)⟩,⟨by repeat (first|(with_reducible first|exact HB.out|apply below_alloc|apply pw_below_drewN|apply below_drew1|refine below_set ?_ GB17.out|refine below_set ?_ GB17.out|refine below_set ?_ GE139.out)|exact HB.out)⟩⟩
        ·replace c15 := Bool.eq_false_iff.mpr c15
         subst c15
         have H1 : ((spec_l1Head.f (wrap64 (((rd_T59 l1 x4_1).f4) + 1)) (false) false).bind fun t144 => (spec_l3Install.l0 k1 (x0_1.set (((rd_T59 l1 x4_1).f1) : Int).toNat (⟨t144,0⟩ : S30)) l1 (wrap64 (x4_1 + 1)))) = some r := by rw [if_neg (show ¬ (false = true) by decide)] at H;exact H
         clear H
         have H := H1
         clear H1
         replace H := Option.bind_eq_some_iff.mp H
         obtain ⟨t144,A260,H⟩ := H
         replace H : (spec_l3Install.l0 k1 (x0_1.set (((rd_T59 l1 x4_1).f1) : Int).toNat (⟨t144,0⟩ : S30)) l1 (wrap64 (x4_1 + 1))) = some r := H
         have A26 := Aside0.mk A260
         clear A260
         obtain ⟨y145,hy145⟩ : ∃ y_ : List (S30),y_ = (x0_1.set (((rd_T59 l1 x4_1).f1) : Int).toNat (⟨t144,0⟩ : S30)) := ⟨_,rfl⟩
         replace H : (spec_l3Install.l0 k1 y145 l1 (wrap64 (x4_1 + 1))) = some r := by first|(rw [hy145];with_reducible exact H)|(have H2_ := (Option.bind_some _ _).symm.trans H;rw [hy145];with_reducible exact H2_)|(have H2_ := (Option.bind_some _ _).symm.trans H;with_reducible exact H2_)|with_reducible exact H|(rw [hy145];exact H)|exact H
         have Ny145 := Aside0.mk hy145
         clear hy145
         have H' := Aside0.mk H
         clear H
         have p138 : 0 ≤ (x4_1 : Int) := of_decide_eq_true (by first|(with_reducible assumption)|assumption)
         have q138 : x4_1 < (l1.length : Int) := of_decide_eq_true (by first|(with_reducible assumption)|assumption)
         obtain ⟨ad138,e138,hx138_0,hx138_1,hx138_2,hx138_3,hx138_4⟩ := at_T59 (Kd.C_kept_now HR1.out HK.out) x4_1 p138 q138
         (try rw [← Nbq14.out] at hx138_3)
         cases e138
         replace p138 := eq_true p138
         replace q138 := eq_true q138
         try go_wp2_with (first|((with_reducible refine gate_dst (N := 5) rfl ?_);refine box_event ?hg (N := 5) ?hd (cs := #[.int .i64 0,.int .i64 0,.int .i64 0,.bool false,.int .i64 0]) (t := 59) ?hr ?_;(case hd => rfl);(case hg => rfl);(case hr => first|(go_simp;done)|(go_simp;rfl));intro gb139 hg w28 hbox hb;have n0_ := Aside0.mk (Kd.R_below (by (with_reducible repeat (first|apply Kd.R_alloc|apply Kd.R_drewN|apply Kd.R_drew));exact HO_0.out) hb);have n1_ := Aside0.mk (Kept.below (S := (fun k_ => P0_ k_)) (by repeat (first|(with_reducible first|exact HK.out|apply Kept.alloc|apply Kept.drewN|apply Kept.drew)|exact HK.out)) hb);have n2_ := Aside0.mk (below_step (by repeat (first|(with_reducible first|exact HB.out|apply below_alloc|apply pw_below_drewN|apply below_drew1)|exact HB.out)) hb);have n3_ := Aside0.mk (hbox);have n4_ := Aside0.mk ((by rw [hg];exact (by first|exact HK.out.1|exact (show Kept w _ (fun k_ => P0_ k_) from by repeat (first|(with_reducible first|exact HK.out|apply Kept.alloc|apply Kept.drewN|apply Kept.drew)|exact HK.out)).1) : w.heap.size ≤ gb139));have n5_ := Aside0.mk ((by rw [hg];exact (below_size (by repeat (first|(with_reducible first|exact HB.out|apply below_alloc|apply pw_below_drewN|apply below_drew1)|exact HB.out))) : w0.heap.size ≤ gb139));clear HO_0;clear HK;clear HB;have HO_0 := n0_;have HK := n1_;have HB := n2_;have BK139 := n3_;have GW139 := n4_;have GE139 := n5_;clear n0_ n1_ n2_ n3_ n4_ n5_;clear hb hbox hg;have hcz29_0 : w28.cell? ⟨gb139,0,none⟩ = some (.int .i64 0) := (blk_cell BK139.out 0).trans rfl;have hcz29_1 : w28.cell? ⟨gb139,1,none⟩ = some (.int .i64 0) := (blk_cell BK139.out 1).trans rfl;have hcz29_2 : w28.cell? ⟨gb139,2,none⟩ = some (.int .i64 0) := (blk_cell BK139.out 2).trans rfl;have hcz29_3 : w28.cell? ⟨gb139,3,none⟩ = some (.bool false) := (blk_cell BK139.out 3).trans rfl;have hcz29_4 : w28.cell? ⟨gb139,4,none⟩ = some (.int .i64 0) := (blk_cell BK139.out 4).trans rfl;have hfz29_0 := blk_frozen BK139.out 0;have hfz29_1 := blk_frozen BK139.out 1;have hfz29_2 := blk_frozen BK139.out 2;have hfz29_3 := blk_frozen BK139.out 3;have hfz29_4 := blk_frozen BK139.out 4))
         have n0_ : Aside0 (Kd.R k30 30 (((((w28.setCell ⟨gb139,0,none⟩ (.int .i64 ((rd_T59 l1 x4_1).f0))).setCell ⟨gb139,1,none⟩ (.int .i64 ((rd_T59 l1 x4_1).f1))).setCell ⟨gb139,2,none⟩ (.int .i64 ((rd_T59 l1 x4_1).f2))).setCell ⟨gb139,3,none⟩ (.bool false)).setCell ⟨gb139,4,none⟩ (.int .i64 ((rd_T59 l1 x4_1).f4))) w0.heap.size (fun k_ => (P0_ k_ ∨ w.heap.size ≤ k_)) u9000_ x0_1) := ⟨by (with_reducible repeat (first|apply Kd.R_alloc|apply Kd.R_drewN|apply Kd.R_drew));exact Kd.R_mono (Kd.R_far (p := ⟨gb139,4,none⟩) (Kd.R_far (p := ⟨gb139,3,none⟩) (Kd.R_far (p := ⟨gb139,2,none⟩) (Kd.R_far (p := ⟨gb139,1,none⟩) (Kd.R_far (p := ⟨gb139,0,none⟩) (Kd.R_types HO_0.out BK139.out (by decide)) (fun _ hk => hk.2) (.int .i64 ((rd_T59 l1 x4_1).f0))) (fun _ hk => hk.2) (.int .i64 ((rd_T59 l1 x4_1).f1))) (fun _ hk => hk.2) (.int .i64 ((rd_T59 l1 x4_1).f2))) (fun _ hk => hk.2) (.bool false)) (fun _ hk => hk.2) (.int .i64 ((rd_T59 l1 x4_1).f4))) (fun _ hk => hk.1)⟩
         have n1_ : Aside0 ((((((w28.setCell ⟨gb139,0,none⟩ (.int .i64 ((rd_T59 l1 x4_1).f0))).setCell ⟨gb139,1,none⟩ (.int .i64 ((rd_T59 l1 x4_1).f1))).setCell ⟨gb139,2,none⟩ (.int .i64 ((rd_T59 l1 x4_1).f2))).setCell ⟨gb139,3,none⟩ (.bool false)).setCell ⟨gb139,4,none⟩ (.int .i64 ((rd_T59 l1 x4_1).f4))).heap[gb139]? = some (.cells #[.int .i64 ((rd_T59 l1 x4_1).f0),.int .i64 ((rd_T59 l1 x4_1).f1),.int .i64 ((rd_T59 l1 x4_1).f2),.bool false,.int .i64 ((rd_T59 l1 x4_1).f4)] 59 (0,0))) := ⟨by (with_reducible repeat (first|refine blk_drewN ?_ _|refine blk_drew ?_|refine blk_alloc ?_ _));refine blk_put (cs := #[.int .i64 ((rd_T59 l1 x4_1).f0),.int .i64 ((rd_T59 l1 x4_1).f1),.int .i64 ((rd_T59 l1 x4_1).f2),.bool false,.int .i64 0]) ?_ 4 _ rfl;(with_reducible repeat (first|refine blk_drewN ?_ _|refine blk_drew ?_|refine blk_alloc ?_ _));refine blk_put (cs := #[.int .i64 ((rd_T59 l1 x4_1).f0),.int .i64 ((rd_T59 l1 x4_1).f1),.int .i64 ((rd_T59 l1 x4_1).f2),.bool false,.int .i64 0]) ?_ 3 _ rfl;(with_reducible repeat (first|refine blk_drewN ?_ _|refine blk_drew ?_|refine blk_alloc ?_ _));refine blk_put (cs := #[.int .i64 ((rd_T59 l1 x4_1).f0),.int .i64 ((rd_T59 l1 x4_1).f1),.int .i64 0,.bool false,.int .i64 0]) ?_ 2 _ rfl;(with_reducible repeat (first|refine blk_drewN ?_ _|refine blk_drew ?_|refine blk_alloc ?_ _));refine blk_put (cs := #[.int .i64 ((rd_T59 l1 x4_1).f0),.int .i64 0,.int .i64 0,.bool false,.int .i64 0]) ?_ 1 _ rfl;(with_reducible repeat (first|refine blk_drewN ?_ _|refine blk_drew ?_|refine blk_alloc ?_ _));refine blk_put (cs := #[.int .i64 0,.int .i64 0,.int .i64 0,.bool false,.int .i64 0]) ?_ 0 _ rfl;(with_reducible repeat (first|refine blk_drewN ?_ _|refine blk_drew ?_|refine blk_alloc ?_ _));exact BK139.out⟩
         have n2_ : Aside0 (Kept w (((((w28.setCell ⟨gb139,0,none⟩ (.int .i64 ((rd_T59 l1 x4_1).f0))).setCell ⟨gb139,1,none⟩ (.int .i64 ((rd_T59 l1 x4_1).f1))).setCell ⟨gb139,2,none⟩ (.int .i64 ((rd_T59 l1 x4_1).f2))).setCell ⟨gb139,3,none⟩ (.bool false)).setCell ⟨gb139,4,none⟩ (.int .i64 ((rd_T59 l1 x4_1).f4))) (fun k_ => P0_ k_)) := ⟨by repeat (first|(with_reducible first|exact HK.out|apply Kept.alloc|apply Kept.drewN|apply Kept.drew|refine Kept.setCell ?_ (.inr GW139.out) _)|exact HK.out)⟩
         have n3_ : Aside0 (Below w0.heap.size w0 (((((w28.setCell ⟨gb139,0,none⟩ (.int .i64 ((rd_T59 l1 x4_1).f0))).setCell ⟨gb139,1,none⟩ (.int .i64 ((rd_T59 l1 x4_1).f1))).setCell ⟨gb139,2,none⟩ (.int .i64 ((rd_T59 l1 x4_1).f2))).setCell ⟨gb139,3,none⟩ (.bool false)).setCell ⟨gb139,4,none⟩ (.int .i64 ((rd_T59 l1 x4_1).f4)))) := ⟨by repeat (first|(with_reducible first|exact HB.out|apply below_alloc|apply pw_below_drewN|apply below_drew1|refine below_set ?_ GE139.out)|exact HB.out)⟩
         (try clear HO_0)
         (try clear BK139)
         (try clear HK)
         (try clear HB)
         generalize (((((w28.setCell ⟨gb139,0,none⟩ (.int .i64 ((rd_T59 l1 x4_1).f0))).setCell ⟨gb139,1,none⟩ (.int .i64 ((rd_T59 l1 x4_1).f1))).setCell ⟨gb139,2,none⟩ (.int .i64 ((rd_T59 l1 x4_1).f2))).setCell ⟨gb139,3,none⟩ (.bool false)).setCell ⟨gb139,4,none⟩ (.int .i64 ((rd_T59 l1 x4_1).f4))) = w30 at n0_ n1_ n2_ n3_ ⊢
         have HO_0 := n0_
         have BK139 := n1_
         have HK := n2_
         have HB := n3_
         clear n0_ n1_ n2_ n3_
         have n0_ := Aside0.mk (Kd.R_drew HO_0.out)
         have n1_ := Aside0.mk (blk_drew BK139.out)
         have n2_ := Aside0.mk (Kept.drew HK.out)
         have n3_ := Aside0.mk (below_drew1 HB.out)
         clear HO_0
         clear BK139
         clear HK
         clear HB
         have HO_0 := n0_
         have BK139 := n1_
         have HK := n2_
         have HB := n3_
         clear n0_ n1_ n2_ n3_
         obtain ⟨Ao32,co32,eo32⟩ := Kd.R_slice HO_0.out
         (first|subst eo32|(injection eo32 with f1_ f2_ f3_;have f4_ := f1_.symm;have f5_ := f3_.symm;clear f1_ f2_ f3_;subst f4_;subst f5_))
         have p140 : 0 ≤ (((rd_T59 l1 x4_1).f1) : Int) := of_decide_eq_true (by first|(with_reducible assumption)|assumption)
         have q140 : ((rd_T59 l1 x4_1).f1) < (x0_1.length : Int) := of_decide_eq_true (by first|(with_reducible assumption)|assumption)
         obtain ⟨ad140,e140,hx140_0,hx140_1⟩ := at_T30 (Kd.R_reads' HO_0.out).2.2 ((rd_T59 l1 x4_1).f1) p140 q140
         cases e140
         replace p140 := eq_true p140
         replace q140 := eq_true q140
         refine start_ (n := 10) (S := fun w' => w'.cell? ⟨gb139,0,none⟩ = some (.int .i64 ((rd_T59 l1 x4_1).f0)) ∧ w'.cell? ⟨gb139,1,none⟩ = some (.int .i64 ((rd_T59 l1 x4_1).f1)) ∧ w'.cell? ⟨gb139,2,none⟩ = some (.int .i64 ((rd_T59 l1 x4_1).f2)) ∧ w'.cell? ⟨gb139,3,none⟩ = some (.bool false) ∧ w'.cell? ⟨gb139,4,none⟩ = some (.int .i64 ((rd_T59 l1 x4_1).f4)) ∧ w'.cell? (ad140.add ((((rd_T59 l1 x4_1).f1)).toNat * 2)) = some (.int .i64 ((rd_T30 x0_1 ((rd_T59 l1 x4_1).f1)).f0)) ∧ w'.cell? ⟨(ad140.add ((((rd_T59 l1 x4_1).f1)).toNat * 2)).block,(ad140.add ((((rd_T59 l1 x4_1).f1)).toNat * 2)).off + 1,none⟩ = some (.int .i64 ((rd_T30 x0_1 ((rd_T59 l1 x4_1).f1)).f1))) (ds := []) #[false,false,false,false,false,false,false,false,false,false] (by kernel_rfl) rfl rfl ⟨(blk_cell BK139.out 0).trans rfl,(blk_cell BK139.out 1).trans rfl,(blk_cell BK139.out 2).trans rfl,(blk_cell BK139.out 3).trans rfl,(blk_cell BK139.out 4).trans rfl,hx140_0,hx140_1⟩ (fun hHeld => ?_);refine with_tabW spec_l3Install.tab4 spec_l3Install.bits4 (fun HT_ HW_ => ?_)
         generalize w30.drew = w31 at HO_0 BK139 HK HB hx140_0 hx140_1 hHeld ⊢
         refine pw_ 0 (some 17) HT_.out ?_
         refine pw_ 1 (some 18) HT_.out ?_
         refine pw_ 7 (some 24) HT_.out ?_
         refine tw_ 2 (some 19) HT_.out HW_.out hHeld rfl rfl (by rintro w' ⟨s0,s1,s2,s3,s4,s5,s6⟩;go_simp;with_reducible rfl) ?_
         refine pw_ 3 (some 20) HT_.out ?_
         refine pw_ 4 (some 21) HT_.out ?_
         refine tw_ 5 (some 22) HT_.out HW_.out hHeld rfl rfl (by rintro w' ⟨s0,s1,s2,s3,s4,s5,s6⟩;go_simp;with_reducible rfl) ?_
         refine tw_ 8 (some 25) HT_.out HW_.out hHeld rfl rfl (by rintro w' ⟨s0,s1,s2,s3,s4,s5,s6⟩;go_simp;with_reducible rfl) ?_
         refine oz_ (i := 6) (N := some 23) HT_.out rfl rfl (by kernel_rfl) (by decide) (fun K hK => ?_)
         refine goes_ Try.func84 (by kernel_rfl) rfl #[.int .i64 ((rd_T30 x0_1 ((rd_T59 l1 x4_1).f1)).f0)] (by rfl) rfl rfl (by (try simp only [List.map_toArray,List.map_cons,List.map_nil]);first|done|rfl|(simp only [List.length_drop,List.length_take];rfl)) ?_
         with_reducible refine (spec_Version.calls ((rd_T30 x0_1 ((rd_T59 l1 x4_1).f1)).f0) t141 _ A7.out).mono ?_
         rintro e w' ⟨rfl,⟨nd,rfl⟩⟩
         refine ⟨_,rfl,?_⟩
         refine hK.out _ _ ⟨(blk_cell BK139.out 0).trans rfl,(blk_cell BK139.out 1).trans rfl,(blk_cell BK139.out 2).trans rfl,(blk_cell BK139.out 3).trans rfl,(blk_cell BK139.out 4).trans rfl,hHeld.2.2.2.2.2.1,hHeld.2.2.2.2.2.2⟩ (fun hHeld => ?_)
         clear hK K
         refine norm_ (a' := ?_) ?_ ?_
         rotate_left
         ·show Act.put _ (some 23) _ = _
          simp only [Act.put,q1,q2,q3,i64_w,i32_w]
          rfl
         refine pw_ 9 (some 26) HT_.out ?_
         refine done_ (done_of HT_.out (by kernel_rfl)) ?_
         (repeat (rw [drewN_self w31];generalize hq_ : World.drewN w31 _ = w31;have n0_ : Aside0 (Kd.R k30 30 w31 w0.heap.size (fun k_ => (P0_ k_ ∨ w.heap.size ≤ k_)) (.slice (some ad140) x0_1.length co32) x0_1) := ⟨by rw [← hq_];exact (by (with_reducible repeat (first|apply Kd.R_alloc|apply Kd.R_drewN|apply Kd.R_drew));exact HO_0.out)⟩;have n1_ : Aside0 (w31.heap[gb139]? = some (.cells #[.int .i64 ((rd_T59 l1 x4_1).f0),.int .i64 ((rd_T59 l1 x4_1).f1),.int .i64 ((rd_T59 l1 x4_1).f2),.bool false,.int .i64 ((rd_T59 l1 x4_1).f4)] 59 (0,0))) := ⟨by rw [← hq_];exact (by (with_reducible repeat (first|refine blk_drewN ?_ _|refine blk_drew ?_|refine blk_alloc ?_ _));exact BK139.out)⟩;have n2_ : Aside0 (Kept w w31 (fun k_ => P0_ k_)) := ⟨by rw [← hq_];exact (by repeat (first|(with_reducible first|exact HK.out|apply Kept.alloc|apply Kept.drewN|apply Kept.drew|refine Kept.setCell ?_ (.inr GW139.out) _)|exact HK.out))⟩;have n3_ : Aside0 (Below w0.heap.size w0 w31) := ⟨by rw [← hq_];exact (by repeat (first|(with_reducible first|exact HB.out|apply below_alloc|apply pw_below_drewN|apply below_drew1|refine below_set ?_ GE139.out)|exact HB.out))⟩;clear HO_0 BK139 HK HB hq_;have HO_0 := n0_;have BK139 := n1_;have HK := n2_;have HB := n3_;clear n0_ n1_ n2_ n3_))
         have hcz33_0 : w31.cell? ⟨gb139,0,none⟩ = some (.int .i64 ((rd_T59 l1 x4_1).f0)) := (blk_cell BK139.out 0).trans rfl
         have hcz33_1 : w31.cell? ⟨gb139,1,none⟩ = some (.int .i64 ((rd_T59 l1 x4_1).f1)) := (blk_cell BK139.out 1).trans rfl
         have hcz33_2 : w31.cell? ⟨gb139,2,none⟩ = some (.int .i64 ((rd_T59 l1 x4_1).f2)) := (blk_cell BK139.out 2).trans rfl
         have hcz33_3 : w31.cell? ⟨gb139,3,none⟩ = some (.bool false) := (blk_cell BK139.out 3).trans rfl
         have hcz33_4 : w31.cell? ⟨gb139,4,none⟩ = some (.int .i64 ((rd_T59 l1 x4_1).f4)) := (blk_cell BK139.out 4).trans rfl
         have hfz33_0 := blk_frozen BK139.out 0
         have hfz33_1 := blk_frozen BK139.out 1
         have hfz33_2 := blk_frozen BK139.out 2
         have hfz33_3 := blk_frozen BK139.out 3
         have hfz33_4 := blk_frozen BK139.out 4
         try go_wp2
         have n0_ := Aside0.mk (Kd.R_drew HO_0.out)
         have n1_ := Aside0.mk (blk_drew BK139.out)
         have n2_ := Aside0.mk (Kept.drew HK.out)
         have n3_ := Aside0.mk (below_drew1 HB.out)
         clear HO_0
         clear BK139
         clear HK
         clear HB
         have HO_0 := n0_
         have BK139 := n1_
         have HK := n2_
         have HB := n3_
         clear n0_ n1_ n2_ n3_
         refine start_ (n := 13) (S := fun w' => w'.cell? ⟨gb139,0,none⟩ = some (.int .i64 ((rd_T59 l1 x4_1).f0)) ∧ w'.cell? ⟨gb139,1,none⟩ = some (.int .i64 ((rd_T59 l1 x4_1).f1)) ∧ w'.cell? ⟨gb139,2,none⟩ = some (.int .i64 ((rd_T59 l1 x4_1).f2)) ∧ w'.cell? ⟨gb139,3,none⟩ = some (.bool false) ∧ w'.cell? ⟨gb139,4,none⟩ = some (.int .i64 ((rd_T59 l1 x4_1).f4))) (ds := [12]) #[false,false,false,false,false,false,false,false,false,false,false,false,false] (by kernel_rfl) rfl rfl ⟨(blk_cell BK139.out 0).trans rfl,(blk_cell BK139.out 1).trans rfl,(blk_cell BK139.out 2).trans rfl,(blk_cell BK139.out 3).trans rfl,(blk_cell BK139.out 4).trans rfl⟩ (fun hHeld => ?_);refine with_tabW spec_l3Install.tab8 spec_l3Install.bits8 (fun HT_ HW_ => ?_)
         generalize w31.drew = w34 at HO_0 BK139 HK HB hHeld ⊢
         refine pw_ 0 (some 32) HT_.out ?_
         refine pw_ 1 (some 33) HT_.out ?_
         refine pw_ 3 (some 35) HT_.out ?_
         refine pw_ 6 (some 38) HT_.out ?_
         refine pw_ 9 (some 41) HT_.out ?_
         refine tw_ 2 (some 34) HT_.out HW_.out hHeld rfl rfl (by rintro w' ⟨s0,s1,s2,s3,s4⟩;go_simp;with_reducible rfl) ?_
         refine tw_ 4 (some 36) HT_.out HW_.out hHeld rfl rfl (by rintro w' ⟨s0,s1,s2,s3,s4⟩;go_simp;with_reducible rfl) ?_
         refine pw_ 5 (some 37) HT_.out ?_
         refine tw_ 7 (some 39) HT_.out HW_.out hHeld rfl rfl (by rintro w' ⟨s0,s1,s2,s3,s4⟩;go_simp;with_reducible rfl) ?_
         refine oz_ (i := 8) (N := some 40) HT_.out rfl rfl (by kernel_rfl) (by decide) (fun K hK => ?_)
         refine goes_ Try.func114 (by kernel_rfl) rfl #[.int .i64 (wrap64 (((rd_T59 l1 x4_1).f4) + 1)),.bool false,.bool false] (by rfl) rfl rfl (by (try simp only [List.map_toArray,List.map_cons,List.map_nil]);first|done|rfl|(simp only [List.length_drop,List.length_take];rfl)) ?_
         with_reducible refine (spec_l1Head.calls (wrap64 (((rd_T59 l1 x4_1).f4) + 1)) false false t144 _ A26.out).mono ?_
         rintro e w' ⟨rfl,⟨nd,rfl⟩⟩
         refine ⟨_,rfl,?_⟩
         have p27 : 0 ≤ (((rd_T59 l1 x4_1).f1) : Int) := of_decide_eq_true (by first|(with_reducible assumption)|assumption)
         have q27 : (((rd_T59 l1 x4_1).f1) : Int) < ((x0_1.length : Int) : Int) := of_decide_eq_true (by first|(with_reducible assumption)|assumption)
         obtain ⟨go27,co27,eo27,gb27,gl27,cl27,HG27⟩ := Kd.R_form HO_0.out (by omega)
         (first|cases eo27|(injection eo27 with ea_ en_ ec_;(first|subst ea_|(injection ea_ with ea_;subst ea_));subst ec_;clear en_))
         have GB27 := Aside0.mk gb27
         have GG27 := Aside0.mk HG27
         clear gb27 gl27 HG27
         have HMgo27 := Aside0.mk (show (P0_ go27 ∨ w.heap.size ≤ go27) from (HO_0.out.1 _ rfl))
         (first|simp only [add_plain] at hx140_0|skip)
         (first|simp only [add_plain] at hx140_1|skip)
         obtain ⟨ce27,hcl27,hM27,hcc27,hfr27⟩ := Kd.R_elem HO_0.out z30 (((rd_T59 l1 x4_1).f1) : Int) p27 q27
         obtain rfl := k30_openM hM27
         have hx27_0 : World.cell? _ ⟨go27,(((rd_T59 l1 x4_1).f1) : Int).toNat * 2,none⟩ = some (.int .i64 ((rd_T30 x0_1 ((rd_T59 l1 x4_1).f1)).f0)) := hcc27 0 _ rfl
         have hx27_1 : World.cell? _ ⟨go27,(((rd_T59 l1 x4_1).f1) : Int).toNat * 2 + 1,none⟩ = some (.int .i64 ((rd_T30 x0_1 ((rd_T59 l1 x4_1).f1)).f1)) := hcc27 1 _ rfl
         have hf27_0 : World.frozen? _ ⟨go27,(((rd_T59 l1 x4_1).f1) : Int).toNat * 2,none⟩ = false := hfr27 0
         have hf27_1 : World.frozen? _ ⟨go27,(((rd_T59 l1 x4_1).f1) : Int).toNat * 2 + 1,none⟩ = false := hfr27 1
         clear hcl27 hcc27 hfr27 hM27
         replace p27 := eq_true p27
         replace q27 := eq_true q27
         obtain ⟨ce35,hcl35,hM35,hcc35,hfr35⟩ := Kd.R_elem HO_0.out z30 (((rd_T59 l1 x4_1).f1) : Int) (of_decide_eq_true (by first|(with_reducible assumption)|assumption)) (by have h_ : (((rd_T59 l1 x4_1).f1) : Int) < ((x0_1.length : Int) : Int) := of_decide_eq_true (by first|(with_reducible assumption)|assumption);first|exact h_|(have e_ := (Kd.R_reads' HO_0.out).1;omega)|simpa using h_)
         obtain rfl := k30_openM hM35
         have HP35 := (Kd.R_seg HO_0.out (((rd_T59 l1 x4_1).f1) : Int) (of_decide_eq_true (by first|(with_reducible assumption)|assumption)) (by have h_ : (((rd_T59 l1 x4_1).f1) : Int) < ((x0_1.length : Int) : Int) := of_decide_eq_true (by first|(with_reducible assumption)|assumption);first|exact h_|(have e_ := (Kd.R_reads' HO_0.out).1;omega)|simpa using h_) (seg := [.int .i64 t144,.int .i64 0]) (j := 0) hcl35 hcc35 (show 2 ≤ 2 from by decide) (x' := (⟨t144,0⟩ : S30)) (k30_mkM _ _ _ (⟨t144,0⟩ : S30) ) (fun _ hk => hk)).1
         rw [← Ny145.out] at HP35
         have HQ35 := Aside0.mk HP35
         clear hcl35 hcc35 hfr35 hM35 HP35
         refine hK.out _ _ ⟨(blk_cell BK139.out 0).trans rfl,(blk_cell BK139.out 1).trans rfl,(blk_cell BK139.out 2).trans rfl,(blk_cell BK139.out 3).trans rfl,(blk_cell BK139.out 4).trans rfl⟩ (fun hHeld => ?_)
         clear hK K
         refine norm_ (a' := ?_) ?_ ?_
         rotate_left
         ·show Act.put _ (some 40) _ = _
          simp only [Act.put,q1,q2,q3,i64_w,i32_w]
          rfl
         refine pw_ 10 (some 42) HT_.out ?_
         refine pw_ 11 (some 43) HT_.out ?_
         refine last_ (i := 12) (N := none) #[true,true,true,true,true,true,true,true,true,true,true,true,true] rfl rfl (one_of HT_.out (by kernel_rfl)) (by decide) (fun K hK => ?_)
         refine skip_ (w1 := ?_) (by rfl) rfl ?_ ?_
         rotate_left
         ·go_simp
          rfl
         refine hK.out _ _ ?_
         clear hK K
         refine done_ (done_of HT_.out (by kernel_rfl)) ?_
         try go_wp2
         go_roundg k1
         case measure => have := HK1.out;omega
         case rel => exact ⟨(y145),(wrap64 (x4_1 + 1)),(by first|rfl|(simp;done)|(simp [*];done)),H',⟨by have := HK1.out;omega⟩,⟨by (with_reducible repeat (first|apply Kd.R_alloc|apply Kd.R_drewN|apply Kd.R_drew));exact HQ35.out⟩,⟨by repeat (first|(with_reducible first|exact HK.out|apply Kept.alloc|apply Kept.drewN|apply Kept.drew|refine Kept.setCell ?_ HMgo27.out _|refine Kept.setCell ?_ HMgo27.out _|refine Kept.setCell ?_ (.inr GW139.out) _)|exact HK.out)⟩,⟨by repeat (first|(with_reducible first|exact HB.out|apply below_alloc|apply pw_below_drewN|apply below_drew1|refine below_set ?_ GB27.out|refine below_set ?_ GB27.out|refine below_set ?_ GE139.out)|exact HB.out)⟩⟩
      ·rw [if_neg c6] at H
       exact absurd H (by simp)
     ·rw [if_neg c5] at H
      exact absurd H (by simp)
    ·rw [if_neg c4] at H
     exact absurd H (by simp)
   ·rw [if_neg c3] at H
    have c3b0 : decide (x4_1 < (l1.length : Int)) = false := decide_eq_false c3
    clear c3
    obtain rfl := Option.some.inj H
    go_wp2
    first|go_end0|((try simp only [Exit.inBlock,Exit.then]);refine bodyPost_ret (results_none rfl _ _ _) rfl ?_)
    exact ⟨by first|rfl|(simp [errW_none,errW_some] <;> rfl)|(simp [*,errW_none,errW_some] <;> rfl),by (with_reducible repeat (first|apply Kd.R_alloc|apply Kd.R_drewN|apply Kd.R_drew));exact HO_0.out,by repeat (first|(with_reducible first|exact HB.out|apply below_alloc|apply pw_below_drewN|apply below_drew1)|exact HB.out),by repeat (first|(with_reducible first|exact HK.out|apply Kept.alloc|apply Kept.drewN|apply Kept.drew)|exact HK.out)⟩

end Go.Proofs.Ytgdfbjmjgegicaa.XIs
