/- Proved: of each Go function here that a call comes to what the Lean function of its name tells. Written by a program of this session over the translation. No conditions beyond each theorem's own. -/
import Derived.Test.YtgdfbjmjgegicaaXLs0
import Derived.Test.YtgdfbjmjgegicaaXLs2
import Derived.Test.YtgdfbjmjgegicaaXLs3
namespace Go.Proofs.Ytgdfbjmjgegicaa.XLs
open Go.RowKit Go.Proofs.Ytgdfbjmjgegicaa.Aid Go.Proofs.YtgdfbjmjgegicaaW.PrintWords Go.Proofs.YtgdfbjmjgegicaaW.PrintLast Go.Proofs.YtgdfbjmjgegicaaW.PrintMore
set_option linter.unusedVariables false
set_option linter.unusedSimpArgs false

/-! ### impl_Cell_81: function 81 -/
def impl_Cell_81.f (l0 : List (S30)) : Option ((List (S30))) := (some (([] : List (S30)) : List (S30))).bind fun y125 => (if y125.length + l0.length < 8796093022208 then (some (y125 ++ l0)) else (none))
set_option maxHeartbeats 8000000 in
set_option maxRecDepth 100000 in
theorem impl_Cell_81.calls (A0 : Option Addr) (c0 : Nat) (l0 : List (S30)) (r : List (S30)) (w : World) (hr0 : Kd.C k30 w A0 l0.length l0) (hc0 : l0.length ≤ c0) (h : impl_Cell_81.f l0 = some r) :
    Calls Try.prog 81 #[.slice A0 l0.length c0] w fun e w' => ∃ v0_ : Value, e = .returned (v0_) ∧ Kd.R k30 30 w' w.heap.size (fun _ => True) v0_ r ∧ Below w.heap.size w w' := by
 cases A0 with
  | none =>
  have hnil := fun (W : World) => Go.Lib.run_eql_slice_nil (P := Try.prog) W 25 30 none l0.length c0 0 0 Try.underlying25
  simp only [Option.isNone_none] at hnil
  have hl : l0 = [] := by
   rcases Nat.eq_zero_or_pos l0.length with h1 | h1
   ·exact List.length_eq_zero_iff.1 h1
   ·obtain ⟨_,e,_⟩ := hr0.2.2 h1
    cases e
  have hr : r = [] := by
   subst hl
   have h2 : some ([] : List _) = some r := by rw [← h];simp [impl_Cell_81.f]
   exact (Option.some.inj h2).symm
  subst hr
  clear h hr0
  subst hl
  simp only [List.length_nil] at hnil
  go_enter Try.func81,Try.ntmps81
  go_wp2
  go_ret
  exact ⟨_,rfl,Kd.R_nil _ _ _ _ _,Below.refl _ _⟩
  | some ad0 =>
  have hnil := fun (W : World) => Go.Lib.run_eql_slice_nil (P := Try.prog) W 25 30 (some ad0) l0.length c0 0 0 Try.underlying25
  simp only [Option.isNone_some] at hnil
  have HR0 := Aside0.mk hr0
  have HC0 := Aside0.mk hc0
  clear hr0 hc0
  have HB := Aside0.mk (Below.refl w.heap.size w)
  have H : ((some (([] : List (S30)) : List (S30))).bind fun y125 => (if y125.length + l0.length < 8796093022208 then (some (y125 ++ l0)) else (none))) = some r := h
  clear h
  obtain ⟨y125,hy125⟩ : ∃ y_ : List (S30),y_ = (([] : List (S30))) := ⟨_,rfl⟩
  replace H : (if y125.length + l0.length < 8796093022208 then (some (y125 ++ l0)) else (none)) = some r := by first|(rw [hy125];with_reducible exact H)|(have H2_ := (Option.bind_some _ _).symm.trans H;rw [hy125];with_reducible exact H2_)|(have H2_ := (Option.bind_some _ _).symm.trans H;with_reducible exact H2_)|with_reducible exact H|(rw [hy125];exact H)|exact H
  have Ny125 := Aside0.mk hy125
  clear hy125
  by_cases c2 : y125.length + l0.length < 8796093022208
  ·rw [if_pos c2] at H
   have LMc2 := Aside0.mk c2
   clear c2
   obtain ⟨y128,hy128⟩ : ∃ y_ : List (S30),y_ = (y125 ++ l0) := ⟨_,rfl⟩
   replace H : (some y128) = some r := by first|(rw [hy128];with_reducible exact H)|(have H2_ := (Option.bind_some _ _).symm.trans H;rw [hy128];with_reducible exact H2_)|(have H2_ := (Option.bind_some _ _).symm.trans H;with_reducible exact H2_)|with_reducible exact H|(rw [hy128];exact H)|exact H
   have Ny128 := Aside0.mk hy128
   clear hy128
   obtain rfl := Option.some.inj H
   go_enter Try.func81,Try.ntmps81
   go_wp2_with (first|((with_reducible refine gate_dst (N := 5) rfl ?_);refine Kd.R_lit k30 _ 30 ?hg (N := 5) ?hd (xs := ([] : List (S30))) (inner := []) (ok := fun _ => True) (okp := fun _ => True) ?hr ?hp (fun _ hk => hk) trivial (Below.refl _ _) (Nat.le_refl _) (by simp) ?_;(case hd => rfl);(case hg => rfl);(case hr => first|(go_simp;done)|(go_simp;rfl));(case hp => exact (Reps.none _ _));intro v126 w3 ho4 hb hg_ hnew_;clear hg_ hnew_;(first|rw [← Ny125.out] at ho4|(simp only [Int.reduceToNat] at ho4;rw [← Ny125.out] at ho4));have n0_ := Aside0.mk (Kd.R_lower ho4 (below_size (by repeat (first|(with_reducible first|exact HB.out|apply below_alloc|apply pw_below_drewN|apply below_drew1)|exact HB.out))));have n1_ := Aside0.mk (below_step (by repeat (first|(with_reducible first|exact HB.out|apply below_alloc|apply pw_below_drewN|apply below_drew1)|exact HB.out)) hb);clear HB;have HO127 := n0_;have HB := n1_;clear n0_ n1_;clear hb ho4)|((with_reducible refine gblt_ (b := .append) (xs := #[.tmp 5,.tmp 6]) rfl ?_);at_builtin;refine Kd.R_append_rows k30 (w0 := w) w.heap.size rfl (.tmp 5) (.tmp 6) 25 30 (.agg #[(.int .i64 0),(.int .i64 0)]) 16 rfl Try.underlying25 info30 rfl (by decide) (by omega) v126 y125 l0 _ _ _ (fun _ => True) (fun _ => False) rfl rfl ?aO ?aR (fun _ _ h => h) (fun _ h => h.elim) ?aF ?aB ?aS ?aL ?_;(case aR => repeat (first|exact (Kd.C_below HR0.out HB.out)|(with_reducible refine Kd.C_alloc ?_ _)|(with_reducible refine Kd.C_drewN ?_ _)|(with_reducible refine Kd.C_drew ?_)));(case aB => exact (by repeat (first|(with_reducible first|exact HB.out|apply below_alloc|apply pw_below_drewN|apply below_drew1)|exact HB.out)));(case aF => exact (fun _ _ => trivial));(case aO => exact (by (with_reducible repeat (first|apply Kd.R_alloc|apply Kd.R_drewN|apply Kd.R_drew));exact HO127.out));(case aS => exact (below_size (by repeat (first|(with_reducible first|exact HB.out|apply below_alloc|apply pw_below_drewN|apply below_drew1)|exact HB.out))));(case aL => have := LMc2.out;omega);intro v129 w5 ho hb hg hat;rw [← Ny128.out] at ho;have n0_ := Aside0.mk (hb);have n1_ := Aside0.mk (ho);clear HB;clear HO127;have HB := n0_;have HO130 := n1_;clear n0_ n1_;clear ho hb hg hat))
   go_ret
   exact ⟨_,by first|rfl|(simp [errW_none,errW_some] <;> rfl)|(simp [*,errW_none,errW_some] <;> rfl),by (with_reducible repeat (first|apply Kd.R_alloc|apply Kd.R_drewN|apply Kd.R_drew));exact HO130.out,by repeat (first|(with_reducible first|exact HB.out|apply below_alloc|apply pw_below_drewN|apply below_drew1)|exact HB.out)⟩
  ·rw [if_neg c2] at H
   exact absurd H (by simp)

/-! ### impl_unlock: function 82 -/
def impl_unlock.l0 : Nat → List (S30) → List (S59) → Int → Int → Option ((List (S30)))
  | 0, _, _, _, _ => none
  | k + 1, x0, x6, x7, x8 => if x8 < x7 then (if 0 ≤ x8 then (if x8 < (x6.length : Int) then (if 0 ≤ ((rd_T59 x6 x8).f1) then (if ((rd_T59 x6 x8).f1) < (x0.length : Int) then (if (wrap64 (Int.tdiv ((rd_T30 x0 ((rd_T59 x6 x8).f1)).f0) 4)) = ((rd_T59 x6 x8).f4) then (impl_unlock.l0 k (x0.set (((rd_T59 x6 x8).f1) : Int).toNat (⟨Go.bits .andNot .i64 ((rd_T30 x0 ((rd_T59 x6 x8).f1)).f0) 1, (rd_T30 x0 ((rd_T59 x6 x8).f1)).f1⟩ : S30)) x6 x7 (wrap64 (x8 + 1))) else (impl_unlock.l0 k x0 x6 x7 (wrap64 (x8 + 1)))) else (none)) else (none)) else (none)) else (none)) else (some x0)
def impl_unlock.f (k : Nat) (l0 : List (S30)) (l1 : List (S59)) : Option ((List (S30))) := impl_unlock.l0 k l0 l1 (l1.length : Int) 0

set_option maxHeartbeats 8000000 in
set_option maxRecDepth 100000 in
theorem impl_unlock.calls (k : Nat) (P0_ : Nat → Prop) (u9000_ : Value) (l0 : List (S30)) (A1 : Option Addr) (c1 : Nat) (l1 : List (S59)) (r : List (S30)) (w0 w : World) (hB : Below w0.heap.size w0 w) (ho0 : Kd.R k30 30 w w0.heap.size P0_ u9000_ l0) (hr1 : ∀ W_, Kept w W_ (fun k_ => P0_ k_) → Kd.C k59 W_ A1 l1.length l1) (hc1 : l1.length ≤ c1) (h : impl_unlock.f k l0 l1 = some r) :
    Calls Try.prog 82 #[u9000_, .slice A1 l1.length c1] w fun e w' => e = .returned (.tuple #[]) ∧ Kd.R k30 30 w' w0.heap.size (fun k_ => (P0_ k_ ∨ w.heap.size ≤ k_)) u9000_ r ∧ Below w0.heap.size w0 w' ∧ Kept w w' (fun k_ => P0_ k_) := by
 have hu59 := Try.underlying59
 have HO0 := Aside0.mk (show Kd.R k30 30 w w0.heap.size (fun k_ => (P0_ k_ ∨ w.heap.size ≤ k_)) u9000_ l0 from Kd.R_mono ho0 (fun k_ hk => (.inl hk)))
 have HR1 := Aside0.mk hr1
 have HC1 := Aside0.mk hc1
 clear hr1 hc1
 have HK := Aside0.mk (Kept.refl w (fun k_ => P0_ k_))
 have HW0 := Aside0.mk hB.size
 have HB := Aside0.mk hB
 clear hB
 have H : (impl_unlock.l0 k l0 l1 (l1.length : Int) 0) = some r := h
 clear h
 have H' := Aside0.mk H
 clear H
 go_enter Try.func82,Try.ntmps82
 go_wp2
 repeat (go_quiet (fail);try go_wp2)
 go_loopg [8] k (fun kq v8 w' => ∃ (x0_1 : List (S30)) (x8_1 : Int),v8 = .int .i64 x8_1 ∧ Aside0 (impl_unlock.l0 kq x0_1 l1 (l1.length : Int) x8_1 = some r) ∧ Aside0 (kq ≤ k) ∧ Aside0 (Kd.R k30 30 w' w0.heap.size (fun k_ => (P0_ k_ ∨ w.heap.size ≤ k_)) u9000_ x0_1) ∧ Aside0 (Kept w w' (fun k_ => P0_ k_)) ∧ Aside0 (Below w0.heap.size w0 w'))
 case atStart => exact ⟨(l0),(0),(by first|rfl|(simp;done)|(simp [*];done)),H',⟨Nat.le_refl _⟩,⟨by (with_reducible repeat (first|apply Kd.R_alloc|apply Kd.R_drewN|apply Kd.R_drew));exact HO0.out⟩,⟨by repeat (first|(with_reducible first|exact HK.out|apply Kept.alloc|apply Kept.drewN|apply Kept.drew)|exact HK.out)⟩,⟨by repeat (first|(with_reducible first|exact HB.out|apply below_alloc|apply pw_below_drewN|apply below_drew1)|exact HB.out)⟩⟩
 case round =>
  clear H'
  try clear c1
  try clear p2
  obtain ⟨x0_1,x8_1,rfl,HA,HK1,HO_0,HK,HB⟩ := hrel
  cases gk with
    | zero => exact absurd HA.out (by simp [impl_unlock.l0])
    | succ k1 =>
   have H := HA.out
   clear HA
   simp only [impl_unlock.l0] at H
   by_cases c3 : x8_1 < (l1.length : Int)
   ·rw [if_pos c3] at H
    have c3b0 : decide (x8_1 < (l1.length : Int)) = true := decide_eq_true c3
    clear c3
    by_cases c4 : 0 ≤ x8_1
    ·rw [if_pos c4] at H
     have c4b0 : decide (0 ≤ x8_1) = true := decide_eq_true c4
     clear c4
     by_cases c5 : x8_1 < (l1.length : Int)
     ·rw [if_pos c5] at H
      have c5b0 : decide (x8_1 < (l1.length : Int)) = true := decide_eq_true c5
      clear c5
      by_cases c6 : 0 ≤ ((rd_T59 l1 x8_1).f1)
      ·rw [if_pos c6] at H
       have c6b0 : decide (0 ≤ ((rd_T59 l1 x8_1).f1)) = true := decide_eq_true c6
       clear c6
       by_cases c7 : ((rd_T59 l1 x8_1).f1) < (x0_1.length : Int)
       ·rw [if_pos c7] at H
        have c7b0 : decide (((rd_T59 l1 x8_1).f1) < (x0_1.length : Int)) = true := decide_eq_true c7
        clear c7
        by_cases c8 : (wrap64 (Int.tdiv ((rd_T30 x0_1 ((rd_T59 l1 x8_1).f1)).f0) 4)) = ((rd_T59 l1 x8_1).f4)
        ·rw [if_pos c8] at H
         have c8b0 : ((wrap64 (Int.tdiv ((rd_T30 x0_1 ((rd_T59 l1 x8_1).f1)).f0) 4)) == ((rd_T59 l1 x8_1).f4)) = true := beq_iff_eq.mpr c8
         have c8b1 : ((wrap64 (Int.tdiv ((rd_T30 x0_1 ((rd_T59 l1 x8_1).f1)).f0) 4)) != ((rd_T59 l1 x8_1).f4)) = false := bne_eq_false_iff_eq.mpr c8
         clear c8
         obtain ⟨y135,hy135⟩ : ∃ y_ : List (S30),y_ = (x0_1.set (((rd_T59 l1 x8_1).f1) : Int).toNat (⟨Go.bits .andNot .i64 ((rd_T30 x0_1 ((rd_T59 l1 x8_1).f1)).f0) 1,(rd_T30 x0_1 ((rd_T59 l1 x8_1).f1)).f1⟩ : S30)) := ⟨_,rfl⟩
         replace H : (impl_unlock.l0 k1 y135 l1 (l1.length : Int) (wrap64 (x8_1 + 1))) = some r := by first|(rw [hy135];with_reducible exact H)|(have H2_ := (Option.bind_some _ _).symm.trans H;rw [hy135];with_reducible exact H2_)|(have H2_ := (Option.bind_some _ _).symm.trans H;with_reducible exact H2_)|with_reducible exact H|(rw [hy135];exact H)|exact H
         have Ny135 := Aside0.mk hy135
         clear hy135
         have H' := Aside0.mk H
         clear H
         have p131 : 0 ≤ (x8_1 : Int) := of_decide_eq_true (by first|(with_reducible assumption)|assumption)
         have q131 : x8_1 < (l1.length : Int) := of_decide_eq_true (by first|(with_reducible assumption)|assumption)
         obtain ⟨ad131,e131,hx131_0,hx131_1,hx131_2,hx131_3,hx131_4⟩ := at_T59 (Kd.C_kept_now HR1.out HK.out) x8_1 p131 q131
         cases e131
         replace p131 := eq_true p131
         replace q131 := eq_true q131
         go_wp2_with (first|((with_reducible refine gate_dst (N := 5) rfl ?_);refine box_event ?hg (N := 5) ?hd (cs := #[.int .i64 0,.int .i64 0,.int .i64 0,.bool false,.int .i64 0]) (t := 59) ?hr ?_;(case hd => rfl);(case hg => rfl);(case hr => first|(go_simp;done)|(go_simp;rfl));intro gb132 hg w10 hbox hb;have n0_ := Aside0.mk (Kd.R_below (by (with_reducible repeat (first|apply Kd.R_alloc|apply Kd.R_drewN|apply Kd.R_drew));exact HO_0.out) hb);have n1_ := Aside0.mk (Kept.below (S := (fun k_ => P0_ k_)) (by repeat (first|(with_reducible first|exact HK.out|apply Kept.alloc|apply Kept.drewN|apply Kept.drew)|exact HK.out)) hb);have n2_ := Aside0.mk (below_step (by repeat (first|(with_reducible first|exact HB.out|apply below_alloc|apply pw_below_drewN|apply below_drew1)|exact HB.out)) hb);have n3_ := Aside0.mk (hbox);have n4_ := Aside0.mk ((by rw [hg];exact (by first|exact HK.out.1|exact (show Kept w _ (fun k_ => P0_ k_) from by repeat (first|(with_reducible first|exact HK.out|apply Kept.alloc|apply Kept.drewN|apply Kept.drew)|exact HK.out)).1) : w.heap.size ≤ gb132));have n5_ := Aside0.mk ((by rw [hg];exact (below_size (by repeat (first|(with_reducible first|exact HB.out|apply below_alloc|apply pw_below_drewN|apply below_drew1)|exact HB.out))) : w0.heap.size ≤ gb132));clear HO_0;clear HK;clear HB;have HO_0 := n0_;have HK := n1_;have HB := n2_;have BK132 := n3_;have GW132 := n4_;have GE132 := n5_;clear n0_ n1_ n2_ n3_ n4_ n5_;clear hb hbox hg;have hcz11_0 : w10.cell? ⟨gb132,0,none⟩ = some (.int .i64 0) := (blk_cell BK132.out 0).trans rfl;have hcz11_1 : w10.cell? ⟨gb132,1,none⟩ = some (.int .i64 0) := (blk_cell BK132.out 1).trans rfl;have hcz11_2 : w10.cell? ⟨gb132,2,none⟩ = some (.int .i64 0) := (blk_cell BK132.out 2).trans rfl;have hcz11_3 : w10.cell? ⟨gb132,3,none⟩ = some (.bool false) := (blk_cell BK132.out 3).trans rfl;have hcz11_4 : w10.cell? ⟨gb132,4,none⟩ = some (.int .i64 0) := (blk_cell BK132.out 4).trans rfl;have hfz11_0 := blk_frozen BK132.out 0;have hfz11_1 := blk_frozen BK132.out 1;have hfz11_2 := blk_frozen BK132.out 2;have hfz11_3 := blk_frozen BK132.out 3;have hfz11_4 := blk_frozen BK132.out 4)|((with_reducible refine gate_store (t := 59) (p := 5) rfl ?_);(try (rw [drewN_self w10];generalize hq_ : World.drewN w10 _ = w10;have n0_ := Aside0.mk (Kd.R_at hq_ HO_0.out);have n1_ := Aside0.mk (blk_at hq_ BK132.out);have n2_ := Aside0.mk (kept_at hq_ HK.out);have n3_ := Aside0.mk (below_at hq_ HB.out);clear hq_ HO_0 BK132 HK HB;have HO_0 := n0_;have BK132 := n1_;have HK := n2_;have HB := n3_;clear n0_ n1_ n2_ n3_));refine store_event (t := 59) (p := 5) (v := ?vo_w12) (w1 := (((((w10.setCell ⟨gb132,0,none⟩ (.int .i64 ((rd_T59 l1 x8_1).f0))).setCell ⟨gb132,1,none⟩ (.int .i64 ((rd_T59 l1 x8_1).f1))).setCell ⟨gb132,2,none⟩ (.int .i64 ((rd_T59 l1 x8_1).f2))).setCell ⟨gb132,3,none⟩ (.bool ((rd_T59 l1 x8_1).f3))).setCell ⟨gb132,4,none⟩ (.int .i64 ((rd_T59 l1 x8_1).f4)))) ?hg ?ho ?hn ?hr ?_;(case ho => rfl);(case hg => rfl);(case hn => rfl);(case hr => first|(go_simp;done)|(go_simp;rfl)|(obtain ⟨_,_,e_⟩ := Kd.R_slice HO_0.out;subst e_;first|(go_simp;done)|(go_simp;rfl)));intro w12 hw;have n0_ : Aside0 (Kd.R k30 30 w12 w0.heap.size (fun k_ => (P0_ k_ ∨ w.heap.size ≤ k_)) u9000_ x0_1) := ⟨(by rw [hw];exact (by (with_reducible repeat (first|apply Kd.R_alloc|apply Kd.R_drewN|apply Kd.R_drew));exact Kd.R_mono (Kd.R_far (p := ⟨gb132,4,none⟩) (Kd.R_far (p := ⟨gb132,3,none⟩) (Kd.R_far (p := ⟨gb132,2,none⟩) (Kd.R_far (p := ⟨gb132,1,none⟩) (Kd.R_far (p := ⟨gb132,0,none⟩) (Kd.R_types HO_0.out BK132.out (by decide)) (fun _ hk => hk.2) (.int .i64 ((rd_T59 l1 x8_1).f0))) (fun _ hk => hk.2) (.int .i64 ((rd_T59 l1 x8_1).f1))) (fun _ hk => hk.2) (.int .i64 ((rd_T59 l1 x8_1).f2))) (fun _ hk => hk.2) (.bool ((rd_T59 l1 x8_1).f3))) (fun _ hk => hk.2) (.int .i64 ((rd_T59 l1 x8_1).f4))) (fun _ hk => hk.1)))⟩;have n1_ : Aside0 (w12.heap[gb132]? = some (.cells #[.int .i64 ((rd_T59 l1 x8_1).f0),.int .i64 ((rd_T59 l1 x8_1).f1),.int .i64 ((rd_T59 l1 x8_1).f2),.bool ((rd_T59 l1 x8_1).f3),.int .i64 ((rd_T59 l1 x8_1).f4)] 59 (0,0))) := ⟨(by rw [hw];exact (by (with_reducible repeat (first|refine blk_drewN ?_ _|refine blk_drew ?_|refine blk_alloc ?_ _));refine blk_put (cs := #[.int .i64 ((rd_T59 l1 x8_1).f0),.int .i64 ((rd_T59 l1 x8_1).f1),.int .i64 ((rd_T59 l1 x8_1).f2),.bool ((rd_T59 l1 x8_1).f3),.int .i64 0]) ?_ 4 _ rfl;(with_reducible repeat (first|refine blk_drewN ?_ _|refine blk_drew ?_|refine blk_alloc ?_ _));refine blk_put (cs := #[.int .i64 ((rd_T59 l1 x8_1).f0),.int .i64 ((rd_T59 l1 x8_1).f1),.int .i64 ((rd_T59 l1 x8_1).f2),.bool false,.int .i64 0]) ?_ 3 _ rfl;(with_reducible repeat (first|refine blk_drewN ?_ _|refine blk_drew ?_|refine blk_alloc ?_ _));refine blk_put (cs := #[.int .i64 ((rd_T59 l1 x8_1).f0),.int .i64 ((rd_T59 l1 x8_1).f1),.int .i64 0,.bool false,.int .i64 0]) ?_ 2 _ rfl;(with_reducible repeat (first|refine blk_drewN ?_ _|refine blk_drew ?_|refine blk_alloc ?_ _));refine blk_put (cs := #[.int .i64 ((rd_T59 l1 x8_1).f0),.int .i64 0,.int .i64 0,.bool false,.int .i64 0]) ?_ 1 _ rfl;(with_reducible repeat (first|refine blk_drewN ?_ _|refine blk_drew ?_|refine blk_alloc ?_ _));refine blk_put (cs := #[.int .i64 0,.int .i64 0,.int .i64 0,.bool false,.int .i64 0]) ?_ 0 _ rfl;(with_reducible repeat (first|refine blk_drewN ?_ _|refine blk_drew ?_|refine blk_alloc ?_ _));exact BK132.out))⟩;have n2_ : Aside0 (Kept w w12 (fun k_ => P0_ k_)) := ⟨(by rw [hw];exact (by repeat (first|(with_reducible first|exact HK.out|apply Kept.alloc|apply Kept.drewN|apply Kept.drew|refine Kept.setCell ?_ (.inr GW132.out) _)|exact HK.out)))⟩;have n3_ : Aside0 (Below w0.heap.size w0 w12) := ⟨(by rw [hw];exact (by repeat (first|(with_reducible first|exact HB.out|apply below_alloc|apply pw_below_drewN|apply below_drew1|refine below_set ?_ GE132.out)|exact HB.out)))⟩;clear hw;clear HO_0;clear BK132;clear HK;clear HB;have HO_0 := n0_;have BK132 := n1_;have HK := n2_;have HB := n3_;clear n0_ n1_ n2_ n3_;have hcz13_0 : w12.cell? ⟨gb132,0,none⟩ = some (.int .i64 ((rd_T59 l1 x8_1).f0)) := (blk_cell BK132.out 0).trans rfl;have hcz13_1 : w12.cell? ⟨gb132,1,none⟩ = some (.int .i64 ((rd_T59 l1 x8_1).f1)) := (blk_cell BK132.out 1).trans rfl;have hcz13_2 : w12.cell? ⟨gb132,2,none⟩ = some (.int .i64 ((rd_T59 l1 x8_1).f2)) := (blk_cell BK132.out 2).trans rfl;have hcz13_3 : w12.cell? ⟨gb132,3,none⟩ = some (.bool ((rd_T59 l1 x8_1).f3)) := (blk_cell BK132.out 3).trans rfl;have hcz13_4 : w12.cell? ⟨gb132,4,none⟩ = some (.int .i64 ((rd_T59 l1 x8_1).f4)) := (blk_cell BK132.out 4).trans rfl;have hfz13_0 := blk_frozen BK132.out 0;have hfz13_1 := blk_frozen BK132.out 1;have hfz13_2 := blk_frozen BK132.out 2;have hfz13_3 := blk_frozen BK132.out 3;have hfz13_4 := blk_frozen BK132.out 4;obtain ⟨Ao14,co14,eo14⟩ := Kd.R_slice HO_0.out;subst eo14;have p133 : 0 ≤ (((rd_T59 l1 x8_1).f1) : Int) := of_decide_eq_true (by first|(with_reducible assumption)|assumption);have q133 : ((rd_T59 l1 x8_1).f1) < (x0_1.length : Int) := of_decide_eq_true (by first|(with_reducible assumption)|assumption);obtain ⟨ad133,e133,hx133_0,hx133_1⟩ := at_T30 (Kd.R_reads' HO_0.out).2.2 ((rd_T59 l1 x8_1).f1) p133 q133;cases e133;replace p133 := eq_true p133;replace q133 := eq_true q133;have p134 : 0 ≤ (((rd_T59 l1 x8_1).f1) : Int) := of_decide_eq_true (by first|(with_reducible assumption)|assumption);have q134 : ((rd_T59 l1 x8_1).f1) < (x0_1.length : Int) := of_decide_eq_true (by first|(with_reducible assumption)|assumption);obtain ⟨ad134,e134,hx134_0,hx134_1⟩ := at_T30 (Kd.R_reads' HO_0.out).2.2 ((rd_T59 l1 x8_1).f1) p134 q134;obtain rfl : ad133 = ad134 := (by injection e134);replace p134 := eq_true p134;replace q134 := eq_true q134;have p9 : 0 ≤ (((rd_T59 l1 x8_1).f1) : Int) := of_decide_eq_true (by first|(with_reducible assumption)|assumption);have q9 : (((rd_T59 l1 x8_1).f1) : Int) < ((x0_1.length : Int) : Int) := of_decide_eq_true (by first|(with_reducible assumption)|assumption);obtain ⟨go9,co9,eo9,gb9,gl9,cl9,HG9⟩ := Kd.R_form HO_0.out (by omega);(first|cases eo9|(injection eo9 with ea_ en_ ec_;(first|subst ea_|(injection ea_ with ea_;subst ea_));subst ec_;clear en_));have GB9 := Aside0.mk gb9;have GG9 := Aside0.mk HG9;clear gb9 gl9 HG9;have HMgo9 := Aside0.mk (show (P0_ go9 ∨ w.heap.size ≤ go9) from (HO_0.out.1 _ rfl));(first|simp only [add_plain] at hx133_0|skip);(first|simp only [add_plain] at hx133_1|skip);(first|simp only [add_plain] at hx134_0|skip);(first|simp only [add_plain] at hx134_1|skip);obtain ⟨ce9,hcl9,hM9,hcc9,hfr9⟩ := Kd.R_elem HO_0.out z30 (((rd_T59 l1 x8_1).f1) : Int) p9 q9;obtain rfl := k30_openM hM9;have hx9_0 : w12.cell? ⟨go9,(((rd_T59 l1 x8_1).f1) : Int).toNat * 2,none⟩ = some (.int .i64 ((rd_T30 x0_1 ((rd_T59 l1 x8_1).f1)).f0)) := hcc9 0 _ rfl;have hx9_1 : w12.cell? ⟨go9,(((rd_T59 l1 x8_1).f1) : Int).toNat * 2 + 1,none⟩ = some (.int .i64 ((rd_T30 x0_1 ((rd_T59 l1 x8_1).f1)).f1)) := hcc9 1 _ rfl;have hf9_0 : w12.frozen? ⟨go9,(((rd_T59 l1 x8_1).f1) : Int).toNat * 2,none⟩ = false := hfr9 0;have hf9_1 : w12.frozen? ⟨go9,(((rd_T59 l1 x8_1).f1) : Int).toNat * 2 + 1,none⟩ = false := hfr9 1;clear hcl9 hcc9 hfr9 hM9;replace p9 := eq_true p9;replace q9 := eq_true q9;have HX15 := Aside0.mk (show Kd.R k30 30 w12 w0.heap.size (fun k_ => (P0_ k_ ∨ w.heap.size ≤ k_)) (.slice (some ⟨go9,0,none⟩) x0_1.length co14) x0_1 from (by (with_reducible repeat (first|apply Kd.R_alloc|apply Kd.R_drewN|apply Kd.R_drew));exact HO_0.out));obtain ⟨ce15,hcl15,hM15,hcc15,hfr15⟩ := Kd.R_elem HX15.out z30 (((rd_T59 l1 x8_1).f1) : Int) (of_decide_eq_true (by first|(with_reducible assumption)|assumption)) (by have h_ : (((rd_T59 l1 x8_1).f1) : Int) < ((x0_1.length : Int) : Int) := of_decide_eq_true (by first|(with_reducible assumption)|assumption);first|exact h_|(have e_ := (Kd.R_reads' HO_0.out).1;omega)|simpa using h_);obtain rfl := k30_openM hM15;have HP15 := Kd.R_seg HX15.out (((rd_T59 l1 x8_1).f1) : Int) (of_decide_eq_true (by first|(with_reducible assumption)|assumption)) (by have h_ : (((rd_T59 l1 x8_1).f1) : Int) < ((x0_1.length : Int) : Int) := of_decide_eq_true (by first|(with_reducible assumption)|assumption);first|exact h_|(have e_ := (Kd.R_reads' HO_0.out).1;omega)|simpa using h_) (seg := [.int .i64 (Go.bits .andNot .i64 ((rd_T30 x0_1 ((rd_T59 l1 x8_1).f1)).f0) 1)]) (j := 0) hcl15 hcc15 (show 1 ≤ 2 from by decide) (x' := (⟨Go.bits .andNot .i64 ((rd_T30 x0_1 ((rd_T59 l1 x8_1).f1)).f0) 1,(rd_T30 x0_1 ((rd_T59 l1 x8_1).f1)).f1⟩ : S30)) (k30_mkM _ _ _ (⟨Go.bits .andNot .i64 ((rd_T30 x0_1 ((rd_T59 l1 x8_1).f1)).f0) 1,(rd_T30 x0_1 ((rd_T59 l1 x8_1).f1)).f1⟩ : S30) ) (fun _ hk => hk);have hx15_0 := hcc15 0 _ rfl;(try simp only [show (k30).sz = 2 from rfl,Nat.mul_one,Nat.add_zero] at hx15_0);have hf15_0 := hfr15 0;(try simp only [show (k30).sz = 2 from rfl,Nat.mul_one,Nat.add_zero] at hf15_0);clear hcl15 hcc15 hfr15 hM15)|((with_reducible refine gate_store (t := 2) (p := 30) rfl ?_);(try (rw [drewN_self w12];generalize hq_ : World.drewN w12 _ = w12;have n0_ := Aside0.mk (Kd.R_at hq_ HO_0.out);have n1_ := Aside0.mk (blk_at hq_ BK132.out);have n2_ := Aside0.mk (kept_at hq_ HK.out);have n3_ := Aside0.mk (below_at hq_ HB.out);clear hq_ HO_0 BK132 HK HB;have HO_0 := n0_;have BK132 := n1_;have HK := n2_;have HB := n3_;clear n0_ n1_ n2_ n3_;(try (have HX15 := Aside0.mk (show Kd.R k30 30 w12 w0.heap.size (fun k_ => (P0_ k_ ∨ w.heap.size ≤ k_)) (.slice (some ⟨go9,0,none⟩) x0_1.length co14) x0_1 from (by (with_reducible repeat (first|apply Kd.R_alloc|apply Kd.R_drewN|apply Kd.R_drew));exact HO_0.out))));(try (obtain ⟨ce15,hcl15,hM15,hcc15,hfr15⟩ := Kd.R_elem HX15.out z30 (((rd_T59 l1 x8_1).f1) : Int) (of_decide_eq_true (by first|(with_reducible assumption)|assumption)) (by have h_ : (((rd_T59 l1 x8_1).f1) : Int) < ((x0_1.length : Int) : Int) := of_decide_eq_true (by first|(with_reducible assumption)|assumption);first|exact h_|(have e_ := (Kd.R_reads' HO_0.out).1;omega)|simpa using h_)));(try (obtain rfl := k30_openM hM15));(try (have HP15 := Kd.R_seg HX15.out (((rd_T59 l1 x8_1).f1) : Int) (of_decide_eq_true (by first|(with_reducible assumption)|assumption)) (by have h_ : (((rd_T59 l1 x8_1).f1) : Int) < ((x0_1.length : Int) : Int) := of_decide_eq_true (by first|(with_reducible assumption)|assumption);first|exact h_|(have e_ := (Kd.R_reads' HO_0.out).1;omega)|simpa using h_) (seg := [.int .i64 (Go.bits .andNot .i64 ((rd_T30 x0_1 ((rd_T59 l1 x8_1).f1)).f0) 1)]) (j := 0) hcl15 hcc15 (show 1 ≤ 2 from by decide) (x' := (⟨Go.bits .andNot .i64 ((rd_T30 x0_1 ((rd_T59 l1 x8_1).f1)).f0) 1,(rd_T30 x0_1 ((rd_T59 l1 x8_1).f1)).f1⟩ : S30)) (k30_mkM _ _ _ (⟨Go.bits .andNot .i64 ((rd_T30 x0_1 ((rd_T59 l1 x8_1).f1)).f0) 1,(rd_T30 x0_1 ((rd_T59 l1 x8_1).f1)).f1⟩ : S30) ) (fun _ hk => hk)));(try (have hx15_0 := hcc15 0 _ rfl));(try (try simp only [show (k30).sz = 2 from rfl,Nat.mul_one,Nat.add_zero] at hx15_0));(try (have hf15_0 := hfr15 0));(try (try simp only [show (k30).sz = 2 from rfl,Nat.mul_one,Nat.add_zero] at hf15_0));(try (clear hcl15 hcc15 hfr15 hM15))));refine store_event (t := 2) (p := 30) (v := ?vo_w16) (w1 := (w12.setCell ⟨go9,(((rd_T59 l1 x8_1).f1) : Int).toNat * 2,none⟩ (.int .i64 (Go.bits .andNot .i64 ((rd_T30 x0_1 ((rd_T59 l1 x8_1).f1)).f0) 1)))) ?hg ?ho ?hn ?hr ?_;(case ho => rfl);(case hg => rfl);(case hn => rfl);(case hr => first|(go_simp;done)|(go_simp;rfl)|(obtain ⟨_,_,e_⟩ := Kd.R_slice HO_0.out;subst e_;first|(go_simp;done)|(go_simp;rfl)));intro w16 hw;have hg : w12.grownBy w16 (some go9) := (by rw [hw];exact HP15.2);have hp_ : Kd.R k30 30 w16 w0.heap.size (fun k_ => (P0_ k_ ∨ w.heap.size ≤ k_)) (.slice (some ⟨go9,0,none⟩) x0_1.length co14) y135 := (by rw [hw,Ny135.out];exact HP15.1);clear HP15;have n0_ := Aside0.mk (hp_);have n1_ := Aside0.mk (blk_grown (g := gb132) (o := .cells #[.int .i64 ((rd_T59 l1 x8_1).f0),.int .i64 ((rd_T59 l1 x8_1).f1),.int .i64 ((rd_T59 l1 x8_1).f2),.bool ((rd_T59 l1 x8_1).f3),.int .i64 ((rd_T59 l1 x8_1).f4)] 59 (0,0)) (by (with_reducible repeat (first|refine blk_drewN ?_ _|refine blk_drew ?_|refine blk_alloc ?_ _));exact BK132.out) hg (Kd.R_ne HO_0.out BK132.out (by decide)));have n2_ := Aside0.mk ((by rw [hw];exact below_set (HB.out) GB9.out : Below w0.heap.size w0 w16));have n3_ := Aside0.mk (Kept.of_grown (S := (fun k_ => P0_ k_)) hg (by repeat (first|(with_reducible first|exact HK.out|apply Kept.alloc|apply Kept.drewN|apply Kept.drew|refine Kept.setCell ?_ (.inr GW132.out) _)|exact HK.out)) (fun k_ e_ => (HO_0.out.1 k_ e_)));clear HO_0;clear BK132;clear HB;clear HK;have HO_0 := n0_;have BK132 := n1_;have HB := n2_;have HK := n3_;clear n0_ n1_ n2_ n3_;clear hg hw hp_))
         repeat (go_quiet (first|((with_reducible refine gate_dst (N := 5) rfl ?_);refine box_event ?hg (N := 5) ?hd (cs := #[.int .i64 0,.int .i64 0,.int .i64 0,.bool false,.int .i64 0]) (t := 59) ?hr ?_;(case hd => rfl);(case hg => rfl);(case hr => first|(go_simp;done)|(go_simp;rfl));intro gb132 hg w10 hbox hb;have n0_ := Aside0.mk (Kd.R_below (by (with_reducible repeat (first|apply Kd.R_alloc|apply Kd.R_drewN|apply Kd.R_drew));exact HO_0.out) hb);have n1_ := Aside0.mk (Kept.below (S := (fun k_ => P0_ k_)) (by repeat (first|(with_reducible first|exact HK.out|apply Kept.alloc|apply Kept.drewN|apply Kept.drew)|exact HK.out)) hb);have n2_ := Aside0.mk (below_step (by repeat (first|(with_reducible first|exact HB.out|apply below_alloc|apply pw_below_drewN|apply below_drew1)|exact HB.out)) hb);have n3_ := Aside0.mk (hbox);have n4_ := Aside0.mk ((by rw [hg];exact (by first|exact HK.out.1|exact (show Kept w _ (fun k_ => P0_ k_) from by repeat (first|(with_reducible first|exact HK.out|apply Kept.alloc|apply Kept.drewN|apply Kept.drew)|exact HK.out)).1) : w.heap.size ≤ gb132));have n5_ := Aside0.mk ((by rw [hg];exact (below_size (by repeat (first|(with_reducible first|exact HB.out|apply below_alloc|apply pw_below_drewN|apply below_drew1)|exact HB.out))) : w0.heap.size ≤ gb132));clear HO_0;clear HK;clear HB;have HO_0 := n0_;have HK := n1_;have HB := n2_;have BK132 := n3_;have GW132 := n4_;have GE132 := n5_;clear n0_ n1_ n2_ n3_ n4_ n5_;clear hb hbox hg;have hcz11_0 : w10.cell? ⟨gb132,0,none⟩ = some (.int .i64 0) := (blk_cell BK132.out 0).trans rfl;have hcz11_1 : w10.cell? ⟨gb132,1,none⟩ = some (.int .i64 0) := (blk_cell BK132.out 1).trans rfl;have hcz11_2 : w10.cell? ⟨gb132,2,none⟩ = some (.int .i64 0) := (blk_cell BK132.out 2).trans rfl;have hcz11_3 : w10.cell? ⟨gb132,3,none⟩ = some (.bool false) := (blk_cell BK132.out 3).trans rfl;have hcz11_4 : w10.cell? ⟨gb132,4,none⟩ = some (.int .i64 0) := (blk_cell BK132.out 4).trans rfl;have hfz11_0 := blk_frozen BK132.out 0;have hfz11_1 := blk_frozen BK132.out 1;have hfz11_2 := blk_frozen BK132.out 2;have hfz11_3 := blk_frozen BK132.out 3;have hfz11_4 := blk_frozen BK132.out 4)|((with_reducible refine gate_store (t := 59) (p := 5) rfl ?_);(try (rw [drewN_self w10];generalize hq_ : World.drewN w10 _ = w10;have n0_ := Aside0.mk (Kd.R_at hq_ HO_0.out);have n1_ := Aside0.mk (blk_at hq_ BK132.out);have n2_ := Aside0.mk (kept_at hq_ HK.out);have n3_ := Aside0.mk (below_at hq_ HB.out);clear hq_ HO_0 BK132 HK HB;have HO_0 := n0_;have BK132 := n1_;have HK := n2_;have HB := n3_;clear n0_ n1_ n2_ n3_));refine store_event (t := 59) (p := 5) (v := ?vo_w12) (w1 := (((((w10.setCell ⟨gb132,0,none⟩ (.int .i64 ((rd_T59 l1 x8_1).f0))).setCell ⟨gb132,1,none⟩ (.int .i64 ((rd_T59 l1 x8_1).f1))).setCell ⟨gb132,2,none⟩ (.int .i64 ((rd_T59 l1 x8_1).f2))).setCell ⟨gb132,3,none⟩ (.bool ((rd_T59 l1 x8_1).f3))).setCell ⟨gb132,4,none⟩ (.int .i64 ((rd_T59 l1 x8_1).f4)))) ?hg ?ho ?hn ?hr ?_;(case ho => rfl);(case hg => rfl);(case hn => rfl);(case hr => first|(go_simp;done)|(go_simp;rfl)|(obtain ⟨_,_,e_⟩ := Kd.R_slice HO_0.out;subst e_;first|(go_simp;done)|(go_simp;rfl)));intro w12 hw;have n0_ : Aside0 (Kd.R k30 30 w12 w0.heap.size (fun k_ => (P0_ k_ ∨ w.heap.size ≤ k_)) u9000_ x0_1) := ⟨(by rw [hw];exact (by (with_reducible repeat (first|apply Kd.R_alloc|apply Kd.R_drewN|apply Kd.R_drew));exact Kd.R_mono (Kd.R_far (p := ⟨gb132,4,none⟩) (Kd.R_far (p := ⟨gb132,3,none⟩) (Kd.R_far (p := ⟨gb132,2,none⟩) (Kd.R_far (p := ⟨gb132,1,none⟩) (Kd.R_far (p := ⟨gb132,0,none⟩) (Kd.R_types HO_0.out BK132.out (by decide)) (fun _ hk => hk.2) (.int .i64 ((rd_T59 l1 x8_1).f0))) (fun _ hk => hk.2) (.int .i64 ((rd_T59 l1 x8_1).f1))) (fun _ hk => hk.2) (.int .i64 ((rd_T59 l1 x8_1).f2))) (fun _ hk => hk.2) (.bool ((rd_T59 l1 x8_1).f3))) (fun _ hk => hk.2) (.int .i64 ((rd_T59 l1 x8_1).f4))) (fun _ hk => hk.1)))⟩;have n1_ : Aside0 (w12.heap[gb132]? = some (.cells #[.int .i64 ((rd_T59 l1 x8_1).f0),.int .i64 ((rd_T59 l1 x8_1).f1),.int .i64 ((rd_T59 l1 x8_1).f2),.bool ((rd_T59 l1 x8_1).f3),.int .i64 ((rd_T59 l1 x8_1).f4)] 59 (0,0))) := ⟨(by rw [hw];exact (by (with_reducible repeat (first|refine blk_drewN ?_ _|refine blk_drew ?_|refine blk_alloc ?_ _));refine blk_put (cs := #[.int .i64 ((rd_T59 l1 x8_1).f0),.int .i64 ((rd_T59 l1 x8_1).f1),.int .i64 ((rd_T59 l1 x8_1).f2),.bool ((rd_T59 l1 x8_1).f3),.int .i64 0]) ?_ 4 _ rfl;(with_reducible repeat (first|refine blk_drewN ?_ _|refine blk_drew ?_|refine blk_alloc ?_ _));refine blk_put (cs := #[.int .i64 ((rd_T59 l1 x8_1).f0),.int .i64 ((rd_T59 l1 x8_1).f1),.int .i64 ((rd_T59 l1 x8_1).f2),.bool false,.int .i64 0]) ?_ 3 _ rfl;(with_reducible repeat (first|refine blk_drewN ?_ _|refine blk_drew ?_|refine blk_alloc ?_ _));refine blk_put (cs := #[.int .i64 ((rd_T59 l1 x8_1).f0),.int .i64 ((rd_T59 l1 x8_1).f1),.int .i64 0,.bool false,.int .i64 0]) ?_ 2 _ rfl;(with_reducible repeat (first|refine blk_drewN ?_ _|refine blk_drew ?_|refine blk_alloc ?_ _));refine blk_put (cs := #[.int .i64 ((rd_T59 l1 x8_1).f0),.int .i64 0,.int .i64 0,.bool false,.int .i64 0]) ?_ 1 _ rfl;(with_reducible repeat (first|refine blk_drewN ?_ _|refine blk_drew ?_|refine blk_alloc ?_ _));refine blk_put (cs := #[.int .i64 0,.int .i64 0,.int .i64 0,.bool false,.int .i64 0]) ?_ 0 _ rfl;(with_reducible repeat (first|refine blk_drewN ?_ _|refine blk_drew ?_|refine blk_alloc ?_ _));exact BK132.out))⟩;have n2_ : Aside0 (Kept w w12 (fun k_ => P0_ k_)) := ⟨(by rw [hw];exact (by repeat (first|(with_reducible first|exact HK.out|apply Kept.alloc|apply Kept.drewN|apply Kept.drew|refine Kept.setCell ?_ (.inr GW132.out) _)|exact HK.out)))⟩;have n3_ : Aside0 (Below w0.heap.size w0 w12) := ⟨(by rw [hw];exact (by repeat (first|(with_reducible first|exact HB.out|apply below_alloc|apply pw_below_drewN|apply below_drew1|refine below_set ?_ GE132.out)|exact HB.out)))⟩;clear hw;clear HO_0;clear BK132;clear HK;clear HB;have HO_0 := n0_;have BK132 := n1_;have HK := n2_;have HB := n3_;clear n0_ n1_ n2_ n3_;have hcz13_0 : w12.cell? ⟨gb132,0,none⟩ = some (.int .i64 ((rd_T59 l1 x8_1).f0)) := (blk_cell BK132.out 0).trans rfl;have hcz13_1 : w12.cell? ⟨gb132,1,none⟩ = some (.int .i64 ((rd_T59 l1 x8_1).f1)) := (blk_cell BK132.out 1).trans rfl;have hcz13_2 : w12.cell? ⟨gb132,2,none⟩ = some (.int .i64 ((rd_T59 l1 x8_1).f2)) := (blk_cell BK132.out 2).trans rfl;have hcz13_3 : w12.cell? ⟨gb132,3,none⟩ = some (.bool ((rd_T59 l1 x8_1).f3)) := (blk_cell BK132.out 3).trans rfl;have hcz13_4 : w12.cell? ⟨gb132,4,none⟩ = some (.int .i64 ((rd_T59 l1 x8_1).f4)) := (blk_cell BK132.out 4).trans rfl;have hfz13_0 := blk_frozen BK132.out 0;have hfz13_1 := blk_frozen BK132.out 1;have hfz13_2 := blk_frozen BK132.out 2;have hfz13_3 := blk_frozen BK132.out 3;have hfz13_4 := blk_frozen BK132.out 4;obtain ⟨Ao14,co14,eo14⟩ := Kd.R_slice HO_0.out;subst eo14;have p133 : 0 ≤ (((rd_T59 l1 x8_1).f1) : Int) := of_decide_eq_true (by first|(with_reducible assumption)|assumption);have q133 : ((rd_T59 l1 x8_1).f1) < (x0_1.length : Int) := of_decide_eq_true (by first|(with_reducible assumption)|assumption);obtain ⟨ad133,e133,hx133_0,hx133_1⟩ := at_T30 (Kd.R_reads' HO_0.out).2.2 ((rd_T59 l1 x8_1).f1) p133 q133;cases e133;replace p133 := eq_true p133;replace q133 := eq_true q133;have p134 : 0 ≤ (((rd_T59 l1 x8_1).f1) : Int) := of_decide_eq_true (by first|(with_reducible assumption)|assumption);have q134 : ((rd_T59 l1 x8_1).f1) < (x0_1.length : Int) := of_decide_eq_true (by first|(with_reducible assumption)|assumption);obtain ⟨ad134,e134,hx134_0,hx134_1⟩ := at_T30 (Kd.R_reads' HO_0.out).2.2 ((rd_T59 l1 x8_1).f1) p134 q134;obtain rfl : ad133 = ad134 := (by injection e134);replace p134 := eq_true p134;replace q134 := eq_true q134;have p9 : 0 ≤ (((rd_T59 l1 x8_1).f1) : Int) := of_decide_eq_true (by first|(with_reducible assumption)|assumption);have q9 : (((rd_T59 l1 x8_1).f1) : Int) < ((x0_1.length : Int) : Int) := of_decide_eq_true (by first|(with_reducible assumption)|assumption);obtain ⟨go9,co9,eo9,gb9,gl9,cl9,HG9⟩ := Kd.R_form HO_0.out (by omega);(first|cases eo9|(injection eo9 with ea_ en_ ec_;(first|subst ea_|(injection ea_ with ea_;subst ea_));subst ec_;clear en_));have GB9 := Aside0.mk gb9;have GG9 := Aside0.mk HG9;clear gb9 gl9 HG9;have HMgo9 := Aside0.mk (show (P0_ go9 ∨ w.heap.size ≤ go9) from (HO_0.out.1 _ rfl));(first|simp only [add_plain] at hx133_0|skip);(first|simp only [add_plain] at hx133_1|skip);(first|simp only [add_plain] at hx134_0|skip);(first|simp only [add_plain] at hx134_1|skip);obtain ⟨ce9,hcl9,hM9,hcc9,hfr9⟩ := Kd.R_elem HO_0.out z30 (((rd_T59 l1 x8_1).f1) : Int) p9 q9;obtain rfl := k30_openM hM9;have hx9_0 : w12.cell? ⟨go9,(((rd_T59 l1 x8_1).f1) : Int).toNat * 2,none⟩ = some (.int .i64 ((rd_T30 x0_1 ((rd_T59 l1 x8_1).f1)).f0)) := hcc9 0 _ rfl;have hx9_1 : w12.cell? ⟨go9,(((rd_T59 l1 x8_1).f1) : Int).toNat * 2 + 1,none⟩ = some (.int .i64 ((rd_T30 x0_1 ((rd_T59 l1 x8_1).f1)).f1)) := hcc9 1 _ rfl;have hf9_0 : w12.frozen? ⟨go9,(((rd_T59 l1 x8_1).f1) : Int).toNat * 2,none⟩ = false := hfr9 0;have hf9_1 : w12.frozen? ⟨go9,(((rd_T59 l1 x8_1).f1) : Int).toNat * 2 + 1,none⟩ = false := hfr9 1;clear hcl9 hcc9 hfr9 hM9;replace p9 := eq_true p9;replace q9 := eq_true q9;have HX15 := Aside0.mk (show Kd.R k30 30 w12 w0.heap.size (fun k_ => (P0_ k_ ∨ w.heap.size ≤ k_)) (.slice (some ⟨go9,0,none⟩) x0_1.length co14) x0_1 from (by (with_reducible repeat (first|apply Kd.R_alloc|apply Kd.R_drewN|apply Kd.R_drew));exact HO_0.out));obtain ⟨ce15,hcl15,hM15,hcc15,hfr15⟩ := Kd.R_elem HX15.out z30 (((rd_T59 l1 x8_1).f1) : Int) (of_decide_eq_true (by first|(with_reducible assumption)|assumption)) (by have h_ : (((rd_T59 l1 x8_1).f1) : Int) < ((x0_1.length : Int) : Int) := of_decide_eq_true (by first|(with_reducible assumption)|assumption);first|exact h_|(have e_ := (Kd.R_reads' HO_0.out).1;omega)|simpa using h_);obtain rfl := k30_openM hM15;have HP15 := Kd.R_seg HX15.out (((rd_T59 l1 x8_1).f1) : Int) (of_decide_eq_true (by first|(with_reducible assumption)|assumption)) (by have h_ : (((rd_T59 l1 x8_1).f1) : Int) < ((x0_1.length : Int) : Int) := of_decide_eq_true (by first|(with_reducible assumption)|assumption);first|exact h_|(have e_ := (Kd.R_reads' HO_0.out).1;omega)|simpa using h_) (seg := [.int .i64 (Go.bits .andNot .i64 ((rd_T30 x0_1 ((rd_T59 l1 x8_1).f1)).f0) 1)]) (j := 0) hcl15 hcc15 (show 1 ≤ 2 from by decide) (x' := (⟨Go.bits .andNot .i64 ((rd_T30 x0_1 ((rd_T59 l1 x8_1).f1)).f0) 1,(rd_T30 x0_1 ((rd_T59 l1 x8_1).f1)).f1⟩ : S30)) (k30_mkM _ _ _ (⟨Go.bits .andNot .i64 ((rd_T30 x0_1 ((rd_T59 l1 x8_1).f1)).f0) 1,(rd_T30 x0_1 ((rd_T59 l1 x8_1).f1)).f1⟩ : S30) ) (fun _ hk => hk);have hx15_0 := hcc15 0 _ rfl;(try simp only [show (k30).sz = 2 from rfl,Nat.mul_one,Nat.add_zero] at hx15_0);have hf15_0 := hfr15 0;(try simp only [show (k30).sz = 2 from rfl,Nat.mul_one,Nat.add_zero] at hf15_0);clear hcl15 hcc15 hfr15 hM15)|((with_reducible refine gate_store (t := 2) (p := 30) rfl ?_);(try (rw [drewN_self w12];generalize hq_ : World.drewN w12 _ = w12;have n0_ := Aside0.mk (Kd.R_at hq_ HO_0.out);have n1_ := Aside0.mk (blk_at hq_ BK132.out);have n2_ := Aside0.mk (kept_at hq_ HK.out);have n3_ := Aside0.mk (below_at hq_ HB.out);clear hq_ HO_0 BK132 HK HB;have HO_0 := n0_;have BK132 := n1_;have HK := n2_;have HB := n3_;clear n0_ n1_ n2_ n3_;(try (have HX15 := Aside0.mk (show Kd.R k30 30 w12 w0.heap.size (fun k_ => (P0_ k_ ∨ w.heap.size ≤ k_)) (.slice (some ⟨go9,0,none⟩) x0_1.length co14) x0_1 from (by (with_reducible repeat (first|apply Kd.R_alloc|apply Kd.R_drewN|apply Kd.R_drew));exact HO_0.out))));(try (obtain ⟨ce15,hcl15,hM15,hcc15,hfr15⟩ := Kd.R_elem HX15.out z30 (((rd_T59 l1 x8_1).f1) : Int) (of_decide_eq_true (by first|(with_reducible assumption)|assumption)) (by have h_ : (((rd_T59 l1 x8_1).f1) : Int) < ((x0_1.length : Int) : Int) := of_decide_eq_true (by first|(with_reducible assumption)|assumption);first|exact h_|(have e_ := (Kd.R_reads' HO_0.out).1;omega)|simpa using h_)));(try (obtain rfl := k30_openM hM15));(try (have HP15 := Kd.R_seg HX15.out (((rd_T59 l1 x8_1).f1) : Int) (of_decide_eq_true (by first|(with_reducible assumption)|assumption)) (by have h_ : (((rd_T59 l1 x8_1).f1) : Int) < ((x0_1.length : Int) : Int) := of_decide_eq_true (by first|(with_reducible assumption)|assumption);first|exact h_|(have e_ := (Kd.R_reads' HO_0.out).1;omega)|simpa using h_) (seg := [.int .i64 (Go.bits .andNot .i64 ((rd_T30 x0_1 ((rd_T59 l1 x8_1).f1)).f0) 1)]) (j := 0) hcl15 hcc15 (show 1 ≤ 2 from by decide) (x' := (⟨Go.bits .andNot .i64 ((rd_T30 x0_1 ((rd_T59 l1 x8_1).f1)).f0) 1,(rd_T30 x0_1 ((rd_T59 l1 x8_1).f1)).f1⟩ : S30)) (k30_mkM _ _ _ (⟨Go.bits .andNot .i64 ((rd_T30 x0_1 ((rd_T59 l1 x8_1).f1)).f0) 1,(rd_T30 x0_1 ((rd_T59 l1 x8_1).f1)).f1⟩ : S30) ) (fun _ hk => hk)));(try (have hx15_0 := hcc15 0 _ rfl));(try (try simp only [show (k30).sz = 2 from rfl,Nat.mul_one,Nat.add_zero] at hx15_0));(try (have hf15_0 := hfr15 0));(try (try simp only [show (k30).sz = 2 from rfl,Nat.mul_one,Nat.add_zero] at hf15_0));(try (clear hcl15 hcc15 hfr15 hM15))));refine store_event (t := 2) (p := 30) (v := ?vo_w16) (w1 := (w12.setCell ⟨go9,(((rd_T59 l1 x8_1).f1) : Int).toNat * 2,none⟩ (.int .i64 (Go.bits .andNot .i64 ((rd_T30 x0_1 ((rd_T59 l1 x8_1).f1)).f0) 1)))) ?hg ?ho ?hn ?hr ?_;(case ho => rfl);(case hg => rfl);(case hn => rfl);(case hr => first|(go_simp;done)|(go_simp;rfl)|(obtain ⟨_,_,e_⟩ := Kd.R_slice HO_0.out;subst e_;first|(go_simp;done)|(go_simp;rfl)));intro w16 hw;have hg : w12.grownBy w16 (some go9) := (by rw [hw];exact HP15.2);have hp_ : Kd.R k30 30 w16 w0.heap.size (fun k_ => (P0_ k_ ∨ w.heap.size ≤ k_)) (.slice (some ⟨go9,0,none⟩) x0_1.length co14) y135 := (by rw [hw,Ny135.out];exact HP15.1);clear HP15;have n0_ := Aside0.mk (hp_);have n1_ := Aside0.mk (blk_grown (g := gb132) (o := .cells #[.int .i64 ((rd_T59 l1 x8_1).f0),.int .i64 ((rd_T59 l1 x8_1).f1),.int .i64 ((rd_T59 l1 x8_1).f2),.bool ((rd_T59 l1 x8_1).f3),.int .i64 ((rd_T59 l1 x8_1).f4)] 59 (0,0)) (by (with_reducible repeat (first|refine blk_drewN ?_ _|refine blk_drew ?_|refine blk_alloc ?_ _));exact BK132.out) hg (Kd.R_ne HO_0.out BK132.out (by decide)));have n2_ := Aside0.mk ((by rw [hw];exact below_set (HB.out) GB9.out : Below w0.heap.size w0 w16));have n3_ := Aside0.mk (Kept.of_grown (S := (fun k_ => P0_ k_)) hg (by repeat (first|(with_reducible first|exact HK.out|apply Kept.alloc|apply Kept.drewN|apply Kept.drew|refine Kept.setCell ?_ (.inr GW132.out) _)|exact HK.out)) (fun k_ e_ => (HO_0.out.1 k_ e_)));clear HO_0;clear BK132;clear HB;clear HK;have HO_0 := n0_;have BK132 := n1_;have HB := n2_;have HK := n3_;clear n0_ n1_ n2_ n3_;clear hg hw hp_));try go_wp2_with (first|((with_reducible refine gate_dst (N := 5) rfl ?_);refine box_event ?hg (N := 5) ?hd (cs := #[.int .i64 0,.int .i64 0,.int .i64 0,.bool false,.int .i64 0]) (t := 59) ?hr ?_;(case hd => rfl);(case hg => rfl);(case hr => first|(go_simp;done)|(go_simp;rfl));intro gb132 hg w10 hbox hb;have n0_ := Aside0.mk (Kd.R_below (by (with_reducible repeat (first|apply Kd.R_alloc|apply Kd.R_drewN|apply Kd.R_drew));exact HO_0.out) hb);have n1_ := Aside0.mk (Kept.below (S := (fun k_ => P0_ k_)) (by repeat (first|(with_reducible first|exact HK.out|apply Kept.alloc|apply Kept.drewN|apply Kept.drew)|exact HK.out)) hb);have n2_ := Aside0.mk (below_step (by repeat (first|(with_reducible first|exact HB.out|apply below_alloc|apply pw_below_drewN|apply below_drew1)|exact HB.out)) hb);have n3_ := Aside0.mk (hbox);have n4_ := Aside0.mk ((by rw [hg];exact (by first|exact HK.out.1|exact (show Kept w _ (fun k_ => P0_ k_) from by repeat (first|(with_reducible first|exact HK.out|apply Kept.alloc|apply Kept.drewN|apply Kept.drew)|exact HK.out)).1) : w.heap.size ≤ gb132));have n5_ := Aside0.mk ((by rw [hg];exact (below_size (by repeat (first|(with_reducible first|exact HB.out|apply below_alloc|apply pw_below_drewN|apply below_drew1)|exact HB.out))) : w0.heap.size ≤ gb132));clear HO_0;clear HK;clear HB;have HO_0 := n0_;have HK := n1_;have HB := n2_;have BK132 := n3_;have GW132 := n4_;have GE132 := n5_;clear n0_ n1_ n2_ n3_ n4_ n5_;clear hb hbox hg;have hcz11_0 : w10.cell? ⟨gb132,0,none⟩ = some (.int .i64 0) := (blk_cell BK132.out 0).trans rfl;have hcz11_1 : w10.cell? ⟨gb132,1,none⟩ = some (.int .i64 0) := (blk_cell BK132.out 1).trans rfl;have hcz11_2 : w10.cell? ⟨gb132,2,none⟩ = some (.int .i64 0) := (blk_cell BK132.out 2).trans rfl;have hcz11_3 : w10.cell? ⟨gb132,3,none⟩ = some (.bool false) := (blk_cell BK132.out 3).trans rfl;have hcz11_4 : w10.cell? ⟨gb132,4,none⟩ = some (.int .i64 0) := (blk_cell BK132.out 4).trans rfl;have hfz11_0 := blk_frozen BK132.out 0;have hfz11_1 := blk_frozen BK132.out 1;have hfz11_2 := blk_frozen BK132.out 2;have hfz11_3 := blk_frozen BK132.out 3;have hfz11_4 := blk_frozen BK132.out 4)|((with_reducible refine gate_store (t := 59) (p := 5) rfl ?_);(try (rw [drewN_self w10];generalize hq_ : World.drewN w10 _ = w10;have n0_ := Aside0.mk (Kd.R_at hq_ HO_0.out);have n1_ := Aside0.mk (blk_at hq_ BK132.out);have n2_ := Aside0.mk (kept_at hq_ HK.out);have n3_ := Aside0.mk (below_at hq_ HB.out);clear hq_ HO_0 BK132 HK HB;have HO_0 := n0_;have BK132 := n1_;have HK := n2_;have HB := n3_;clear n0_ n1_ n2_ n3_));refine store_event (t := 59) (p := 5) (v := ?vo_w12) (w1 := (((((w10.setCell ⟨gb132,0,none⟩ (.int .i64 ((rd_T59 l1 x8_1).f0))).setCell ⟨gb132,1,none⟩ (.int .i64 ((rd_T59 l1 x8_1).f1))).setCell ⟨gb132,2,none⟩ (.int .i64 ((rd_T59 l1 x8_1).f2))).setCell ⟨gb132,3,none⟩ (.bool ((rd_T59 l1 x8_1).f3))).setCell ⟨gb132,4,none⟩ (.int .i64 ((rd_T59 l1 x8_1).f4)))) ?hg ?ho ?hn ?hr ?_;(case ho => rfl);(case hg => rfl);(case hn => rfl);(case hr => first|(go_simp;done)|(go_simp;rfl)|(obtain ⟨_,_,e_⟩ := Kd.R_slice HO_0.out;subst e_;first|(go_simp;done)|(go_simp;rfl)));intro w12 hw;have n0_ : Aside0 (Kd.R k30 30 w12 w0.heap.size (fun k_ => (P0_ k_ ∨ w.heap.size ≤ k_)) u9000_ x0_1) := ⟨(by rw [hw];exact (by (with_reducible repeat (first|apply Kd.R_alloc|apply Kd.R_drewN|apply Kd.R_drew));exact Kd.R_mono (Kd.R_far (p := ⟨gb132,4,none⟩) (Kd.R_far (p := ⟨gb132,3,none⟩) (Kd.R_far (p := ⟨gb132,2,none⟩) (Kd.R_far (p := ⟨gb132,1,none⟩) (Kd.R_far (p := ⟨gb132,0,none⟩) (Kd.R_types HO_0.out BK132.out (by decide)) (fun _ hk => hk.2) (.int .i64 ((rd_T59 l1 x8_1).f0))) (fun _ hk => hk.2) (.int .i64 ((rd_T59 l1 x8_1).f1))) (fun _ hk => hk.2) (.int .i64 ((rd_T59 l1 x8_1).f2))) (fun _ hk => hk.2) (.bool ((rd_T59 l1 x8_1).f3))) (fun _ hk => hk.2) (.int .i64 ((rd_T59 l1 x8_1).f4))) (fun _ hk => hk.1)))⟩;have n1_ : Aside0 (w12.heap[gb132]? = some (.cells #[.int .i64 ((rd_T59 l1 x8_1).f0),.int .i64 ((rd_T59 l1 x8_1).f1),.int .i64 ((rd_T59 l1 x8_1).f2),.bool ((rd_T59 l1 x8_1).f3),.int .i64 ((rd_T59 l1 x8_1).f4)] 59 (0,0))) := ⟨(by rw [hw];exact (by (with_reducible repeat (first|refine blk_drewN ?_ _|refine blk_drew ?_|refine blk_alloc ?_ _));refine blk_put (cs := #[.int .i64 ((rd_T59 l1 x8_1).f0),.int .i64 ((rd_T59 l1 x8_1).f1),.int .i64 ((rd_T59 l1 x8_1).f2),.bool ((rd_T59 l1 x8_1).f3),.int .i64 0]) ?_ 4 _ rfl;(with_reducible repeat (first|refine blk_drewN ?_ _|refine blk_drew ?_|refine blk_alloc ?_ _));refine blk_put (cs := #[.int .i64 ((rd_T59 l1 x8_1).f0),.int .i64 ((rd_T59 l1 x8_1).f1),.int .i64 ((rd_T59 l1 x8_1).f2),.bool false,.int .i64 0]) ?_ 3 _ rfl;(with_reducible repeat (first|refine blk_drewN ?_ _|refine blk_drew ?_|refine blk_alloc ?_ _));refine blk_put (cs := #[.int .i64 ((rd_T59 l1 x8_1).f0),.int .i64 ((rd_T59 l1 x8_1).f1),.int .i64 0,.bool false,.int .i64 0]) ?_ 2 _ rfl;(with_reducible repeat (first|refine blk_drewN ?_ _|refine blk_drew ?_|refine blk_alloc ?_ _));refine blk_put (cs := #[.int .i64 ((rd_T59 l1 x8_1).f0),.int .i64 0,.int .i64 0,.bool false,.int .i64 0]) ?_ 1 _ rfl;(with_reducible repeat (first|refine blk_drewN ?_ _|refine blk_drew ?_|refine blk_alloc ?_ _));refine blk_put (cs := #[.int .i64 0,.int .i64 0,.int .i64 0,.bool false,.int .i64 0]) ?_ 0 _ rfl;(with_reducible repeat (first|refine blk_drewN ?_ _|refine blk_drew ?_|refine blk_alloc ?_ _));exact BK132.out))⟩;have n2_ : Aside0 (Kept w w12 (fun k_ => P0_ k_)) := ⟨(by rw [hw];exact (by repeat (first|(with_reducible first|exact HK.out|apply Kept.alloc|apply Kept.drewN|apply Kept.drew|refine Kept.setCell ?_ (.inr GW132.out) _)|exact HK.out)))⟩;have n3_ : Aside0 (Below w0.heap.size w0 w12) := ⟨(by rw [hw];exact (by repeat (first|(with_reducible first|exact HB.out|apply below_alloc|apply pw_below_drewN|apply below_drew1|refine below_set ?_ GE132.out)|exact HB.out)))⟩;clear hw;clear HO_0;clear BK132;clear HK;clear HB;have HO_0 := n0_;have BK132 := n1_;have HK := n2_;have HB := n3_;clear n0_ n1_ n2_ n3_;have hcz13_0 : w12.cell? ⟨gb132,0,none⟩ = some (.int .i64 ((rd_T59 l1 x8_1).f0)) := (blk_cell BK132.out 0).trans rfl;have hcz13_1 : w12.cell? ⟨gb132,1,none⟩ = some (.int .i64 ((rd_T59 l1 x8_1).f1)) := (blk_cell BK132.out 1).trans rfl;have hcz13_2 : w12.cell? ⟨gb132,2,none⟩ = some (.int .i64 ((rd_T59 l1 x8_1).f2)) := (blk_cell BK132.out 2).trans rfl;have hcz13_3 : w12.cell? ⟨gb132,3,none⟩ = some (.bool ((rd_T59 l1 x8_1).f3)) := (blk_cell BK132.out 3).trans rfl;have hcz13_4 : w12.cell? ⟨gb132,4,none⟩ = some (.int .i64 ((rd_T59 l1 x8_1).f4)) := (blk_cell BK132.out 4).trans rfl;have hfz13_0 := blk_frozen BK132.out 0;have hfz13_1 := blk_frozen BK132.out 1;have hfz13_2 := blk_frozen BK132.out 2;have hfz13_3 := blk_frozen BK132.out 3;have hfz13_4 := blk_frozen BK132.out 4;obtain ⟨Ao14,co14,eo14⟩ := Kd.R_slice HO_0.out;subst eo14;have p133 : 0 ≤ (((rd_T59 l1 x8_1).f1) : Int) := of_decide_eq_true (by first|(with_reducible assumption)|assumption);have q133 : ((rd_T59 l1 x8_1).f1) < (x0_1.length : Int) := of_decide_eq_true (by first|(with_reducible assumption)|assumption);obtain ⟨ad133,e133,hx133_0,hx133_1⟩ := at_T30 (Kd.R_reads' HO_0.out).2.2 ((rd_T59 l1 x8_1).f1) p133 q133;cases e133;replace p133 := eq_true p133;replace q133 := eq_true q133;have p134 : 0 ≤ (((rd_T59 l1 x8_1).f1) : Int) := of_decide_eq_true (by first|(with_reducible assumption)|assumption);have q134 : ((rd_T59 l1 x8_1).f1) < (x0_1.length : Int) := of_decide_eq_true (by first|(with_reducible assumption)|assumption);obtain ⟨ad134,e134,hx134_0,hx134_1⟩ := at_T30 (Kd.R_reads' HO_0.out).2.2 ((rd_T59 l1 x8_1).f1) p134 q134;obtain rfl : ad133 = ad134 := (by injection e134);replace p134 := eq_true p134;replace q134 := eq_true q134;have p9 : 0 ≤ (((rd_T59 l1 x8_1).f1) : Int) := of_decide_eq_true (by first|(with_reducible assumption)|assumption);have q9 : (((rd_T59 l1 x8_1).f1) : Int) < ((x0_1.length : Int) : Int) := of_decide_eq_true (by first|(with_reducible assumption)|assumption);obtain ⟨go9,co9,eo9,gb9,gl9,cl9,HG9⟩ := Kd.R_form HO_0.out (by omega);(first|cases eo9|(injection eo9 with ea_ en_ ec_;(first|subst ea_|(injection ea_ with ea_;subst ea_));subst ec_;clear en_));have GB9 := Aside0.mk gb9;have GG9 := Aside0.mk HG9;clear gb9 gl9 HG9;have HMgo9 := Aside0.mk (show (P0_ go9 ∨ w.heap.size ≤ go9) from (HO_0.out.1 _ rfl));(first|simp only [add_plain] at hx133_0|skip);(first|simp only [add_plain] at hx133_1|skip);(first|simp only [add_plain] at hx134_0|skip);(first|simp only [add_plain] at hx134_1|skip);obtain ⟨ce9,hcl9,hM9,hcc9,hfr9⟩ := Kd.R_elem HO_0.out z30 (((rd_T59 l1 x8_1).f1) : Int) p9 q9;obtain rfl := k30_openM hM9;have hx9_0 : w12.cell? ⟨go9,(((rd_T59 l1 x8_1).f1) : Int).toNat * 2,none⟩ = some (.int .i64 ((rd_T30 x0_1 ((rd_T59 l1 x8_1).f1)).f0)) := hcc9 0 _ rfl;have hx9_1 : w12.cell? ⟨go9,(((rd_T59 l1 x8_1).f1) : Int).toNat * 2 + 1,none⟩ = some (.int .i64 ((rd_T30 x0_1 ((rd_T59 l1 x8_1).f1)).f1)) := hcc9 1 _ rfl;have hf9_0 : w12.frozen? ⟨go9,(((rd_T59 l1 x8_1).f1) : Int).toNat * 2,none⟩ = false := hfr9 0;have hf9_1 : w12.frozen? ⟨go9,(((rd_T59 l1 x8_1).f1) : Int).toNat * 2 + 1,none⟩ = false := hfr9 1;clear hcl9 hcc9 hfr9 hM9;replace p9 := eq_true p9;replace q9 := eq_true q9;have HX15 := Aside0.mk (show Kd.R k30 30 w12 w0.heap.size (fun k_ => (P0_ k_ ∨ w.heap.size ≤ k_)) (.slice (some ⟨go9,0,none⟩) x0_1.length co14) x0_1 from (by (with_reducible repeat (first|apply Kd.R_alloc|apply Kd.R_drewN|apply Kd.R_drew));exact HO_0.out));obtain ⟨ce15,hcl15,hM15,hcc15,hfr15⟩ := Kd.R_elem HX15.out z30 (((rd_T59 l1 x8_1).f1) : Int) (of_decide_eq_true (by first|(with_reducible assumption)|assumption)) (by have h_ : (((rd_T59 l1 x8_1).f1) : Int) < ((x0_1.length : Int) : Int) := of_decide_eq_true (by first|(with_reducible assumption)|assumption);first|exact h_|(have e_ := (Kd.R_reads' HO_0.out).1;omega)|simpa using h_);obtain rfl := k30_openM hM15;have HP15 := Kd.R_seg HX15.out (((rd_T59 l1 x8_1).f1) : Int) (of_decide_eq_true (by first|(with_reducible assumption)|assumption)) (by have h_ : (((rd_T59 l1 x8_1).f1) : Int) < ((x0_1.length : Int) : Int) := of_decide_eq_true (by first|(with_reducible assumption)|assumption);first|exact h_|(have e_ := (Kd.R_reads' HO_0.out).1;omega)|simpa using h_) (seg := [.int .i64 (Go.bits .andNot .i64 ((rd_T30 x0_1 ((rd_T59 l1 x8_1).f1)).f0) 1)]) (j := 0) hcl15 hcc15 (show 1 ≤ 2 from by decide) (x' := (⟨Go.bits .andNot .i64 ((rd_T30 x0_1 ((rd_T59 l1 x8_1).f1)).f0) 1,(rd_T30 x0_1 ((rd_T59 l1 x8_1).f1)).f1⟩ : S30)) (k30_mkM _ _ _ (⟨Go.bits .andNot .i64 ((rd_T30 x0_1 ((rd_T59 l1 x8_1).f1)).f0) 1,(rd_T30 x0_1 ((rd_T59 l1 x8_1).f1)).f1⟩ : S30) ) (fun _ hk => hk);have hx15_0 := hcc15 0 _ rfl;(try simp only [show (k30).sz = 2 from rfl,Nat.mul_one,Nat.add_zero] at hx15_0);have hf15_0 := hfr15 0;(try simp only [show (k30).sz = 2 from rfl,Nat.mul_one,Nat.add_zero] at hf15_0);clear hcl15 hcc15 hfr15 hM15)|((with_reducible refine gate_store (t := 2) (p := 30) rfl ?_);(try (rw [drewN_self w12];generalize hq_ : World.drewN w12 _ = w12;have n0_ := Aside0.mk (Kd.R_at hq_ HO_0.out);have n1_ := Aside0.mk (blk_at hq_ BK132.out);have n2_ := Aside0.mk (kept_at hq_ HK.out);have n3_ := Aside0.mk (below_at hq_ HB.out);clear hq_ HO_0 BK132 HK HB;have HO_0 := n0_;have BK132 := n1_;have HK := n2_;have HB := n3_;clear n0_ n1_ n2_ n3_;(try (have HX15 := Aside0.mk (show Kd.R k30 30 w12 w0.heap.size (fun k_ => (P0_ k_ ∨ w.heap.size ≤ k_)) (.slice (some ⟨go9,0,none⟩) x0_1.length co14) x0_1 from (by (with_reducible repeat (first|apply Kd.R_alloc|apply Kd.R_drewN|apply Kd.R_drew));exact HO_0.out))));(try (obtain ⟨ce15,hcl15,hM15,hcc15,hfr15⟩ := Kd.R_elem HX15.out z30 (((rd_T59 l1 x8_1).f1) : Int) (of_decide_eq_true (by first|(with_reducible assumption)|assumption)) (by have h_ : (((rd_T59 l1 x8_1).f1) : Int) < ((x0_1.length : Int) : Int) := of_decide_eq_true (by first|(with_reducible assumption)|assumption);first|exact h_|(have e_ := (Kd.R_reads' HO_0.out).1;omega)|simpa using h_)));(try (obtain rfl := k30_openM hM15));(try (have HP15 := Kd.R_seg HX15.out (((rd_T59 l1 x8_1).f1) : Int) (of_decide_eq_true (by first|(with_reducible assumption)|assumption)) (by have h_ : (((rd_T59 l1 x8_1).f1) : Int) < ((x0_1.length : Int) : Int) := of_decide_eq_true (by first|(with_reducible assumption)|assumption);first|exact h_|(have e_ := (Kd.R_reads' HO_0.out).1;omega)|simpa using h_) (seg := [.int .i64 (Go.bits .andNot .i64 ((rd_T30 x0_1 ((rd_T59 l1 x8_1).f1)).f0) 1)]) (j := 0) hcl15 hcc15 (show 1 ≤ 2 from by decide) (x' := (⟨Go.bits .andNot .i64 ((rd_T30 x0_1 ((rd_T59 l1 x8_1).f1)).f0) 1,(rd_T30 x0_1 ((rd_T59 l1 x8_1).f1)).f1⟩ : S30)) (k30_mkM _ _ _ (⟨Go.bits .andNot .i64 ((rd_T30 x0_1 ((rd_T59 l1 x8_1).f1)).f0) 1,(rd_T30 x0_1 ((rd_T59 l1 x8_1).f1)).f1⟩ : S30) ) (fun _ hk => hk)));(try (have hx15_0 := hcc15 0 _ rfl));(try (try simp only [show (k30).sz = 2 from rfl,Nat.mul_one,Nat.add_zero] at hx15_0));(try (have hf15_0 := hfr15 0));(try (try simp only [show (k30).sz = 2 from rfl,Nat.mul_one,Nat.add_zero] at hf15_0));(try (clear hcl15 hcc15 hfr15 hM15))));refine store_event (t := 2) (p := 30) (v := ?vo_w16) (w1 := (w12.setCell ⟨go9,(((rd_T59 l1 x8_1).f1) : Int).toNat * 2,none⟩ (.int .i64 (Go.bits .andNot .i64 ((rd_T30 x0_1 ((rd_T59 l1 x8_1).f1)).f0) 1)))) ?hg ?ho ?hn ?hr ?_;(case ho => rfl);(case hg => rfl);(case hn => rfl);(case hr => first|(go_simp;done)|(go_simp;rfl)|(obtain ⟨_,_,e_⟩ := Kd.R_slice HO_0.out;subst e_;first|(go_simp;done)|(go_simp;rfl)));intro w16 hw;have hg : w12.grownBy w16 (some go9) := (by rw [hw];exact HP15.2);have hp_ : Kd.R k30 30 w16 w0.heap.size (fun k_ => (P0_ k_ ∨ w.heap.size ≤ k_)) (.slice (some ⟨go9,0,none⟩) x0_1.length co14) y135 := (by rw [hw,Ny135.out];exact HP15.1);clear HP15;have n0_ := Aside0.mk (hp_);have n1_ := Aside0.mk (blk_grown (g := gb132) (o := .cells #[.int .i64 ((rd_T59 l1 x8_1).f0),.int .i64 ((rd_T59 l1 x8_1).f1),.int .i64 ((rd_T59 l1 x8_1).f2),.bool ((rd_T59 l1 x8_1).f3),.int .i64 ((rd_T59 l1 x8_1).f4)] 59 (0,0)) (by (with_reducible repeat (first|refine blk_drewN ?_ _|refine blk_drew ?_|refine blk_alloc ?_ _));exact BK132.out) hg (Kd.R_ne HO_0.out BK132.out (by decide)));have n2_ := Aside0.mk ((by rw [hw];exact below_set (HB.out) GB9.out : Below w0.heap.size w0 w16));have n3_ := Aside0.mk (Kept.of_grown (S := (fun k_ => P0_ k_)) hg (by repeat (first|(with_reducible first|exact HK.out|apply Kept.alloc|apply Kept.drewN|apply Kept.drew|refine Kept.setCell ?_ (.inr GW132.out) _)|exact HK.out)) (fun k_ e_ => (HO_0.out.1 k_ e_)));clear HO_0;clear BK132;clear HB;clear HK;have HO_0 := n0_;have BK132 := n1_;have HB := n2_;have HK := n3_;clear n0_ n1_ n2_ n3_;clear hg hw hp_)))
         go_roundg k1
         case measure => have := HK1.out;omega
         case rel => exact ⟨(y135),(wrap64 (x8_1 + 1)),(by first|rfl|(simp;done)|(simp [*];done)),H',⟨by have := HK1.out;omega⟩,⟨by (with_reducible repeat (first|apply Kd.R_alloc|apply Kd.R_drewN|apply Kd.R_drew));exact HO_0.out⟩,⟨by repeat (first|(with_reducible first|exact HK.out|apply Kept.alloc|apply Kept.drewN|apply Kept.drew|refine Kept.setCell ?_ (.inr GW132.out) _)|exact HK.out)⟩,⟨by repeat (first|(with_reducible first|exact HB.out|apply below_alloc|apply pw_below_drewN|apply below_drew1|refine below_set ?_ GE132.out)|exact HB.out)⟩⟩
        ·rw [if_neg c8] at H
         have c8b0 : ((wrap64 (Int.tdiv ((rd_T30 x0_1 ((rd_T59 l1 x8_1).f1)).f0) 4)) == ((rd_T59 l1 x8_1).f4)) = false := beq_eq_false_iff_ne.mpr c8
         have c8b1 : ((wrap64 (Int.tdiv ((rd_T30 x0_1 ((rd_T59 l1 x8_1).f1)).f0) 4)) != ((rd_T59 l1 x8_1).f4)) = true := bne_iff_ne.mpr c8
         have H' := Aside0.mk H
         clear H
         have p131 : 0 ≤ (x8_1 : Int) := of_decide_eq_true (by first|(with_reducible assumption)|assumption)
         have q131 : x8_1 < (l1.length : Int) := of_decide_eq_true (by first|(with_reducible assumption)|assumption)
         obtain ⟨ad131,e131,hx131_0,hx131_1,hx131_2,hx131_3,hx131_4⟩ := at_T59 (Kd.C_kept_now HR1.out HK.out) x8_1 p131 q131
         cases e131
         replace p131 := eq_true p131
         replace q131 := eq_true q131
         go_wp2_with (first|((with_reducible refine gate_dst (N := 5) rfl ?_);refine box_event ?hg (N := 5) ?hd (cs := #[.int .i64 0,.int .i64 0,.int .i64 0,.bool false,.int .i64 0]) (t := 59) ?hr ?_;(case hd => rfl);(case hg => rfl);(case hr => first|(go_simp;done)|(go_simp;rfl));intro gb132 hg w17 hbox hb;have n0_ := Aside0.mk (Kd.R_below (by (with_reducible repeat (first|apply Kd.R_alloc|apply Kd.R_drewN|apply Kd.R_drew));exact HO_0.out) hb);have n1_ := Aside0.mk (Kept.below (S := (fun k_ => P0_ k_)) (by repeat (first|(with_reducible first|exact HK.out|apply Kept.alloc|apply Kept.drewN|apply Kept.drew)|exact HK.out)) hb);have n2_ := Aside0.mk (below_step (by repeat (first|(with_reducible first|exact HB.out|apply below_alloc|apply pw_below_drewN|apply below_drew1)|exact HB.out)) hb);have n3_ := Aside0.mk (hbox);have n4_ := Aside0.mk ((by rw [hg];exact (by first|exact HK.out.1|exact (show Kept w _ (fun k_ => P0_ k_) from by repeat (first|(with_reducible first|exact HK.out|apply Kept.alloc|apply Kept.drewN|apply Kept.drew)|exact HK.out)).1) : w.heap.size ≤ gb132));have n5_ := Aside0.mk ((by rw [hg];exact (below_size (by repeat (first|(with_reducible first|exact HB.out|apply below_alloc|apply pw_below_drewN|apply below_drew1)|exact HB.out))) : w0.heap.size ≤ gb132));clear HO_0;clear HK;clear HB;have HO_0 := n0_;have HK := n1_;have HB := n2_;have BK132 := n3_;have GW132 := n4_;have GE132 := n5_;clear n0_ n1_ n2_ n3_ n4_ n5_;clear hb hbox hg;have hcz18_0 : w17.cell? ⟨gb132,0,none⟩ = some (.int .i64 0) := (blk_cell BK132.out 0).trans rfl;have hcz18_1 : w17.cell? ⟨gb132,1,none⟩ = some (.int .i64 0) := (blk_cell BK132.out 1).trans rfl;have hcz18_2 : w17.cell? ⟨gb132,2,none⟩ = some (.int .i64 0) := (blk_cell BK132.out 2).trans rfl;have hcz18_3 : w17.cell? ⟨gb132,3,none⟩ = some (.bool false) := (blk_cell BK132.out 3).trans rfl;have hcz18_4 : w17.cell? ⟨gb132,4,none⟩ = some (.int .i64 0) := (blk_cell BK132.out 4).trans rfl;have hfz18_0 := blk_frozen BK132.out 0;have hfz18_1 := blk_frozen BK132.out 1;have hfz18_2 := blk_frozen BK132.out 2;have hfz18_3 := blk_frozen BK132.out 3;have hfz18_4 := blk_frozen BK132.out 4;obtain ⟨Ao19,co19,eo19⟩ := Kd.R_slice HO_0.out;subst eo19;have p133 : 0 ≤ (((rd_T59 l1 x8_1).f1) : Int) := of_decide_eq_true (by first|(with_reducible assumption)|assumption);have q133 : ((rd_T59 l1 x8_1).f1) < (x0_1.length : Int) := of_decide_eq_true (by first|(with_reducible assumption)|assumption);obtain ⟨ad133,e133,hx133_0,hx133_1⟩ := at_T30 (Kd.R_reads' HO_0.out).2.2 ((rd_T59 l1 x8_1).f1) p133 q133;cases e133;have hn133_0 : ad133.block ≠ gb132 := Kd.own_blk (Kd.R_ne HO_0.out BK132.out (by decide));have hn133_1 : ad133.block ≠ gb132 := Kd.own_blk (Kd.R_ne HO_0.out BK132.out (by decide));have hn133_2 : ad133.block ≠ gb132 := Kd.own_blk (Kd.R_ne HO_0.out BK132.out (by decide));have hn133_3 : ad133.block ≠ gb132 := Kd.own_blk (Kd.R_ne HO_0.out BK132.out (by decide));have hn133_4 : ad133.block ≠ gb132 := Kd.own_blk (Kd.R_ne HO_0.out BK132.out (by decide));replace hx133_0 := (cell_far (p := ⟨gb132,0,none⟩) (by first|(rw [add_block];exact hn133_0)|(show (Addr.add _ _).block ≠ _;rw [add_block];exact hn133_0)|exact hn133_0) (.int .i64 ((rd_T59 l1 x8_1).f0))).trans hx133_0;replace hx133_1 := (cell_far (p := ⟨gb132,0,none⟩) (by first|(rw [add_block];exact hn133_0)|(show (Addr.add _ _).block ≠ _;rw [add_block];exact hn133_0)|exact hn133_0) (.int .i64 ((rd_T59 l1 x8_1).f0))).trans hx133_1;replace hx133_0 := (cell_far (p := ⟨gb132,1,none⟩) (by first|(rw [add_block];exact hn133_1)|(show (Addr.add _ _).block ≠ _;rw [add_block];exact hn133_1)|exact hn133_1) (.int .i64 ((rd_T59 l1 x8_1).f1))).trans hx133_0;replace hx133_1 := (cell_far (p := ⟨gb132,1,none⟩) (by first|(rw [add_block];exact hn133_1)|(show (Addr.add _ _).block ≠ _;rw [add_block];exact hn133_1)|exact hn133_1) (.int .i64 ((rd_T59 l1 x8_1).f1))).trans hx133_1;replace hx133_0 := (cell_far (p := ⟨gb132,2,none⟩) (by first|(rw [add_block];exact hn133_2)|(show (Addr.add _ _).block ≠ _;rw [add_block];exact hn133_2)|exact hn133_2) (.int .i64 ((rd_T59 l1 x8_1).f2))).trans hx133_0;replace hx133_1 := (cell_far (p := ⟨gb132,2,none⟩) (by first|(rw [add_block];exact hn133_2)|(show (Addr.add _ _).block ≠ _;rw [add_block];exact hn133_2)|exact hn133_2) (.int .i64 ((rd_T59 l1 x8_1).f2))).trans hx133_1;replace hx133_0 := (cell_far (p := ⟨gb132,3,none⟩) (by first|(rw [add_block];exact hn133_3)|(show (Addr.add _ _).block ≠ _;rw [add_block];exact hn133_3)|exact hn133_3) (.bool ((rd_T59 l1 x8_1).f3))).trans hx133_0;replace hx133_1 := (cell_far (p := ⟨gb132,3,none⟩) (by first|(rw [add_block];exact hn133_3)|(show (Addr.add _ _).block ≠ _;rw [add_block];exact hn133_3)|exact hn133_3) (.bool ((rd_T59 l1 x8_1).f3))).trans hx133_1;replace hx133_0 := (cell_far (p := ⟨gb132,4,none⟩) (by first|(rw [add_block];exact hn133_4)|(show (Addr.add _ _).block ≠ _;rw [add_block];exact hn133_4)|exact hn133_4) (.int .i64 ((rd_T59 l1 x8_1).f4))).trans hx133_0;replace hx133_1 := (cell_far (p := ⟨gb132,4,none⟩) (by first|(rw [add_block];exact hn133_4)|(show (Addr.add _ _).block ≠ _;rw [add_block];exact hn133_4)|exact hn133_4) (.int .i64 ((rd_T59 l1 x8_1).f4))).trans hx133_1;(try have hy133_0 := fun (n_ : Nat) => (show (((((((w17.drewN n_).setCell ⟨gb132,0,none⟩ (.int .i64 ((rd_T59 l1 x8_1).f0))).setCell ⟨gb132,1,none⟩ (.int .i64 ((rd_T59 l1 x8_1).f1))).setCell ⟨gb132,2,none⟩ (.int .i64 ((rd_T59 l1 x8_1).f2))).setCell ⟨gb132,3,none⟩ (.bool ((rd_T59 l1 x8_1).f3))).setCell ⟨gb132,4,none⟩ (.int .i64 ((rd_T59 l1 x8_1).f4)))).cell? _ = some _ from hx133_0));(try have hy133_1 := fun (n_ : Nat) => (show (((((((w17.drewN n_).setCell ⟨gb132,0,none⟩ (.int .i64 ((rd_T59 l1 x8_1).f0))).setCell ⟨gb132,1,none⟩ (.int .i64 ((rd_T59 l1 x8_1).f1))).setCell ⟨gb132,2,none⟩ (.int .i64 ((rd_T59 l1 x8_1).f2))).setCell ⟨gb132,3,none⟩ (.bool ((rd_T59 l1 x8_1).f3))).setCell ⟨gb132,4,none⟩ (.int .i64 ((rd_T59 l1 x8_1).f4)))).cell? _ = some _ from hx133_1));clear hn133_0;clear hn133_1;clear hn133_2;clear hn133_3;clear hn133_4;replace p133 := eq_true p133;replace q133 := eq_true q133))
         repeat (go_quiet (first|((with_reducible refine gate_dst (N := 5) rfl ?_);refine box_event ?hg (N := 5) ?hd (cs := #[.int .i64 0,.int .i64 0,.int .i64 0,.bool false,.int .i64 0]) (t := 59) ?hr ?_;(case hd => rfl);(case hg => rfl);(case hr => first|(go_simp;done)|(go_simp;rfl));intro gb132 hg w17 hbox hb;have n0_ := Aside0.mk (Kd.R_below (by (with_reducible repeat (first|apply Kd.R_alloc|apply Kd.R_drewN|apply Kd.R_drew));exact HO_0.out) hb);have n1_ := Aside0.mk (Kept.below (S := (fun k_ => P0_ k_)) (by repeat (first|(with_reducible first|exact HK.out|apply Kept.alloc|apply Kept.drewN|apply Kept.drew)|exact HK.out)) hb);have n2_ := Aside0.mk (below_step (by repeat (first|(with_reducible first|exact HB.out|apply below_alloc|apply pw_below_drewN|apply below_drew1)|exact HB.out)) hb);have n3_ := Aside0.mk (hbox);have n4_ := Aside0.mk ((by rw [hg];exact (by first|exact HK.out.1|exact (show Kept w _ (fun k_ => P0_ k_) from by repeat (first|(with_reducible first|exact HK.out|apply Kept.alloc|apply Kept.drewN|apply Kept.drew)|exact HK.out)).1) : w.heap.size ≤ gb132));have n5_ := Aside0.mk ((by rw [hg];exact (below_size (by repeat (first|(with_reducible first|exact HB.out|apply below_alloc|apply pw_below_drewN|apply below_drew1)|exact HB.out))) : w0.heap.size ≤ gb132));clear HO_0;clear HK;clear HB;have HO_0 := n0_;have HK := n1_;have HB := n2_;have BK132 := n3_;have GW132 := n4_;have GE132 := n5_;clear n0_ n1_ n2_ n3_ n4_ n5_;clear hb hbox hg;have hcz18_0 : w17.cell? ⟨gb132,0,none⟩ = some (.int .i64 0) := (blk_cell BK132.out 0).trans rfl;have hcz18_1 : w17.cell? ⟨gb132,1,none⟩ = some (.int .i64 0) := (blk_cell BK132.out 1).trans rfl;have hcz18_2 : w17.cell? ⟨gb132,2,none⟩ = some (.int .i64 0) := (blk_cell BK132.out 2).trans rfl;have hcz18_3 : w17.cell? ⟨gb132,3,none⟩ = some (.bool false) := (blk_cell BK132.out 3).trans rfl;have hcz18_4 : w17.cell? ⟨gb132,4,none⟩ = some (.int .i64 0) := (blk_cell BK132.out 4).trans rfl;have hfz18_0 := blk_frozen BK132.out 0;have hfz18_1 := blk_frozen BK132.out 1;have hfz18_2 := blk_frozen BK132.out 2;have hfz18_3 := blk_frozen BK132.out 3;have hfz18_4 := blk_frozen BK132.out 4;obtain ⟨Ao19,co19,eo19⟩ := Kd.R_slice HO_0.out;subst eo19;have p133 : 0 ≤ (((rd_T59 l1 x8_1).f1) : Int) := of_decide_eq_true (by first|(with_reducible assumption)|assumption);have q133 : ((rd_T59 l1 x8_1).f1) < (x0_1.length : Int) := of_decide_eq_true (by first|(with_reducible assumption)|assumption);obtain ⟨ad133,e133,hx133_0,hx133_1⟩ := at_T30 (Kd.R_reads' HO_0.out).2.2 ((rd_T59 l1 x8_1).f1) p133 q133;cases e133;have hn133_0 : ad133.block ≠ gb132 := Kd.own_blk (Kd.R_ne HO_0.out BK132.out (by decide));have hn133_1 : ad133.block ≠ gb132 := Kd.own_blk (Kd.R_ne HO_0.out BK132.out (by decide));have hn133_2 : ad133.block ≠ gb132 := Kd.own_blk (Kd.R_ne HO_0.out BK132.out (by decide));have hn133_3 : ad133.block ≠ gb132 := Kd.own_blk (Kd.R_ne HO_0.out BK132.out (by decide));have hn133_4 : ad133.block ≠ gb132 := Kd.own_blk (Kd.R_ne HO_0.out BK132.out (by decide));replace hx133_0 := (cell_far (p := ⟨gb132,0,none⟩) (by first|(rw [add_block];exact hn133_0)|(show (Addr.add _ _).block ≠ _;rw [add_block];exact hn133_0)|exact hn133_0) (.int .i64 ((rd_T59 l1 x8_1).f0))).trans hx133_0;replace hx133_1 := (cell_far (p := ⟨gb132,0,none⟩) (by first|(rw [add_block];exact hn133_0)|(show (Addr.add _ _).block ≠ _;rw [add_block];exact hn133_0)|exact hn133_0) (.int .i64 ((rd_T59 l1 x8_1).f0))).trans hx133_1;replace hx133_0 := (cell_far (p := ⟨gb132,1,none⟩) (by first|(rw [add_block];exact hn133_1)|(show (Addr.add _ _).block ≠ _;rw [add_block];exact hn133_1)|exact hn133_1) (.int .i64 ((rd_T59 l1 x8_1).f1))).trans hx133_0;replace hx133_1 := (cell_far (p := ⟨gb132,1,none⟩) (by first|(rw [add_block];exact hn133_1)|(show (Addr.add _ _).block ≠ _;rw [add_block];exact hn133_1)|exact hn133_1) (.int .i64 ((rd_T59 l1 x8_1).f1))).trans hx133_1;replace hx133_0 := (cell_far (p := ⟨gb132,2,none⟩) (by first|(rw [add_block];exact hn133_2)|(show (Addr.add _ _).block ≠ _;rw [add_block];exact hn133_2)|exact hn133_2) (.int .i64 ((rd_T59 l1 x8_1).f2))).trans hx133_0;replace hx133_1 := (cell_far (p := ⟨gb132,2,none⟩) (by first|(rw [add_block];exact hn133_2)|(show (Addr.add _ _).block ≠ _;rw [add_block];exact hn133_2)|exact hn133_2) (.int .i64 ((rd_T59 l1 x8_1).f2))).trans hx133_1;replace hx133_0 := (cell_far (p := ⟨gb132,3,none⟩) (by first|(rw [add_block];exact hn133_3)|(show (Addr.add _ _).block ≠ _;rw [add_block];exact hn133_3)|exact hn133_3) (.bool ((rd_T59 l1 x8_1).f3))).trans hx133_0;replace hx133_1 := (cell_far (p := ⟨gb132,3,none⟩) (by first|(rw [add_block];exact hn133_3)|(show (Addr.add _ _).block ≠ _;rw [add_block];exact hn133_3)|exact hn133_3) (.bool ((rd_T59 l1 x8_1).f3))).trans hx133_1;replace hx133_0 := (cell_far (p := ⟨gb132,4,none⟩) (by first|(rw [add_block];exact hn133_4)|(show (Addr.add _ _).block ≠ _;rw [add_block];exact hn133_4)|exact hn133_4) (.int .i64 ((rd_T59 l1 x8_1).f4))).trans hx133_0;replace hx133_1 := (cell_far (p := ⟨gb132,4,none⟩) (by first|(rw [add_block];exact hn133_4)|(show (Addr.add _ _).block ≠ _;rw [add_block];exact hn133_4)|exact hn133_4) (.int .i64 ((rd_T59 l1 x8_1).f4))).trans hx133_1;(try have hy133_0 := fun (n_ : Nat) => (show (((((((w17.drewN n_).setCell ⟨gb132,0,none⟩ (.int .i64 ((rd_T59 l1 x8_1).f0))).setCell ⟨gb132,1,none⟩ (.int .i64 ((rd_T59 l1 x8_1).f1))).setCell ⟨gb132,2,none⟩ (.int .i64 ((rd_T59 l1 x8_1).f2))).setCell ⟨gb132,3,none⟩ (.bool ((rd_T59 l1 x8_1).f3))).setCell ⟨gb132,4,none⟩ (.int .i64 ((rd_T59 l1 x8_1).f4)))).cell? _ = some _ from hx133_0));(try have hy133_1 := fun (n_ : Nat) => (show (((((((w17.drewN n_).setCell ⟨gb132,0,none⟩ (.int .i64 ((rd_T59 l1 x8_1).f0))).setCell ⟨gb132,1,none⟩ (.int .i64 ((rd_T59 l1 x8_1).f1))).setCell ⟨gb132,2,none⟩ (.int .i64 ((rd_T59 l1 x8_1).f2))).setCell ⟨gb132,3,none⟩ (.bool ((rd_T59 l1 x8_1).f3))).setCell ⟨gb132,4,none⟩ (.int .i64 ((rd_T59 l1 x8_1).f4)))).cell? _ = some _ from hx133_1));clear hn133_0;clear hn133_1;clear hn133_2;clear hn133_3;clear hn133_4;replace p133 := eq_true p133;replace q133 := eq_true q133));try go_wp2_with (first|((with_reducible refine gate_dst (N := 5) rfl ?_);refine box_event ?hg (N := 5) ?hd (cs := #[.int .i64 0,.int .i64 0,.int .i64 0,.bool false,.int .i64 0]) (t := 59) ?hr ?_;(case hd => rfl);(case hg => rfl);(case hr => first|(go_simp;done)|(go_simp;rfl));intro gb132 hg w17 hbox hb;have n0_ := Aside0.mk (Kd.R_below (by (with_reducible repeat (first|apply Kd.R_alloc|apply Kd.R_drewN|apply Kd.R_drew));exact HO_0.out) hb);have n1_ := Aside0.mk (Kept.below (S := (fun k_ => P0_ k_)) (by repeat (first|(with_reducible first|exact HK.out|apply Kept.alloc|apply Kept.drewN|apply Kept.drew)|exact HK.out)) hb);have n2_ := Aside0.mk (below_step (by repeat (first|(with_reducible first|exact HB.out|apply below_alloc|apply pw_below_drewN|apply below_drew1)|exact HB.out)) hb);have n3_ := Aside0.mk (hbox);have n4_ := Aside0.mk ((by rw [hg];exact (by first|exact HK.out.1|exact (show Kept w _ (fun k_ => P0_ k_) from by repeat (first|(with_reducible first|exact HK.out|apply Kept.alloc|apply Kept.drewN|apply Kept.drew)|exact HK.out)).1) : w.heap.size ≤ gb132));have n5_ := Aside0.mk ((by rw [hg];exact (below_size (by repeat (first|(with_reducible first|exact HB.out|apply below_alloc|apply pw_below_drewN|apply below_drew1)|exact HB.out))) : w0.heap.size ≤ gb132));clear HO_0;clear HK;clear HB;have HO_0 := n0_;have HK := n1_;have HB := n2_;have BK132 := n3_;have GW132 := n4_;have GE132 := n5_;clear n0_ n1_ n2_ n3_ n4_ n5_;clear hb hbox hg;have hcz18_0 : w17.cell? ⟨gb132,0,none⟩ = some (.int .i64 0) := (blk_cell BK132.out 0).trans rfl;have hcz18_1 : w17.cell? ⟨gb132,1,none⟩ = some (.int .i64 0) := (blk_cell BK132.out 1).trans rfl;have hcz18_2 : w17.cell? ⟨gb132,2,none⟩ = some (.int .i64 0) := (blk_cell BK132.out 2).trans rfl;have hcz18_3 : w17.cell? ⟨gb132,3,none⟩ = some (.bool false) := (blk_cell BK132.out 3).trans rfl;have hcz18_4 : w17.cell? ⟨gb132,4,none⟩ = some (.int .i64 0) := (blk_cell BK132.out 4).trans rfl;have hfz18_0 := blk_frozen BK132.out 0;have hfz18_1 := blk_frozen BK132.out 1;have hfz18_2 := blk_frozen BK132.out 2;have hfz18_3 := blk_frozen BK132.out 3;have hfz18_4 := blk_frozen BK132.out 4;obtain ⟨Ao19,co19,eo19⟩ := Kd.R_slice HO_0.out;subst eo19;have p133 : 0 ≤ (((rd_T59 l1 x8_1).f1) : Int) := of_decide_eq_true (by first|(with_reducible assumption)|assumption);have q133 : ((rd_T59 l1 x8_1).f1) < (x0_1.length : Int) := of_decide_eq_true (by first|(with_reducible assumption)|assumption);obtain ⟨ad133,e133,hx133_0,hx133_1⟩ := at_T30 (Kd.R_reads' HO_0.out).2.2 ((rd_T59 l1 x8_1).f1) p133 q133;cases e133;have hn133_0 : ad133.block ≠ gb132 := Kd.own_blk (Kd.R_ne HO_0.out BK132.out (by decide));have hn133_1 : ad133.block ≠ gb132 := Kd.own_blk (Kd.R_ne HO_0.out BK132.out (by decide));have hn133_2 : ad133.block ≠ gb132 := Kd.own_blk (Kd.R_ne HO_0.out BK132.out (by decide));have hn133_3 : ad133.block ≠ gb132 := Kd.own_blk (Kd.R_ne HO_0.out BK132.out (by decide));have hn133_4 : ad133.block ≠ gb132 := Kd.own_blk (Kd.R_ne HO_0.out BK132.out (by decide));replace hx133_0 := (cell_far (p := ⟨gb132,0,none⟩) (by first|(rw [add_block];exact hn133_0)|(show (Addr.add _ _).block ≠ _;rw [add_block];exact hn133_0)|exact hn133_0) (.int .i64 ((rd_T59 l1 x8_1).f0))).trans hx133_0;replace hx133_1 := (cell_far (p := ⟨gb132,0,none⟩) (by first|(rw [add_block];exact hn133_0)|(show (Addr.add _ _).block ≠ _;rw [add_block];exact hn133_0)|exact hn133_0) (.int .i64 ((rd_T59 l1 x8_1).f0))).trans hx133_1;replace hx133_0 := (cell_far (p := ⟨gb132,1,none⟩) (by first|(rw [add_block];exact hn133_1)|(show (Addr.add _ _).block ≠ _;rw [add_block];exact hn133_1)|exact hn133_1) (.int .i64 ((rd_T59 l1 x8_1).f1))).trans hx133_0;replace hx133_1 := (cell_far (p := ⟨gb132,1,none⟩) (by first|(rw [add_block];exact hn133_1)|(show (Addr.add _ _).block ≠ _;rw [add_block];exact hn133_1)|exact hn133_1) (.int .i64 ((rd_T59 l1 x8_1).f1))).trans hx133_1;replace hx133_0 := (cell_far (p := ⟨gb132,2,none⟩) (by first|(rw [add_block];exact hn133_2)|(show (Addr.add _ _).block ≠ _;rw [add_block];exact hn133_2)|exact hn133_2) (.int .i64 ((rd_T59 l1 x8_1).f2))).trans hx133_0;replace hx133_1 := (cell_far (p := ⟨gb132,2,none⟩) (by first|(rw [add_block];exact hn133_2)|(show (Addr.add _ _).block ≠ _;rw [add_block];exact hn133_2)|exact hn133_2) (.int .i64 ((rd_T59 l1 x8_1).f2))).trans hx133_1;replace hx133_0 := (cell_far (p := ⟨gb132,3,none⟩) (by first|(rw [add_block];exact hn133_3)|(show (Addr.add _ _).block ≠ _;rw [add_block];exact hn133_3)|exact hn133_3) (.bool ((rd_T59 l1 x8_1).f3))).trans hx133_0;replace hx133_1 := (cell_far (p := ⟨gb132,3,none⟩) (by first|(rw [add_block];exact hn133_3)|(show (Addr.add _ _).block ≠ _;rw [add_block];exact hn133_3)|exact hn133_3) (.bool ((rd_T59 l1 x8_1).f3))).trans hx133_1;replace hx133_0 := (cell_far (p := ⟨gb132,4,none⟩) (by first|(rw [add_block];exact hn133_4)|(show (Addr.add _ _).block ≠ _;rw [add_block];exact hn133_4)|exact hn133_4) (.int .i64 ((rd_T59 l1 x8_1).f4))).trans hx133_0;replace hx133_1 := (cell_far (p := ⟨gb132,4,none⟩) (by first|(rw [add_block];exact hn133_4)|(show (Addr.add _ _).block ≠ _;rw [add_block];exact hn133_4)|exact hn133_4) (.int .i64 ((rd_T59 l1 x8_1).f4))).trans hx133_1;(try have hy133_0 := fun (n_ : Nat) => (show (((((((w17.drewN n_).setCell ⟨gb132,0,none⟩ (.int .i64 ((rd_T59 l1 x8_1).f0))).setCell ⟨gb132,1,none⟩ (.int .i64 ((rd_T59 l1 x8_1).f1))).setCell ⟨gb132,2,none⟩ (.int .i64 ((rd_T59 l1 x8_1).f2))).setCell ⟨gb132,3,none⟩ (.bool ((rd_T59 l1 x8_1).f3))).setCell ⟨gb132,4,none⟩ (.int .i64 ((rd_T59 l1 x8_1).f4)))).cell? _ = some _ from hx133_0));(try have hy133_1 := fun (n_ : Nat) => (show (((((((w17.drewN n_).setCell ⟨gb132,0,none⟩ (.int .i64 ((rd_T59 l1 x8_1).f0))).setCell ⟨gb132,1,none⟩ (.int .i64 ((rd_T59 l1 x8_1).f1))).setCell ⟨gb132,2,none⟩ (.int .i64 ((rd_T59 l1 x8_1).f2))).setCell ⟨gb132,3,none⟩ (.bool ((rd_T59 l1 x8_1).f3))).setCell ⟨gb132,4,none⟩ (.int .i64 ((rd_T59 l1 x8_1).f4)))).cell? _ = some _ from hx133_1));clear hn133_0;clear hn133_1;clear hn133_2;clear hn133_3;clear hn133_4;replace p133 := eq_true p133;replace q133 := eq_true q133)))
         go_roundg k1
         case measure => have := HK1.out;omega
         case rel => exact ⟨(x0_1),(wrap64 (x8_1 + 1)),(by first|rfl|(simp;done)|(simp [*];done)),H',⟨by have := HK1.out;omega⟩,⟨by (with_reducible repeat (first|apply Kd.R_alloc|apply Kd.R_drewN|apply Kd.R_drew));exact Kd.R_mono (Kd.R_far (p := ⟨gb132,4,none⟩) (Kd.R_far (p := ⟨gb132,3,none⟩) (Kd.R_far (p := ⟨gb132,2,none⟩) (Kd.R_far (p := ⟨gb132,1,none⟩) (Kd.R_far (p := ⟨gb132,0,none⟩) (Kd.R_types HO_0.out BK132.out (by decide)) (fun _ hk => hk.2) (.int .i64 ((rd_T59 l1 x8_1).f0))) (fun _ hk => hk.2) (.int .i64 ((rd_T59 l1 x8_1).f1))) (fun _ hk => hk.2) (.int .i64 ((rd_T59 l1 x8_1).f2))) (fun _ hk => hk.2) (.bool ((rd_T59 l1 x8_1).f3))) (fun _ hk => hk.2) (.int .i64 ((rd_T59 l1 x8_1).f4))) (fun _ hk => hk.1)⟩,⟨by repeat (first|(with_reducible first|exact HK.out|apply Kept.alloc|apply Kept.drewN|apply Kept.drew|refine Kept.setCell ?_ (.inr GW132.out) _)|exact HK.out)⟩,⟨by repeat (first|(with_reducible first|exact HB.out|apply below_alloc|apply pw_below_drewN|apply below_drew1|refine below_set ?_ GE132.out)|exact HB.out)⟩⟩
       ·rw [if_neg c7] at H
        exact absurd H (by simp)
      ·rw [if_neg c6] at H
       exact absurd H (by simp)
     ·rw [if_neg c5] at H
      exact absurd H (by simp)
    ·rw [if_neg c4] at H
     exact absurd H (by simp)
   ·rw [if_neg c3] at H
    have c3b0 : decide (x8_1 < (l1.length : Int)) = false := decide_eq_false c3
    clear c3
    obtain rfl := Option.some.inj H
    go_wp2
    repeat (go_quiet (fail);try go_wp2)
    first|go_end0|((try simp only [Exit.inBlock,Exit.then]);refine bodyPost_ret (results_none rfl _ _ _) rfl ?_)
    exact ⟨by first|rfl|(simp [errW_none,errW_some] <;> rfl)|(simp [*,errW_none,errW_some] <;> rfl),by (with_reducible repeat (first|apply Kd.R_alloc|apply Kd.R_drewN|apply Kd.R_drew));exact HO_0.out,by repeat (first|(with_reducible first|exact HB.out|apply below_alloc|apply pw_below_drewN|apply below_drew1)|exact HB.out),by repeat (first|(with_reducible first|exact HK.out|apply Kept.alloc|apply Kept.drewN|apply Kept.drew)|exact HK.out)⟩

/-! ### impl_Unlock: function 33 -/
def impl_Unlock.j0 : Nat → List (S30) → List (S59) → Bool → Option ((List (S30)))
  | 0, _, _, _ => none
  | k + 1, x0, x1, x13 => if x13 = true then (some ([] : List (S30))) else ((impl_Cell_81.f x0).bind fun t138 => ((impl_unlock.f k t138 x1).bind fun t141 => (some t141)))
def impl_Unlock.f (k : Nat) (l0 : List (S30)) (l1 : List (S59)) : Option ((List (S30))) := (impl_areCells.f l0).bind fun t136 => (if t136 = true then ((impl_areSets.f k l1).bind fun t137 => (impl_Unlock.j0 k l0 l1 (!t137))) else (impl_Unlock.j0 k l0 l1 true))

set_option maxHeartbeats 8000000 in
set_option maxRecDepth 100000 in
theorem impl_Unlock.calls (k : Nat) (A0 : Option Addr) (c0 : Nat) (l0 : List (S30)) (A1 : Option Addr) (c1 : Nat) (l1 : List (S59)) (r : List (S30)) (w : World) (hr0 : Kd.C k30 w A0 l0.length l0) (hc0 : l0.length ≤ c0) (hr1 : Kd.C k59 w A1 l1.length l1) (hc1 : l1.length ≤ c1) (h : impl_Unlock.f k l0 l1 = some r) :
    Calls Try.prog 33 #[.slice A0 l0.length c0, .slice A1 l1.length c1] w fun e w' => ∃ v0_ : Value, e = .returned (v0_) ∧ Kd.R k30 30 w' w.heap.size (fun _ => True) v0_ r ∧ Below w.heap.size w w' := by
 have HR0 := Aside0.mk hr0
 have HC0 := Aside0.mk hc0
 clear hr0 hc0
 have HR1 := Aside0.mk hr1
 have HC1 := Aside0.mk hc1
 clear hr1 hc1
 have HB := Aside0.mk (Below.refl w.heap.size w)
 have H : ((impl_areCells.f l0).bind fun t136 => (if t136 = true then ((impl_areSets.f k l1).bind fun t137 => (impl_Unlock.j0 k l0 l1 (!t137))) else (impl_Unlock.j0 k l0 l1 true))) = some r := h
 clear h
 have HC3 := Aside0.mk H
 clear H
 go_enter Try.func33,Try.ntmps33
 go_upto_region 1 with (fail)
 go_cut [13] (fun v13 wc => ∃ (kq : Nat) (x13_2 : Bool),v13 = .bool x13_2 ∧ Aside0 (impl_Unlock.j0 kq l0 l1 x13_2 = some r) ∧ Aside0 (kq ≤ k) ∧ Aside0 (Below w.heap.size w wc))
 case first =>
  have H := HC3.out
  clear HC3
  replace H := Option.bind_eq_some_iff.mp H
  obtain ⟨t136,A40,H⟩ := H
  replace H : (if t136 = true then ((impl_areSets.f k l1).bind fun t137 => (impl_Unlock.j0 k l0 l1 (!t137))) else (impl_Unlock.j0 k l0 l1 true)) = some r := H
  have A4 := Aside0.mk A40
  clear A40
  by_cases c5 : t136 = true
  ·subst c5
   have H1 : ((impl_areSets.f k l1).bind fun t137 => (impl_Unlock.j0 k l0 l1 (!t137))) = some r := by rw [if_pos rfl] at H;exact H
   clear H
   have H := H1
   clear H1
   replace H := Option.bind_eq_some_iff.mp H
   obtain ⟨t137,A60,H⟩ := H
   replace H : (impl_Unlock.j0 k l0 l1 (!t137)) = some r := H
   have A6 := Aside0.mk A60
   clear A60
   have H' := Aside0.mk H
   clear H
   go_wp2_with (first|((with_reducible refine gcal_ (f := 66) rfl ?_);refine goesL_ (some 7) rfl rfl Try.func66 (by kernel_rfl) rfl #[.slice A0 l0.length c0] rfl (by (try simp only [List.map_toArray,List.map_cons,List.map_nil]);first|done|rfl|(simp only [List.length_drop,List.length_take];rfl)) ?_;(with_reducible refine (impl_areCells.calls _ _ l0 true _ ?side1 ?side2 A4.out).mono ?_);(case side1 => repeat (first|exact (Kd.C_below HR0.out HB.out)|(with_reducible refine Kd.C_alloc ?_ _)|(with_reducible refine Kd.C_drewN ?_ _)|(with_reducible refine Kd.C_drew ?_)));(case side2 => exact HC0.out);rintro e w7 ⟨rfl,hb⟩;refine ⟨_,rfl,?_⟩;have n0_ := Aside0.mk (below_step (by repeat (first|(with_reducible first|exact HB.out|apply below_alloc|apply pw_below_drewN|apply below_drew1)|exact HB.out)) hb);clear HB;have HB := n0_;clear n0_;(try clear hb);(try clear hb2);(try clear hk);(try clear hi))|(go_at_call 80;(with_reducible refine (impl_areSets.calls k _ _ l1 t137 _ ?side1 ?side2 A6.out).mono ?_);(case side1 => repeat (first|exact (Kd.C_below HR1.out HB.out)|(with_reducible refine Kd.C_alloc ?_ _)|(with_reducible refine Kd.C_drewN ?_ _)|(with_reducible refine Kd.C_drew ?_)));(case side2 => exact HC1.out);rintro e w8 ⟨rfl,hb⟩;have n0_ := Aside0.mk (below_step (by repeat (first|(with_reducible first|exact HB.out|apply below_alloc|apply pw_below_drewN|apply below_drew1)|exact HB.out)) hb);clear HB;have HB := n0_;clear n0_;(try clear hb);(try clear hb2);(try clear hk);(try clear hi)))
   go_meet
   case rel => exact ⟨_,(!t137),(by first|rfl|(simp;done)|(simp [*];done)),H',⟨by first|omega|exact Nat.le_refl _⟩,⟨by repeat (first|(with_reducible first|exact HB.out|apply below_alloc|apply pw_below_drewN|apply below_drew1)|exact HB.out)⟩⟩
  ·replace c5 := Bool.eq_false_iff.mpr c5
   subst c5
   have H1 : (impl_Unlock.j0 k l0 l1 true) = some r := by rw [if_neg (show ¬ (false = true) by decide)] at H;exact H
   clear H
   have H := H1
   clear H1
   have H' := Aside0.mk H
   clear H
   go_wp2_with (first|((with_reducible refine gcal_ (f := 66) rfl ?_);refine goesL_ (some 7) rfl rfl Try.func66 (by kernel_rfl) rfl #[.slice A0 l0.length c0] rfl (by (try simp only [List.map_toArray,List.map_cons,List.map_nil]);first|done|rfl|(simp only [List.length_drop,List.length_take];rfl)) ?_;(with_reducible refine (impl_areCells.calls _ _ l0 false _ ?side1 ?side2 A4.out).mono ?_);(case side1 => repeat (first|exact (Kd.C_below HR0.out HB.out)|(with_reducible refine Kd.C_alloc ?_ _)|(with_reducible refine Kd.C_drewN ?_ _)|(with_reducible refine Kd.C_drew ?_)));(case side2 => exact HC0.out);rintro e w9 ⟨rfl,hb⟩;refine ⟨_,rfl,?_⟩;have n0_ := Aside0.mk (below_step (by repeat (first|(with_reducible first|exact HB.out|apply below_alloc|apply pw_below_drewN|apply below_drew1)|exact HB.out)) hb);clear HB;have HB := n0_;clear n0_;(try clear hb);(try clear hb2);(try clear hk);(try clear hi)))
   go_meet
   case rel => exact ⟨_,(true),(by first|rfl|(simp;done)|(simp [*];done)),H',⟨by first|omega|exact Nat.le_refl _⟩,⟨by repeat (first|(with_reducible first|exact HB.out|apply below_alloc|apply pw_below_drewN|apply below_drew1)|exact HB.out)⟩⟩
 case rest =>
  clear HC3
  try clear c1
  try clear p2
  try clear c3
  try clear c5
  try clear c6
  obtain ⟨kq,x13_2,rfl,HA,HJ2,HB⟩ := hcut
  cases kq with
    | zero => exact absurd HA.out (by simp [impl_Unlock.j0])
    | succ kj2 =>
   have H := HA.out
   clear HA
   simp only [impl_Unlock.j0] at H
   by_cases c10 : x13_2 = true
   ·subst c10
    have H1 : (some ([] : List (S30))) = some r := by rw [if_pos rfl] at H;exact H
    clear H
    have H := H1
    clear H1
    obtain rfl := Option.some.inj H
    go_wp2
    go_ret
    exact ⟨_,by first|rfl|(simp [errW_none,errW_some] <;> rfl)|(simp [*,errW_none,errW_some] <;> rfl),by first|exact Kd.R_nil _ _ _ _ _|exact Kd.N_nil _ _ _ _ _|exact Kd.V_nil _ _ _ _ _|exact Kd.Q_nil _ _ _ _ _|exact Kd.S_nil _ _ _ _ _,by repeat (first|(with_reducible first|exact HB.out|apply below_alloc|apply pw_below_drewN|apply below_drew1)|exact HB.out)⟩
   ·replace c10 := Bool.eq_false_iff.mpr c10
    subst c10
    have H1 : ((impl_Cell_81.f l0).bind fun t138 => ((impl_unlock.f kj2 t138 l1).bind fun t141 => (some t141))) = some r := by rw [if_neg (show ¬ (false = true) by decide)] at H;exact H
    clear H
    have H := H1
    clear H1
    replace H := Option.bind_eq_some_iff.mp H
    obtain ⟨t138,A110,H⟩ := H
    replace H : ((impl_unlock.f kj2 t138 l1).bind fun t141 => (some t141)) = some r := H
    have A11 := Aside0.mk A110
    clear A110
    replace H := Option.bind_eq_some_iff.mp H
    obtain ⟨t141,A120,H⟩ := H
    replace H : (some t141) = some r := H
    have A12 := Aside0.mk A120
    clear A120
    obtain rfl := Option.some.inj H
    go_wp2_with (first|((with_reducible refine gcal_ (f := 81) rfl ?_);refine goesL_ (some 15) rfl rfl Try.func81 (by kernel_rfl) rfl #[.slice A0 l0.length c0] rfl (by (try simp only [List.map_toArray,List.map_cons,List.map_nil]);first|done|rfl|(simp only [List.length_drop,List.length_take];rfl)) ?_;(with_reducible refine (impl_Cell_81.calls _ _ l0 t138 _ ?side1 ?side2 A11.out).mono ?_);(case side1 => repeat (first|exact (Kd.C_below HR0.out HB.out)|(with_reducible refine Kd.C_alloc ?_ _)|(with_reducible refine Kd.C_drewN ?_ _)|(with_reducible refine Kd.C_drew ?_)));(case side2 => exact HC0.out);rintro e w13 ⟨v139,rfl,ho0,hb⟩;refine ⟨_,rfl,?_⟩;have n0_ := Aside0.mk (Kd.R_lower ho0 (below_size (by repeat (first|(with_reducible first|exact HB.out|apply below_alloc|apply pw_below_drewN|apply below_drew1)|exact HB.out))));have n1_ := Aside0.mk (below_step (by repeat (first|(with_reducible first|exact HB.out|apply below_alloc|apply pw_below_drewN|apply below_drew1)|exact HB.out)) hb);clear HB;have HO140 := n0_;have HB := n1_;clear n0_ n1_;(try clear hb);(try clear hb2);(try clear hk);(try clear hi);(try clear ho0);obtain ⟨Ao14,co14,eo14⟩ := Kd.R_slice HO140.out;subst eo14)|((with_reducible refine gcal_ (f := 82) rfl ?_);refine goesL_ (some 18) rfl rfl Try.func82 (by kernel_rfl) rfl #[.slice Ao14 t138.length co14,.slice A1 l1.length c1] rfl (by (try simp only [List.map_toArray,List.map_cons,List.map_nil]);first|done|rfl|(simp only [List.length_drop,List.length_take];rfl)) ?_;(with_reducible refine (impl_unlock.calls kj2 (fun k_ => some k_ = (.slice Ao14 t138.length co14 : Value).ownBlock) (.slice Ao14 t138.length co14) t138 _ _ l1 t141 w _ ?side1 ?side2 ?side3 ?side4 A12.out).mono ?_);(case side1 => repeat (first|(with_reducible first|exact HB.out|apply below_alloc|apply pw_below_drewN|apply below_drew1)|exact HB.out));(case side2 => exact Kd.R_tight rfl HO140.out);(case side3 => exact Kd.C_kept_came k59_heap HR1.out (by repeat (first|(with_reducible first|exact HB.out|apply below_alloc|apply pw_below_drewN|apply below_drew1)|exact HB.out)) (fun k_ hs_ => (fun e_ => Kd.R_base HO140.out k_ e_.symm) hs_));(case side4 => exact HC1.out);rintro e w15 ⟨rfl,hy0,hb,hkp⟩;refine ⟨_,rfl,?_⟩;have n0_ := Aside0.mk (Kd.R_reok rfl hy0 (fun k_ e_ => HO140.out.1 k_ e_));have n1_ := Aside0.mk (hb);clear HO140;clear HB;have HO140 := n0_;have HB := n1_;clear n0_ n1_;(try clear hb);(try clear hkp);(try clear hy0)))
    go_ret
    exact ⟨_,by first|rfl|(simp [errW_none,errW_some] <;> rfl)|(simp [*,errW_none,errW_some] <;> rfl),by (with_reducible repeat (first|apply Kd.R_alloc|apply Kd.R_drewN|apply Kd.R_drew));exact HO140.out,by repeat (first|(with_reducible first|exact HB.out|apply below_alloc|apply pw_below_drewN|apply below_drew1)|exact HB.out)⟩

/-! ### spec_l1In: function 90 -/
def spec_l1In.f (a0 : Int) (a1 : Int) (a2 : Int) : Option (Bool) := if a0 ≥ a1 then (some (decide (a0 ≤ a2))) else (some false)
set_option maxHeartbeats 8000000 in
set_option maxRecDepth 100000 in
theorem spec_l1In.calls (a0 : Int) (a1 : Int) (a2 : Int) (r : Bool) (w : World) (h : spec_l1In.f a0 a1 a2 = some r) :
    Calls Try.prog 90 #[.int .i64 a0, .int .i64 a1, .int .i64 a2] w fun e w' => e = .returned (.bool r) ∧ Drawn0 w w' := by
 have H : (if a0 ≥ a1 then (some (decide (a0 ≤ a2))) else (some false)) = some r := h
 clear h
 by_cases c4 : a0 ≥ a1
 ·rw [if_pos c4] at H
  have c4b0 : decide (a1 ≤ a0) = true := decide_eq_true c4
  clear c4
  obtain rfl := Option.some.inj H
  go_enter Try.func90,Try.ntmps90
  go_wp2
  go_ret
  exact ⟨by first|rfl|(simp;done)|(simp [*];done),by repeat (first|exact Drawn0.refl _|apply Drawn0.step)⟩
 ·rw [if_neg c4] at H
  have c4b0 : decide (a1 ≤ a0) = false := decide_eq_false c4
  clear c4
  obtain rfl := Option.some.inj H
  go_enter Try.func90,Try.ntmps90
  go_wp2
  go_ret
  exact ⟨by first|rfl|(simp;done)|(simp [*];done),by repeat (first|exact Drawn0.refl _|apply Drawn0.step)⟩

/-! ### spec_HeadOk: function 62 -/
def spec_HeadOk.f (a0 : Int) : Option (Bool) := (spec_l1In.f a0 0 4000003).bind fun t142 => (some t142)
set_option maxHeartbeats 8000000 in
set_option maxRecDepth 100000 in
theorem spec_HeadOk.calls (a0 : Int) (r : Bool) (w : World) (h : spec_HeadOk.f a0 = some r) :
    Calls Try.prog 62 #[.int .i64 a0] w fun e w' => e = .returned (.bool r) ∧ Drawn0 w w' := by
 have H : ((spec_l1In.f a0 0 4000003).bind fun t142 => (some t142)) = some r := h
 clear h
 replace H := Option.bind_eq_some_iff.mp H
 obtain ⟨t142,A20,H⟩ := H
 replace H : (some t142) = some r := H
 have A2 := Aside0.mk A20
 clear A20
 obtain rfl := Option.some.inj H
 go_enter Try.func62,Try.ntmps62
 go_wp2_with (first|((with_reducible refine gcal_ (f := 90) rfl ?_);refine goesL_ (some 4) rfl rfl Try.func90 (by kernel_rfl) rfl #[.int .i64 a0,.int .i64 0,.int .i64 4000003] rfl (by (try simp only [List.map_toArray,List.map_cons,List.map_nil]);first|done|rfl|(simp only [List.length_drop,List.length_take];rfl)) ?_;(with_reducible refine (spec_l1In.calls a0 0 4000003 t142 _ A2.out).mono ?_);rintro e w' ⟨rfl,⟨nd,rfl⟩⟩;refine ⟨_,rfl,?_⟩))
 go_ret
 exact ⟨by first|rfl|(simp;done)|(simp [*];done),by repeat (first|exact Drawn0.refl _|apply Drawn0.step)⟩

/-! ### spec_l1Value: function 63 -/
def spec_l1Value.f (a0 : Int) : Option (Bool) := (spec_l1In.f a0 (-1000000000) 1000000000).bind fun t143 => (some t143)
set_option maxHeartbeats 8000000 in
set_option maxRecDepth 100000 in
theorem spec_l1Value.calls (a0 : Int) (r : Bool) (w : World) (h : spec_l1Value.f a0 = some r) :
    Calls Try.prog 63 #[.int .i64 a0] w fun e w' => e = .returned (.bool r) ∧ Drawn0 w w' := by
 have H : ((spec_l1In.f a0 (-1000000000) 1000000000).bind fun t143 => (some t143)) = some r := h
 clear h
 replace H := Option.bind_eq_some_iff.mp H
 obtain ⟨t143,A20,H⟩ := H
 replace H : (some t143) = some r := H
 have A2 := Aside0.mk A20
 clear A20
 obtain rfl := Option.some.inj H
 go_enter Try.func63,Try.ntmps63
 go_wp2_with (first|((with_reducible refine gcal_ (f := 90) rfl ?_);refine goesL_ (some 4) rfl rfl Try.func90 (by kernel_rfl) rfl #[.int .i64 a0,.int .i64 (-1000000000),.int .i64 1000000000] rfl (by (try simp only [List.map_toArray,List.map_cons,List.map_nil]);first|done|rfl|(simp only [List.length_drop,List.length_take];rfl)) ?_;(with_reducible refine (spec_l1In.calls a0 (-1000000000) 1000000000 t143 _ A2.out).mono ?_);rintro e w' ⟨rfl,⟨nd,rfl⟩⟩;refine ⟨_,rfl,?_⟩))
 go_ret
 exact ⟨by first|rfl|(simp;done)|(simp [*];done),by repeat (first|exact Drawn0.refl _|apply Drawn0.step)⟩

/-! ### spec_Used: function 64 -/
def spec_Used.f (a0 : Int) : Option (Bool) := (spec_HeadOk.f a0).bind fun t144 => (if t144 = true then (some ((Int.tmod (wrap64 (Int.tdiv a0 2)) 2) == 1)) else (some false))
set_option maxHeartbeats 8000000 in
set_option maxRecDepth 100000 in
theorem spec_Used.calls (a0 : Int) (r : Bool) (w : World) (h : spec_Used.f a0 = some r) :
    Calls Try.prog 64 #[.int .i64 a0] w fun e w' => e = .returned (.bool r) ∧ Drawn0 w w' := by
 have H : ((spec_HeadOk.f a0).bind fun t144 => (if t144 = true then (some ((Int.tmod (wrap64 (Int.tdiv a0 2)) 2) == 1)) else (some false))) = some r := h
 clear h
 replace H := Option.bind_eq_some_iff.mp H
 obtain ⟨t144,A20,H⟩ := H
 replace H : (if t144 = true then (some ((Int.tmod (wrap64 (Int.tdiv a0 2)) 2) == 1)) else (some false)) = some r := H
 have A2 := Aside0.mk A20
 clear A20
 by_cases c3 : t144 = true
 ·subst c3
  have H1 : (some ((Int.tmod (wrap64 (Int.tdiv a0 2)) 2) == 1)) = some r := by rw [if_pos rfl] at H;exact H
  clear H
  have H := H1
  clear H1
  obtain rfl := Option.some.inj H
  go_enter Try.func64,Try.ntmps64
  go_wp2_with (first|((with_reducible refine gcal_ (f := 62) rfl ?_);refine goesL_ (some 4) rfl rfl Try.func62 (by kernel_rfl) rfl #[.int .i64 a0] rfl (by (try simp only [List.map_toArray,List.map_cons,List.map_nil]);first|done|rfl|(simp only [List.length_drop,List.length_take];rfl)) ?_;(with_reducible refine (spec_HeadOk.calls a0 true _ A2.out).mono ?_);rintro e w' ⟨rfl,⟨nd,rfl⟩⟩;refine ⟨_,rfl,?_⟩))
  go_ret
  exact ⟨by first|rfl|(simp;done)|(simp [*];done),by repeat (first|exact Drawn0.refl _|apply Drawn0.step)⟩
 ·replace c3 := Bool.eq_false_iff.mpr c3
  subst c3
  have H1 : (some false) = some r := by rw [if_neg (show ¬ (false = true) by decide)] at H;exact H
  clear H
  have H := H1
  clear H1
  obtain rfl := Option.some.inj H
  go_enter Try.func64,Try.ntmps64
  go_wp2_with (first|((with_reducible refine gcal_ (f := 62) rfl ?_);refine goesL_ (some 4) rfl rfl Try.func62 (by kernel_rfl) rfl #[.int .i64 a0] rfl (by (try simp only [List.map_toArray,List.map_cons,List.map_nil]);first|done|rfl|(simp only [List.length_drop,List.length_take];rfl)) ?_;(with_reducible refine (spec_HeadOk.calls a0 false _ A2.out).mono ?_);rintro e w' ⟨rfl,⟨nd,rfl⟩⟩;refine ⟨_,rfl,?_⟩))
  go_ret
  exact ⟨by first|rfl|(simp;done)|(simp [*];done),by repeat (first|exact Drawn0.refl _|apply Drawn0.step)⟩

/-! ### spec_CellsOk: function 15 -/
def spec_CellsOk.l0 : Nat → List (S30) → Int → Option (Bool)
  | 0, _, _ => none
  | k + 1, x0, x3 => if x3 < (x0.length : Int) then (if 0 ≤ x3 then ((spec_HeadOk.f ((rd_T30 x0 x3).f0)).bind fun t147 => (if t147 = true then ((spec_l1Value.f ((rd_T30 x0 x3).f1)).bind fun t148 => (if t148 = true then ((spec_Used.f ((rd_T30 x0 x3).f0)).bind fun t149 => (if t149 = true then (spec_CellsOk.l0 k x0 (wrap64 (x3 + 1))) else (if ((rd_T30 x0 x3).f1) = 0 then (spec_CellsOk.l0 k x0 (wrap64 (x3 + 1))) else (some false)))) else (some false))) else (some false))) else (none)) else (some true)
def spec_CellsOk.f (k : Nat) (l0 : List (S30)) : Option (Bool) := if (l0.length : Int) = 6 then (spec_CellsOk.l0 k l0 0) else (some false)

set_option maxHeartbeats 8000000 in
set_option maxRecDepth 100000 in
theorem spec_CellsOk.calls (k : Nat) (A0 : Option Addr) (c0 : Nat) (l0 : List (S30)) (r : Bool) (w : World) (hr0 : Kd.C k30 w A0 l0.length l0) (hc0 : l0.length ≤ c0) (h : spec_CellsOk.f k l0 = some r) :
    Calls Try.prog 15 #[.slice A0 l0.length c0] w fun e w' => e = .returned (.bool r) ∧ Below w.heap.size w w' := by
 have hu30 := Try.underlying30
 have HR0 := Aside0.mk hr0
 have HC0 := Aside0.mk hc0
 clear hr0 hc0
 have HB := Aside0.mk (Below.refl w.heap.size w)
 have H : (if (l0.length : Int) = 6 then (spec_CellsOk.l0 k l0 0) else (some false)) = some r := h
 clear h
 by_cases c2 : (l0.length : Int) = 6
 ·rw [if_pos c2] at H
  have c2b0 : ((l0.length : Int) == 6) = true := beq_iff_eq.mpr c2
  have c2b1 : ((l0.length : Int) != 6) = false := bne_eq_false_iff_eq.mpr c2
  clear c2
  have H' := Aside0.mk H
  clear H
  go_enter Try.func15,Try.ntmps15
  go_wp2
  go_loopg [3] k (fun kq v3 w' => ∃ (x3_1 : Int),v3 = .int .i64 x3_1 ∧ Aside0 (spec_CellsOk.l0 kq l0 x3_1 = some r) ∧ Aside0 (kq ≤ k) ∧ Aside0 (Below w.heap.size w w'))
  case atStart => exact ⟨(0),(by first|rfl|(simp;done)|(simp [*];done)),H',⟨Nat.le_refl _⟩,⟨by repeat (first|(with_reducible first|exact HB.out|apply below_alloc|apply pw_below_drewN|apply below_drew1)|exact HB.out)⟩⟩
  case round =>
   clear H'
   try clear c1
   try clear c2
   try clear c2b0
   try clear c2b1
   try clear p2
   obtain ⟨x3_1,rfl,HA,HK1,HB⟩ := hrel
   cases gk with
   | zero => exact absurd HA.out (by simp [spec_CellsOk.l0])
   | succ k1 =>
    have H := HA.out
    clear HA
    simp only [spec_CellsOk.l0] at H
    by_cases c3 : x3_1 < (l0.length : Int)
    ·rw [if_pos c3] at H
     have c3b0 : decide (x3_1 < (l0.length : Int)) = true := decide_eq_true c3
     clear c3
     by_cases c4 : 0 ≤ x3_1
     ·rw [if_pos c4] at H
      have c4b0 : decide (0 ≤ x3_1) = true := decide_eq_true c4
      clear c4
      replace H := Option.bind_eq_some_iff.mp H
      obtain ⟨t147,A50,H⟩ := H
      replace H : (if t147 = true then ((spec_l1Value.f ((rd_T30 l0 x3_1).f1)).bind fun t148 => (if t148 = true then ((spec_Used.f ((rd_T30 l0 x3_1).f0)).bind fun t149 => (if t149 = true then (spec_CellsOk.l0 k1 l0 (wrap64 (x3_1 + 1))) else (if ((rd_T30 l0 x3_1).f1) = 0 then (spec_CellsOk.l0 k1 l0 (wrap64 (x3_1 + 1))) else (some false)))) else (some false))) else (some false)) = some r := H
      have A5 := Aside0.mk A50
      clear A50
      by_cases c6 : t147 = true
      ·subst c6
       have H1 : ((spec_l1Value.f ((rd_T30 l0 x3_1).f1)).bind fun t148 => (if t148 = true then ((spec_Used.f ((rd_T30 l0 x3_1).f0)).bind fun t149 => (if t149 = true then (spec_CellsOk.l0 k1 l0 (wrap64 (x3_1 + 1))) else (if ((rd_T30 l0 x3_1).f1) = 0 then (spec_CellsOk.l0 k1 l0 (wrap64 (x3_1 + 1))) else (some false)))) else (some false))) = some r := by rw [if_pos rfl] at H;exact H
       clear H
       have H := H1
       clear H1
       replace H := Option.bind_eq_some_iff.mp H
       obtain ⟨t148,A70,H⟩ := H
       replace H : (if t148 = true then ((spec_Used.f ((rd_T30 l0 x3_1).f0)).bind fun t149 => (if t149 = true then (spec_CellsOk.l0 k1 l0 (wrap64 (x3_1 + 1))) else (if ((rd_T30 l0 x3_1).f1) = 0 then (spec_CellsOk.l0 k1 l0 (wrap64 (x3_1 + 1))) else (some false)))) else (some false)) = some r := H
       have A7 := Aside0.mk A70
       clear A70
       by_cases c8 : t148 = true
       ·subst c8
        have H1 : ((spec_Used.f ((rd_T30 l0 x3_1).f0)).bind fun t149 => (if t149 = true then (spec_CellsOk.l0 k1 l0 (wrap64 (x3_1 + 1))) else (if ((rd_T30 l0 x3_1).f1) = 0 then (spec_CellsOk.l0 k1 l0 (wrap64 (x3_1 + 1))) else (some false)))) = some r := by rw [if_pos rfl] at H;exact H
        clear H
        have H := H1
        clear H1
        replace H := Option.bind_eq_some_iff.mp H
        obtain ⟨t149,A90,H⟩ := H
        replace H : (if t149 = true then (spec_CellsOk.l0 k1 l0 (wrap64 (x3_1 + 1))) else (if ((rd_T30 l0 x3_1).f1) = 0 then (spec_CellsOk.l0 k1 l0 (wrap64 (x3_1 + 1))) else (some false))) = some r := H
        have A9 := Aside0.mk A90
        clear A90
        by_cases c10 : t149 = true
        ·subst c10
         have H1 : (spec_CellsOk.l0 k1 l0 (wrap64 (x3_1 + 1))) = some r := by rw [if_pos rfl] at H;exact H
         clear H
         have H := H1
         clear H1
         have H' := Aside0.mk H
         clear H
         have p145 : 0 ≤ (x3_1 : Int) := of_decide_eq_true (by first|(with_reducible assumption)|assumption)
         have q145 : x3_1 < (l0.length : Int) := of_decide_eq_true (by first|(with_reducible assumption)|assumption)
         obtain ⟨ad145,e145,hx145_0,hx145_1⟩ := at_T30 HR0.out x3_1 p145 q145
         cases e145
         replace hx145_0 := (HB.out.cell (World.block_lt_of_cell? w _ hx145_0)).trans hx145_0
         replace hx145_1 := (HB.out.cell (World.block_lt_of_cell? w _ hx145_1)).trans hx145_1
         replace p145 := eq_true p145
         replace q145 := eq_true q145
         go_wp2_with (first|((with_reducible refine gate_dst (N := 4) rfl ?_);refine box_event ?hg (N := 4) ?hd (cs := #[.int .i64 0,.int .i64 0]) (t := 30) ?hr ?_;(case hd => rfl);(case hg => rfl);(case hr => first|(go_simp;done)|(go_simp;rfl));intro gb146 hg w11 hbox hb;have n0_ := Aside0.mk (below_step (by repeat (first|(with_reducible first|exact HB.out|apply below_alloc|apply pw_below_drewN|apply below_drew1)|exact HB.out)) hb);have n1_ := Aside0.mk (hbox);have n2_ := Aside0.mk ((by rw [hg];exact (below_size (by repeat (first|(with_reducible first|exact HB.out|apply below_alloc|apply pw_below_drewN|apply below_drew1)|exact HB.out))) : w.heap.size ≤ gb146));have n3_ := Aside0.mk ((by rw [hg];exact (below_size (by repeat (first|(with_reducible first|exact HB.out|apply below_alloc|apply pw_below_drewN|apply below_drew1)|exact HB.out))) : w.heap.size ≤ gb146));clear HB;have HB := n0_;have BK146 := n1_;have GW146 := n2_;have GE146 := n3_;clear n0_ n1_ n2_ n3_;clear hb hbox hg;have hcz12_0 : w11.cell? ⟨gb146,0,none⟩ = some (.int .i64 0) := (blk_cell BK146.out 0).trans rfl;have hcz12_1 : w11.cell? ⟨gb146,1,none⟩ = some (.int .i64 0) := (blk_cell BK146.out 1).trans rfl;have hfz12_0 := blk_frozen BK146.out 0;have hfz12_1 := blk_frozen BK146.out 1)|((with_reducible refine gcal_ (f := 62) rfl ?_);refine goesL_ (some 20) rfl rfl Try.func62 (by kernel_rfl) rfl #[.int .i64 ((rd_T30 l0 x3_1).f0)] rfl (by (try simp only [List.map_toArray,List.map_cons,List.map_nil]);first|done|rfl|(simp only [List.length_drop,List.length_take];rfl)) ?_;(with_reducible refine (spec_HeadOk.calls ((rd_T30 l0 x3_1).f0) true _ A5.out).mono ?_);rintro e w' ⟨rfl,⟨nd,rfl⟩⟩;refine ⟨_,rfl,?_⟩)|(go_at_call 63;(with_reducible refine (spec_l1Value.calls ((rd_T30 l0 x3_1).f1) true _ A7.out).mono ?_);rintro e w' ⟨rfl,⟨nd,rfl⟩⟩)|(go_at_call 64;(with_reducible refine (spec_Used.calls ((rd_T30 l0 x3_1).f0) true _ A9.out).mono ?_);rintro e w' ⟨rfl,⟨nd,rfl⟩⟩))
         go_roundg k1
         case measure => have := HK1.out;omega
         case rel => exact ⟨(wrap64 (x3_1 + 1)),(by first|rfl|(simp;done)|(simp [*];done)),H',⟨by have := HK1.out;omega⟩,⟨by repeat (first|(with_reducible first|exact HB.out|apply below_alloc|apply pw_below_drewN|apply below_drew1|refine below_set ?_ GE146.out)|exact HB.out)⟩⟩
        ·replace c10 := Bool.eq_false_iff.mpr c10
         subst c10
         have H1 : (if ((rd_T30 l0 x3_1).f1) = 0 then (spec_CellsOk.l0 k1 l0 (wrap64 (x3_1 + 1))) else (some false)) = some r := by rw [if_neg (show ¬ (false = true) by decide)] at H;exact H
         clear H
         have H := H1
         clear H1
         by_cases c13 : ((rd_T30 l0 x3_1).f1) = 0
         ·rw [if_pos c13] at H
          have c13b0 : (((rd_T30 l0 x3_1).f1) == 0) = true := beq_iff_eq.mpr c13
          have c13b1 : (((rd_T30 l0 x3_1).f1) != 0) = false := bne_eq_false_iff_eq.mpr c13
          clear c13
          have H' := Aside0.mk H
          clear H
          have p145 : 0 ≤ (x3_1 : Int) := of_decide_eq_true (by first|(with_reducible assumption)|assumption)
          have q145 : x3_1 < (l0.length : Int) := of_decide_eq_true (by first|(with_reducible assumption)|assumption)
          obtain ⟨ad145,e145,hx145_0,hx145_1⟩ := at_T30 HR0.out x3_1 p145 q145
          cases e145
          replace hx145_0 := (HB.out.cell (World.block_lt_of_cell? w _ hx145_0)).trans hx145_0
          replace hx145_1 := (HB.out.cell (World.block_lt_of_cell? w _ hx145_1)).trans hx145_1
          replace p145 := eq_true p145
          replace q145 := eq_true q145
          go_wp2_with (first|((with_reducible refine gate_dst (N := 4) rfl ?_);refine box_event ?hg (N := 4) ?hd (cs := #[.int .i64 0,.int .i64 0]) (t := 30) ?hr ?_;(case hd => rfl);(case hg => rfl);(case hr => first|(go_simp;done)|(go_simp;rfl));intro gb146 hg w14 hbox hb;have n0_ := Aside0.mk (below_step (by repeat (first|(with_reducible first|exact HB.out|apply below_alloc|apply pw_below_drewN|apply below_drew1)|exact HB.out)) hb);have n1_ := Aside0.mk (hbox);have n2_ := Aside0.mk ((by rw [hg];exact (below_size (by repeat (first|(with_reducible first|exact HB.out|apply below_alloc|apply pw_below_drewN|apply below_drew1)|exact HB.out))) : w.heap.size ≤ gb146));have n3_ := Aside0.mk ((by rw [hg];exact (below_size (by repeat (first|(with_reducible first|exact HB.out|apply below_alloc|apply pw_below_drewN|apply below_drew1)|exact HB.out))) : w.heap.size ≤ gb146));clear HB;have HB := n0_;have BK146 := n1_;have GW146 := n2_;have GE146 := n3_;clear n0_ n1_ n2_ n3_;clear hb hbox hg;have hcz15_0 : w14.cell? ⟨gb146,0,none⟩ = some (.int .i64 0) := (blk_cell BK146.out 0).trans rfl;have hcz15_1 : w14.cell? ⟨gb146,1,none⟩ = some (.int .i64 0) := (blk_cell BK146.out 1).trans rfl;have hfz15_0 := blk_frozen BK146.out 0;have hfz15_1 := blk_frozen BK146.out 1)|((with_reducible refine gcal_ (f := 62) rfl ?_);refine goesL_ (some 20) rfl rfl Try.func62 (by kernel_rfl) rfl #[.int .i64 ((rd_T30 l0 x3_1).f0)] rfl (by (try simp only [List.map_toArray,List.map_cons,List.map_nil]);first|done|rfl|(simp only [List.length_drop,List.length_take];rfl)) ?_;(with_reducible refine (spec_HeadOk.calls ((rd_T30 l0 x3_1).f0) true _ A5.out).mono ?_);rintro e w' ⟨rfl,⟨nd,rfl⟩⟩;refine ⟨_,rfl,?_⟩)|(go_at_call 63;(with_reducible refine (spec_l1Value.calls ((rd_T30 l0 x3_1).f1) true _ A7.out).mono ?_);rintro e w' ⟨rfl,⟨nd,rfl⟩⟩)|(go_at_call 64;(with_reducible refine (spec_Used.calls ((rd_T30 l0 x3_1).f0) false _ A9.out).mono ?_);rintro e w' ⟨rfl,⟨nd,rfl⟩⟩))
          go_roundg k1
          case measure => have := HK1.out;omega
          case rel => exact ⟨(wrap64 (x3_1 + 1)),(by first|rfl|(simp;done)|(simp [*];done)),H',⟨by have := HK1.out;omega⟩,⟨by repeat (first|(with_reducible first|exact HB.out|apply below_alloc|apply pw_below_drewN|apply below_drew1|refine below_set ?_ GE146.out)|exact HB.out)⟩⟩
         ·rw [if_neg c13] at H
          have c13b0 : (((rd_T30 l0 x3_1).f1) == 0) = false := beq_eq_false_iff_ne.mpr c13
          have c13b1 : (((rd_T30 l0 x3_1).f1) != 0) = true := bne_iff_ne.mpr c13
          obtain rfl := Option.some.inj H
          have p145 : 0 ≤ (x3_1 : Int) := of_decide_eq_true (by first|(with_reducible assumption)|assumption)
          have q145 : x3_1 < (l0.length : Int) := of_decide_eq_true (by first|(with_reducible assumption)|assumption)
          obtain ⟨ad145,e145,hx145_0,hx145_1⟩ := at_T30 HR0.out x3_1 p145 q145
          cases e145
          replace hx145_0 := (HB.out.cell (World.block_lt_of_cell? w _ hx145_0)).trans hx145_0
          replace hx145_1 := (HB.out.cell (World.block_lt_of_cell? w _ hx145_1)).trans hx145_1
          replace p145 := eq_true p145
          replace q145 := eq_true q145
          go_wp2_with (first|((with_reducible refine gate_dst (N := 4) rfl ?_);refine box_event ?hg (N := 4) ?hd (cs := #[.int .i64 0,.int .i64 0]) (t := 30) ?hr ?_;(case hd => rfl);(case hg => rfl);(case hr => first|(go_simp;done)|(go_simp;rfl));intro gb146 hg w16 hbox hb;have n0_ := Aside0.mk (below_step (by repeat (first|(with_reducible first|exact HB.out|apply below_alloc|apply pw_below_drewN|apply below_drew1)|exact HB.out)) hb);have n1_ := Aside0.mk (hbox);have n2_ := Aside0.mk ((by rw [hg];exact (below_size (by repeat (first|(with_reducible first|exact HB.out|apply below_alloc|apply pw_below_drewN|apply below_drew1)|exact HB.out))) : w.heap.size ≤ gb146));have n3_ := Aside0.mk ((by rw [hg];exact (below_size (by repeat (first|(with_reducible first|exact HB.out|apply below_alloc|apply pw_below_drewN|apply below_drew1)|exact HB.out))) : w.heap.size ≤ gb146));clear HB;have HB := n0_;have BK146 := n1_;have GW146 := n2_;have GE146 := n3_;clear n0_ n1_ n2_ n3_;clear hb hbox hg;have hcz17_0 : w16.cell? ⟨gb146,0,none⟩ = some (.int .i64 0) := (blk_cell BK146.out 0).trans rfl;have hcz17_1 : w16.cell? ⟨gb146,1,none⟩ = some (.int .i64 0) := (blk_cell BK146.out 1).trans rfl;have hfz17_0 := blk_frozen BK146.out 0;have hfz17_1 := blk_frozen BK146.out 1)|((with_reducible refine gcal_ (f := 62) rfl ?_);refine goesL_ (some 20) rfl rfl Try.func62 (by kernel_rfl) rfl #[.int .i64 ((rd_T30 l0 x3_1).f0)] rfl (by (try simp only [List.map_toArray,List.map_cons,List.map_nil]);first|done|rfl|(simp only [List.length_drop,List.length_take];rfl)) ?_;(with_reducible refine (spec_HeadOk.calls ((rd_T30 l0 x3_1).f0) true _ A5.out).mono ?_);rintro e w' ⟨rfl,⟨nd,rfl⟩⟩;refine ⟨_,rfl,?_⟩)|(go_at_call 63;(with_reducible refine (spec_l1Value.calls ((rd_T30 l0 x3_1).f1) true _ A7.out).mono ?_);rintro e w' ⟨rfl,⟨nd,rfl⟩⟩)|(go_at_call 64;(with_reducible refine (spec_Used.calls ((rd_T30 l0 x3_1).f0) false _ A9.out).mono ?_);rintro e w' ⟨rfl,⟨nd,rfl⟩⟩))
          go_ret
          exact ⟨by first|rfl|(simp [errW_none,errW_some] <;> rfl)|(simp [*,errW_none,errW_some] <;> rfl),by repeat (first|(with_reducible first|exact HB.out|apply below_alloc|apply pw_below_drewN|apply below_drew1|refine below_set ?_ GE146.out)|exact HB.out)⟩
       ·replace c8 := Bool.eq_false_iff.mpr c8
        subst c8
        have H1 : (some false) = some r := by rw [if_neg (show ¬ (false = true) by decide)] at H;exact H
        clear H
        have H := H1
        clear H1
        obtain rfl := Option.some.inj H
        have p145 : 0 ≤ (x3_1 : Int) := of_decide_eq_true (by first|(with_reducible assumption)|assumption)
        have q145 : x3_1 < (l0.length : Int) := of_decide_eq_true (by first|(with_reducible assumption)|assumption)
        obtain ⟨ad145,e145,hx145_0,hx145_1⟩ := at_T30 HR0.out x3_1 p145 q145
        cases e145
        replace hx145_0 := (HB.out.cell (World.block_lt_of_cell? w _ hx145_0)).trans hx145_0
        replace hx145_1 := (HB.out.cell (World.block_lt_of_cell? w _ hx145_1)).trans hx145_1
        replace p145 := eq_true p145
        replace q145 := eq_true q145
        go_wp2_with (first|((with_reducible refine gate_dst (N := 4) rfl ?_);refine box_event ?hg (N := 4) ?hd (cs := #[.int .i64 0,.int .i64 0]) (t := 30) ?hr ?_;(case hd => rfl);(case hg => rfl);(case hr => first|(go_simp;done)|(go_simp;rfl));intro gb146 hg w18 hbox hb;have n0_ := Aside0.mk (below_step (by repeat (first|(with_reducible first|exact HB.out|apply below_alloc|apply pw_below_drewN|apply below_drew1)|exact HB.out)) hb);have n1_ := Aside0.mk (hbox);have n2_ := Aside0.mk ((by rw [hg];exact (below_size (by repeat (first|(with_reducible first|exact HB.out|apply below_alloc|apply pw_below_drewN|apply below_drew1)|exact HB.out))) : w.heap.size ≤ gb146));have n3_ := Aside0.mk ((by rw [hg];exact (below_size (by repeat (first|(with_reducible first|exact HB.out|apply below_alloc|apply pw_below_drewN|apply below_drew1)|exact HB.out))) : w.heap.size ≤ gb146));clear HB;have HB := n0_;have BK146 := n1_;have GW146 := n2_;have GE146 := n3_;clear n0_ n1_ n2_ n3_;clear hb hbox hg;have hcz19_0 : w18.cell? ⟨gb146,0,none⟩ = some (.int .i64 0) := (blk_cell BK146.out 0).trans rfl;have hcz19_1 : w18.cell? ⟨gb146,1,none⟩ = some (.int .i64 0) := (blk_cell BK146.out 1).trans rfl;have hfz19_0 := blk_frozen BK146.out 0;have hfz19_1 := blk_frozen BK146.out 1)|((with_reducible refine gcal_ (f := 62) rfl ?_);refine goesL_ (some 20) rfl rfl Try.func62 (by kernel_rfl) rfl #[.int .i64 ((rd_T30 l0 x3_1).f0)] rfl (by (try simp only [List.map_toArray,List.map_cons,List.map_nil]);first|done|rfl|(simp only [List.length_drop,List.length_take];rfl)) ?_;(with_reducible refine (spec_HeadOk.calls ((rd_T30 l0 x3_1).f0) true _ A5.out).mono ?_);rintro e w' ⟨rfl,⟨nd,rfl⟩⟩;refine ⟨_,rfl,?_⟩)|(go_at_call 63;(with_reducible refine (spec_l1Value.calls ((rd_T30 l0 x3_1).f1) false _ A7.out).mono ?_);rintro e w' ⟨rfl,⟨nd,rfl⟩⟩))
        go_ret
        exact ⟨by first|rfl|(simp [errW_none,errW_some] <;> rfl)|(simp [*,errW_none,errW_some] <;> rfl),by repeat (first|(with_reducible first|exact HB.out|apply below_alloc|apply pw_below_drewN|apply below_drew1|refine below_set ?_ GE146.out)|exact HB.out)⟩
      ·replace c6 := Bool.eq_false_iff.mpr c6
       subst c6
       have H1 : (some false) = some r := by rw [if_neg (show ¬ (false = true) by decide)] at H;exact H
       clear H
       have H := H1
       clear H1
       obtain rfl := Option.some.inj H
       have p145 : 0 ≤ (x3_1 : Int) := of_decide_eq_true (by first|(with_reducible assumption)|assumption)
       have q145 : x3_1 < (l0.length : Int) := of_decide_eq_true (by first|(with_reducible assumption)|assumption)
       obtain ⟨ad145,e145,hx145_0,hx145_1⟩ := at_T30 HR0.out x3_1 p145 q145
       cases e145
       replace hx145_0 := (HB.out.cell (World.block_lt_of_cell? w _ hx145_0)).trans hx145_0
       replace hx145_1 := (HB.out.cell (World.block_lt_of_cell? w _ hx145_1)).trans hx145_1
       replace p145 := eq_true p145
       replace q145 := eq_true q145
       go_wp2_with (first|((with_reducible refine gate_dst (N := 4) rfl ?_);refine box_event ?hg (N := 4) ?hd (cs := #[.int .i64 0,.int .i64 0]) (t := 30) ?hr ?_;(case hd => rfl);(case hg => rfl);(case hr => first|(go_simp;done)|(go_simp;rfl));intro gb146 hg w20 hbox hb;have n0_ := Aside0.mk (below_step (by repeat (first|(with_reducible first|exact HB.out|apply below_alloc|apply pw_below_drewN|apply below_drew1)|exact HB.out)) hb);have n1_ := Aside0.mk (hbox);have n2_ := Aside0.mk ((by rw [hg];exact (below_size (by repeat (first|(with_reducible first|exact HB.out|apply below_alloc|apply pw_below_drewN|apply below_drew1)|exact HB.out))) : w.heap.size ≤ gb146));have n3_ := Aside0.mk ((by rw [hg];exact (below_size (by repeat (first|(with_reducible first|exact HB.out|apply below_alloc|apply pw_below_drewN|apply below_drew1)|exact HB.out))) : w.heap.size ≤ gb146));clear HB;have HB := n0_;have BK146 := n1_;have GW146 := n2_;have GE146 := n3_;clear n0_ n1_ n2_ n3_;clear hb hbox hg;have hcz21_0 : w20.cell? ⟨gb146,0,none⟩ = some (.int .i64 0) := (blk_cell BK146.out 0).trans rfl;have hcz21_1 : w20.cell? ⟨gb146,1,none⟩ = some (.int .i64 0) := (blk_cell BK146.out 1).trans rfl;have hfz21_0 := blk_frozen BK146.out 0;have hfz21_1 := blk_frozen BK146.out 1)|((with_reducible refine gcal_ (f := 62) rfl ?_);refine goesL_ (some 20) rfl rfl Try.func62 (by kernel_rfl) rfl #[.int .i64 ((rd_T30 l0 x3_1).f0)] rfl (by (try simp only [List.map_toArray,List.map_cons,List.map_nil]);first|done|rfl|(simp only [List.length_drop,List.length_take];rfl)) ?_;(with_reducible refine (spec_HeadOk.calls ((rd_T30 l0 x3_1).f0) false _ A5.out).mono ?_);rintro e w' ⟨rfl,⟨nd,rfl⟩⟩;refine ⟨_,rfl,?_⟩))
       go_ret
       exact ⟨by first|rfl|(simp [errW_none,errW_some] <;> rfl)|(simp [*,errW_none,errW_some] <;> rfl),by repeat (first|(with_reducible first|exact HB.out|apply below_alloc|apply pw_below_drewN|apply below_drew1|refine below_set ?_ GE146.out)|exact HB.out)⟩
     ·rw [if_neg c4] at H
      exact absurd H (by simp)
    ·rw [if_neg c3] at H
     have c3b0 : decide (x3_1 < (l0.length : Int)) = false := decide_eq_false c3
     clear c3
     obtain rfl := Option.some.inj H
     go_wp2
     go_ret
     exact ⟨by first|rfl|(simp [errW_none,errW_some] <;> rfl)|(simp [*,errW_none,errW_some] <;> rfl),by repeat (first|(with_reducible first|exact HB.out|apply below_alloc|apply pw_below_drewN|apply below_drew1)|exact HB.out)⟩
 ·rw [if_neg c2] at H
  have c2b0 : ((l0.length : Int) == 6) = false := beq_eq_false_iff_ne.mpr c2
  have c2b1 : ((l0.length : Int) != 6) = true := bne_iff_ne.mpr c2
  obtain rfl := Option.some.inj H
  go_enter Try.func15,Try.ntmps15
  go_wp2
  go_ret
  exact ⟨by first|rfl|(simp [errW_none,errW_some] <;> rfl)|(simp [*,errW_none,errW_some] <;> rfl),by repeat (first|(with_reducible first|exact HB.out|apply below_alloc|apply pw_below_drewN|apply below_drew1)|exact HB.out)⟩

/-! ### spec_Locked: function 68 -/
def spec_Locked.f (a0 : Int) : Option (Bool) := (spec_HeadOk.f a0).bind fun t150 => (if t150 = true then (some ((Int.tmod a0 2) == 1)) else (some false))
set_option maxHeartbeats 8000000 in
set_option maxRecDepth 100000 in
theorem spec_Locked.calls (a0 : Int) (r : Bool) (w : World) (h : spec_Locked.f a0 = some r) :
    Calls Try.prog 68 #[.int .i64 a0] w fun e w' => e = .returned (.bool r) ∧ Drawn0 w w' := by
 have H : ((spec_HeadOk.f a0).bind fun t150 => (if t150 = true then (some ((Int.tmod a0 2) == 1)) else (some false))) = some r := h
 clear h
 replace H := Option.bind_eq_some_iff.mp H
 obtain ⟨t150,A20,H⟩ := H
 replace H : (if t150 = true then (some ((Int.tmod a0 2) == 1)) else (some false)) = some r := H
 have A2 := Aside0.mk A20
 clear A20
 by_cases c3 : t150 = true
 ·subst c3
  have H1 : (some ((Int.tmod a0 2) == 1)) = some r := by rw [if_pos rfl] at H;exact H
  clear H
  have H := H1
  clear H1
  obtain rfl := Option.some.inj H
  go_enter Try.func68,Try.ntmps68
  go_wp2_with (first|((with_reducible refine gcal_ (f := 62) rfl ?_);refine goesL_ (some 4) rfl rfl Try.func62 (by kernel_rfl) rfl #[.int .i64 a0] rfl (by (try simp only [List.map_toArray,List.map_cons,List.map_nil]);first|done|rfl|(simp only [List.length_drop,List.length_take];rfl)) ?_;(with_reducible refine (spec_HeadOk.calls a0 true _ A2.out).mono ?_);rintro e w' ⟨rfl,⟨nd,rfl⟩⟩;refine ⟨_,rfl,?_⟩))
  go_ret
  exact ⟨by first|rfl|(simp;done)|(simp [*];done),by repeat (first|exact Drawn0.refl _|apply Drawn0.step)⟩
 ·replace c3 := Bool.eq_false_iff.mpr c3
  subst c3
  have H1 : (some false) = some r := by rw [if_neg (show ¬ (false = true) by decide)] at H;exact H
  clear H
  have H := H1
  clear H1
  obtain rfl := Option.some.inj H
  go_enter Try.func68,Try.ntmps68
  go_wp2_with (first|((with_reducible refine gcal_ (f := 62) rfl ?_);refine goesL_ (some 4) rfl rfl Try.func62 (by kernel_rfl) rfl #[.int .i64 a0] rfl (by (try simp only [List.map_toArray,List.map_cons,List.map_nil]);first|done|rfl|(simp only [List.length_drop,List.length_take];rfl)) ?_;(with_reducible refine (spec_HeadOk.calls a0 false _ A2.out).mono ?_);rintro e w' ⟨rfl,⟨nd,rfl⟩⟩;refine ⟨_,rfl,?_⟩))
  go_ret
  exact ⟨by first|rfl|(simp;done)|(simp [*];done),by repeat (first|exact Drawn0.refl _|apply Drawn0.step)⟩

/-! ### spec_l1Slot: function 67 -/
def spec_l1Slot.f (a0 : Int) : Option (Bool) := (spec_l1In.f a0 0 5).bind fun t151 => (some t151)
set_option maxHeartbeats 8000000 in
set_option maxRecDepth 100000 in
theorem spec_l1Slot.calls (a0 : Int) (r : Bool) (w : World) (h : spec_l1Slot.f a0 = some r) :
    Calls Try.prog 67 #[.int .i64 a0] w fun e w' => e = .returned (.bool r) ∧ Drawn0 w w' := by
 have H : ((spec_l1In.f a0 0 5).bind fun t151 => (some t151)) = some r := h
 clear h
 replace H := Option.bind_eq_some_iff.mp H
 obtain ⟨t151,A20,H⟩ := H
 replace H : (some t151) = some r := H
 have A2 := Aside0.mk A20
 clear A20
 obtain rfl := Option.some.inj H
 go_enter Try.func67,Try.ntmps67
 go_wp2_with (first|((with_reducible refine gcal_ (f := 90) rfl ?_);refine goesL_ (some 4) rfl rfl Try.func90 (by kernel_rfl) rfl #[.int .i64 a0,.int .i64 0,.int .i64 5] rfl (by (try simp only [List.map_toArray,List.map_cons,List.map_nil]);first|done|rfl|(simp only [List.length_drop,List.length_take];rfl)) ?_;(with_reducible refine (spec_l1In.calls a0 0 5 t151 _ A2.out).mono ?_);rintro e w' ⟨rfl,⟨nd,rfl⟩⟩;refine ⟨_,rfl,?_⟩))
 go_ret
 exact ⟨by first|rfl|(simp;done)|(simp [*];done),by repeat (first|exact Drawn0.refl _|apply Drawn0.step)⟩

/-! ### spec_l1Region: function 92 -/
def spec_l1Region.f (a0 : Int) : Option (Bool) := (spec_l1In.f a0 0 5).bind fun t152 => (some t152)
set_option maxHeartbeats 8000000 in
set_option maxRecDepth 100000 in
theorem spec_l1Region.calls (a0 : Int) (r : Bool) (w : World) (h : spec_l1Region.f a0 = some r) :
    Calls Try.prog 92 #[.int .i64 a0] w fun e w' => e = .returned (.bool r) ∧ Drawn0 w w' := by
 have H : ((spec_l1In.f a0 0 5).bind fun t152 => (some t152)) = some r := h
 clear h
 replace H := Option.bind_eq_some_iff.mp H
 obtain ⟨t152,A20,H⟩ := H
 replace H : (some t152) = some r := H
 have A2 := Aside0.mk A20
 clear A20
 obtain rfl := Option.some.inj H
 go_enter Try.func92,Try.ntmps92
 go_wp2_with (first|((with_reducible refine gcal_ (f := 90) rfl ?_);refine goesL_ (some 4) rfl rfl Try.func90 (by kernel_rfl) rfl #[.int .i64 a0,.int .i64 0,.int .i64 5] rfl (by (try simp only [List.map_toArray,List.map_cons,List.map_nil]);first|done|rfl|(simp only [List.length_drop,List.length_take];rfl)) ?_;(with_reducible refine (spec_l1In.calls a0 0 5 t152 _ A2.out).mono ?_);rintro e w' ⟨rfl,⟨nd,rfl⟩⟩;refine ⟨_,rfl,?_⟩))
 go_ret
 exact ⟨by first|rfl|(simp;done)|(simp [*];done),by repeat (first|exact Drawn0.refl _|apply Drawn0.step)⟩

/-! ### spec_SetOk: function 112 -/
def spec_SetOk.f (a0_0 : Int) (a0_1 : Int) (a0_2 : Int) (a0_3 : Bool) (a0_4 : Int) : Option (Bool) := (spec_l1Region.f a0_0).bind fun t154 => (if t154 = true then ((spec_l1Slot.f a0_1).bind fun t155 => (if t155 = true then ((spec_l1Value.f a0_2).bind fun t156 => (if t156 = true then ((spec_l1In.f a0_4 0 999999).bind fun t157 => (some t157)) else (some false))) else (some false))) else (some false))
set_option maxHeartbeats 8000000 in
set_option maxRecDepth 100000 in
theorem spec_SetOk.calls (a0_0 : Int) (a0_1 : Int) (a0_2 : Int) (a0_3 : Bool) (a0_4 : Int) (r : Bool) (w : World) (h : spec_SetOk.f a0_0 a0_1 a0_2 a0_3 a0_4 = some r) :
    Calls Try.prog 112 #[.agg #[.int .i64 a0_0, .int .i64 a0_1, .int .i64 a0_2, .bool a0_3, .int .i64 a0_4]] w fun e w' => e = .returned (.bool r) ∧ Below w.heap.size w w' := by
 have hu59 := Try.underlying59
 have HB := Aside0.mk (Below.refl w.heap.size w)
 have H : ((spec_l1Region.f a0_0).bind fun t154 => (if t154 = true then ((spec_l1Slot.f a0_1).bind fun t155 => (if t155 = true then ((spec_l1Value.f a0_2).bind fun t156 => (if t156 = true then ((spec_l1In.f a0_4 0 999999).bind fun t157 => (some t157)) else (some false))) else (some false))) else (some false))) = some r := h
 clear h
 replace H := Option.bind_eq_some_iff.mp H
 obtain ⟨t154,A20,H⟩ := H
 replace H : (if t154 = true then ((spec_l1Slot.f a0_1).bind fun t155 => (if t155 = true then ((spec_l1Value.f a0_2).bind fun t156 => (if t156 = true then ((spec_l1In.f a0_4 0 999999).bind fun t157 => (some t157)) else (some false))) else (some false))) else (some false)) = some r := H
 have A2 := Aside0.mk A20
 clear A20
 by_cases c3 : t154 = true
 ·subst c3
  have H1 : ((spec_l1Slot.f a0_1).bind fun t155 => (if t155 = true then ((spec_l1Value.f a0_2).bind fun t156 => (if t156 = true then ((spec_l1In.f a0_4 0 999999).bind fun t157 => (some t157)) else (some false))) else (some false))) = some r := by rw [if_pos rfl] at H;exact H
  clear H
  have H := H1
  clear H1
  replace H := Option.bind_eq_some_iff.mp H
  obtain ⟨t155,A40,H⟩ := H
  replace H : (if t155 = true then ((spec_l1Value.f a0_2).bind fun t156 => (if t156 = true then ((spec_l1In.f a0_4 0 999999).bind fun t157 => (some t157)) else (some false))) else (some false)) = some r := H
  have A4 := Aside0.mk A40
  clear A40
  by_cases c5 : t155 = true
  ·subst c5
   have H1 : ((spec_l1Value.f a0_2).bind fun t156 => (if t156 = true then ((spec_l1In.f a0_4 0 999999).bind fun t157 => (some t157)) else (some false))) = some r := by rw [if_pos rfl] at H;exact H
   clear H
   have H := H1
   clear H1
   replace H := Option.bind_eq_some_iff.mp H
   obtain ⟨t156,A60,H⟩ := H
   replace H : (if t156 = true then ((spec_l1In.f a0_4 0 999999).bind fun t157 => (some t157)) else (some false)) = some r := H
   have A6 := Aside0.mk A60
   clear A60
   by_cases c7 : t156 = true
   ·subst c7
    have H1 : ((spec_l1In.f a0_4 0 999999).bind fun t157 => (some t157)) = some r := by rw [if_pos rfl] at H;exact H
    clear H
    have H := H1
    clear H1
    replace H := Option.bind_eq_some_iff.mp H
    obtain ⟨t157,A80,H⟩ := H
    replace H : (some t157) = some r := H
    have A8 := Aside0.mk A80
    clear A80
    obtain rfl := Option.some.inj H
    go_enter Try.func112,Try.ntmps112
    go_wp2_with (first|((with_reducible refine gate_dst (N := 1) rfl ?_);refine box_event ?hg (N := 1) ?hd (cs := #[.int .i64 a0_0,.int .i64 a0_1,.int .i64 a0_2,.bool a0_3,.int .i64 a0_4]) (t := 59) ?hr ?_;(case hd => rfl);(case hg => rfl);(case hr => first|(go_simp;done)|(go_simp;rfl));intro gb153 hg w9 hbox hb;have n0_ := Aside0.mk (below_step (by repeat (first|(with_reducible first|exact HB.out|apply below_alloc|apply pw_below_drewN|apply below_drew1)|exact HB.out)) hb);have n1_ := Aside0.mk (hbox);have n2_ := Aside0.mk ((by rw [hg];exact (below_size (by repeat (first|(with_reducible first|exact HB.out|apply below_alloc|apply pw_below_drewN|apply below_drew1)|exact HB.out))) : w.heap.size ≤ gb153));have n3_ := Aside0.mk ((by rw [hg];exact (below_size (by repeat (first|(with_reducible first|exact HB.out|apply below_alloc|apply pw_below_drewN|apply below_drew1)|exact HB.out))) : w.heap.size ≤ gb153));clear HB;have HB := n0_;have BK153 := n1_;have GW153 := n2_;have GE153 := n3_;clear n0_ n1_ n2_ n3_;clear hb hbox hg;have hcz10_0 : w9.cell? ⟨gb153,0,none⟩ = some (.int .i64 a0_0) := (blk_cell BK153.out 0).trans rfl;have hcz10_1 : w9.cell? ⟨gb153,1,none⟩ = some (.int .i64 a0_1) := (blk_cell BK153.out 1).trans rfl;have hcz10_2 : w9.cell? ⟨gb153,2,none⟩ = some (.int .i64 a0_2) := (blk_cell BK153.out 2).trans rfl;have hcz10_3 : w9.cell? ⟨gb153,3,none⟩ = some (.bool a0_3) := (blk_cell BK153.out 3).trans rfl;have hcz10_4 : w9.cell? ⟨gb153,4,none⟩ = some (.int .i64 a0_4) := (blk_cell BK153.out 4).trans rfl;have hfz10_0 := blk_frozen BK153.out 0;have hfz10_1 := blk_frozen BK153.out 1;have hfz10_2 := blk_frozen BK153.out 2;have hfz10_3 := blk_frozen BK153.out 3;have hfz10_4 := blk_frozen BK153.out 4)|((with_reducible refine gcal_ (f := 92) rfl ?_);refine goesL_ (some 5) rfl rfl Try.func92 (by kernel_rfl) rfl #[.int .i64 a0_0] rfl (by (try simp only [List.map_toArray,List.map_cons,List.map_nil]);first|done|rfl|(simp only [List.length_drop,List.length_take];rfl)) ?_;(with_reducible refine (spec_l1Region.calls a0_0 true _ A2.out).mono ?_);rintro e w' ⟨rfl,⟨nd,rfl⟩⟩;refine ⟨_,rfl,?_⟩)|(go_at_call 67;(with_reducible refine (spec_l1Slot.calls a0_1 true _ A4.out).mono ?_);rintro e w' ⟨rfl,⟨nd,rfl⟩⟩)|(go_at_call 63;(with_reducible refine (spec_l1Value.calls a0_2 true _ A6.out).mono ?_);rintro e w' ⟨rfl,⟨nd,rfl⟩⟩)|(go_at_call 90;(with_reducible refine (spec_l1In.calls a0_4 0 999999 t157 _ A8.out).mono ?_);rintro e w' ⟨rfl,⟨nd,rfl⟩⟩))
    go_ret
    exact ⟨by first|rfl|(simp [errW_none,errW_some] <;> rfl)|(simp [*,errW_none,errW_some] <;> rfl),by repeat (first|(with_reducible first|exact HB.out|apply below_alloc|apply pw_below_drewN|apply below_drew1|refine below_set ?_ GE153.out)|exact HB.out)⟩
   ·replace c7 := Bool.eq_false_iff.mpr c7
    subst c7
    have H1 : (some false) = some r := by rw [if_neg (show ¬ (false = true) by decide)] at H;exact H
    clear H
    have H := H1
    clear H1
    obtain rfl := Option.some.inj H
    go_enter Try.func112,Try.ntmps112
    go_wp2_with (first|((with_reducible refine gate_dst (N := 1) rfl ?_);refine box_event ?hg (N := 1) ?hd (cs := #[.int .i64 a0_0,.int .i64 a0_1,.int .i64 a0_2,.bool a0_3,.int .i64 a0_4]) (t := 59) ?hr ?_;(case hd => rfl);(case hg => rfl);(case hr => first|(go_simp;done)|(go_simp;rfl));intro gb153 hg w11 hbox hb;have n0_ := Aside0.mk (below_step (by repeat (first|(with_reducible first|exact HB.out|apply below_alloc|apply pw_below_drewN|apply below_drew1)|exact HB.out)) hb);have n1_ := Aside0.mk (hbox);have n2_ := Aside0.mk ((by rw [hg];exact (below_size (by repeat (first|(with_reducible first|exact HB.out|apply below_alloc|apply pw_below_drewN|apply below_drew1)|exact HB.out))) : w.heap.size ≤ gb153));have n3_ := Aside0.mk ((by rw [hg];exact (below_size (by repeat (first|(with_reducible first|exact HB.out|apply below_alloc|apply pw_below_drewN|apply below_drew1)|exact HB.out))) : w.heap.size ≤ gb153));clear HB;have HB := n0_;have BK153 := n1_;have GW153 := n2_;have GE153 := n3_;clear n0_ n1_ n2_ n3_;clear hb hbox hg;have hcz12_0 : w11.cell? ⟨gb153,0,none⟩ = some (.int .i64 a0_0) := (blk_cell BK153.out 0).trans rfl;have hcz12_1 : w11.cell? ⟨gb153,1,none⟩ = some (.int .i64 a0_1) := (blk_cell BK153.out 1).trans rfl;have hcz12_2 : w11.cell? ⟨gb153,2,none⟩ = some (.int .i64 a0_2) := (blk_cell BK153.out 2).trans rfl;have hcz12_3 : w11.cell? ⟨gb153,3,none⟩ = some (.bool a0_3) := (blk_cell BK153.out 3).trans rfl;have hcz12_4 : w11.cell? ⟨gb153,4,none⟩ = some (.int .i64 a0_4) := (blk_cell BK153.out 4).trans rfl;have hfz12_0 := blk_frozen BK153.out 0;have hfz12_1 := blk_frozen BK153.out 1;have hfz12_2 := blk_frozen BK153.out 2;have hfz12_3 := blk_frozen BK153.out 3;have hfz12_4 := blk_frozen BK153.out 4)|((with_reducible refine gcal_ (f := 92) rfl ?_);refine goesL_ (some 5) rfl rfl Try.func92 (by kernel_rfl) rfl #[.int .i64 a0_0] rfl (by (try simp only [List.map_toArray,List.map_cons,List.map_nil]);first|done|rfl|(simp only [List.length_drop,List.length_take];rfl)) ?_;(with_reducible refine (spec_l1Region.calls a0_0 true _ A2.out).mono ?_);rintro e w' ⟨rfl,⟨nd,rfl⟩⟩;refine ⟨_,rfl,?_⟩)|(go_at_call 67;(with_reducible refine (spec_l1Slot.calls a0_1 true _ A4.out).mono ?_);rintro e w' ⟨rfl,⟨nd,rfl⟩⟩)|(go_at_call 63;(with_reducible refine (spec_l1Value.calls a0_2 false _ A6.out).mono ?_);rintro e w' ⟨rfl,⟨nd,rfl⟩⟩))
    go_ret
    exact ⟨by first|rfl|(simp [errW_none,errW_some] <;> rfl)|(simp [*,errW_none,errW_some] <;> rfl),by repeat (first|(with_reducible first|exact HB.out|apply below_alloc|apply pw_below_drewN|apply below_drew1|refine below_set ?_ GE153.out)|exact HB.out)⟩
  ·replace c5 := Bool.eq_false_iff.mpr c5
   subst c5
   have H1 : (some false) = some r := by rw [if_neg (show ¬ (false = true) by decide)] at H;exact H
   clear H
   have H := H1
   clear H1
   obtain rfl := Option.some.inj H
   go_enter Try.func112,Try.ntmps112
   go_wp2_with (first|((with_reducible refine gate_dst (N := 1) rfl ?_);refine box_event ?hg (N := 1) ?hd (cs := #[.int .i64 a0_0,.int .i64 a0_1,.int .i64 a0_2,.bool a0_3,.int .i64 a0_4]) (t := 59) ?hr ?_;(case hd => rfl);(case hg => rfl);(case hr => first|(go_simp;done)|(go_simp;rfl));intro gb153 hg w13 hbox hb;have n0_ := Aside0.mk (below_step (by repeat (first|(with_reducible first|exact HB.out|apply below_alloc|apply pw_below_drewN|apply below_drew1)|exact HB.out)) hb);have n1_ := Aside0.mk (hbox);have n2_ := Aside0.mk ((by rw [hg];exact (below_size (by repeat (first|(with_reducible first|exact HB.out|apply below_alloc|apply pw_below_drewN|apply below_drew1)|exact HB.out))) : w.heap.size ≤ gb153));have n3_ := Aside0.mk ((by rw [hg];exact (below_size (by repeat (first|(with_reducible first|exact HB.out|apply below_alloc|apply pw_below_drewN|apply below_drew1)|exact HB.out))) : w.heap.size ≤ gb153));clear HB;have HB := n0_;have BK153 := n1_;have GW153 := n2_;have GE153 := n3_;clear n0_ n1_ n2_ n3_;clear hb hbox hg;have hcz14_0 : w13.cell? ⟨gb153,0,none⟩ = some (.int .i64 a0_0) := (blk_cell BK153.out 0).trans rfl;have hcz14_1 : w13.cell? ⟨gb153,1,none⟩ = some (.int .i64 a0_1) := (blk_cell BK153.out 1).trans rfl;have hcz14_2 : w13.cell? ⟨gb153,2,none⟩ = some (.int .i64 a0_2) := (blk_cell BK153.out 2).trans rfl;have hcz14_3 : w13.cell? ⟨gb153,3,none⟩ = some (.bool a0_3) := (blk_cell BK153.out 3).trans rfl;have hcz14_4 : w13.cell? ⟨gb153,4,none⟩ = some (.int .i64 a0_4) := (blk_cell BK153.out 4).trans rfl;have hfz14_0 := blk_frozen BK153.out 0;have hfz14_1 := blk_frozen BK153.out 1;have hfz14_2 := blk_frozen BK153.out 2;have hfz14_3 := blk_frozen BK153.out 3;have hfz14_4 := blk_frozen BK153.out 4)|((with_reducible refine gcal_ (f := 92) rfl ?_);refine goesL_ (some 5) rfl rfl Try.func92 (by kernel_rfl) rfl #[.int .i64 a0_0] rfl (by (try simp only [List.map_toArray,List.map_cons,List.map_nil]);first|done|rfl|(simp only [List.length_drop,List.length_take];rfl)) ?_;(with_reducible refine (spec_l1Region.calls a0_0 true _ A2.out).mono ?_);rintro e w' ⟨rfl,⟨nd,rfl⟩⟩;refine ⟨_,rfl,?_⟩)|(go_at_call 67;(with_reducible refine (spec_l1Slot.calls a0_1 false _ A4.out).mono ?_);rintro e w' ⟨rfl,⟨nd,rfl⟩⟩))
   go_ret
   exact ⟨by first|rfl|(simp [errW_none,errW_some] <;> rfl)|(simp [*,errW_none,errW_some] <;> rfl),by repeat (first|(with_reducible first|exact HB.out|apply below_alloc|apply pw_below_drewN|apply below_drew1|refine below_set ?_ GE153.out)|exact HB.out)⟩
 ·replace c3 := Bool.eq_false_iff.mpr c3
  subst c3
  have H1 : (some false) = some r := by rw [if_neg (show ¬ (false = true) by decide)] at H;exact H
  clear H
  have H := H1
  clear H1
  obtain rfl := Option.some.inj H
  go_enter Try.func112,Try.ntmps112
  go_wp2_with (first|((with_reducible refine gate_dst (N := 1) rfl ?_);refine box_event ?hg (N := 1) ?hd (cs := #[.int .i64 a0_0,.int .i64 a0_1,.int .i64 a0_2,.bool a0_3,.int .i64 a0_4]) (t := 59) ?hr ?_;(case hd => rfl);(case hg => rfl);(case hr => first|(go_simp;done)|(go_simp;rfl));intro gb153 hg w15 hbox hb;have n0_ := Aside0.mk (below_step (by repeat (first|(with_reducible first|exact HB.out|apply below_alloc|apply pw_below_drewN|apply below_drew1)|exact HB.out)) hb);have n1_ := Aside0.mk (hbox);have n2_ := Aside0.mk ((by rw [hg];exact (below_size (by repeat (first|(with_reducible first|exact HB.out|apply below_alloc|apply pw_below_drewN|apply below_drew1)|exact HB.out))) : w.heap.size ≤ gb153));have n3_ := Aside0.mk ((by rw [hg];exact (below_size (by repeat (first|(with_reducible first|exact HB.out|apply below_alloc|apply pw_below_drewN|apply below_drew1)|exact HB.out))) : w.heap.size ≤ gb153));clear HB;have HB := n0_;have BK153 := n1_;have GW153 := n2_;have GE153 := n3_;clear n0_ n1_ n2_ n3_;clear hb hbox hg;have hcz16_0 : w15.cell? ⟨gb153,0,none⟩ = some (.int .i64 a0_0) := (blk_cell BK153.out 0).trans rfl;have hcz16_1 : w15.cell? ⟨gb153,1,none⟩ = some (.int .i64 a0_1) := (blk_cell BK153.out 1).trans rfl;have hcz16_2 : w15.cell? ⟨gb153,2,none⟩ = some (.int .i64 a0_2) := (blk_cell BK153.out 2).trans rfl;have hcz16_3 : w15.cell? ⟨gb153,3,none⟩ = some (.bool a0_3) := (blk_cell BK153.out 3).trans rfl;have hcz16_4 : w15.cell? ⟨gb153,4,none⟩ = some (.int .i64 a0_4) := (blk_cell BK153.out 4).trans rfl;have hfz16_0 := blk_frozen BK153.out 0;have hfz16_1 := blk_frozen BK153.out 1;have hfz16_2 := blk_frozen BK153.out 2;have hfz16_3 := blk_frozen BK153.out 3;have hfz16_4 := blk_frozen BK153.out 4)|((with_reducible refine gcal_ (f := 92) rfl ?_);refine goesL_ (some 5) rfl rfl Try.func92 (by kernel_rfl) rfl #[.int .i64 a0_0] rfl (by (try simp only [List.map_toArray,List.map_cons,List.map_nil]);first|done|rfl|(simp only [List.length_drop,List.length_take];rfl)) ?_;(with_reducible refine (spec_l1Region.calls a0_0 false _ A2.out).mono ?_);rintro e w' ⟨rfl,⟨nd,rfl⟩⟩;refine ⟨_,rfl,?_⟩))
  go_ret
  exact ⟨by first|rfl|(simp [errW_none,errW_some] <;> rfl)|(simp [*,errW_none,errW_some] <;> rfl),by repeat (first|(with_reducible first|exact HB.out|apply below_alloc|apply pw_below_drewN|apply below_drew1|refine below_set ?_ GE153.out)|exact HB.out)⟩

end Go.Proofs.Ytgdfbjmjgegicaa.XLs
