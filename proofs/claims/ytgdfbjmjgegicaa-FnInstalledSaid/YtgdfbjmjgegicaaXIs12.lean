/- Proved: of each Go function here that a call comes to what the Lean function of its name tells. Written by a program of this session over the translation. No conditions beyond each theorem's own. -/
import Derived.Test.YtgdfbjmjgegicaaXIs0
import Derived.Test.YtgdfbjmjgegicaaXIs2
import Derived.Test.YtgdfbjmjgegicaaXIs6
import Derived.Test.YtgdfbjmjgegicaaXIs8
import Derived.Test.YtgdfbjmjgegicaaXIs11
namespace Go.Proofs.Ytgdfbjmjgegicaa.XIs
open Go.RowKit Go.Proofs.Ytgdfbjmjgegicaa.Aid Go.Proofs.YtgdfbjmjgegicaaW.PrintWords Go.Proofs.YtgdfbjmjgegicaaW.PrintLast Go.Proofs.YtgdfbjmjgegicaaW.PrintMore
set_option linter.unusedVariables false
set_option linter.unusedSimpArgs false

/-! ### laws_FnInstalled: function 11 -/
mutual
def laws_FnInstalled.j0 : Nat → List (S30) → List (S59) → List (S30) → Bool → Bool → Option (Bool)
  | 0, _, _, _, _, _ => none
  | k + 1, x3, x4, x5, x6, x40 => if x40 = true then (some false) else (if x6 = true then ((impl_Install.f k x5 x4).bind fun bt397 => (laws_FnInstalled.l0 k x3 x4 x5 bt397.1 bt397.2 0)) else (some ((x5.length : Int) == 0)))
def laws_FnInstalled.l0 : Nat → List (S30) → List (S59) → List (S30) → List (S30) → Bool → Int → Option (Bool)
  | 0, _, _, _, _, _, _ => none
  | k + 1, x3, x4, x5, x9, x10, x11 => if x11 < (x4.length : Int) then (if 0 ≤ x11 then (if 0 ≤ ((rd_T59 x4 x11).f1) then (if ((rd_T59 x4 x11).f1) < (x5.length : Int) then ((impl_Version.f ((rd_T30 x5 ((rd_T59 x4 x11).f1)).f0)).bind fun t404 => (if t404 ≤ ((rd_T59 x4 x11).f4) then (some false) else (if ((rd_T59 x4 x11).f1) < (x3.length : Int) then ((impl_Version.f ((rd_T30 x3 ((rd_T59 x4 x11).f1)).f0)).bind fun t408 => (if t408 = ((rd_T59 x4 x11).f4) then ((impl_Locked.f ((rd_T30 x5 ((rd_T59 x4 x11).f1)).f0)).bind fun t410 => (if t410 = true then (laws_FnInstalled.j2 k x3 x4 x5 x9 x10 x11 true) else ((impl_Used.f ((rd_T30 x5 ((rd_T59 x4 x11).f1)).f0)).bind fun t411 => (if (t411 != ((rd_T59 x4 x11).f3)) = true then (laws_FnInstalled.j2 k x3 x4 x5 x9 x10 x11 true) else (if (rd_T59 x4 x11).f3 = true then (laws_FnInstalled.j2 k x3 x4 x5 x9 x10 x11 (((rd_T30 x5 ((rd_T59 x4 x11).f1)).f1) != ((rd_T59 x4 x11).f2))) else (laws_FnInstalled.j2 k x3 x4 x5 x9 x10 x11 false)))))) else (laws_FnInstalled.j2 k x3 x4 x5 x9 x10 x11 false))) else (none)))) else (none)) else (none)) else (none)) else (if x10 = true then ((laws_likeCells.f k x9 x5).bind fun t415 => (if t415 = true then ((impl_CellsOk.f x5).bind fun t416 => (some t416)) else (some false))) else (some false))
def laws_FnInstalled.j2 : Nat → List (S30) → List (S59) → List (S30) → List (S30) → Bool → Int → Bool → Option (Bool)
  | 0, _, _, _, _, _, _, _ => none
  | k + 1, x3, x4, x5, x9, x10, x11, x123 => if x123 = true then (some false) else (laws_FnInstalled.l0 k x3 x4 x5 x9 x10 (wrap64 (x11 + 1)))
end
def laws_FnInstalled.f (k : Nat) (l0 : List Int) : Option (Bool) := (laws_big.f l0).bind fun t381 => (if t381 = true then (some true) else ((spec_DrawInstall.f k l0).bind fun bt382 => ((impl_Install.f k bt382.1 bt382.2).bind fun bt388 => ((spec_Install.f k bt382.1 bt382.2).bind fun bt392 => (if (bt388.2 != bt392.2) = true then (laws_FnInstalled.j0 k bt382.1 bt382.2 bt388.1 bt388.2 true) else ((laws_likeCells.f k bt388.1 bt392.1).bind fun t396 => (laws_FnInstalled.j0 k bt382.1 bt382.2 bt388.1 bt388.2 (!t396))))))))

def laws_FnInstalled.T15 : Bool × List (List Nat × List Nat) := (true, [([], []), ([0], [0]), ([1], [1]), ([], []), ([], []), ([3, 4], [3, 4]), ([5], [5]), ([6], [6]), ([2, 7], [2, 7])])
def laws_FnInstalled.B15 : List Nat := [0, 1, 3, 0, 0, 24, 56, 120, 255]
theorem laws_FnInstalled.tab15 : rtab .any (opsOf Try.f11 15) = laws_FnInstalled.T15 := by kernel_rfl
theorem laws_FnInstalled.bits15 : waitsOk laws_FnInstalled.T15.2 laws_FnInstalled.B15 = true := by kernel_rfl
def laws_FnInstalled.T17 : Bool × List (List Nat × List Nat) := (true, [([], []), ([], []), ([], []), ([1, 2], [1, 2]), ([3], [3]), ([4], [4]), ([0, 5], [0, 5]), ([6], [6]), ([7], [7]), ([8], [8]), ([], []), ([], []), ([10, 11], [10, 11]), ([12], [12]), ([13], [13]), ([9, 14], [9, 14]), ([15, 9], [15]), ([16], [16]), ([17, 16], [16, 17]), ([18, 16, 16], [16, 18]), ([19, 19, 16], [16, 19]), ([20], [20]), ([21, 20], [20, 21]), ([22, 20, 20], [20, 22]), ([20], [20]), ([20], [20]), ([24, 25, 20], [20, 24, 25]), ([26, 20], [20, 26]), ([27, 20], [20, 27]), ([23, 28, 20], [20, 23, 28]), ([20, 29, 16], [16, 20, 29]), ([30, 23, 16], [16, 30]), ([31], [31]), ([31], [31]), ([32, 33, 31], [31, 32, 33]), ([34, 31], [31, 34]), ([35, 31], [31, 35]), ([36, 31, 31], [31, 36]), ([37], [37]), ([38, 37], [37, 38]), ([37], [37]), ([37], [37]), ([40, 41, 37], [37, 40, 41]), ([42, 37], [37, 42]), ([43, 37], [37, 43]), ([39, 44, 37], [37, 39, 44]), ([37, 45, 31], [31, 37, 45]), ([31, 46, 16], [16, 31, 46]), ([16, 47], [16, 47])])
def laws_FnInstalled.B17 : List Nat := [0, 0, 0, 6, 14, 30, 63, 127, 255, 511, 0, 0, 3072, 7168, 15360, 32767, 65535, 131071, 262143, 524287, 1048575, 2097151, 4194303, 8388607, 2097151, 2097151, 52428799, 119537663, 253755391, 536870911, 1073741823, 2147483647, 4294967295, 4294967295, 17179869183, 34359738367, 68719476735, 137438953471, 274877906943, 549755813887, 274877906943, 274877906943, 3573412790271, 7971459301375, 16767552323583, 35184372088831, 70368744177663, 140737488355327, 281474976710655]
theorem laws_FnInstalled.tab17 : rtab .any (opsOf Try.f11 17) = laws_FnInstalled.T17 := by kernel_rfl
theorem laws_FnInstalled.bits17 : waitsOk laws_FnInstalled.T17.2 laws_FnInstalled.B17 = true := by kernel_rfl
set_option maxHeartbeats 8000000 in
set_option maxRecDepth 100000 in
theorem laws_FnInstalled.calls (k : Nat) (A0 : Option Addr) (c0 : Nat) (l0 : List Int) (r : Bool) (w : World) (hr0 : Kd.C (Kd.int .u8) w A0 l0.length l0) (hc0 : l0.length ≤ c0) (h : laws_FnInstalled.f k l0 = some r) :
    Calls Try.prog 11 #[.slice A0 l0.length c0] w fun e w' => e = .returned (.bool r) ∧ Below w.heap.size w w' := by
 have hu30 := Try.underlying30
 have HR0 := Aside0.mk hr0
 have HC0 := Aside0.mk hc0
 clear hr0 hc0
 have HB := Aside0.mk (Below.refl w.heap.size w)
 have H : ((laws_big.f l0).bind fun t381 => (if t381 = true then (some true) else ((spec_DrawInstall.f k l0).bind fun bt382 => ((impl_Install.f k bt382.1 bt382.2).bind fun bt388 => ((spec_Install.f k bt382.1 bt382.2).bind fun bt392 => (if (bt388.2 != bt392.2) = true then (laws_FnInstalled.j0 k bt382.1 bt382.2 bt388.1 bt388.2 true) else ((laws_likeCells.f k bt388.1 bt392.1).bind fun t396 => (laws_FnInstalled.j0 k bt382.1 bt382.2 bt388.1 bt388.2 (!t396))))))))) = some r := h
 clear h
 replace H := Option.bind_eq_some_iff.mp H
 obtain ⟨t381,A20,H⟩ := H
 replace H : (if t381 = true then (some true) else ((spec_DrawInstall.f k l0).bind fun bt382 => ((impl_Install.f k bt382.1 bt382.2).bind fun bt388 => ((spec_Install.f k bt382.1 bt382.2).bind fun bt392 => (if (bt388.2 != bt392.2) = true then (laws_FnInstalled.j0 k bt382.1 bt382.2 bt388.1 bt388.2 true) else ((laws_likeCells.f k bt388.1 bt392.1).bind fun t396 => (laws_FnInstalled.j0 k bt382.1 bt382.2 bt388.1 bt388.2 (!t396)))))))) = some r := H
 have A2 := Aside0.mk A20
 clear A20
 by_cases c3 : t381 = true
 ·subst c3
  have H1 : (some true) = some r := by rw [if_pos rfl] at H;exact H
  clear H
  have H := H1
  clear H1
  obtain rfl := Option.some.inj H
  go_enter Try.func11,Try.ntmps11
  go_wp2_with (first|((with_reducible refine gcal_ (f := 26) rfl ?_);refine goesL_ (some 14) rfl rfl Try.func26 (by kernel_rfl) rfl #[.slice A0 l0.length c0] rfl (by (try simp only [List.map_toArray,List.map_cons,List.map_nil]);first|done|rfl|(simp only [List.length_drop,List.length_take];rfl)) ?_;(with_reducible refine (laws_big.calls _ _ l0 true _ ?side1 ?side2 A2.out).mono ?_);(case side1 => repeat (first|exact HR0.out|(with_reducible refine Kd.C_alloc ?_ _)|(with_reducible refine Kd.C_drewN ?_ _)|(with_reducible refine Kd.C_drew ?_)));(case side2 => exact HC0.out);rintro e w' ⟨rfl,⟨nd,rfl⟩⟩;refine ⟨_,rfl,?_⟩))
  go_ret
  exact ⟨by first|rfl|(simp [errW_none,errW_some] <;> rfl)|(simp [*,errW_none,errW_some] <;> rfl),by repeat (first|(with_reducible first|exact HB.out|apply below_alloc|apply pw_below_drewN|apply below_drew1)|exact HB.out)⟩
 ·replace c3 := Bool.eq_false_iff.mpr c3
  subst c3
  have H1 : ((spec_DrawInstall.f k l0).bind fun bt382 => ((impl_Install.f k bt382.1 bt382.2).bind fun bt388 => ((spec_Install.f k bt382.1 bt382.2).bind fun bt392 => (if (bt388.2 != bt392.2) = true then (laws_FnInstalled.j0 k bt382.1 bt382.2 bt388.1 bt388.2 true) else ((laws_likeCells.f k bt388.1 bt392.1).bind fun t396 => (laws_FnInstalled.j0 k bt382.1 bt382.2 bt388.1 bt388.2 (!t396))))))) = some r := by rw [if_neg (show ¬ (false = true) by decide)] at H;exact H
  clear H
  have H := H1
  clear H1
  replace H := Option.bind_eq_some_iff.mp H
  obtain ⟨⟨t382,t383⟩,A40,H⟩ := H
  replace H : ((impl_Install.f k t382 t383).bind fun bt388 => ((spec_Install.f k t382 t383).bind fun bt392 => (if (bt388.2 != bt392.2) = true then (laws_FnInstalled.j0 k t382 t383 bt388.1 bt388.2 true) else ((laws_likeCells.f k bt388.1 bt392.1).bind fun t396 => (laws_FnInstalled.j0 k t382 t383 bt388.1 bt388.2 (!t396)))))) = some r := H
  have A4 := Aside0.mk A40
  clear A40
  replace H := Option.bind_eq_some_iff.mp H
  obtain ⟨⟨t388,t389⟩,A50,H⟩ := H
  replace H : ((spec_Install.f k t382 t383).bind fun bt392 => (if (t389 != bt392.2) = true then (laws_FnInstalled.j0 k t382 t383 t388 t389 true) else ((laws_likeCells.f k t388 bt392.1).bind fun t396 => (laws_FnInstalled.j0 k t382 t383 t388 t389 (!t396))))) = some r := H
  have A5 := Aside0.mk A50
  clear A50
  replace H := Option.bind_eq_some_iff.mp H
  obtain ⟨⟨t392,t393⟩,A60,H⟩ := H
  replace H : (if (t389 != t393) = true then (laws_FnInstalled.j0 k t382 t383 t388 t389 true) else ((laws_likeCells.f k t388 t392).bind fun t396 => (laws_FnInstalled.j0 k t382 t383 t388 t389 (!t396)))) = some r := H
  have A6 := Aside0.mk A60
  clear A60
  have HC7 := Aside0.mk H
  clear H
  go_enter Try.func11,Try.ntmps11
  go_upto_region 6 with (first|((with_reducible refine gcal_ (f := 26) rfl ?_);refine goesL_ (some 14) rfl rfl Try.func26 (by kernel_rfl) rfl #[.slice A0 l0.length c0] rfl (by (try simp only [List.map_toArray,List.map_cons,List.map_nil]);first|done|rfl|(simp only [List.length_drop,List.length_take];rfl)) ?_;(with_reducible refine (laws_big.calls _ _ l0 false _ ?side1 ?side2 A2.out).mono ?_);(case side1 => repeat (first|exact HR0.out|(with_reducible refine Kd.C_alloc ?_ _)|(with_reducible refine Kd.C_drewN ?_ _)|(with_reducible refine Kd.C_drew ?_)));(case side2 => exact HC0.out);rintro e w' ⟨rfl,⟨nd,rfl⟩⟩;refine ⟨_,rfl,?_⟩)|((with_reducible refine gcal_ (f := 44) rfl ?_);refine goesL_ (some 17) rfl rfl Try.func44 (by kernel_rfl) rfl #[.slice A0 l0.length c0] rfl (by (try simp only [List.map_toArray,List.map_cons,List.map_nil]);first|done|rfl|(simp only [List.length_drop,List.length_take];rfl)) ?_;(with_reducible refine (spec_DrawInstall.calls k _ _ l0 t382 t383 _ ?side1 ?side2 A4.out).mono ?_);(case side1 => repeat (first|exact HR0.out|(with_reducible refine Kd.C_alloc ?_ _)|(with_reducible refine Kd.C_drewN ?_ _)|(with_reducible refine Kd.C_drew ?_)));(case side2 => exact HC0.out);rintro e w8 ⟨v384,v386,rfl,ho0,ho1,hb⟩;refine ⟨_,rfl,?_⟩;have n0_ := Aside0.mk (Kd.Q_lower ho0 (below_size (by repeat (first|(with_reducible first|exact HB.out|apply below_alloc|apply pw_below_drewN|apply below_drew1)|exact HB.out))));have n1_ := Aside0.mk (Kd.R_lower ho1 (below_size (by repeat (first|(with_reducible first|exact HB.out|apply below_alloc|apply pw_below_drewN|apply below_drew1)|exact HB.out))));have n2_ := Aside0.mk (below_step (by repeat (first|(with_reducible first|exact HB.out|apply below_alloc|apply pw_below_drewN|apply below_drew1)|exact HB.out)) hb);clear HB;have HO385 := n0_;have HO387 := n1_;have HB := n2_;clear n0_ n1_ n2_;(try clear hb);(try clear hb2);(try clear hk);(try clear hi);(try clear ho0);(try clear ho1);obtain ⟨Ao9,co9,eo9,_⟩ := Kd.Q_slice HO385.out;subst eo9;obtain ⟨Ao10,co10,eo10⟩ := Kd.R_slice HO387.out;subst eo10)|((with_reducible refine gcal_ (f := 41) rfl ?_);refine goesL_ (some 23) rfl rfl Try.func41 (by kernel_rfl) rfl #[.slice Ao9 t382.length co9,.slice Ao10 t383.length co10] rfl (by (try simp only [List.map_toArray,List.map_cons,List.map_nil]);first|done|rfl|(simp only [List.length_drop,List.length_take];rfl)) ?_;(with_reducible refine (impl_Install.calls k _ _ t382 _ _ t383 t388 t389 _ ?side1 ?side2 ?side3 ?side4 A5.out).mono ?_);(case side1 => repeat (first|exact (Kd.Q_reads' HO385.out).2.2|(with_reducible refine Kd.C_alloc ?_ _)|(with_reducible refine Kd.C_drewN ?_ _)|(with_reducible refine Kd.C_drew ?_)));(case side2 => exact (Kd.Q_reads' HO385.out).2.1);(case side3 => repeat (first|exact (Kd.R_reads' HO387.out).2.2|(with_reducible refine Kd.C_alloc ?_ _)|(with_reducible refine Kd.C_drewN ?_ _)|(with_reducible refine Kd.C_drew ?_)));(case side4 => exact (Kd.R_reads' HO387.out).2.1);rintro e w11 ⟨v390,rfl,ho0,hb⟩;refine ⟨_,rfl,?_⟩;have n0_ := Aside0.mk (Kd.Q_elder' (by (with_reducible repeat (first|apply Kd.Q_alloc|apply Kd.Q_drewN|apply Kd.Q_drew));exact HO385.out) (Kd.R_base ho0) hb);have n1_ := Aside0.mk (Kd.R_below (by (with_reducible repeat (first|apply Kd.R_alloc|apply Kd.R_drewN|apply Kd.R_drew));exact HO387.out) hb);have n2_ := Aside0.mk (Kd.R_lower (Kd.R_new' ho0 (Kd.Q_lt (by (with_reducible repeat (first|apply Kd.Q_alloc|apply Kd.Q_drewN|apply Kd.Q_drew));exact HO385.out))) (below_size (by repeat (first|(with_reducible first|exact HB.out|apply below_alloc|apply pw_below_drewN|apply below_drew1)|exact HB.out))));have n3_ := Aside0.mk (below_step (by repeat (first|(with_reducible first|exact HB.out|apply below_alloc|apply pw_below_drewN|apply below_drew1)|exact HB.out)) hb);clear HO385;clear HO387;clear HB;have HO385 := n0_;have HO387 := n1_;have HO391 := n2_;have HB := n3_;clear n0_ n1_ n2_ n3_;(try clear hb);(try clear hb2);(try clear hk);(try clear hi);(try clear ho0))|((with_reducible refine gcal_ (f := 40) rfl ?_);refine goesL_ (some 29) rfl rfl Try.func40 (by kernel_rfl) rfl #[.slice Ao9 t382.length co9,.slice Ao10 t383.length co10] rfl (by (try simp only [List.map_toArray,List.map_cons,List.map_nil]);first|done|rfl|(simp only [List.length_drop,List.length_take];rfl)) ?_;(with_reducible refine (spec_Install.calls k _ _ t382 _ _ t383 t392 t393 _ ?side1 ?side2 ?side3 ?side4 A6.out).mono ?_);(case side1 => repeat (first|exact (Kd.Q_reads' HO385.out).2.2|(with_reducible refine Kd.C_alloc ?_ _)|(with_reducible refine Kd.C_drewN ?_ _)|(with_reducible refine Kd.C_drew ?_)));(case side2 => exact (Kd.Q_reads' HO385.out).2.1);(case side3 => repeat (first|exact (Kd.R_reads' HO387.out).2.2|(with_reducible refine Kd.C_alloc ?_ _)|(with_reducible refine Kd.C_drewN ?_ _)|(with_reducible refine Kd.C_drew ?_)));(case side4 => exact (Kd.R_reads' HO387.out).2.1);rintro e w12 ⟨v394,rfl,ho0,hb⟩;refine ⟨_,rfl,?_⟩;have n0_ := Aside0.mk (Kd.Q_elder' (by (with_reducible repeat (first|apply Kd.Q_alloc|apply Kd.Q_drewN|apply Kd.Q_drew));exact HO385.out) (Kd.R_base ho0) hb);have n1_ := Aside0.mk (Kd.R_below (by (with_reducible repeat (first|apply Kd.R_alloc|apply Kd.R_drewN|apply Kd.R_drew));exact HO387.out) hb);have n2_ := Aside0.mk (Kd.R_elder' (by (with_reducible repeat (first|apply Kd.R_alloc|apply Kd.R_drewN|apply Kd.R_drew));exact HO391.out) (Kd.R_base ho0) hb);have n3_ := Aside0.mk (Kd.R_lower (Kd.R_new' (Kd.R_new' ho0 (Kd.Q_lt (by (with_reducible repeat (first|apply Kd.Q_alloc|apply Kd.Q_drewN|apply Kd.Q_drew));exact HO385.out))) (Kd.R_lt (by (with_reducible repeat (first|apply Kd.R_alloc|apply Kd.R_drewN|apply Kd.R_drew));exact HO391.out))) (below_size (by repeat (first|(with_reducible first|exact HB.out|apply below_alloc|apply pw_below_drewN|apply below_drew1)|exact HB.out))));have n4_ := Aside0.mk (below_step (by repeat (first|(with_reducible first|exact HB.out|apply below_alloc|apply pw_below_drewN|apply below_drew1)|exact HB.out)) hb);clear HO385;clear HO387;clear HO391;clear HB;have HO385 := n0_;have HO387 := n1_;have HO391 := n2_;have HO395 := n3_;have HB := n4_;clear n0_ n1_ n2_ n3_ n4_;(try clear hb);(try clear hb2);(try clear hk);(try clear hi);(try clear ho0)))
  (try simp only [Act.put,List.setIfInBounds_toArray,List.set_cons_zero,List.set_cons_succ])
  go_cut [40] (fun v40 wc => ∃ (kq : Nat) (x40_6 : Bool),v40 = .bool x40_6 ∧ Aside0 (laws_FnInstalled.j0 kq t382 t383 t388 t389 x40_6 = some r) ∧ Aside0 (kq ≤ k) ∧ Aside0 (Kd.Q k30 30 wc w.heap.size (fun k_ => some k_ ≠ (v390 : Value).ownBlock) (.slice Ao9 t382.length co9) t382) ∧ Aside0 (Kd.R k59 59 wc w.heap.size (fun _ => True) (.slice Ao10 t383.length co10) t383) ∧ Aside0 (Kd.R k30 30 wc w.heap.size (fun k_ => some k_ ≠ ((.slice Ao9 t382.length co9) : Value).ownBlock) v390 t388) ∧ Aside0 (Below w.heap.size w wc))
  case first =>
   have H := HC7.out
   clear HC7
   by_cases c13 : (t389 != t393) = true
   ·rw [if_pos c13] at H
    have c13b0 : (t389 != t393) = true := c13
    (try (have c13b1 : decide (t389 = t393) = false := by simpa using c13))
    (try (have c13b2 : (t389 == t393) = false := by simpa using c13))
    (try (have c13b3 : ¬ (t389 = t393) := by simpa using c13))
    clear c13
    (first|rw [c13b0]|(simp only [i64_w,i32_w];rw [c13b0])|skip)
    have H' := Aside0.mk H
    clear H
    go_wp2
    go_meet
    case rel => exact ⟨_,(true),(by first|rfl|(simp;done)|(simp [*];done)),H',⟨by first|omega|exact Nat.le_refl _⟩,⟨by (with_reducible repeat (first|apply Kd.Q_alloc|apply Kd.Q_drewN|apply Kd.Q_drew));exact Kd.Q_mono HO385.out (fun _ hk => hk.1.2)⟩,⟨by (with_reducible repeat (first|apply Kd.R_alloc|apply Kd.R_drewN|apply Kd.R_drew));exact HO387.out⟩,⟨by (with_reducible repeat (first|apply Kd.R_alloc|apply Kd.R_drewN|apply Kd.R_drew));exact Kd.R_mono HO391.out (fun _ hk => hk.1.2)⟩,⟨by repeat (first|(with_reducible first|exact HB.out|apply below_alloc|apply pw_below_drewN|apply below_drew1)|exact HB.out)⟩⟩
   ·rw [if_neg c13] at H
    have c13b0 : (t389 != t393) = false := by simpa using c13
    (try (have c13b1 : decide (t389 = t393) = true := by simpa using c13))
    (try (have c13b2 : (t389 == t393) = true := by simpa using c13))
    clear c13
    (first|rw [c13b0]|(simp only [i64_w,i32_w];rw [c13b0])|skip)
    replace H := Option.bind_eq_some_iff.mp H
    obtain ⟨t396,A140,H⟩ := H
    replace H : (laws_FnInstalled.j0 k t382 t383 t388 t389 (!t396)) = some r := H
    have A14 := Aside0.mk A140
    clear A140
    have H' := Aside0.mk H
    clear H
    obtain ⟨Ao15,co15,eo15⟩ := Kd.R_slice HO391.out
    subst eo15
    obtain ⟨Ao16,co16,eo16⟩ := Kd.R_slice HO395.out
    subst eo16
    go_wp2_with (first|(go_at_call 43;(with_reducible refine (laws_likeCells.calls k _ _ t388 _ _ t392 t396 _ ?side1 ?side2 ?side3 ?side4 A14.out).mono ?_);(case side1 => repeat (first|exact (Kd.R_reads' HO391.out).2.2|(with_reducible refine Kd.C_alloc ?_ _)|(with_reducible refine Kd.C_drewN ?_ _)|(with_reducible refine Kd.C_drew ?_)));(case side2 => exact (Kd.R_reads' HO391.out).2.1);(case side3 => repeat (first|exact (Kd.R_reads' HO395.out).2.2|(with_reducible refine Kd.C_alloc ?_ _)|(with_reducible refine Kd.C_drewN ?_ _)|(with_reducible refine Kd.C_drew ?_)));(case side4 => exact (Kd.R_reads' HO395.out).2.1);rintro e w' ⟨rfl,⟨nd,rfl⟩⟩))
    go_meet
    case rel => exact ⟨_,(!t396),(by first|rfl|(simp;done)|(simp [*];done)),H',⟨by first|omega|exact Nat.le_refl _⟩,⟨by (with_reducible repeat (first|apply Kd.Q_alloc|apply Kd.Q_drewN|apply Kd.Q_drew));exact Kd.Q_mono HO385.out (fun _ hk => hk.1.2)⟩,⟨by (with_reducible repeat (first|apply Kd.R_alloc|apply Kd.R_drewN|apply Kd.R_drew));exact HO387.out⟩,⟨by (with_reducible repeat (first|apply Kd.R_alloc|apply Kd.R_drewN|apply Kd.R_drew));exact Kd.R_mono HO391.out (fun _ hk => hk.1.2)⟩,⟨by repeat (first|(with_reducible first|exact HB.out|apply below_alloc|apply pw_below_drewN|apply below_drew1)|exact HB.out)⟩⟩
  case rest =>
   clear HC7
   try clear c1
   try clear c2
   try clear p2
   try clear c3
   try clear c4
   try clear c11
   try clear c13
   try clear c13b0
   try clear c13b1
   try clear c13b2
   obtain ⟨kq,x40_6,rfl,HA,HJ6,HO_3,HO_4,HO_5,HB⟩ := hcut
   cases kq with
   | zero => exact absurd HA.out (by simp [laws_FnInstalled.j0])
   | succ kj6 =>
    have H := HA.out
    clear HA
    simp only [laws_FnInstalled.j0] at H
    by_cases c17 : x40_6 = true
    ·subst c17
     have H1 : (some false) = some r := by rw [if_pos rfl] at H;exact H
     clear H
     have H := H1
     clear H1
     obtain rfl := Option.some.inj H
     go_wp2
     go_ret
     exact ⟨by first|rfl|(simp [errW_none,errW_some] <;> rfl)|(simp [*,errW_none,errW_some] <;> rfl),by repeat (first|(with_reducible first|exact HB.out|apply below_alloc|apply pw_below_drewN|apply below_drew1)|exact HB.out)⟩
    ·replace c17 := Bool.eq_false_iff.mpr c17
     subst c17
     have H1 : (if t389 = true then ((impl_Install.f kj6 t388 t383).bind fun bt397 => (laws_FnInstalled.l0 kj6 t382 t383 t388 bt397.1 bt397.2 0)) else (some ((t388.length : Int) == 0))) = some r := by rw [if_neg (show ¬ (false = true) by decide)] at H;exact H
     clear H
     have H := H1
     clear H1
     by_cases c18 : t389 = true
     ·subst c18
      have H1 : ((impl_Install.f kj6 t388 t383).bind fun bt397 => (laws_FnInstalled.l0 kj6 t382 t383 t388 bt397.1 bt397.2 0)) = some r := by rw [if_pos rfl] at H;exact H
      clear H
      have H := H1
      clear H1
      replace H := Option.bind_eq_some_iff.mp H
      obtain ⟨⟨t397,t398⟩,A190,H⟩ := H
      replace H : (laws_FnInstalled.l0 kj6 t382 t383 t388 t397 t398 0) = some r := H
      have A19 := Aside0.mk A190
      clear A190
      have H' := Aside0.mk H
      clear H
      obtain ⟨Ao20,co20,eo20⟩ := Kd.R_slice HO_5.out
      subst eo20
      go_wp2_with (first|((with_reducible refine gcal_ (f := 41) rfl ?_);refine goesL_ (some 49) rfl rfl Try.func41 (by kernel_rfl) rfl #[.slice Ao20 t388.length co20,.slice Ao10 t383.length co10] rfl (by (try simp only [List.map_toArray,List.map_cons,List.map_nil]);first|done|rfl|(simp only [List.length_drop,List.length_take];rfl)) ?_;(with_reducible refine (impl_Install.calls kj6 _ _ t388 _ _ t383 t397 t398 _ ?side1 ?side2 ?side3 ?side4 A19.out).mono ?_);(case side1 => repeat (first|exact (Kd.R_reads' HO_5.out).2.2|(with_reducible refine Kd.C_alloc ?_ _)|(with_reducible refine Kd.C_drewN ?_ _)|(with_reducible refine Kd.C_drew ?_)));(case side2 => exact (Kd.R_reads' HO_5.out).2.1);(case side3 => repeat (first|exact (Kd.R_reads' HO_4.out).2.2|(with_reducible refine Kd.C_alloc ?_ _)|(with_reducible refine Kd.C_drewN ?_ _)|(with_reducible refine Kd.C_drew ?_)));(case side4 => exact (Kd.R_reads' HO_4.out).2.1);rintro e w21 ⟨v399,rfl,ho0,hb⟩;refine ⟨_,rfl,?_⟩;have n0_ := Aside0.mk (Kd.Q_elder' (by (with_reducible repeat (first|apply Kd.Q_alloc|apply Kd.Q_drewN|apply Kd.Q_drew));exact HO_3.out) (Kd.R_base ho0) hb);have n1_ := Aside0.mk (Kd.R_below (by (with_reducible repeat (first|apply Kd.R_alloc|apply Kd.R_drewN|apply Kd.R_drew));exact HO_4.out) hb);have n2_ := Aside0.mk (Kd.R_elder' (by (with_reducible repeat (first|apply Kd.R_alloc|apply Kd.R_drewN|apply Kd.R_drew));exact HO_5.out) (Kd.R_base ho0) hb);have n3_ := Aside0.mk (Kd.R_lower (Kd.R_new' (Kd.R_new' ho0 (Kd.Q_lt (by (with_reducible repeat (first|apply Kd.Q_alloc|apply Kd.Q_drewN|apply Kd.Q_drew));exact HO_3.out))) (Kd.R_lt (by (with_reducible repeat (first|apply Kd.R_alloc|apply Kd.R_drewN|apply Kd.R_drew));exact HO_5.out))) (below_size (by repeat (first|(with_reducible first|exact HB.out|apply below_alloc|apply pw_below_drewN|apply below_drew1)|exact HB.out))));have n4_ := Aside0.mk (below_step (by repeat (first|(with_reducible first|exact HB.out|apply below_alloc|apply pw_below_drewN|apply below_drew1)|exact HB.out)) hb);clear HO_3;clear HO_4;clear HO_5;clear HB;have HO_3 := n0_;have HO_4 := n1_;have HO_5 := n2_;have HO400 := n3_;have HB := n4_;clear n0_ n1_ n2_ n3_ n4_;(try clear hb);(try clear hb2);(try clear hk);(try clear hi);(try clear ho0)))
      go_loopg [11] kj6 (fun kq v11 w' => ∃ (x11_2 : Int),v11 = .int .i64 x11_2 ∧ Aside0 (laws_FnInstalled.l0 kq t382 t383 t388 t397 t398 x11_2 = some r) ∧ Aside0 (kq ≤ kj6) ∧ Aside0 (Kd.Q k30 30 w' w.heap.size (fun k_ => some k_ ≠ ((.slice Ao20 t388.length co20) : Value).ownBlock ∧ some k_ ≠ (v399 : Value).ownBlock) (.slice Ao9 t382.length co9) t382) ∧ Aside0 (Kd.R k59 59 w' w.heap.size (fun _ => True) (.slice Ao10 t383.length co10) t383) ∧ Aside0 (Kd.R k30 30 w' w.heap.size (fun k_ => some k_ ≠ ((.slice Ao9 t382.length co9) : Value).ownBlock ∧ some k_ ≠ (v399 : Value).ownBlock) (.slice Ao20 t388.length co20) t388) ∧ Aside0 (Kd.R k30 30 w' w.heap.size (fun k_ => some k_ ≠ ((.slice Ao9 t382.length co9) : Value).ownBlock ∧ some k_ ≠ ((.slice Ao20 t388.length co20) : Value).ownBlock) v399 t397) ∧ Aside0 (Below w.heap.size w w'))
      case atStart => exact ⟨(0),(by first|rfl|(simp;done)|(simp [*];done)),H',⟨Nat.le_refl _⟩,⟨by (with_reducible repeat (first|apply Kd.Q_alloc|apply Kd.Q_drewN|apply Kd.Q_drew));exact HO_3.out⟩,⟨by (with_reducible repeat (first|apply Kd.R_alloc|apply Kd.R_drewN|apply Kd.R_drew));exact HO_4.out⟩,⟨by (with_reducible repeat (first|apply Kd.R_alloc|apply Kd.R_drewN|apply Kd.R_drew));exact HO_5.out⟩,⟨by (with_reducible repeat (first|apply Kd.R_alloc|apply Kd.R_drewN|apply Kd.R_drew));exact Kd.R_mono HO400.out (fun _ hk => ⟨hk.1.2,hk.2⟩)⟩,⟨by repeat (first|(with_reducible first|exact HB.out|apply below_alloc|apply pw_below_drewN|apply below_drew1)|exact HB.out)⟩⟩
      case round =>
       clear H'
       try clear c1
       try clear c2
       try clear p2
       try clear c3
       try clear c4
       try clear c11
       try clear c13
       try clear c13b0
       try clear c13b1
       try clear c13b2
       try clear c17
       try clear c18
       try clear p2
       obtain ⟨x11_2,rfl,HA,HK2,HO_3,HO_4,HO_5,HO_9,HB⟩ := hrel
       cases gk with
       | zero => exact absurd HA.out (by simp [laws_FnInstalled.l0])
       | succ k2 =>
        have H := HA.out
        clear HA
        simp only [laws_FnInstalled.l0] at H
        by_cases c22 : x11_2 < (t383.length : Int)
        ·rw [if_pos c22] at H
         have c22b0 : decide (x11_2 < (t383.length : Int)) = true := decide_eq_true c22
         clear c22
         by_cases c23 : 0 ≤ x11_2
         ·rw [if_pos c23] at H
          have c23b0 : decide (0 ≤ x11_2) = true := decide_eq_true c23
          clear c23
          by_cases c24 : 0 ≤ ((rd_T59 t383 x11_2).f1)
          ·rw [if_pos c24] at H
           have c24b0 : decide (0 ≤ ((rd_T59 t383 x11_2).f1)) = true := decide_eq_true c24
           clear c24
           by_cases c25 : ((rd_T59 t383 x11_2).f1) < (t388.length : Int)
           ·rw [if_pos c25] at H
            have c25b0 : decide (((rd_T59 t383 x11_2).f1) < (t388.length : Int)) = true := decide_eq_true c25
            clear c25
            replace H := Option.bind_eq_some_iff.mp H
            obtain ⟨t404,A260,H⟩ := H
            replace H : (if t404 ≤ ((rd_T59 t383 x11_2).f4) then (some false) else (if ((rd_T59 t383 x11_2).f1) < (t382.length : Int) then ((impl_Version.f ((rd_T30 t382 ((rd_T59 t383 x11_2).f1)).f0)).bind fun t408 => (if t408 = ((rd_T59 t383 x11_2).f4) then ((impl_Locked.f ((rd_T30 t388 ((rd_T59 t383 x11_2).f1)).f0)).bind fun t410 => (if t410 = true then (laws_FnInstalled.j2 k2 t382 t383 t388 t397 t398 x11_2 true) else ((impl_Used.f ((rd_T30 t388 ((rd_T59 t383 x11_2).f1)).f0)).bind fun t411 => (if (t411 != ((rd_T59 t383 x11_2).f3)) = true then (laws_FnInstalled.j2 k2 t382 t383 t388 t397 t398 x11_2 true) else (if (rd_T59 t383 x11_2).f3 = true then (laws_FnInstalled.j2 k2 t382 t383 t388 t397 t398 x11_2 (((rd_T30 t388 ((rd_T59 t383 x11_2).f1)).f1) != ((rd_T59 t383 x11_2).f2))) else (laws_FnInstalled.j2 k2 t382 t383 t388 t397 t398 x11_2 false)))))) else (laws_FnInstalled.j2 k2 t382 t383 t388 t397 t398 x11_2 false))) else (none))) = some r := H
            have A26 := Aside0.mk A260
            clear A260
            by_cases c27 : t404 ≤ ((rd_T59 t383 x11_2).f4)
            ·rw [if_pos c27] at H
             have c27b0 : decide (t404 ≤ ((rd_T59 t383 x11_2).f4)) = true := decide_eq_true c27
             clear c27
             obtain rfl := Option.some.inj H
             have p401 : 0 ≤ (x11_2 : Int) := of_decide_eq_true (by first|(with_reducible assumption)|assumption)
             have q401 : x11_2 < (t383.length : Int) := of_decide_eq_true (by first|(with_reducible assumption)|assumption)
             obtain ⟨ad401,e401,hx401_0,hx401_1,hx401_2,hx401_3,hx401_4⟩ := at_T59 (Kd.R_reads' HO_4.out).2.2 x11_2 p401 q401
             cases e401
             replace p401 := eq_true p401
             replace q401 := eq_true q401
             have p402 : 0 ≤ (((rd_T59 t383 x11_2).f1) : Int) := of_decide_eq_true (by first|(with_reducible assumption)|assumption)
             have q402 : ((rd_T59 t383 x11_2).f1) < (t388.length : Int) := of_decide_eq_true (by first|(with_reducible assumption)|assumption)
             obtain ⟨ad402,e402,hx402_0,hx402_1⟩ := at_T30 (Kd.R_reads' HO_5.out).2.2 ((rd_T59 t383 x11_2).f1) p402 q402
             cases e402
             replace p402 := eq_true p402
             replace q402 := eq_true q402
             try go_wp2_with (first|((with_reducible refine gate_dst (N := 12) rfl ?_);refine box_event ?hg (N := 12) ?hd (cs := #[.int .i64 0,.int .i64 0]) (t := 30) ?hr ?_;(case hd => rfl);(case hg => rfl);(case hr => first|(go_simp;done)|(go_simp;rfl));intro gb403 hg w28 hbox hb;have n0_ := Aside0.mk (Kd.Q_below (Kd.Q_elderB (by (with_reducible repeat (first|apply Kd.Q_alloc|apply Kd.Q_drewN|apply Kd.Q_drew));exact HO_3.out) gb403 (Nat.le_of_eq hg.symm)) hb);have n1_ := Aside0.mk (Kd.R_below (by (with_reducible repeat (first|apply Kd.R_alloc|apply Kd.R_drewN|apply Kd.R_drew));exact HO_4.out) hb);have n2_ := Aside0.mk (Kd.R_below (Kd.R_elderB (by (with_reducible repeat (first|apply Kd.R_alloc|apply Kd.R_drewN|apply Kd.R_drew));exact HO_5.out) gb403 (Nat.le_of_eq hg.symm)) hb);have n3_ := Aside0.mk (Kd.R_below (Kd.R_elderB (by (with_reducible repeat (first|apply Kd.R_alloc|apply Kd.R_drewN|apply Kd.R_drew));exact HO_9.out) gb403 (Nat.le_of_eq hg.symm)) hb);have n4_ := Aside0.mk (below_step (by repeat (first|(with_reducible first|exact HB.out|apply below_alloc|apply pw_below_drewN|apply below_drew1)|exact HB.out)) hb);have n5_ := Aside0.mk (hbox);have n6_ := Aside0.mk ((by rw [hg];exact (below_size (by repeat (first|(with_reducible first|exact HB.out|apply below_alloc|apply pw_below_drewN|apply below_drew1)|exact HB.out))) : w.heap.size ≤ gb403));have n7_ := Aside0.mk ((by rw [hg];exact (below_size (by repeat (first|(with_reducible first|exact HB.out|apply below_alloc|apply pw_below_drewN|apply below_drew1)|exact HB.out))) : w.heap.size ≤ gb403));clear HO_3;clear HO_4;clear HO_5;clear HO_9;clear HB;have HO_3 := n0_;have HO_4 := n1_;have HO_5 := n2_;have HO_9 := n3_;have HB := n4_;have BK403 := n5_;have GW403 := n6_;have GE403 := n7_;clear n0_ n1_ n2_ n3_ n4_ n5_ n6_ n7_;clear hb hbox hg;have hcz29_0 : w28.cell? ⟨gb403,0,none⟩ = some (.int .i64 0) := (blk_cell BK403.out 0).trans rfl;have hcz29_1 : w28.cell? ⟨gb403,1,none⟩ = some (.int .i64 0) := (blk_cell BK403.out 1).trans rfl;have hfz29_0 := blk_frozen BK403.out 0;have hfz29_1 := blk_frozen BK403.out 1))
             have n0_ : Aside0 (Kd.Q k30 30 ((w28.setCell ⟨gb403,0,none⟩ (.int .i64 ((rd_T30 t388 ((rd_T59 t383 x11_2).f1)).f0))).setCell ⟨gb403,1,none⟩ (.int .i64 ((rd_T30 t388 ((rd_T59 t383 x11_2).f1)).f1))) w.heap.size (fun k_ => some k_ ≠ (.slice (some ad402) t388.length co20 : Value).ownBlock ∧ some k_ ≠ (v399 : Value).ownBlock ∧ k_ ≠ gb403) (.slice Ao9 t382.length co9) t382) := ⟨by (with_reducible repeat (first|apply Kd.Q_alloc|apply Kd.Q_drewN|apply Kd.Q_drew));exact Kd.Q_mono (Kd.Q_far (p := ⟨gb403,1,none⟩) (Kd.Q_far (p := ⟨gb403,0,none⟩) (Kd.Q_mono HO_3.out (fun k_ hk => (⟨hk,hk.2⟩ : _ ∧ k_ ≠ gb403))) (fun _ hk => hk.2) (.int .i64 ((rd_T30 t388 ((rd_T59 t383 x11_2).f1)).f0))) (fun _ hk => hk.2) (.int .i64 ((rd_T30 t388 ((rd_T59 t383 x11_2).f1)).f1))) (fun _ hk => ⟨hk.1.1.1,⟨hk.1.1.2,hk.1.2⟩⟩)⟩
             have n1_ : Aside0 (Kd.R k59 59 ((w28.setCell ⟨gb403,0,none⟩ (.int .i64 ((rd_T30 t388 ((rd_T59 t383 x11_2).f1)).f0))).setCell ⟨gb403,1,none⟩ (.int .i64 ((rd_T30 t388 ((rd_T59 t383 x11_2).f1)).f1))) w.heap.size (fun _ => True) (.slice (some ad401) t383.length co10) t383) := ⟨by (with_reducible repeat (first|apply Kd.R_alloc|apply Kd.R_drewN|apply Kd.R_drew));exact Kd.R_mono (Kd.R_far (p := ⟨gb403,1,none⟩) (Kd.R_far (p := ⟨gb403,0,none⟩) (Kd.R_types HO_4.out BK403.out (by decide)) (fun _ hk => hk.2) (.int .i64 ((rd_T30 t388 ((rd_T59 t383 x11_2).f1)).f0))) (fun _ hk => hk.2) (.int .i64 ((rd_T30 t388 ((rd_T59 t383 x11_2).f1)).f1))) (fun _ hk => trivial)⟩
             have n2_ : Aside0 (Kd.R k30 30 ((w28.setCell ⟨gb403,0,none⟩ (.int .i64 ((rd_T30 t388 ((rd_T59 t383 x11_2).f1)).f0))).setCell ⟨gb403,1,none⟩ (.int .i64 ((rd_T30 t388 ((rd_T59 t383 x11_2).f1)).f1))) w.heap.size (fun k_ => some k_ ≠ (.slice Ao9 t382.length co9 : Value).ownBlock ∧ some k_ ≠ (v399 : Value).ownBlock ∧ k_ ≠ gb403) (.slice (some ad402) t388.length co20) t388) := ⟨by (with_reducible repeat (first|apply Kd.R_alloc|apply Kd.R_drewN|apply Kd.R_drew));exact Kd.R_mono (Kd.R_far (p := ⟨gb403,1,none⟩) (Kd.R_far (p := ⟨gb403,0,none⟩) (Kd.R_mono HO_5.out (fun k_ hk => (⟨hk,hk.2⟩ : _ ∧ k_ ≠ gb403))) (fun _ hk => hk.2) (.int .i64 ((rd_T30 t388 ((rd_T59 t383 x11_2).f1)).f0))) (fun _ hk => hk.2) (.int .i64 ((rd_T30 t388 ((rd_T59 t383 x11_2).f1)).f1))) (fun _ hk => ⟨hk.1.1.1,⟨hk.1.1.2,hk.1.2⟩⟩)⟩
             have n3_ : Aside0 (Kd.R k30 30 ((w28.setCell ⟨gb403,0,none⟩ (.int .i64 ((rd_T30 t388 ((rd_T59 t383 x11_2).f1)).f0))).setCell ⟨gb403,1,none⟩ (.int .i64 ((rd_T30 t388 ((rd_T59 t383 x11_2).f1)).f1))) w.heap.size (fun k_ => some k_ ≠ (.slice Ao9 t382.length co9 : Value).ownBlock ∧ some k_ ≠ (.slice (some ad402) t388.length co20 : Value).ownBlock ∧ k_ ≠ gb403) v399 t397) := ⟨by (with_reducible repeat (first|apply Kd.R_alloc|apply Kd.R_drewN|apply Kd.R_drew));exact Kd.R_mono (Kd.R_far (p := ⟨gb403,1,none⟩) (Kd.R_far (p := ⟨gb403,0,none⟩) (Kd.R_mono HO_9.out (fun k_ hk => (⟨hk,hk.2⟩ : _ ∧ k_ ≠ gb403))) (fun _ hk => hk.2) (.int .i64 ((rd_T30 t388 ((rd_T59 t383 x11_2).f1)).f0))) (fun _ hk => hk.2) (.int .i64 ((rd_T30 t388 ((rd_T59 t383 x11_2).f1)).f1))) (fun _ hk => ⟨hk.1.1.1,⟨hk.1.1.2,hk.1.2⟩⟩)⟩
             have n4_ : Aside0 (((w28.setCell ⟨gb403,0,none⟩ (.int .i64 ((rd_T30 t388 ((rd_T59 t383 x11_2).f1)).f0))).setCell ⟨gb403,1,none⟩ (.int .i64 ((rd_T30 t388 ((rd_T59 t383 x11_2).f1)).f1))).heap[gb403]? = some (.cells #[.int .i64 ((rd_T30 t388 ((rd_T59 t383 x11_2).f1)).f0),.int .i64 ((rd_T30 t388 ((rd_T59 t383 x11_2).f1)).f1)] 30 (0,0))) := ⟨by (with_reducible repeat (first|refine blk_drewN ?_ _|refine blk_drew ?_|refine blk_alloc ?_ _));refine blk_put (cs := #[.int .i64 ((rd_T30 t388 ((rd_T59 t383 x11_2).f1)).f0),.int .i64 0]) ?_ 1 _ rfl;(with_reducible repeat (first|refine blk_drewN ?_ _|refine blk_drew ?_|refine blk_alloc ?_ _));refine blk_put (cs := #[.int .i64 0,.int .i64 0]) ?_ 0 _ rfl;(with_reducible repeat (first|refine blk_drewN ?_ _|refine blk_drew ?_|refine blk_alloc ?_ _));exact BK403.out⟩
             have n5_ : Aside0 (Below w.heap.size w ((w28.setCell ⟨gb403,0,none⟩ (.int .i64 ((rd_T30 t388 ((rd_T59 t383 x11_2).f1)).f0))).setCell ⟨gb403,1,none⟩ (.int .i64 ((rd_T30 t388 ((rd_T59 t383 x11_2).f1)).f1)))) := ⟨by repeat (first|(with_reducible first|exact HB.out|apply below_alloc|apply pw_below_drewN|apply below_drew1|refine below_set ?_ GE403.out)|exact HB.out)⟩
             (try clear HO_3)
             (try clear HO_4)
             (try clear HO_5)
             (try clear HO_9)
             (try clear BK403)
             (try clear HB)
             generalize ((w28.setCell ⟨gb403,0,none⟩ (.int .i64 ((rd_T30 t388 ((rd_T59 t383 x11_2).f1)).f0))).setCell ⟨gb403,1,none⟩ (.int .i64 ((rd_T30 t388 ((rd_T59 t383 x11_2).f1)).f1))) = w30 at n0_ n1_ n2_ n3_ n4_ n5_ ⊢
             have HO_3 := n0_
             have HO_4 := n1_
             have HO_5 := n2_
             have HO_9 := n3_
             have BK403 := n4_
             have HB := n5_
             clear n0_ n1_ n2_ n3_ n4_ n5_
             have n0_ := Aside0.mk (Kd.Q_drew HO_3.out)
             have n1_ := Aside0.mk (Kd.R_drew HO_4.out)
             have n2_ := Aside0.mk (Kd.R_drew HO_5.out)
             have n3_ := Aside0.mk (Kd.R_drew HO_9.out)
             have n4_ := Aside0.mk (blk_drew BK403.out)
             have n5_ := Aside0.mk (below_drew1 HB.out)
             clear HO_3
             clear HO_4
             clear HO_5
             clear HO_9
             clear BK403
             clear HB
             have HO_3 := n0_
             have HO_4 := n1_
             have HO_5 := n2_
             have HO_9 := n3_
             have BK403 := n4_
             have HB := n5_
             clear n0_ n1_ n2_ n3_ n4_ n5_
             have p405 : 0 ≤ (x11_2 : Int) := of_decide_eq_true (by first|(with_reducible assumption)|assumption)
             have q405 : x11_2 < (t383.length : Int) := of_decide_eq_true (by first|(with_reducible assumption)|assumption)
             obtain ⟨ad405,e405,hx405_0,hx405_1,hx405_2,hx405_3,hx405_4⟩ := at_T59 (Kd.R_reads' HO_4.out).2.2 x11_2 p405 q405
             obtain rfl : ad401 = ad405 := (by injection e405)
             replace p405 := eq_true p405
             replace q405 := eq_true q405
             refine start_ (n := 9) (S := fun w' => w'.cell? ⟨gb403,0,none⟩ = some (.int .i64 ((rd_T30 t388 ((rd_T59 t383 x11_2).f1)).f0)) ∧ w'.cell? ⟨gb403,1,none⟩ = some (.int .i64 ((rd_T30 t388 ((rd_T59 t383 x11_2).f1)).f1)) ∧ w'.cell? (ad401.add ((x11_2).toNat * 5)) = some (.int .i64 ((rd_T59 t383 x11_2).f0)) ∧ w'.cell? ⟨(ad401.add ((x11_2).toNat * 5)).block,(ad401.add ((x11_2).toNat * 5)).off + 1,none⟩ = some (.int .i64 ((rd_T59 t383 x11_2).f1)) ∧ w'.cell? ⟨(ad401.add ((x11_2).toNat * 5)).block,(ad401.add ((x11_2).toNat * 5)).off + 2,none⟩ = some (.int .i64 ((rd_T59 t383 x11_2).f2)) ∧ w'.cell? ⟨(ad401.add ((x11_2).toNat * 5)).block,(ad401.add ((x11_2).toNat * 5)).off + 3,none⟩ = some (.bool ((rd_T59 t383 x11_2).f3)) ∧ w'.cell? ⟨(ad401.add ((x11_2).toNat * 5)).block,(ad401.add ((x11_2).toNat * 5)).off + 4,none⟩ = some (.int .i64 ((rd_T59 t383 x11_2).f4))) (ds := []) #[false,false,false,false,false,false,false,false,false] (by kernel_rfl) rfl rfl ⟨(blk_cell BK403.out 0).trans rfl,(blk_cell BK403.out 1).trans rfl,hx405_0,hx405_1,hx405_2,hx405_3,hx405_4⟩ (fun hHeld => ?_);refine with_tabW laws_FnInstalled.tab15 laws_FnInstalled.bits15 (fun HT_ HW_ => ?_)
             generalize w30.drew = w31 at HO_3 HO_4 HO_5 HO_9 BK403 HB hx405_0 hx405_1 hx405_2 hx405_3 hx405_4 hHeld ⊢
             refine pw_ 0 (some 66) HT_.out ?_
             refine pw_ 3 (some 69) HT_.out ?_
             refine pw_ 4 (some 70) HT_.out ?_
             refine pw_ 5 (some 71) HT_.out ?_
             refine pw_ 6 (some 72) HT_.out ?_
             refine tw_ 1 (some 67) HT_.out HW_.out hHeld rfl rfl (by rintro w' ⟨s0,s1,s2,s3,s4,s5,s6⟩;go_simp;with_reducible rfl) ?_
             refine tw_ 7 (some 73) HT_.out HW_.out hHeld rfl rfl (by rintro w' ⟨s0,s1,s2,s3,s4,s5,s6⟩;go_simp;with_reducible rfl) ?_
             refine oz_ (i := 2) (N := some 68) HT_.out rfl rfl (by kernel_rfl) (by decide) (fun K hK => ?_)
             refine goes_ Try.func45 (by kernel_rfl) rfl #[.int .i64 ((rd_T30 t388 ((rd_T59 t383 x11_2).f1)).f0)] (by rfl) rfl rfl (by (try simp only [List.map_toArray,List.map_cons,List.map_nil]);first|done|rfl|(simp only [List.length_drop,List.length_take];rfl)) ?_
             with_reducible refine (impl_Version.calls ((rd_T30 t388 ((rd_T59 t383 x11_2).f1)).f0) t404 _ A26.out).mono ?_
             rintro e w' ⟨rfl,⟨nd,rfl⟩⟩
             refine ⟨_,rfl,?_⟩
             refine hK.out _ _ ⟨(blk_cell BK403.out 0).trans rfl,(blk_cell BK403.out 1).trans rfl,hHeld.2.2.1,hHeld.2.2.2.1,hHeld.2.2.2.2.1,hHeld.2.2.2.2.2.1,hHeld.2.2.2.2.2.2⟩ (fun hHeld => ?_)
             clear hK K
             refine norm_ (a' := ?_) ?_ ?_
             rotate_left
             ·show Act.put _ (some 68) _ = _
              simp only [Act.put,q1,q2,q3,i64_w,i32_w]
              rfl
             refine pw_ 8 (some 74) HT_.out ?_
             refine done_ (done_of HT_.out (by kernel_rfl)) ?_
             (repeat (rw [drewN_self w31];generalize hq_ : World.drewN w31 _ = w31;have n0_ : Aside0 (Kd.Q k30 30 w31 w.heap.size (fun k_ => some k_ ≠ (.slice (some ad402) t388.length co20 : Value).ownBlock ∧ some k_ ≠ (v399 : Value).ownBlock ∧ k_ ≠ gb403) (.slice Ao9 t382.length co9) t382) := ⟨by rw [← hq_];exact (by (with_reducible repeat (first|apply Kd.Q_alloc|apply Kd.Q_drewN|apply Kd.Q_drew));exact HO_3.out)⟩;have n1_ : Aside0 (Kd.R k59 59 w31 w.heap.size (fun _ => True) (.slice (some ad401) t383.length co10) t383) := ⟨by rw [← hq_];exact (by (with_reducible repeat (first|apply Kd.R_alloc|apply Kd.R_drewN|apply Kd.R_drew));exact HO_4.out)⟩;have n2_ : Aside0 (Kd.R k30 30 w31 w.heap.size (fun k_ => some k_ ≠ (.slice Ao9 t382.length co9 : Value).ownBlock ∧ some k_ ≠ (v399 : Value).ownBlock ∧ k_ ≠ gb403) (.slice (some ad402) t388.length co20) t388) := ⟨by rw [← hq_];exact (by (with_reducible repeat (first|apply Kd.R_alloc|apply Kd.R_drewN|apply Kd.R_drew));exact HO_5.out)⟩;have n3_ : Aside0 (Kd.R k30 30 w31 w.heap.size (fun k_ => some k_ ≠ (.slice Ao9 t382.length co9 : Value).ownBlock ∧ some k_ ≠ (.slice (some ad402) t388.length co20 : Value).ownBlock ∧ k_ ≠ gb403) v399 t397) := ⟨by rw [← hq_];exact (by (with_reducible repeat (first|apply Kd.R_alloc|apply Kd.R_drewN|apply Kd.R_drew));exact HO_9.out)⟩;have n4_ : Aside0 (w31.heap[gb403]? = some (.cells #[.int .i64 ((rd_T30 t388 ((rd_T59 t383 x11_2).f1)).f0),.int .i64 ((rd_T30 t388 ((rd_T59 t383 x11_2).f1)).f1)] 30 (0,0))) := ⟨by rw [← hq_];exact (by (with_reducible repeat (first|refine blk_drewN ?_ _|refine blk_drew ?_|refine blk_alloc ?_ _));exact BK403.out)⟩;have n5_ : Aside0 (Below w.heap.size w w31) := ⟨by rw [← hq_];exact (by repeat (first|(with_reducible first|exact HB.out|apply below_alloc|apply pw_below_drewN|apply below_drew1|refine below_set ?_ GE403.out)|exact HB.out))⟩;clear HO_3 HO_4 HO_5 HO_9 BK403 HB hq_;have HO_3 := n0_;have HO_4 := n1_;have HO_5 := n2_;have HO_9 := n3_;have BK403 := n4_;have HB := n5_;clear n0_ n1_ n2_ n3_ n4_ n5_))
             try go_wp2
             go_ret
             exact ⟨by first|rfl|(simp [errW_none,errW_some] <;> rfl)|(simp [*,errW_none,errW_some] <;> rfl),by repeat (first|(with_reducible first|exact HB.out|apply below_alloc|apply pw_below_drewN|apply below_drew1|refine below_set ?_ GE403.out)|exact HB.out)⟩
            ·rw [if_neg c27] at H
             have c27b0 : decide (t404 ≤ ((rd_T59 t383 x11_2).f4)) = false := decide_eq_false c27
             clear c27
             have HC32 := Aside0.mk H
             clear H
             have p401 : 0 ≤ (x11_2 : Int) := of_decide_eq_true (by first|(with_reducible assumption)|assumption)
             have q401 : x11_2 < (t383.length : Int) := of_decide_eq_true (by first|(with_reducible assumption)|assumption)
             obtain ⟨ad401,e401,hx401_0,hx401_1,hx401_2,hx401_3,hx401_4⟩ := at_T59 (Kd.R_reads' HO_4.out).2.2 x11_2 p401 q401
             cases e401
             replace p401 := eq_true p401
             replace q401 := eq_true q401
             have p402 : 0 ≤ (((rd_T59 t383 x11_2).f1) : Int) := of_decide_eq_true (by first|(with_reducible assumption)|assumption)
             have q402 : ((rd_T59 t383 x11_2).f1) < (t388.length : Int) := of_decide_eq_true (by first|(with_reducible assumption)|assumption)
             obtain ⟨ad402,e402,hx402_0,hx402_1⟩ := at_T30 (Kd.R_reads' HO_5.out).2.2 ((rd_T59 t383 x11_2).f1) p402 q402
             cases e402
             replace p402 := eq_true p402
             replace q402 := eq_true q402
             try go_wp2_with (first|((with_reducible refine gate_dst (N := 12) rfl ?_);refine box_event ?hg (N := 12) ?hd (cs := #[.int .i64 0,.int .i64 0]) (t := 30) ?hr ?_;(case hd => rfl);(case hg => rfl);(case hr => first|(go_simp;done)|(go_simp;rfl));intro gb403 hg w33 hbox hb;have n0_ := Aside0.mk (Kd.Q_below (Kd.Q_elderB (by (with_reducible repeat (first|apply Kd.Q_alloc|apply Kd.Q_drewN|apply Kd.Q_drew));exact HO_3.out) gb403 (Nat.le_of_eq hg.symm)) hb);have n1_ := Aside0.mk (Kd.R_below (by (with_reducible repeat (first|apply Kd.R_alloc|apply Kd.R_drewN|apply Kd.R_drew));exact HO_4.out) hb);have n2_ := Aside0.mk (Kd.R_below (Kd.R_elderB (by (with_reducible repeat (first|apply Kd.R_alloc|apply Kd.R_drewN|apply Kd.R_drew));exact HO_5.out) gb403 (Nat.le_of_eq hg.symm)) hb);have n3_ := Aside0.mk (Kd.R_below (Kd.R_elderB (by (with_reducible repeat (first|apply Kd.R_alloc|apply Kd.R_drewN|apply Kd.R_drew));exact HO_9.out) gb403 (Nat.le_of_eq hg.symm)) hb);have n4_ := Aside0.mk (below_step (by repeat (first|(with_reducible first|exact HB.out|apply below_alloc|apply pw_below_drewN|apply below_drew1)|exact HB.out)) hb);have n5_ := Aside0.mk (hbox);have n6_ := Aside0.mk ((by rw [hg];exact (below_size (by repeat (first|(with_reducible first|exact HB.out|apply below_alloc|apply pw_below_drewN|apply below_drew1)|exact HB.out))) : w.heap.size ≤ gb403));have n7_ := Aside0.mk ((by rw [hg];exact (below_size (by repeat (first|(with_reducible first|exact HB.out|apply below_alloc|apply pw_below_drewN|apply below_drew1)|exact HB.out))) : w.heap.size ≤ gb403));clear HO_3;clear HO_4;clear HO_5;clear HO_9;clear HB;have HO_3 := n0_;have HO_4 := n1_;have HO_5 := n2_;have HO_9 := n3_;have HB := n4_;have BK403 := n5_;have GW403 := n6_;have GE403 := n7_;clear n0_ n1_ n2_ n3_ n4_ n5_ n6_ n7_;clear hb hbox hg;have hcz34_0 : w33.cell? ⟨gb403,0,none⟩ = some (.int .i64 0) := (blk_cell BK403.out 0).trans rfl;have hcz34_1 : w33.cell? ⟨gb403,1,none⟩ = some (.int .i64 0) := (blk_cell BK403.out 1).trans rfl;have hfz34_0 := blk_frozen BK403.out 0;have hfz34_1 := blk_frozen BK403.out 1))
             have n0_ : Aside0 (Kd.Q k30 30 ((w33.setCell ⟨gb403,0,none⟩ (.int .i64 ((rd_T30 t388 ((rd_T59 t383 x11_2).f1)).f0))).setCell ⟨gb403,1,none⟩ (.int .i64 ((rd_T30 t388 ((rd_T59 t383 x11_2).f1)).f1))) w.heap.size (fun k_ => some k_ ≠ (.slice (some ad402) t388.length co20 : Value).ownBlock ∧ some k_ ≠ (v399 : Value).ownBlock ∧ k_ ≠ gb403) (.slice Ao9 t382.length co9) t382) := ⟨by (with_reducible repeat (first|apply Kd.Q_alloc|apply Kd.Q_drewN|apply Kd.Q_drew));exact Kd.Q_mono (Kd.Q_far (p := ⟨gb403,1,none⟩) (Kd.Q_far (p := ⟨gb403,0,none⟩) (Kd.Q_mono HO_3.out (fun k_ hk => (⟨hk,hk.2⟩ : _ ∧ k_ ≠ gb403))) (fun _ hk => hk.2) (.int .i64 ((rd_T30 t388 ((rd_T59 t383 x11_2).f1)).f0))) (fun _ hk => hk.2) (.int .i64 ((rd_T30 t388 ((rd_T59 t383 x11_2).f1)).f1))) (fun _ hk => ⟨hk.1.1.1,⟨hk.1.1.2,hk.1.2⟩⟩)⟩
             have n1_ : Aside0 (Kd.R k59 59 ((w33.setCell ⟨gb403,0,none⟩ (.int .i64 ((rd_T30 t388 ((rd_T59 t383 x11_2).f1)).f0))).setCell ⟨gb403,1,none⟩ (.int .i64 ((rd_T30 t388 ((rd_T59 t383 x11_2).f1)).f1))) w.heap.size (fun _ => True) (.slice (some ad401) t383.length co10) t383) := ⟨by (with_reducible repeat (first|apply Kd.R_alloc|apply Kd.R_drewN|apply Kd.R_drew));exact Kd.R_mono (Kd.R_far (p := ⟨gb403,1,none⟩) (Kd.R_far (p := ⟨gb403,0,none⟩) (Kd.R_types HO_4.out BK403.out (by decide)) (fun _ hk => hk.2) (.int .i64 ((rd_T30 t388 ((rd_T59 t383 x11_2).f1)).f0))) (fun _ hk => hk.2) (.int .i64 ((rd_T30 t388 ((rd_T59 t383 x11_2).f1)).f1))) (fun _ hk => trivial)⟩
             have n2_ : Aside0 (Kd.R k30 30 ((w33.setCell ⟨gb403,0,none⟩ (.int .i64 ((rd_T30 t388 ((rd_T59 t383 x11_2).f1)).f0))).setCell ⟨gb403,1,none⟩ (.int .i64 ((rd_T30 t388 ((rd_T59 t383 x11_2).f1)).f1))) w.heap.size (fun k_ => some k_ ≠ (.slice Ao9 t382.length co9 : Value).ownBlock ∧ some k_ ≠ (v399 : Value).ownBlock ∧ k_ ≠ gb403) (.slice (some ad402) t388.length co20) t388) := ⟨by (with_reducible repeat (first|apply Kd.R_alloc|apply Kd.R_drewN|apply Kd.R_drew));exact Kd.R_mono (Kd.R_far (p := ⟨gb403,1,none⟩) (Kd.R_far (p := ⟨gb403,0,none⟩) (Kd.R_mono HO_5.out (fun k_ hk => (⟨hk,hk.2⟩ : _ ∧ k_ ≠ gb403))) (fun _ hk => hk.2) (.int .i64 ((rd_T30 t388 ((rd_T59 t383 x11_2).f1)).f0))) (fun _ hk => hk.2) (.int .i64 ((rd_T30 t388 ((rd_T59 t383 x11_2).f1)).f1))) (fun _ hk => ⟨hk.1.1.1,⟨hk.1.1.2,hk.1.2⟩⟩)⟩
             have n3_ : Aside0 (Kd.R k30 30 ((w33.setCell ⟨gb403,0,none⟩ (.int .i64 ((rd_T30 t388 ((rd_T59 t383 x11_2).f1)).f0))).setCell ⟨gb403,1,none⟩ (.int .i64 ((rd_T30 t388 ((rd_T59 t383 x11_2).f1)).f1))) w.heap.size (fun k_ => some k_ ≠ (.slice Ao9 t382.length co9 : Value).ownBlock ∧ some k_ ≠ (.slice (some ad402) t388.length co20 : Value).ownBlock ∧ k_ ≠ gb403) v399 t397) := ⟨by (with_reducible repeat (first|apply Kd.R_alloc|apply Kd.R_drewN|apply Kd.R_drew));exact Kd.R_mono (Kd.R_far (p := ⟨gb403,1,none⟩) (Kd.R_far (p := ⟨gb403,0,none⟩) (Kd.R_mono HO_9.out (fun k_ hk => (⟨hk,hk.2⟩ : _ ∧ k_ ≠ gb403))) (fun _ hk => hk.2) (.int .i64 ((rd_T30 t388 ((rd_T59 t383 x11_2).f1)).f0))) (fun _ hk => hk.2) (.int .i64 ((rd_T30 t388 ((rd_T59 t383 x11_2).f1)).f1))) (fun _ hk => ⟨hk.1.1.1,⟨hk.1.1.2,hk.1.2⟩⟩)⟩
             have n4_ : Aside0 (((w33.setCell ⟨gb403,0,none⟩ (.int .i64 ((rd_T30 t388 ((rd_T59 t383 x11_2).f1)).f0))).setCell ⟨gb403,1,none⟩ (.int .i64 ((rd_T30 t388 ((rd_T59 t383 x11_2).f1)).f1))).heap[gb403]? = some (.cells #[.int .i64 ((rd_T30 t388 ((rd_T59 t383 x11_2).f1)).f0),.int .i64 ((rd_T30 t388 ((rd_T59 t383 x11_2).f1)).f1)] 30 (0,0))) := ⟨by (with_reducible repeat (first|refine blk_drewN ?_ _|refine blk_drew ?_|refine blk_alloc ?_ _));refine blk_put (cs := #[.int .i64 ((rd_T30 t388 ((rd_T59 t383 x11_2).f1)).f0),.int .i64 0]) ?_ 1 _ rfl;(with_reducible repeat (first|refine blk_drewN ?_ _|refine blk_drew ?_|refine blk_alloc ?_ _));refine blk_put (cs := #[.int .i64 0,.int .i64 0]) ?_ 0 _ rfl;(with_reducible repeat (first|refine blk_drewN ?_ _|refine blk_drew ?_|refine blk_alloc ?_ _));exact BK403.out⟩
             have n5_ : Aside0 (Below w.heap.size w ((w33.setCell ⟨gb403,0,none⟩ (.int .i64 ((rd_T30 t388 ((rd_T59 t383 x11_2).f1)).f0))).setCell ⟨gb403,1,none⟩ (.int .i64 ((rd_T30 t388 ((rd_T59 t383 x11_2).f1)).f1)))) := ⟨by repeat (first|(with_reducible first|exact HB.out|apply below_alloc|apply pw_below_drewN|apply below_drew1|refine below_set ?_ GE403.out)|exact HB.out)⟩
             (try clear HO_3)
             (try clear HO_4)
             (try clear HO_5)
             (try clear HO_9)
             (try clear BK403)
             (try clear HB)
             generalize ((w33.setCell ⟨gb403,0,none⟩ (.int .i64 ((rd_T30 t388 ((rd_T59 t383 x11_2).f1)).f0))).setCell ⟨gb403,1,none⟩ (.int .i64 ((rd_T30 t388 ((rd_T59 t383 x11_2).f1)).f1))) = w35 at n0_ n1_ n2_ n3_ n4_ n5_ ⊢
             have HO_3 := n0_
             have HO_4 := n1_
             have HO_5 := n2_
             have HO_9 := n3_
             have BK403 := n4_
             have HB := n5_
             clear n0_ n1_ n2_ n3_ n4_ n5_
             have n0_ := Aside0.mk (Kd.Q_drew HO_3.out)
             have n1_ := Aside0.mk (Kd.R_drew HO_4.out)
             have n2_ := Aside0.mk (Kd.R_drew HO_5.out)
             have n3_ := Aside0.mk (Kd.R_drew HO_9.out)
             have n4_ := Aside0.mk (blk_drew BK403.out)
             have n5_ := Aside0.mk (below_drew1 HB.out)
             clear HO_3
             clear HO_4
             clear HO_5
             clear HO_9
             clear BK403
             clear HB
             have HO_3 := n0_
             have HO_4 := n1_
             have HO_5 := n2_
             have HO_9 := n3_
             have BK403 := n4_
             have HB := n5_
             clear n0_ n1_ n2_ n3_ n4_ n5_
             have p405 : 0 ≤ (x11_2 : Int) := of_decide_eq_true (by first|(with_reducible assumption)|assumption)
             have q405 : x11_2 < (t383.length : Int) := of_decide_eq_true (by first|(with_reducible assumption)|assumption)
             obtain ⟨ad405,e405,hx405_0,hx405_1,hx405_2,hx405_3,hx405_4⟩ := at_T59 (Kd.R_reads' HO_4.out).2.2 x11_2 p405 q405
             obtain rfl : ad401 = ad405 := (by injection e405)
             replace p405 := eq_true p405
             replace q405 := eq_true q405
             refine start_ (n := 9) (S := fun w' => w'.cell? ⟨gb403,0,none⟩ = some (.int .i64 ((rd_T30 t388 ((rd_T59 t383 x11_2).f1)).f0)) ∧ w'.cell? ⟨gb403,1,none⟩ = some (.int .i64 ((rd_T30 t388 ((rd_T59 t383 x11_2).f1)).f1)) ∧ w'.cell? (ad401.add ((x11_2).toNat * 5)) = some (.int .i64 ((rd_T59 t383 x11_2).f0)) ∧ w'.cell? ⟨(ad401.add ((x11_2).toNat * 5)).block,(ad401.add ((x11_2).toNat * 5)).off + 1,none⟩ = some (.int .i64 ((rd_T59 t383 x11_2).f1)) ∧ w'.cell? ⟨(ad401.add ((x11_2).toNat * 5)).block,(ad401.add ((x11_2).toNat * 5)).off + 2,none⟩ = some (.int .i64 ((rd_T59 t383 x11_2).f2)) ∧ w'.cell? ⟨(ad401.add ((x11_2).toNat * 5)).block,(ad401.add ((x11_2).toNat * 5)).off + 3,none⟩ = some (.bool ((rd_T59 t383 x11_2).f3)) ∧ w'.cell? ⟨(ad401.add ((x11_2).toNat * 5)).block,(ad401.add ((x11_2).toNat * 5)).off + 4,none⟩ = some (.int .i64 ((rd_T59 t383 x11_2).f4))) (ds := []) #[false,false,false,false,false,false,false,false,false] (by kernel_rfl) rfl rfl ⟨(blk_cell BK403.out 0).trans rfl,(blk_cell BK403.out 1).trans rfl,hx405_0,hx405_1,hx405_2,hx405_3,hx405_4⟩ (fun hHeld => ?_);refine with_tabW laws_FnInstalled.tab15 laws_FnInstalled.bits15 (fun HT_ HW_ => ?_)
             generalize w35.drew = w36 at HO_3 HO_4 HO_5 HO_9 BK403 HB hx405_0 hx405_1 hx405_2 hx405_3 hx405_4 hHeld ⊢
             refine pw_ 0 (some 66) HT_.out ?_
             refine pw_ 3 (some 69) HT_.out ?_
             refine pw_ 4 (some 70) HT_.out ?_
             refine pw_ 5 (some 71) HT_.out ?_
             refine pw_ 6 (some 72) HT_.out ?_
             refine tw_ 1 (some 67) HT_.out HW_.out hHeld rfl rfl (by rintro w' ⟨s0,s1,s2,s3,s4,s5,s6⟩;go_simp;with_reducible rfl) ?_
             refine tw_ 7 (some 73) HT_.out HW_.out hHeld rfl rfl (by rintro w' ⟨s0,s1,s2,s3,s4,s5,s6⟩;go_simp;with_reducible rfl) ?_
             refine oz_ (i := 2) (N := some 68) HT_.out rfl rfl (by kernel_rfl) (by decide) (fun K hK => ?_)
             refine goes_ Try.func45 (by kernel_rfl) rfl #[.int .i64 ((rd_T30 t388 ((rd_T59 t383 x11_2).f1)).f0)] (by rfl) rfl rfl (by (try simp only [List.map_toArray,List.map_cons,List.map_nil]);first|done|rfl|(simp only [List.length_drop,List.length_take];rfl)) ?_
             with_reducible refine (impl_Version.calls ((rd_T30 t388 ((rd_T59 t383 x11_2).f1)).f0) t404 _ A26.out).mono ?_
             rintro e w' ⟨rfl,⟨nd,rfl⟩⟩
             refine ⟨_,rfl,?_⟩
             refine hK.out _ _ ⟨(blk_cell BK403.out 0).trans rfl,(blk_cell BK403.out 1).trans rfl,hHeld.2.2.1,hHeld.2.2.2.1,hHeld.2.2.2.2.1,hHeld.2.2.2.2.2.1,hHeld.2.2.2.2.2.2⟩ (fun hHeld => ?_)
             clear hK K
             refine norm_ (a' := ?_) ?_ ?_
             rotate_left
             ·show Act.put _ (some 68) _ = _
              simp only [Act.put,q1,q2,q3,i64_w,i32_w]
              rfl
             refine pw_ 8 (some 74) HT_.out ?_
             refine done_ (done_of HT_.out (by kernel_rfl)) ?_
             (repeat (rw [drewN_self w36];generalize hq_ : World.drewN w36 _ = w36;have n0_ : Aside0 (Kd.Q k30 30 w36 w.heap.size (fun k_ => some k_ ≠ (.slice (some ad402) t388.length co20 : Value).ownBlock ∧ some k_ ≠ (v399 : Value).ownBlock ∧ k_ ≠ gb403) (.slice Ao9 t382.length co9) t382) := ⟨by rw [← hq_];exact (by (with_reducible repeat (first|apply Kd.Q_alloc|apply Kd.Q_drewN|apply Kd.Q_drew));exact HO_3.out)⟩;have n1_ : Aside0 (Kd.R k59 59 w36 w.heap.size (fun _ => True) (.slice (some ad401) t383.length co10) t383) := ⟨by rw [← hq_];exact (by (with_reducible repeat (first|apply Kd.R_alloc|apply Kd.R_drewN|apply Kd.R_drew));exact HO_4.out)⟩;have n2_ : Aside0 (Kd.R k30 30 w36 w.heap.size (fun k_ => some k_ ≠ (.slice Ao9 t382.length co9 : Value).ownBlock ∧ some k_ ≠ (v399 : Value).ownBlock ∧ k_ ≠ gb403) (.slice (some ad402) t388.length co20) t388) := ⟨by rw [← hq_];exact (by (with_reducible repeat (first|apply Kd.R_alloc|apply Kd.R_drewN|apply Kd.R_drew));exact HO_5.out)⟩;have n3_ : Aside0 (Kd.R k30 30 w36 w.heap.size (fun k_ => some k_ ≠ (.slice Ao9 t382.length co9 : Value).ownBlock ∧ some k_ ≠ (.slice (some ad402) t388.length co20 : Value).ownBlock ∧ k_ ≠ gb403) v399 t397) := ⟨by rw [← hq_];exact (by (with_reducible repeat (first|apply Kd.R_alloc|apply Kd.R_drewN|apply Kd.R_drew));exact HO_9.out)⟩;have n4_ : Aside0 (w36.heap[gb403]? = some (.cells #[.int .i64 ((rd_T30 t388 ((rd_T59 t383 x11_2).f1)).f0),.int .i64 ((rd_T30 t388 ((rd_T59 t383 x11_2).f1)).f1)] 30 (0,0))) := ⟨by rw [← hq_];exact (by (with_reducible repeat (first|refine blk_drewN ?_ _|refine blk_drew ?_|refine blk_alloc ?_ _));exact BK403.out)⟩;have n5_ : Aside0 (Below w.heap.size w w36) := ⟨by rw [← hq_];exact (by repeat (first|(with_reducible first|exact HB.out|apply below_alloc|apply pw_below_drewN|apply below_drew1|refine below_set ?_ GE403.out)|exact HB.out))⟩;clear HO_3 HO_4 HO_5 HO_9 BK403 HB hq_;have HO_3 := n0_;have HO_4 := n1_;have HO_5 := n2_;have HO_9 := n3_;have BK403 := n4_;have HB := n5_;clear n0_ n1_ n2_ n3_ n4_ n5_))
             go_upto_region 17 with (fail)
             go_cut [123] (fun v123 wc => ∃ (kq : Nat) (x123_31 : Bool),v123 = .bool x123_31 ∧ Aside0 (laws_FnInstalled.j2 kq t382 t383 t388 t397 t398 x11_2 x123_31 = some r) ∧ Aside0 (kq ≤ k2) ∧ Aside0 (Kd.Q k30 30 wc w.heap.size (fun k_ => some k_ ≠ ((.slice (some ad402) t388.length co20) : Value).ownBlock ∧ some k_ ≠ (v399 : Value).ownBlock ∧ k_ ≠ gb403) (.slice Ao9 t382.length co9) t382) ∧ Aside0 (Kd.R k59 59 wc w.heap.size (fun _ => True) (.slice (some ad401) t383.length co10) t383) ∧ Aside0 (Kd.R k30 30 wc w.heap.size (fun k_ => some k_ ≠ ((.slice Ao9 t382.length co9) : Value).ownBlock ∧ some k_ ≠ (v399 : Value).ownBlock ∧ k_ ≠ gb403) (.slice (some ad402) t388.length co20) t388) ∧ Aside0 (Kd.R k30 30 wc w.heap.size (fun k_ => some k_ ≠ ((.slice Ao9 t382.length co9) : Value).ownBlock ∧ some k_ ≠ ((.slice (some ad402) t388.length co20) : Value).ownBlock ∧ k_ ≠ gb403) v399 t397) ∧ Aside0 (wc.heap[gb403]? = some (.cells #[.int .i64 ((rd_T30 t388 ((rd_T59 t383 x11_2).f1)).f0),.int .i64 ((rd_T30 t388 ((rd_T59 t383 x11_2).f1)).f1)] 30 (0,0))) ∧ Aside0 (Below w.heap.size w wc))
             case first =>
              have H := HC32.out
              clear HC32
              by_cases c37 : ((rd_T59 t383 x11_2).f1) < (t382.length : Int)
              ·rw [if_pos c37] at H
               have c37b0 : decide (((rd_T59 t383 x11_2).f1) < (t382.length : Int)) = true := decide_eq_true c37
               clear c37
               (first|rw [c37b0]|(simp only [i64_w,i32_w];rw [c37b0])|skip)
               replace H := Option.bind_eq_some_iff.mp H
               obtain ⟨t408,A380,H⟩ := H
               replace H : (if t408 = ((rd_T59 t383 x11_2).f4) then ((impl_Locked.f ((rd_T30 t388 ((rd_T59 t383 x11_2).f1)).f0)).bind fun t410 => (if t410 = true then (laws_FnInstalled.j2 k2 t382 t383 t388 t397 t398 x11_2 true) else ((impl_Used.f ((rd_T30 t388 ((rd_T59 t383 x11_2).f1)).f0)).bind fun t411 => (if (t411 != ((rd_T59 t383 x11_2).f3)) = true then (laws_FnInstalled.j2 k2 t382 t383 t388 t397 t398 x11_2 true) else (if (rd_T59 t383 x11_2).f3 = true then (laws_FnInstalled.j2 k2 t382 t383 t388 t397 t398 x11_2 (((rd_T30 t388 ((rd_T59 t383 x11_2).f1)).f1) != ((rd_T59 t383 x11_2).f2))) else (laws_FnInstalled.j2 k2 t382 t383 t388 t397 t398 x11_2 false)))))) else (laws_FnInstalled.j2 k2 t382 t383 t388 t397 t398 x11_2 false)) = some r := H
               have A38 := Aside0.mk A380
               clear A380
               by_cases c39 : t408 = ((rd_T59 t383 x11_2).f4)
               ·rw [if_pos c39] at H
                have c39b0 : (t408 == ((rd_T59 t383 x11_2).f4)) = true := beq_iff_eq.mpr c39
                have c39b1 : (t408 != ((rd_T59 t383 x11_2).f4)) = false := bne_eq_false_iff_eq.mpr c39
                clear c39
                replace H := Option.bind_eq_some_iff.mp H
                obtain ⟨t410,A400,H⟩ := H
                replace H : (if t410 = true then (laws_FnInstalled.j2 k2 t382 t383 t388 t397 t398 x11_2 true) else ((impl_Used.f ((rd_T30 t388 ((rd_T59 t383 x11_2).f1)).f0)).bind fun t411 => (if (t411 != ((rd_T59 t383 x11_2).f3)) = true then (laws_FnInstalled.j2 k2 t382 t383 t388 t397 t398 x11_2 true) else (if (rd_T59 t383 x11_2).f3 = true then (laws_FnInstalled.j2 k2 t382 t383 t388 t397 t398 x11_2 (((rd_T30 t388 ((rd_T59 t383 x11_2).f1)).f1) != ((rd_T59 t383 x11_2).f2))) else (laws_FnInstalled.j2 k2 t382 t383 t388 t397 t398 x11_2 false))))) = some r := H
                have A40 := Aside0.mk A400
                clear A400
                by_cases c41 : t410 = true
                ·subst c41
                 have H1 : (laws_FnInstalled.j2 k2 t382 t383 t388 t397 t398 x11_2 true) = some r := by rw [if_pos rfl] at H;exact H
                 clear H
                 have H := H1
                 clear H1
                 have H' := Aside0.mk H
                 clear H
                 try go_wp2
                 have n0_ := Aside0.mk (Kd.Q_drew HO_3.out)
                 have n1_ := Aside0.mk (Kd.R_drew HO_4.out)
                 have n2_ := Aside0.mk (Kd.R_drew HO_5.out)
                 have n3_ := Aside0.mk (Kd.R_drew HO_9.out)
                 have n4_ := Aside0.mk (blk_drew BK403.out)
                 have n5_ := Aside0.mk (below_drew1 HB.out)
                 clear HO_3
                 clear HO_4
                 clear HO_5
                 clear HO_9
                 clear BK403
                 clear HB
                 have HO_3 := n0_
                 have HO_4 := n1_
                 have HO_5 := n2_
                 have HO_9 := n3_
                 have BK403 := n4_
                 have HB := n5_
                 clear n0_ n1_ n2_ n3_ n4_ n5_
                 have p406 : 0 ≤ (x11_2 : Int) := of_decide_eq_true (by first|(with_reducible assumption)|assumption)
                 have q406 : x11_2 < (t383.length : Int) := of_decide_eq_true (by first|(with_reducible assumption)|assumption)
                 obtain ⟨ad406,e406,hx406_0,hx406_1,hx406_2,hx406_3,hx406_4⟩ := at_T59 (Kd.R_reads' HO_4.out).2.2 x11_2 p406 q406
                 obtain rfl : ad401 = ad406 := (by injection e406)
                 replace p406 := eq_true p406
                 replace q406 := eq_true q406
                 have p407 : 0 ≤ (((rd_T59 t383 x11_2).f1) : Int) := of_decide_eq_true (by first|(with_reducible assumption)|assumption)
                 have q407 : ((rd_T59 t383 x11_2).f1) < (t382.length : Int) := of_decide_eq_true (by first|(with_reducible assumption)|assumption)
                 obtain ⟨ad407,e407,hx407_0,hx407_1⟩ := at_T30 (Kd.Q_reads' HO_3.out).2.2 ((rd_T59 t383 x11_2).f1) p407 q407
                 cases e407
                 replace p407 := eq_true p407
                 replace q407 := eq_true q407
                 have p409 : 0 ≤ (x11_2 : Int) := of_decide_eq_true (by first|(with_reducible assumption)|assumption)
                 have q409 : x11_2 < (t383.length : Int) := of_decide_eq_true (by first|(with_reducible assumption)|assumption)
                 obtain ⟨ad409,e409,hx409_0,hx409_1,hx409_2,hx409_3,hx409_4⟩ := at_T59 (Kd.R_reads' HO_4.out).2.2 x11_2 p409 q409
                 obtain rfl : ad401 = ad409 := (by injection e409)
                 replace p409 := eq_true p409
                 replace q409 := eq_true q409
                 refine start_ (n := 49) (S := fun w' => w'.cell? ⟨gb403,0,none⟩ = some (.int .i64 ((rd_T30 t388 ((rd_T59 t383 x11_2).f1)).f0)) ∧ w'.cell? ⟨gb403,1,none⟩ = some (.int .i64 ((rd_T30 t388 ((rd_T59 t383 x11_2).f1)).f1)) ∧ w'.cell? (ad401.add ((x11_2).toNat * 5)) = some (.int .i64 ((rd_T59 t383 x11_2).f0)) ∧ w'.cell? ⟨(ad401.add ((x11_2).toNat * 5)).block,(ad401.add ((x11_2).toNat * 5)).off + 1,none⟩ = some (.int .i64 ((rd_T59 t383 x11_2).f1)) ∧ w'.cell? ⟨(ad401.add ((x11_2).toNat * 5)).block,(ad401.add ((x11_2).toNat * 5)).off + 2,none⟩ = some (.int .i64 ((rd_T59 t383 x11_2).f2)) ∧ w'.cell? ⟨(ad401.add ((x11_2).toNat * 5)).block,(ad401.add ((x11_2).toNat * 5)).off + 3,none⟩ = some (.bool ((rd_T59 t383 x11_2).f3)) ∧ w'.cell? ⟨(ad401.add ((x11_2).toNat * 5)).block,(ad401.add ((x11_2).toNat * 5)).off + 4,none⟩ = some (.int .i64 ((rd_T59 t383 x11_2).f4)) ∧ w'.cell? (ad407.add ((((rd_T59 t383 x11_2).f1)).toNat * 2)) = some (.int .i64 ((rd_T30 t382 ((rd_T59 t383 x11_2).f1)).f0)) ∧ w'.cell? ⟨(ad407.add ((((rd_T59 t383 x11_2).f1)).toNat * 2)).block,(ad407.add ((((rd_T59 t383 x11_2).f1)).toNat * 2)).off + 1,none⟩ = some (.int .i64 ((rd_T30 t382 ((rd_T59 t383 x11_2).f1)).f1)) ∧ w'.cell? (ad401.add ((x11_2).toNat * 5)) = some (.int .i64 ((rd_T59 t383 x11_2).f0)) ∧ w'.cell? ⟨(ad401.add ((x11_2).toNat * 5)).block,(ad401.add ((x11_2).toNat * 5)).off + 1,none⟩ = some (.int .i64 ((rd_T59 t383 x11_2).f1)) ∧ w'.cell? ⟨(ad401.add ((x11_2).toNat * 5)).block,(ad401.add ((x11_2).toNat * 5)).off + 2,none⟩ = some (.int .i64 ((rd_T59 t383 x11_2).f2)) ∧ w'.cell? ⟨(ad401.add ((x11_2).toNat * 5)).block,(ad401.add ((x11_2).toNat * 5)).off + 3,none⟩ = some (.bool ((rd_T59 t383 x11_2).f3)) ∧ w'.cell? ⟨(ad401.add ((x11_2).toNat * 5)).block,(ad401.add ((x11_2).toNat * 5)).off + 4,none⟩ = some (.int .i64 ((rd_T59 t383 x11_2).f4))) (ds := []) #[false,false,false,false,false,false,false,false,false,false,false,false,false,false,false,false,false,false,false,false,false,false,false,false,false,false,false,false,false,false,false,false,false,false,false,false,false,false,false,false,false,false,false,false,false,false,false,false,false] (by kernel_rfl) rfl rfl ⟨(blk_cell BK403.out 0).trans rfl,(blk_cell BK403.out 1).trans rfl,hx406_0,hx406_1,hx406_2,hx406_3,hx406_4,hx407_0,hx407_1,hx409_0,hx409_1,hx409_2,hx409_3,hx409_4⟩ (fun hHeld => ?_);refine with_tabW laws_FnInstalled.tab17 laws_FnInstalled.bits17 (fun HT_ HW_ => ?_)
                 generalize w36.drew = w42 at HO_3 HO_4 HO_5 HO_9 BK403 HB hx406_0 hx406_1 hx406_2 hx406_3 hx406_4 hx407_0 hx407_1 hx409_0 hx409_1 hx409_2 hx409_3 hx409_4 hHeld ⊢
                 refine pw_ 0 (some 75) HT_.out ?_
                 refine pw_ 1 (some 76) HT_.out ?_
                 refine pw_ 2 (some 77) HT_.out ?_
                 refine pw_ 3 (some 78) HT_.out ?_
                 refine pw_ 4 (some 79) HT_.out ?_
                 refine pw_ 10 (some 85) HT_.out ?_
                 refine pw_ 11 (some 86) HT_.out ?_
                 refine pw_ 12 (some 87) HT_.out ?_
                 refine pw_ 13 (some 88) HT_.out ?_
                 refine tw_ 5 (some 80) HT_.out HW_.out hHeld rfl rfl (by rintro w' ⟨s0,s1,s2,s3,s4,s5,s6,s7,s8,s9,s10,s11,s12,s13⟩;go_simp;with_reducible rfl) ?_
                 refine pw_ 6 (some 81) HT_.out ?_
                 refine pw_ 7 (some 82) HT_.out ?_
                 refine tw_ 8 (some 83) HT_.out HW_.out hHeld rfl rfl (by rintro w' ⟨s0,s1,s2,s3,s4,s5,s6,s7,s8,s9,s10,s11,s12,s13⟩;go_simp;with_reducible rfl) ?_
                 refine tw_ 14 (some 89) HT_.out HW_.out hHeld rfl rfl (by rintro w' ⟨s0,s1,s2,s3,s4,s5,s6,s7,s8,s9,s10,s11,s12,s13⟩;go_simp;with_reducible rfl) ?_
                 refine oz_ (i := 9) (N := some 84) HT_.out rfl rfl (by kernel_rfl) (by decide) (fun K hK => ?_)
                 refine goes_ Try.func45 (by kernel_rfl) rfl #[.int .i64 ((rd_T30 t382 ((rd_T59 t383 x11_2).f1)).f0)] (by rfl) rfl rfl (by (try simp only [List.map_toArray,List.map_cons,List.map_nil]);first|done|rfl|(simp only [List.length_drop,List.length_take];rfl)) ?_
                 with_reducible refine (impl_Version.calls ((rd_T30 t382 ((rd_T59 t383 x11_2).f1)).f0) t408 _ A38.out).mono ?_
                 rintro e w' ⟨rfl,⟨nd,rfl⟩⟩
                 refine ⟨_,rfl,?_⟩
                 refine hK.out _ _ ⟨(blk_cell BK403.out 0).trans rfl,(blk_cell BK403.out 1).trans rfl,hHeld.2.2.1,hHeld.2.2.2.1,hHeld.2.2.2.2.1,hHeld.2.2.2.2.2.1,hHeld.2.2.2.2.2.2.1,hHeld.2.2.2.2.2.2.2.1,hHeld.2.2.2.2.2.2.2.2.1,hHeld.2.2.2.2.2.2.2.2.2.1,hHeld.2.2.2.2.2.2.2.2.2.2.1,hHeld.2.2.2.2.2.2.2.2.2.2.2.1,hHeld.2.2.2.2.2.2.2.2.2.2.2.2.1,hHeld.2.2.2.2.2.2.2.2.2.2.2.2.2⟩ (fun hHeld => ?_)
                 clear hK K
                 refine norm_ (a' := ?_) ?_ ?_
                 rotate_left
                 ·show Act.put _ (some 84) _ = _
                  simp only [Act.put,q1,q2,q3,i64_w,i32_w]
                  rfl
                 refine pw_ 15 (some 90) HT_.out ?_
                 refine pw_ 16 (some 91) HT_.out ?_
                 refine pw_ 17 (some 92) HT_.out ?_
                 refine tw_ 18 (some 93) HT_.out HW_.out hHeld rfl rfl (by rintro w' ⟨s0,s1,s2,s3,s4,s5,s6,s7,s8,s9,s10,s11,s12,s13⟩;go_simp;with_reducible rfl) ?_
                 refine oz_ (i := 19) (N := some 94) HT_.out rfl rfl (by kernel_rfl) (by decide) (fun K hK => ?_)
                 refine goes_ Try.func29 (by kernel_rfl) rfl #[.int .i64 ((rd_T30 t388 ((rd_T59 t383 x11_2).f1)).f0)] (by rfl) rfl rfl (by (try simp only [List.map_toArray,List.map_cons,List.map_nil]);first|done|rfl|(simp only [List.length_drop,List.length_take];rfl)) ?_
                 with_reducible refine (impl_Locked.calls ((rd_T30 t388 ((rd_T59 t383 x11_2).f1)).f0) true _ A40.out).mono ?_
                 rintro e w' ⟨rfl,⟨nd,rfl⟩⟩
                 refine ⟨_,rfl,?_⟩
                 refine hK.out _ _ ⟨(blk_cell BK403.out 0).trans rfl,(blk_cell BK403.out 1).trans rfl,hHeld.2.2.1,hHeld.2.2.2.1,hHeld.2.2.2.2.1,hHeld.2.2.2.2.2.1,hHeld.2.2.2.2.2.2.1,hHeld.2.2.2.2.2.2.2.1,hHeld.2.2.2.2.2.2.2.2.1,hHeld.2.2.2.2.2.2.2.2.2.1,hHeld.2.2.2.2.2.2.2.2.2.2.1,hHeld.2.2.2.2.2.2.2.2.2.2.2.1,hHeld.2.2.2.2.2.2.2.2.2.2.2.2.1,hHeld.2.2.2.2.2.2.2.2.2.2.2.2.2⟩ (fun hHeld => ?_)
                 clear hK K
                 refine norm_ (a' := ?_) ?_ ?_
                 rotate_left
                 ·show Act.put _ (some 94) _ = _
                  simp only [Act.put,q1,q2,q3,i64_w,i32_w]
                  rfl
                 refine pw_ 20 (some 95) HT_.out ?_
                 refine pu_ 21 (some 96) HT_.out ?_
                 refine pu_ 22 (some 97) HT_.out ?_
                 refine pu_ 23 (some 98) HT_.out ?_
                 refine pu_ 24 (some 99) HT_.out ?_
                 refine pu_ 25 (some 100) HT_.out ?_
                 refine pu_ 26 (some 101) HT_.out ?_
                 refine pu_ 27 (some 102) HT_.out ?_
                 refine pu_ 28 (some 103) HT_.out ?_
                 refine pu_ 29 (some 104) HT_.out ?_
                 refine pw_ 30 (some 105) HT_.out ?_
                 refine pw_ 31 (some 106) HT_.out ?_
                 refine pu_ 32 (some 107) HT_.out ?_
                 refine pu_ 33 (some 108) HT_.out ?_
                 refine pu_ 34 (some 109) HT_.out ?_
                 refine pu_ 35 (some 110) HT_.out ?_
                 refine pu_ 36 (some 111) HT_.out ?_
                 refine pu_ 37 (some 112) HT_.out ?_
                 refine pu_ 38 (some 113) HT_.out ?_
                 refine pu_ 39 (some 114) HT_.out ?_
                 refine pu_ 40 (some 115) HT_.out ?_
                 refine pu_ 41 (some 116) HT_.out ?_
                 refine pu_ 42 (some 117) HT_.out ?_
                 refine pu_ 43 (some 118) HT_.out ?_
                 refine pu_ 44 (some 119) HT_.out ?_
                 refine pu_ 45 (some 120) HT_.out ?_
                 refine pu_ 46 (some 121) HT_.out ?_
                 refine pw_ 47 (some 122) HT_.out ?_
                 refine pw_ 48 (some 123) HT_.out ?_
                 refine done_ (done_of HT_.out (by kernel_rfl)) ?_
                 (repeat (rw [drewN_self w42];generalize hq_ : World.drewN w42 _ = w42;have n0_ : Aside0 (Kd.Q k30 30 w42 w.heap.size (fun k_ => some k_ ≠ (.slice (some ad402) t388.length co20 : Value).ownBlock ∧ some k_ ≠ (v399 : Value).ownBlock ∧ k_ ≠ gb403) (.slice (some ad407) t382.length co9) t382) := ⟨by rw [← hq_];exact (by (with_reducible repeat (first|apply Kd.Q_alloc|apply Kd.Q_drewN|apply Kd.Q_drew));exact HO_3.out)⟩;have n1_ : Aside0 (Kd.R k59 59 w42 w.heap.size (fun _ => True) (.slice (some ad401) t383.length co10) t383) := ⟨by rw [← hq_];exact (by (with_reducible repeat (first|apply Kd.R_alloc|apply Kd.R_drewN|apply Kd.R_drew));exact HO_4.out)⟩;have n2_ : Aside0 (Kd.R k30 30 w42 w.heap.size (fun k_ => some k_ ≠ (.slice (some ad407) t382.length co9 : Value).ownBlock ∧ some k_ ≠ (v399 : Value).ownBlock ∧ k_ ≠ gb403) (.slice (some ad402) t388.length co20) t388) := ⟨by rw [← hq_];exact (by (with_reducible repeat (first|apply Kd.R_alloc|apply Kd.R_drewN|apply Kd.R_drew));exact HO_5.out)⟩;have n3_ : Aside0 (Kd.R k30 30 w42 w.heap.size (fun k_ => some k_ ≠ (.slice (some ad407) t382.length co9 : Value).ownBlock ∧ some k_ ≠ (.slice (some ad402) t388.length co20 : Value).ownBlock ∧ k_ ≠ gb403) v399 t397) := ⟨by rw [← hq_];exact (by (with_reducible repeat (first|apply Kd.R_alloc|apply Kd.R_drewN|apply Kd.R_drew));exact HO_9.out)⟩;have n4_ : Aside0 (w42.heap[gb403]? = some (.cells #[.int .i64 ((rd_T30 t388 ((rd_T59 t383 x11_2).f1)).f0),.int .i64 ((rd_T30 t388 ((rd_T59 t383 x11_2).f1)).f1)] 30 (0,0))) := ⟨by rw [← hq_];exact (by (with_reducible repeat (first|refine blk_drewN ?_ _|refine blk_drew ?_|refine blk_alloc ?_ _));exact BK403.out)⟩;have n5_ : Aside0 (Below w.heap.size w w42) := ⟨by rw [← hq_];exact (by repeat (first|(with_reducible first|exact HB.out|apply below_alloc|apply pw_below_drewN|apply below_drew1|refine below_set ?_ GE403.out)|exact HB.out))⟩;clear HO_3 HO_4 HO_5 HO_9 BK403 HB hq_;have HO_3 := n0_;have HO_4 := n1_;have HO_5 := n2_;have HO_9 := n3_;have BK403 := n4_;have HB := n5_;clear n0_ n1_ n2_ n3_ n4_ n5_))
                 try go_wp2
                 go_meet
                 case rel => exact ⟨_,(true),(by first|rfl|(simp;done)|(simp [*];done)),H',⟨by have := HJ6.out;have := HK2.out;first|omega|exact Nat.le_refl _⟩,⟨by (with_reducible repeat (first|apply Kd.Q_alloc|apply Kd.Q_drewN|apply Kd.Q_drew));exact HO_3.out⟩,⟨by (with_reducible repeat (first|apply Kd.R_alloc|apply Kd.R_drewN|apply Kd.R_drew));exact HO_4.out⟩,⟨by (with_reducible repeat (first|apply Kd.R_alloc|apply Kd.R_drewN|apply Kd.R_drew));exact HO_5.out⟩,⟨by (with_reducible repeat (first|apply Kd.R_alloc|apply Kd.R_drewN|apply Kd.R_drew));exact HO_9.out⟩,⟨by (with_reducible repeat (first|refine blk_drewN ?_ _|refine blk_drew ?_|refine blk_alloc ?_ _));exact BK403.out⟩,⟨by repeat (first|(with_reducible first|exact HB.out|apply below_alloc|apply pw_below_drewN|apply below_drew1|refine below_set ?_ GE403.out)|exact HB.out)⟩⟩
                ·replace c41 := Bool.eq_false_iff.mpr c41
                 subst c41
                 have H1 : ((impl_Used.f ((rd_T30 t388 ((rd_T59 t383 x11_2).f1)).f0)).bind fun t411 => (if (t411 != ((rd_T59 t383 x11_2).f3)) = true then (laws_FnInstalled.j2 k2 t382 t383 t388 t397 t398 x11_2 true) else (if (rd_T59 t383 x11_2).f3 = true then (laws_FnInstalled.j2 k2 t382 t383 t388 t397 t398 x11_2 (((rd_T30 t388 ((rd_T59 t383 x11_2).f1)).f1) != ((rd_T59 t383 x11_2).f2))) else (laws_FnInstalled.j2 k2 t382 t383 t388 t397 t398 x11_2 false)))) = some r := by rw [if_neg (show ¬ (false = true) by decide)] at H;exact H
                 clear H
                 have H := H1
                 clear H1
                 replace H := Option.bind_eq_some_iff.mp H
                 obtain ⟨t411,A430,H⟩ := H
                 replace H : (if (t411 != ((rd_T59 t383 x11_2).f3)) = true then (laws_FnInstalled.j2 k2 t382 t383 t388 t397 t398 x11_2 true) else (if (rd_T59 t383 x11_2).f3 = true then (laws_FnInstalled.j2 k2 t382 t383 t388 t397 t398 x11_2 (((rd_T30 t388 ((rd_T59 t383 x11_2).f1)).f1) != ((rd_T59 t383 x11_2).f2))) else (laws_FnInstalled.j2 k2 t382 t383 t388 t397 t398 x11_2 false))) = some r := H
                 have A43 := Aside0.mk A430
                 clear A430
                 by_cases c44 : (t411 != ((rd_T59 t383 x11_2).f3)) = true
                 ·rw [if_pos c44] at H
                  have c44b0 : (t411 != ((rd_T59 t383 x11_2).f3)) = true := c44
                  (try (have c44b1 : decide (t411 = ((rd_T59 t383 x11_2).f3)) = false := by simpa using c44))
                  (try (have c44b2 : (t411 == ((rd_T59 t383 x11_2).f3)) = false := by simpa using c44))
                  (try (have c44b3 : ¬ (t411 = ((rd_T59 t383 x11_2).f3)) := by simpa using c44))
                  clear c44
                  have H' := Aside0.mk H
                  clear H
                  try go_wp2
                  have n0_ := Aside0.mk (Kd.Q_drew HO_3.out)
                  have n1_ := Aside0.mk (Kd.R_drew HO_4.out)
                  have n2_ := Aside0.mk (Kd.R_drew HO_5.out)
                  have n3_ := Aside0.mk (Kd.R_drew HO_9.out)
                  have n4_ := Aside0.mk (blk_drew BK403.out)
                  have n5_ := Aside0.mk (below_drew1 HB.out)
                  clear HO_3
                  clear HO_4
                  clear HO_5
                  clear HO_9
                  clear BK403
                  clear HB
                  have HO_3 := n0_
                  have HO_4 := n1_
                  have HO_5 := n2_
                  have HO_9 := n3_
                  have BK403 := n4_
                  have HB := n5_
                  clear n0_ n1_ n2_ n3_ n4_ n5_
                  have p406 : 0 ≤ (x11_2 : Int) := of_decide_eq_true (by first|(with_reducible assumption)|assumption)
                  have q406 : x11_2 < (t383.length : Int) := of_decide_eq_true (by first|(with_reducible assumption)|assumption)
                  obtain ⟨ad406,e406,hx406_0,hx406_1,hx406_2,hx406_3,hx406_4⟩ := at_T59 (Kd.R_reads' HO_4.out).2.2 x11_2 p406 q406
                  obtain rfl : ad401 = ad406 := (by injection e406)
                  replace p406 := eq_true p406
                  replace q406 := eq_true q406
                  have p407 : 0 ≤ (((rd_T59 t383 x11_2).f1) : Int) := of_decide_eq_true (by first|(with_reducible assumption)|assumption)
                  have q407 : ((rd_T59 t383 x11_2).f1) < (t382.length : Int) := of_decide_eq_true (by first|(with_reducible assumption)|assumption)
                  obtain ⟨ad407,e407,hx407_0,hx407_1⟩ := at_T30 (Kd.Q_reads' HO_3.out).2.2 ((rd_T59 t383 x11_2).f1) p407 q407
                  cases e407
                  replace p407 := eq_true p407
                  replace q407 := eq_true q407
                  have p409 : 0 ≤ (x11_2 : Int) := of_decide_eq_true (by first|(with_reducible assumption)|assumption)
                  have q409 : x11_2 < (t383.length : Int) := of_decide_eq_true (by first|(with_reducible assumption)|assumption)
                  obtain ⟨ad409,e409,hx409_0,hx409_1,hx409_2,hx409_3,hx409_4⟩ := at_T59 (Kd.R_reads' HO_4.out).2.2 x11_2 p409 q409
                  obtain rfl : ad401 = ad409 := (by injection e409)
                  replace p409 := eq_true p409
                  replace q409 := eq_true q409
                  have p412 : 0 ≤ (x11_2 : Int) := of_decide_eq_true (by first|(with_reducible assumption)|assumption)
                  have q412 : x11_2 < (t383.length : Int) := of_decide_eq_true (by first|(with_reducible assumption)|assumption)
                  obtain ⟨ad412,e412,hx412_0,hx412_1,hx412_2,hx412_3,hx412_4⟩ := at_T59 (Kd.R_reads' HO_4.out).2.2 x11_2 p412 q412
                  obtain rfl : ad401 = ad412 := (by injection e412)
                  replace p412 := eq_true p412
                  replace q412 := eq_true q412
                  refine start_ (n := 49) (S := fun w' => w'.cell? ⟨gb403,0,none⟩ = some (.int .i64 ((rd_T30 t388 ((rd_T59 t383 x11_2).f1)).f0)) ∧ w'.cell? ⟨gb403,1,none⟩ = some (.int .i64 ((rd_T30 t388 ((rd_T59 t383 x11_2).f1)).f1)) ∧ w'.cell? (ad401.add ((x11_2).toNat * 5)) = some (.int .i64 ((rd_T59 t383 x11_2).f0)) ∧ w'.cell? ⟨(ad401.add ((x11_2).toNat * 5)).block,(ad401.add ((x11_2).toNat * 5)).off + 1,none⟩ = some (.int .i64 ((rd_T59 t383 x11_2).f1)) ∧ w'.cell? ⟨(ad401.add ((x11_2).toNat * 5)).block,(ad401.add ((x11_2).toNat * 5)).off + 2,none⟩ = some (.int .i64 ((rd_T59 t383 x11_2).f2)) ∧ w'.cell? ⟨(ad401.add ((x11_2).toNat * 5)).block,(ad401.add ((x11_2).toNat * 5)).off + 3,none⟩ = some (.bool ((rd_T59 t383 x11_2).f3)) ∧ w'.cell? ⟨(ad401.add ((x11_2).toNat * 5)).block,(ad401.add ((x11_2).toNat * 5)).off + 4,none⟩ = some (.int .i64 ((rd_T59 t383 x11_2).f4)) ∧ w'.cell? (ad407.add ((((rd_T59 t383 x11_2).f1)).toNat * 2)) = some (.int .i64 ((rd_T30 t382 ((rd_T59 t383 x11_2).f1)).f0)) ∧ w'.cell? ⟨(ad407.add ((((rd_T59 t383 x11_2).f1)).toNat * 2)).block,(ad407.add ((((rd_T59 t383 x11_2).f1)).toNat * 2)).off + 1,none⟩ = some (.int .i64 ((rd_T30 t382 ((rd_T59 t383 x11_2).f1)).f1)) ∧ w'.cell? (ad401.add ((x11_2).toNat * 5)) = some (.int .i64 ((rd_T59 t383 x11_2).f0)) ∧ w'.cell? ⟨(ad401.add ((x11_2).toNat * 5)).block,(ad401.add ((x11_2).toNat * 5)).off + 1,none⟩ = some (.int .i64 ((rd_T59 t383 x11_2).f1)) ∧ w'.cell? ⟨(ad401.add ((x11_2).toNat * 5)).block,(ad401.add ((x11_2).toNat * 5)).off + 2,none⟩ = some (.int .i64 ((rd_T59 t383 x11_2).f2)) ∧ w'.cell? ⟨(ad401.add ((x11_2).toNat * 5)).block,(ad401.add ((x11_2).toNat * 5)).off + 3,none⟩ = some (.bool ((rd_T59 t383 x11_2).f3)) ∧ w'.cell? ⟨(ad401.add ((x11_2).toNat * 5)).block,(ad401.add ((x11_2).toNat * 5)).off + 4,none⟩ = some (.int .i64 ((rd_T59 t383 x11_2).f4)) ∧ w'.cell? (ad401.add ((x11_2).toNat * 5)) = some (.int .i64 ((rd_T59 t383 x11_2).f0)) ∧ w'.cell? ⟨(ad401.add ((x11_2).toNat * 5)).block,(ad401.add ((x11_2).toNat * 5)).off + 1,none⟩ = some (.int .i64 ((rd_T59 t383 x11_2).f1)) ∧ w'.cell? ⟨(ad401.add ((x11_2).toNat * 5)).block,(ad401.add ((x11_2).toNat * 5)).off + 2,none⟩ = some (.int .i64 ((rd_T59 t383 x11_2).f2)) ∧ w'.cell? ⟨(ad401.add ((x11_2).toNat * 5)).block,(ad401.add ((x11_2).toNat * 5)).off + 3,none⟩ = some (.bool ((rd_T59 t383 x11_2).f3)) ∧ w'.cell? ⟨(ad401.add ((x11_2).toNat * 5)).block,(ad401.add ((x11_2).toNat * 5)).off + 4,none⟩ = some (.int .i64 ((rd_T59 t383 x11_2).f4))) (ds := []) #[false,false,false,false,false,false,false,false,false,false,false,false,false,false,false,false,false,false,false,false,false,false,false,false,false,false,false,false,false,false,false,false,false,false,false,false,false,false,false,false,false,false,false,false,false,false,false,false,false] (by kernel_rfl) rfl rfl ⟨(blk_cell BK403.out 0).trans rfl,(blk_cell BK403.out 1).trans rfl,hx406_0,hx406_1,hx406_2,hx406_3,hx406_4,hx407_0,hx407_1,hx409_0,hx409_1,hx409_2,hx409_3,hx409_4,hx412_0,hx412_1,hx412_2,hx412_3,hx412_4⟩ (fun hHeld => ?_);refine with_tabW laws_FnInstalled.tab17 laws_FnInstalled.bits17 (fun HT_ HW_ => ?_)
                  generalize w36.drew = w45 at HO_3 HO_4 HO_5 HO_9 BK403 HB hx406_0 hx406_1 hx406_2 hx406_3 hx406_4 hx407_0 hx407_1 hx409_0 hx409_1 hx409_2 hx409_3 hx409_4 hx412_0 hx412_1 hx412_2 hx412_3 hx412_4 hHeld ⊢
                  refine pw_ 0 (some 75) HT_.out ?_
                  refine pw_ 1 (some 76) HT_.out ?_
                  refine pw_ 2 (some 77) HT_.out ?_
                  refine pw_ 3 (some 78) HT_.out ?_
                  refine pw_ 4 (some 79) HT_.out ?_
                  refine pw_ 10 (some 85) HT_.out ?_
                  refine pw_ 11 (some 86) HT_.out ?_
                  refine pw_ 12 (some 87) HT_.out ?_
                  refine pw_ 13 (some 88) HT_.out ?_
                  refine tw_ 5 (some 80) HT_.out HW_.out hHeld rfl rfl (by rintro w' ⟨s0,s1,s2,s3,s4,s5,s6,s7,s8,s9,s10,s11,s12,s13,s14,s15,s16,s17,s18⟩;go_simp;with_reducible rfl) ?_
                  refine pw_ 6 (some 81) HT_.out ?_
                  refine pw_ 7 (some 82) HT_.out ?_
                  refine tw_ 8 (some 83) HT_.out HW_.out hHeld rfl rfl (by rintro w' ⟨s0,s1,s2,s3,s4,s5,s6,s7,s8,s9,s10,s11,s12,s13,s14,s15,s16,s17,s18⟩;go_simp;with_reducible rfl) ?_
                  refine tw_ 14 (some 89) HT_.out HW_.out hHeld rfl rfl (by rintro w' ⟨s0,s1,s2,s3,s4,s5,s6,s7,s8,s9,s10,s11,s12,s13,s14,s15,s16,s17,s18⟩;go_simp;with_reducible rfl) ?_
                  refine oz_ (i := 9) (N := some 84) HT_.out rfl rfl (by kernel_rfl) (by decide) (fun K hK => ?_)
                  refine goes_ Try.func45 (by kernel_rfl) rfl #[.int .i64 ((rd_T30 t382 ((rd_T59 t383 x11_2).f1)).f0)] (by rfl) rfl rfl (by (try simp only [List.map_toArray,List.map_cons,List.map_nil]);first|done|rfl|(simp only [List.length_drop,List.length_take];rfl)) ?_
                  with_reducible refine (impl_Version.calls ((rd_T30 t382 ((rd_T59 t383 x11_2).f1)).f0) t408 _ A38.out).mono ?_
                  rintro e w' ⟨rfl,⟨nd,rfl⟩⟩
                  refine ⟨_,rfl,?_⟩
                  refine hK.out _ _ ⟨(blk_cell BK403.out 0).trans rfl,(blk_cell BK403.out 1).trans rfl,hHeld.2.2.1,hHeld.2.2.2.1,hHeld.2.2.2.2.1,hHeld.2.2.2.2.2.1,hHeld.2.2.2.2.2.2.1,hHeld.2.2.2.2.2.2.2.1,hHeld.2.2.2.2.2.2.2.2.1,hHeld.2.2.2.2.2.2.2.2.2.1,hHeld.2.2.2.2.2.2.2.2.2.2.1,hHeld.2.2.2.2.2.2.2.2.2.2.2.1,hHeld.2.2.2.2.2.2.2.2.2.2.2.2.1,hHeld.2.2.2.2.2.2.2.2.2.2.2.2.2.1,hHeld.2.2.2.2.2.2.2.2.2.2.2.2.2.2.1,hHeld.2.2.2.2.2.2.2.2.2.2.2.2.2.2.2.1,hHeld.2.2.2.2.2.2.2.2.2.2.2.2.2.2.2.2.1,hHeld.2.2.2.2.2.2.2.2.2.2.2.2.2.2.2.2.2.1,hHeld.2.2.2.2.2.2.2.2.2.2.2.2.2.2.2.2.2.2⟩ (fun hHeld => ?_)
                  clear hK K
                  refine norm_ (a' := ?_) ?_ ?_
                  rotate_left
                  ·show Act.put _ (some 84) _ = _
                   simp only [Act.put,q1,q2,q3,i64_w,i32_w]
                   rfl
                  refine pw_ 15 (some 90) HT_.out ?_
                  refine pw_ 16 (some 91) HT_.out ?_
                  refine pw_ 17 (some 92) HT_.out ?_
                  refine tw_ 18 (some 93) HT_.out HW_.out hHeld rfl rfl (by rintro w' ⟨s0,s1,s2,s3,s4,s5,s6,s7,s8,s9,s10,s11,s12,s13,s14,s15,s16,s17,s18⟩;go_simp;with_reducible rfl) ?_
                  refine oz_ (i := 19) (N := some 94) HT_.out rfl rfl (by kernel_rfl) (by decide) (fun K hK => ?_)
                  refine goes_ Try.func29 (by kernel_rfl) rfl #[.int .i64 ((rd_T30 t388 ((rd_T59 t383 x11_2).f1)).f0)] (by rfl) rfl rfl (by (try simp only [List.map_toArray,List.map_cons,List.map_nil]);first|done|rfl|(simp only [List.length_drop,List.length_take];rfl)) ?_
                  with_reducible refine (impl_Locked.calls ((rd_T30 t388 ((rd_T59 t383 x11_2).f1)).f0) false _ A40.out).mono ?_
                  rintro e w' ⟨rfl,⟨nd,rfl⟩⟩
                  refine ⟨_,rfl,?_⟩
                  refine hK.out _ _ ⟨(blk_cell BK403.out 0).trans rfl,(blk_cell BK403.out 1).trans rfl,hHeld.2.2.1,hHeld.2.2.2.1,hHeld.2.2.2.2.1,hHeld.2.2.2.2.2.1,hHeld.2.2.2.2.2.2.1,hHeld.2.2.2.2.2.2.2.1,hHeld.2.2.2.2.2.2.2.2.1,hHeld.2.2.2.2.2.2.2.2.2.1,hHeld.2.2.2.2.2.2.2.2.2.2.1,hHeld.2.2.2.2.2.2.2.2.2.2.2.1,hHeld.2.2.2.2.2.2.2.2.2.2.2.2.1,hHeld.2.2.2.2.2.2.2.2.2.2.2.2.2.1,hHeld.2.2.2.2.2.2.2.2.2.2.2.2.2.2.1,hHeld.2.2.2.2.2.2.2.2.2.2.2.2.2.2.2.1,hHeld.2.2.2.2.2.2.2.2.2.2.2.2.2.2.2.2.1,hHeld.2.2.2.2.2.2.2.2.2.2.2.2.2.2.2.2.2.1,hHeld.2.2.2.2.2.2.2.2.2.2.2.2.2.2.2.2.2.2⟩ (fun hHeld => ?_)
                  clear hK K
                  refine norm_ (a' := ?_) ?_ ?_
                  rotate_left
                  ·show Act.put _ (some 94) _ = _
                   simp only [Act.put,q1,q2,q3,i64_w,i32_w]
                   rfl
                  refine pw_ 20 (some 95) HT_.out ?_
                  refine pw_ 21 (some 96) HT_.out ?_
                  refine pw_ 24 (some 99) HT_.out ?_
                  refine pw_ 25 (some 100) HT_.out ?_
                  refine pw_ 26 (some 101) HT_.out ?_
                  refine pw_ 27 (some 102) HT_.out ?_
                  refine tw_ 22 (some 97) HT_.out HW_.out hHeld rfl rfl (by rintro w' ⟨s0,s1,s2,s3,s4,s5,s6,s7,s8,s9,s10,s11,s12,s13,s14,s15,s16,s17,s18⟩;go_simp;with_reducible rfl) ?_
                  refine tw_ 28 (some 103) HT_.out HW_.out hHeld rfl rfl (by rintro w' ⟨s0,s1,s2,s3,s4,s5,s6,s7,s8,s9,s10,s11,s12,s13,s14,s15,s16,s17,s18⟩;go_simp;with_reducible rfl) ?_
                  refine oz_ (i := 23) (N := some 98) HT_.out rfl rfl (by kernel_rfl) (by decide) (fun K hK => ?_)
                  refine goes_ Try.func28 (by kernel_rfl) rfl #[.int .i64 ((rd_T30 t388 ((rd_T59 t383 x11_2).f1)).f0)] (by rfl) rfl rfl (by (try simp only [List.map_toArray,List.map_cons,List.map_nil]);first|done|rfl|(simp only [List.length_drop,List.length_take];rfl)) ?_
                  with_reducible refine (impl_Used.calls ((rd_T30 t388 ((rd_T59 t383 x11_2).f1)).f0) t411 _ A43.out).mono ?_
                  rintro e w' ⟨rfl,⟨nd,rfl⟩⟩
                  refine ⟨_,rfl,?_⟩
                  refine hK.out _ _ ⟨(blk_cell BK403.out 0).trans rfl,(blk_cell BK403.out 1).trans rfl,hHeld.2.2.1,hHeld.2.2.2.1,hHeld.2.2.2.2.1,hHeld.2.2.2.2.2.1,hHeld.2.2.2.2.2.2.1,hHeld.2.2.2.2.2.2.2.1,hHeld.2.2.2.2.2.2.2.2.1,hHeld.2.2.2.2.2.2.2.2.2.1,hHeld.2.2.2.2.2.2.2.2.2.2.1,hHeld.2.2.2.2.2.2.2.2.2.2.2.1,hHeld.2.2.2.2.2.2.2.2.2.2.2.2.1,hHeld.2.2.2.2.2.2.2.2.2.2.2.2.2.1,hHeld.2.2.2.2.2.2.2.2.2.2.2.2.2.2.1,hHeld.2.2.2.2.2.2.2.2.2.2.2.2.2.2.2.1,hHeld.2.2.2.2.2.2.2.2.2.2.2.2.2.2.2.2.1,hHeld.2.2.2.2.2.2.2.2.2.2.2.2.2.2.2.2.2.1,hHeld.2.2.2.2.2.2.2.2.2.2.2.2.2.2.2.2.2.2⟩ (fun hHeld => ?_)
                  clear hK K
                  refine norm_ (a' := ?_) ?_ ?_
                  rotate_left
                  ·show Act.put _ (some 98) _ = _
                   simp only [Act.put,q1,q2,q3,i64_w,i32_w]
                   rfl
                  refine pw_ 29 (some 104) HT_.out ?_
                  refine pw_ 30 (some 105) HT_.out ?_
                  refine pw_ 31 (some 106) HT_.out ?_
                  refine pu_ 32 (some 107) HT_.out ?_
                  refine pu_ 33 (some 108) HT_.out ?_
                  refine pu_ 34 (some 109) HT_.out ?_
                  refine pu_ 35 (some 110) HT_.out ?_
                  refine pu_ 36 (some 111) HT_.out ?_
                  refine pu_ 37 (some 112) HT_.out ?_
                  refine pu_ 38 (some 113) HT_.out ?_
                  refine pu_ 39 (some 114) HT_.out ?_
                  refine pu_ 40 (some 115) HT_.out ?_
                  refine pu_ 41 (some 116) HT_.out ?_
                  refine pu_ 42 (some 117) HT_.out ?_
                  refine pu_ 43 (some 118) HT_.out ?_
                  refine pu_ 44 (some 119) HT_.out ?_
                  refine pu_ 45 (some 120) HT_.out ?_
                  refine pu_ 46 (some 121) HT_.out ?_
                  refine pw_ 47 (some 122) HT_.out ?_
                  refine pw_ 48 (some 123) HT_.out ?_
                  refine done_ (done_of HT_.out (by kernel_rfl)) ?_
                  (repeat (rw [drewN_self w45];generalize hq_ : World.drewN w45 _ = w45;have n0_ : Aside0 (Kd.Q k30 30 w45 w.heap.size (fun k_ => some k_ ≠ (.slice (some ad402) t388.length co20 : Value).ownBlock ∧ some k_ ≠ (v399 : Value).ownBlock ∧ k_ ≠ gb403) (.slice (some ad407) t382.length co9) t382) := ⟨by rw [← hq_];exact (by (with_reducible repeat (first|apply Kd.Q_alloc|apply Kd.Q_drewN|apply Kd.Q_drew));exact HO_3.out)⟩;have n1_ : Aside0 (Kd.R k59 59 w45 w.heap.size (fun _ => True) (.slice (some ad401) t383.length co10) t383) := ⟨by rw [← hq_];exact (by (with_reducible repeat (first|apply Kd.R_alloc|apply Kd.R_drewN|apply Kd.R_drew));exact HO_4.out)⟩;have n2_ : Aside0 (Kd.R k30 30 w45 w.heap.size (fun k_ => some k_ ≠ (.slice (some ad407) t382.length co9 : Value).ownBlock ∧ some k_ ≠ (v399 : Value).ownBlock ∧ k_ ≠ gb403) (.slice (some ad402) t388.length co20) t388) := ⟨by rw [← hq_];exact (by (with_reducible repeat (first|apply Kd.R_alloc|apply Kd.R_drewN|apply Kd.R_drew));exact HO_5.out)⟩;have n3_ : Aside0 (Kd.R k30 30 w45 w.heap.size (fun k_ => some k_ ≠ (.slice (some ad407) t382.length co9 : Value).ownBlock ∧ some k_ ≠ (.slice (some ad402) t388.length co20 : Value).ownBlock ∧ k_ ≠ gb403) v399 t397) := ⟨by rw [← hq_];exact (by (with_reducible repeat (first|apply Kd.R_alloc|apply Kd.R_drewN|apply Kd.R_drew));exact HO_9.out)⟩;have n4_ : Aside0 (w45.heap[gb403]? = some (.cells #[.int .i64 ((rd_T30 t388 ((rd_T59 t383 x11_2).f1)).f0),.int .i64 ((rd_T30 t388 ((rd_T59 t383 x11_2).f1)).f1)] 30 (0,0))) := ⟨by rw [← hq_];exact (by (with_reducible repeat (first|refine blk_drewN ?_ _|refine blk_drew ?_|refine blk_alloc ?_ _));exact BK403.out)⟩;have n5_ : Aside0 (Below w.heap.size w w45) := ⟨by rw [← hq_];exact (by repeat (first|(with_reducible first|exact HB.out|apply below_alloc|apply pw_below_drewN|apply below_drew1|refine below_set ?_ GE403.out)|exact HB.out))⟩;clear HO_3 HO_4 HO_5 HO_9 BK403 HB hq_;have HO_3 := n0_;have HO_4 := n1_;have HO_5 := n2_;have HO_9 := n3_;have BK403 := n4_;have HB := n5_;clear n0_ n1_ n2_ n3_ n4_ n5_))
                  try go_wp2
                  go_meet
                  case rel => exact ⟨_,(true),(by first|rfl|(simp;done)|(simp [*];done)),H',⟨by have := HJ6.out;have := HK2.out;first|omega|exact Nat.le_refl _⟩,⟨by (with_reducible repeat (first|apply Kd.Q_alloc|apply Kd.Q_drewN|apply Kd.Q_drew));exact HO_3.out⟩,⟨by (with_reducible repeat (first|apply Kd.R_alloc|apply Kd.R_drewN|apply Kd.R_drew));exact HO_4.out⟩,⟨by (with_reducible repeat (first|apply Kd.R_alloc|apply Kd.R_drewN|apply Kd.R_drew));exact HO_5.out⟩,⟨by (with_reducible repeat (first|apply Kd.R_alloc|apply Kd.R_drewN|apply Kd.R_drew));exact HO_9.out⟩,⟨by (with_reducible repeat (first|refine blk_drewN ?_ _|refine blk_drew ?_|refine blk_alloc ?_ _));exact BK403.out⟩,⟨by repeat (first|(with_reducible first|exact HB.out|apply below_alloc|apply pw_below_drewN|apply below_drew1|refine below_set ?_ GE403.out)|exact HB.out)⟩⟩
                 ·rw [if_neg c44] at H
                  have c44b0 : (t411 != ((rd_T59 t383 x11_2).f3)) = false := by simpa using c44
                  (try (have c44b1 : decide (t411 = ((rd_T59 t383 x11_2).f3)) = true := by simpa using c44))
                  (try (have c44b2 : (t411 == ((rd_T59 t383 x11_2).f3)) = true := by simpa using c44))
                  clear c44
                  obtain ⟨bq46,hbq46⟩ : ∃ b_ : Bool,b_ = ((rd_T59 t383 x11_2).f3) := ⟨_,rfl⟩
                  replace H : (if bq46 = true then (laws_FnInstalled.j2 k2 t382 t383 t388 t397 t398 x11_2 (((rd_T30 t388 ((rd_T59 t383 x11_2).f1)).f1) != ((rd_T59 t383 x11_2).f2))) else (laws_FnInstalled.j2 k2 t382 t383 t388 t397 t398 x11_2 false)) = some r := by rw [← hbq46] at H;exact H
                  have Nbq46 := Aside0.mk hbq46
                  clear hbq46
                  by_cases c47 : bq46 = true
                  ·subst c47
                   (have c44b0z : t411 = true := by have h_ := c44b0;rw [← Nbq46.out] at h_;simpa using h_)
                   have H1 : (laws_FnInstalled.j2 k2 t382 t383 t388 t397 t398 x11_2 (((rd_T30 t388 ((rd_T59 t383 x11_2).f1)).f1) != ((rd_T59 t383 x11_2).f2))) = some r := by rw [if_pos rfl] at H;exact H
                   clear H
                   have H := H1
                   clear H1
                   have H' := Aside0.mk H
                   clear H
                   try go_wp2
                   have n0_ := Aside0.mk (Kd.Q_drew HO_3.out)
                   have n1_ := Aside0.mk (Kd.R_drew HO_4.out)
                   have n2_ := Aside0.mk (Kd.R_drew HO_5.out)
                   have n3_ := Aside0.mk (Kd.R_drew HO_9.out)
                   have n4_ := Aside0.mk (blk_drew BK403.out)
                   have n5_ := Aside0.mk (below_drew1 HB.out)
                   clear HO_3
                   clear HO_4
                   clear HO_5
                   clear HO_9
                   clear BK403
                   clear HB
                   have HO_3 := n0_
                   have HO_4 := n1_
                   have HO_5 := n2_
                   have HO_9 := n3_
                   have BK403 := n4_
                   have HB := n5_
                   clear n0_ n1_ n2_ n3_ n4_ n5_
                   have p406 : 0 ≤ (x11_2 : Int) := of_decide_eq_true (by first|(with_reducible assumption)|assumption)
                   have q406 : x11_2 < (t383.length : Int) := of_decide_eq_true (by first|(with_reducible assumption)|assumption)
                   obtain ⟨ad406,e406,hx406_0,hx406_1,hx406_2,hx406_3,hx406_4⟩ := at_T59 (Kd.R_reads' HO_4.out).2.2 x11_2 p406 q406
                   (try rw [← Nbq46.out] at hx406_3)
                   obtain rfl : ad401 = ad406 := (by injection e406)
                   replace p406 := eq_true p406
                   replace q406 := eq_true q406
                   have p407 : 0 ≤ (((rd_T59 t383 x11_2).f1) : Int) := of_decide_eq_true (by first|(with_reducible assumption)|assumption)
                   have q407 : ((rd_T59 t383 x11_2).f1) < (t382.length : Int) := of_decide_eq_true (by first|(with_reducible assumption)|assumption)
                   obtain ⟨ad407,e407,hx407_0,hx407_1⟩ := at_T30 (Kd.Q_reads' HO_3.out).2.2 ((rd_T59 t383 x11_2).f1) p407 q407
                   cases e407
                   replace p407 := eq_true p407
                   replace q407 := eq_true q407
                   have p409 : 0 ≤ (x11_2 : Int) := of_decide_eq_true (by first|(with_reducible assumption)|assumption)
                   have q409 : x11_2 < (t383.length : Int) := of_decide_eq_true (by first|(with_reducible assumption)|assumption)
                   obtain ⟨ad409,e409,hx409_0,hx409_1,hx409_2,hx409_3,hx409_4⟩ := at_T59 (Kd.R_reads' HO_4.out).2.2 x11_2 p409 q409
                   (try rw [← Nbq46.out] at hx409_3)
                   obtain rfl : ad401 = ad409 := (by injection e409)
                   replace p409 := eq_true p409
                   replace q409 := eq_true q409
                   have p412 : 0 ≤ (x11_2 : Int) := of_decide_eq_true (by first|(with_reducible assumption)|assumption)
                   have q412 : x11_2 < (t383.length : Int) := of_decide_eq_true (by first|(with_reducible assumption)|assumption)
                   obtain ⟨ad412,e412,hx412_0,hx412_1,hx412_2,hx412_3,hx412_4⟩ := at_T59 (Kd.R_reads' HO_4.out).2.2 x11_2 p412 q412
                   (try rw [← Nbq46.out] at hx412_3)
                   obtain rfl : ad401 = ad412 := (by injection e412)
                   replace p412 := eq_true p412
                   replace q412 := eq_true q412
                   have p413 : 0 ≤ (x11_2 : Int) := of_decide_eq_true (by first|(with_reducible assumption)|assumption)
                   have q413 : x11_2 < (t383.length : Int) := of_decide_eq_true (by first|(with_reducible assumption)|assumption)
                   obtain ⟨ad413,e413,hx413_0,hx413_1,hx413_2,hx413_3,hx413_4⟩ := at_T59 (Kd.R_reads' HO_4.out).2.2 x11_2 p413 q413
                   (try rw [← Nbq46.out] at hx413_3)
                   obtain rfl : ad401 = ad413 := (by injection e413)
                   replace p413 := eq_true p413
                   replace q413 := eq_true q413
                   have p414 : 0 ≤ (x11_2 : Int) := of_decide_eq_true (by first|(with_reducible assumption)|assumption)
                   have q414 : x11_2 < (t383.length : Int) := of_decide_eq_true (by first|(with_reducible assumption)|assumption)
                   obtain ⟨ad414,e414,hx414_0,hx414_1,hx414_2,hx414_3,hx414_4⟩ := at_T59 (Kd.R_reads' HO_4.out).2.2 x11_2 p414 q414
                   (try rw [← Nbq46.out] at hx414_3)
                   obtain rfl : ad401 = ad414 := (by injection e414)
                   replace p414 := eq_true p414
                   replace q414 := eq_true q414
                   refine start_ (n := 49) (S := fun w' => w'.cell? ⟨gb403,0,none⟩ = some (.int .i64 ((rd_T30 t388 ((rd_T59 t383 x11_2).f1)).f0)) ∧ w'.cell? ⟨gb403,1,none⟩ = some (.int .i64 ((rd_T30 t388 ((rd_T59 t383 x11_2).f1)).f1)) ∧ w'.cell? (ad401.add ((x11_2).toNat * 5)) = some (.int .i64 ((rd_T59 t383 x11_2).f0)) ∧ w'.cell? ⟨(ad401.add ((x11_2).toNat * 5)).block,(ad401.add ((x11_2).toNat * 5)).off + 1,none⟩ = some (.int .i64 ((rd_T59 t383 x11_2).f1)) ∧ w'.cell? ⟨(ad401.add ((x11_2).toNat * 5)).block,(ad401.add ((x11_2).toNat * 5)).off + 2,none⟩ = some (.int .i64 ((rd_T59 t383 x11_2).f2)) ∧ w'.cell? ⟨(ad401.add ((x11_2).toNat * 5)).block,(ad401.add ((x11_2).toNat * 5)).off + 3,none⟩ = some (.bool true) ∧ w'.cell? ⟨(ad401.add ((x11_2).toNat * 5)).block,(ad401.add ((x11_2).toNat * 5)).off + 4,none⟩ = some (.int .i64 ((rd_T59 t383 x11_2).f4)) ∧ w'.cell? (ad407.add ((((rd_T59 t383 x11_2).f1)).toNat * 2)) = some (.int .i64 ((rd_T30 t382 ((rd_T59 t383 x11_2).f1)).f0)) ∧ w'.cell? ⟨(ad407.add ((((rd_T59 t383 x11_2).f1)).toNat * 2)).block,(ad407.add ((((rd_T59 t383 x11_2).f1)).toNat * 2)).off + 1,none⟩ = some (.int .i64 ((rd_T30 t382 ((rd_T59 t383 x11_2).f1)).f1)) ∧ w'.cell? (ad401.add ((x11_2).toNat * 5)) = some (.int .i64 ((rd_T59 t383 x11_2).f0)) ∧ w'.cell? ⟨(ad401.add ((x11_2).toNat * 5)).block,(ad401.add ((x11_2).toNat * 5)).off + 1,none⟩ = some (.int .i64 ((rd_T59 t383 x11_2).f1)) ∧ w'.cell? ⟨(ad401.add ((x11_2).toNat * 5)).block,(ad401.add ((x11_2).toNat * 5)).off + 2,none⟩ = some (.int .i64 ((rd_T59 t383 x11_2).f2)) ∧ w'.cell? ⟨(ad401.add ((x11_2).toNat * 5)).block,(ad401.add ((x11_2).toNat * 5)).off + 3,none⟩ = some (.bool true) ∧ w'.cell? ⟨(ad401.add ((x11_2).toNat * 5)).block,(ad401.add ((x11_2).toNat * 5)).off + 4,none⟩ = some (.int .i64 ((rd_T59 t383 x11_2).f4)) ∧ w'.cell? (ad401.add ((x11_2).toNat * 5)) = some (.int .i64 ((rd_T59 t383 x11_2).f0)) ∧ w'.cell? ⟨(ad401.add ((x11_2).toNat * 5)).block,(ad401.add ((x11_2).toNat * 5)).off + 1,none⟩ = some (.int .i64 ((rd_T59 t383 x11_2).f1)) ∧ w'.cell? ⟨(ad401.add ((x11_2).toNat * 5)).block,(ad401.add ((x11_2).toNat * 5)).off + 2,none⟩ = some (.int .i64 ((rd_T59 t383 x11_2).f2)) ∧ w'.cell? ⟨(ad401.add ((x11_2).toNat * 5)).block,(ad401.add ((x11_2).toNat * 5)).off + 3,none⟩ = some (.bool true) ∧ w'.cell? ⟨(ad401.add ((x11_2).toNat * 5)).block,(ad401.add ((x11_2).toNat * 5)).off + 4,none⟩ = some (.int .i64 ((rd_T59 t383 x11_2).f4)) ∧ w'.cell? (ad401.add ((x11_2).toNat * 5)) = some (.int .i64 ((rd_T59 t383 x11_2).f0)) ∧ w'.cell? ⟨(ad401.add ((x11_2).toNat * 5)).block,(ad401.add ((x11_2).toNat * 5)).off + 1,none⟩ = some (.int .i64 ((rd_T59 t383 x11_2).f1)) ∧ w'.cell? ⟨(ad401.add ((x11_2).toNat * 5)).block,(ad401.add ((x11_2).toNat * 5)).off + 2,none⟩ = some (.int .i64 ((rd_T59 t383 x11_2).f2)) ∧ w'.cell? ⟨(ad401.add ((x11_2).toNat * 5)).block,(ad401.add ((x11_2).toNat * 5)).off + 3,none⟩ = some (.bool true) ∧ w'.cell? ⟨(ad401.add ((x11_2).toNat * 5)).block,(ad401.add ((x11_2).toNat * 5)).off + 4,none⟩ = some (.int .i64 ((rd_T59 t383 x11_2).f4)) ∧ w'.cell? (ad401.add ((x11_2).toNat * 5)) = some (.int .i64 ((rd_T59 t383 x11_2).f0)) ∧ w'.cell? ⟨(ad401.add ((x11_2).toNat * 5)).block,(ad401.add ((x11_2).toNat * 5)).off + 1,none⟩ = some (.int .i64 ((rd_T59 t383 x11_2).f1)) ∧ w'.cell? ⟨(ad401.add ((x11_2).toNat * 5)).block,(ad401.add ((x11_2).toNat * 5)).off + 2,none⟩ = some (.int .i64 ((rd_T59 t383 x11_2).f2)) ∧ w'.cell? ⟨(ad401.add ((x11_2).toNat * 5)).block,(ad401.add ((x11_2).toNat * 5)).off + 3,none⟩ = some (.bool (true)) ∧ w'.cell? ⟨(ad401.add ((x11_2).toNat * 5)).block,(ad401.add ((x11_2).toNat * 5)).off + 4,none⟩ = some (.int .i64 ((rd_T59 t383 x11_2).f4))) (ds := []) #[false,false,false,false,false,false,false,false,false,false,false,false,false,false,false,false,false,false,false,false,false,false,false,false,false,false,false,false,false,false,false,false,false,false,false,false,false,false,false,false,false,false,false,false,false,false,false,false,false] (by kernel_rfl) rfl rfl ⟨(blk_cell BK403.out 0).trans rfl,(blk_cell BK403.out 1).trans rfl,hx406_0,hx406_1,hx406_2,hx406_3,hx406_4,hx407_0,hx407_1,hx409_0,hx409_1,hx409_2,hx409_3,hx409_4,hx412_0,hx412_1,hx412_2,hx412_3,hx412_4,hx413_0,hx413_1,hx413_2,hx413_3,hx413_4,hx414_0,hx414_1,hx414_2,hx414_3,hx414_4⟩ (fun hHeld => ?_);refine with_tabW laws_FnInstalled.tab17 laws_FnInstalled.bits17 (fun HT_ HW_ => ?_)
                   generalize w36.drew = w48 at HO_3 HO_4 HO_5 HO_9 BK403 HB hx406_0 hx406_1 hx406_2 hx406_3 hx406_4 hx407_0 hx407_1 hx409_0 hx409_1 hx409_2 hx409_3 hx409_4 hx412_0 hx412_1 hx412_2 hx412_3 hx412_4 hx413_0 hx413_1 hx413_2 hx413_3 hx413_4 hx414_0 hx414_1 hx414_2 hx414_3 hx414_4 hHeld ⊢
                   refine pw_ 0 (some 75) HT_.out ?_
                   refine pw_ 1 (some 76) HT_.out ?_
                   refine pw_ 2 (some 77) HT_.out ?_
                   refine pw_ 3 (some 78) HT_.out ?_
                   refine pw_ 4 (some 79) HT_.out ?_
                   refine pw_ 10 (some 85) HT_.out ?_
                   refine pw_ 11 (some 86) HT_.out ?_
                   refine pw_ 12 (some 87) HT_.out ?_
                   refine pw_ 13 (some 88) HT_.out ?_
                   refine tw_ 5 (some 80) HT_.out HW_.out hHeld rfl rfl (by rintro w' ⟨s0,s1,s2,s3,s4,s5,s6,s7,s8,s9,s10,s11,s12,s13,s14,s15,s16,s17,s18,s19,s20,s21,s22,s23,s24,s25,s26,s27,s28⟩;go_simp;with_reducible rfl) ?_
                   refine pw_ 6 (some 81) HT_.out ?_
                   refine pw_ 7 (some 82) HT_.out ?_
                   refine tw_ 8 (some 83) HT_.out HW_.out hHeld rfl rfl (by rintro w' ⟨s0,s1,s2,s3,s4,s5,s6,s7,s8,s9,s10,s11,s12,s13,s14,s15,s16,s17,s18,s19,s20,s21,s22,s23,s24,s25,s26,s27,s28⟩;go_simp;with_reducible rfl) ?_
                   refine tw_ 14 (some 89) HT_.out HW_.out hHeld rfl rfl (by rintro w' ⟨s0,s1,s2,s3,s4,s5,s6,s7,s8,s9,s10,s11,s12,s13,s14,s15,s16,s17,s18,s19,s20,s21,s22,s23,s24,s25,s26,s27,s28⟩;go_simp;with_reducible rfl) ?_
                   refine oz_ (i := 9) (N := some 84) HT_.out rfl rfl (by kernel_rfl) (by decide) (fun K hK => ?_)
                   refine goes_ Try.func45 (by kernel_rfl) rfl #[.int .i64 ((rd_T30 t382 ((rd_T59 t383 x11_2).f1)).f0)] (by rfl) rfl rfl (by (try simp only [List.map_toArray,List.map_cons,List.map_nil]);first|done|rfl|(simp only [List.length_drop,List.length_take];rfl)) ?_
                   with_reducible refine (impl_Version.calls ((rd_T30 t382 ((rd_T59 t383 x11_2).f1)).f0) t408 _ A38.out).mono ?_
                   rintro e w' ⟨rfl,⟨nd,rfl⟩⟩
                   refine ⟨_,rfl,?_⟩
                   refine hK.out _ _ ⟨(blk_cell BK403.out 0).trans rfl,(blk_cell BK403.out 1).trans rfl,hHeld.2.2.1,hHeld.2.2.2.1,hHeld.2.2.2.2.1,hHeld.2.2.2.2.2.1,hHeld.2.2.2.2.2.2.1,hHeld.2.2.2.2.2.2.2.1,hHeld.2.2.2.2.2.2.2.2.1,hHeld.2.2.2.2.2.2.2.2.2.1,hHeld.2.2.2.2.2.2.2.2.2.2.1,hHeld.2.2.2.2.2.2.2.2.2.2.2.1,hHeld.2.2.2.2.2.2.2.2.2.2.2.2.1,hHeld.2.2.2.2.2.2.2.2.2.2.2.2.2.1,hHeld.2.2.2.2.2.2.2.2.2.2.2.2.2.2.1,hHeld.2.2.2.2.2.2.2.2.2.2.2.2.2.2.2.1,hHeld.2.2.2.2.2.2.2.2.2.2.2.2.2.2.2.2.1,hHeld.2.2.2.2.2.2.2.2.2.2.2.2.2.2.2.2.2.1,hHeld.2.2.2.2.2.2.2.2.2.2.2.2.2.2.2.2.2.2.1,hHeld.2.2.2.2.2.2.2.2.2.2.2.2.2.2.2.2.2.2.2.1,hHeld.2.2.2.2.2.2.2.2.2.2.2.2.2.2.2.2.2.2.2.2.1,hHeld.2.2.2.2.2.2.2.2.2.2.2.2.2.2.2.2.2.2.2.2.2.1,hHeld.2.2.2.2.2.2.2.2.2.2.2.2.2.2.2.2.2.2.2.2.2.2.1,hHeld.2.2.2.2.2.2.2.2.2.2.2.2.2.2.2.2.2.2.2.2.2.2.2.1,hHeld.2.2.2.2.2.2.2.2.2.2.2.2.2.2.2.2.2.2.2.2.2.2.2.2.1,hHeld.2.2.2.2.2.2.2.2.2.2.2.2.2.2.2.2.2.2.2.2.2.2.2.2.2.1,hHeld.2.2.2.2.2.2.2.2.2.2.2.2.2.2.2.2.2.2.2.2.2.2.2.2.2.2.1,hHeld.2.2.2.2.2.2.2.2.2.2.2.2.2.2.2.2.2.2.2.2.2.2.2.2.2.2.2.1,hHeld.2.2.2.2.2.2.2.2.2.2.2.2.2.2.2.2.2.2.2.2.2.2.2.2.2.2.2.2⟩ (fun hHeld => ?_)
                   clear hK K
                   refine norm_ (a' := ?_) ?_ ?_
                   rotate_left
                   ·show Act.put _ (some 84) _ = _
                    simp only [Act.put,q1,q2,q3,i64_w,i32_w]
                    rfl
                   refine pw_ 15 (some 90) HT_.out ?_
                   refine pw_ 16 (some 91) HT_.out ?_
                   refine pw_ 17 (some 92) HT_.out ?_
                   refine tw_ 18 (some 93) HT_.out HW_.out hHeld rfl rfl (by rintro w' ⟨s0,s1,s2,s3,s4,s5,s6,s7,s8,s9,s10,s11,s12,s13,s14,s15,s16,s17,s18,s19,s20,s21,s22,s23,s24,s25,s26,s27,s28⟩;go_simp;with_reducible rfl) ?_
                   refine oz_ (i := 19) (N := some 94) HT_.out rfl rfl (by kernel_rfl) (by decide) (fun K hK => ?_)
                   refine goes_ Try.func29 (by kernel_rfl) rfl #[.int .i64 ((rd_T30 t388 ((rd_T59 t383 x11_2).f1)).f0)] (by rfl) rfl rfl (by (try simp only [List.map_toArray,List.map_cons,List.map_nil]);first|done|rfl|(simp only [List.length_drop,List.length_take];rfl)) ?_
                   with_reducible refine (impl_Locked.calls ((rd_T30 t388 ((rd_T59 t383 x11_2).f1)).f0) false _ A40.out).mono ?_
                   rintro e w' ⟨rfl,⟨nd,rfl⟩⟩
                   refine ⟨_,rfl,?_⟩
                   refine hK.out _ _ ⟨(blk_cell BK403.out 0).trans rfl,(blk_cell BK403.out 1).trans rfl,hHeld.2.2.1,hHeld.2.2.2.1,hHeld.2.2.2.2.1,hHeld.2.2.2.2.2.1,hHeld.2.2.2.2.2.2.1,hHeld.2.2.2.2.2.2.2.1,hHeld.2.2.2.2.2.2.2.2.1,hHeld.2.2.2.2.2.2.2.2.2.1,hHeld.2.2.2.2.2.2.2.2.2.2.1,hHeld.2.2.2.2.2.2.2.2.2.2.2.1,hHeld.2.2.2.2.2.2.2.2.2.2.2.2.1,hHeld.2.2.2.2.2.2.2.2.2.2.2.2.2.1,hHeld.2.2.2.2.2.2.2.2.2.2.2.2.2.2.1,hHeld.2.2.2.2.2.2.2.2.2.2.2.2.2.2.2.1,hHeld.2.2.2.2.2.2.2.2.2.2.2.2.2.2.2.2.1,hHeld.2.2.2.2.2.2.2.2.2.2.2.2.2.2.2.2.2.1,hHeld.2.2.2.2.2.2.2.2.2.2.2.2.2.2.2.2.2.2.1,hHeld.2.2.2.2.2.2.2.2.2.2.2.2.2.2.2.2.2.2.2.1,hHeld.2.2.2.2.2.2.2.2.2.2.2.2.2.2.2.2.2.2.2.2.1,hHeld.2.2.2.2.2.2.2.2.2.2.2.2.2.2.2.2.2.2.2.2.2.1,hHeld.2.2.2.2.2.2.2.2.2.2.2.2.2.2.2.2.2.2.2.2.2.2.1,hHeld.2.2.2.2.2.2.2.2.2.2.2.2.2.2.2.2.2.2.2.2.2.2.2.1,hHeld.2.2.2.2.2.2.2.2.2.2.2.2.2.2.2.2.2.2.2.2.2.2.2.2.1,hHeld.2.2.2.2.2.2.2.2.2.2.2.2.2.2.2.2.2.2.2.2.2.2.2.2.2.1,hHeld.2.2.2.2.2.2.2.2.2.2.2.2.2.2.2.2.2.2.2.2.2.2.2.2.2.2.1,hHeld.2.2.2.2.2.2.2.2.2.2.2.2.2.2.2.2.2.2.2.2.2.2.2.2.2.2.2.1,hHeld.2.2.2.2.2.2.2.2.2.2.2.2.2.2.2.2.2.2.2.2.2.2.2.2.2.2.2.2⟩ (fun hHeld => ?_)
                   clear hK K
                   refine norm_ (a' := ?_) ?_ ?_
                   rotate_left
                   ·show Act.put _ (some 94) _ = _
                    simp only [Act.put,q1,q2,q3,i64_w,i32_w]
                    rfl
                   refine pw_ 20 (some 95) HT_.out ?_
                   refine pw_ 21 (some 96) HT_.out ?_
                   refine pw_ 24 (some 99) HT_.out ?_
                   refine pw_ 25 (some 100) HT_.out ?_
                   refine pw_ 26 (some 101) HT_.out ?_
                   refine pw_ 27 (some 102) HT_.out ?_
                   refine tw_ 22 (some 97) HT_.out HW_.out hHeld rfl rfl (by rintro w' ⟨s0,s1,s2,s3,s4,s5,s6,s7,s8,s9,s10,s11,s12,s13,s14,s15,s16,s17,s18,s19,s20,s21,s22,s23,s24,s25,s26,s27,s28⟩;go_simp;with_reducible rfl) ?_
                   refine tw_ 28 (some 103) HT_.out HW_.out hHeld rfl rfl (by rintro w' ⟨s0,s1,s2,s3,s4,s5,s6,s7,s8,s9,s10,s11,s12,s13,s14,s15,s16,s17,s18,s19,s20,s21,s22,s23,s24,s25,s26,s27,s28⟩;go_simp;with_reducible rfl) ?_
                   refine oz_ (i := 23) (N := some 98) HT_.out rfl rfl (by kernel_rfl) (by decide) (fun K hK => ?_)
                   refine goes_ Try.func28 (by kernel_rfl) rfl #[.int .i64 ((rd_T30 t388 ((rd_T59 t383 x11_2).f1)).f0)] (by rfl) rfl rfl (by (try simp only [List.map_toArray,List.map_cons,List.map_nil]);first|done|rfl|(simp only [List.length_drop,List.length_take];rfl)) ?_
                   with_reducible refine (impl_Used.calls ((rd_T30 t388 ((rd_T59 t383 x11_2).f1)).f0) t411 _ A43.out).mono ?_
                   rintro e w' ⟨rfl,⟨nd,rfl⟩⟩
                   refine ⟨_,rfl,?_⟩
                   refine hK.out _ _ ⟨(blk_cell BK403.out 0).trans rfl,(blk_cell BK403.out 1).trans rfl,hHeld.2.2.1,hHeld.2.2.2.1,hHeld.2.2.2.2.1,hHeld.2.2.2.2.2.1,hHeld.2.2.2.2.2.2.1,hHeld.2.2.2.2.2.2.2.1,hHeld.2.2.2.2.2.2.2.2.1,hHeld.2.2.2.2.2.2.2.2.2.1,hHeld.2.2.2.2.2.2.2.2.2.2.1,hHeld.2.2.2.2.2.2.2.2.2.2.2.1,hHeld.2.2.2.2.2.2.2.2.2.2.2.2.1,hHeld.2.2.2.2.2.2.2.2.2.2.2.2.2.1,hHeld.2.2.2.2.2.2.2.2.2.2.2.2.2.2.1,hHeld.2.2.2.2.2.2.2.2.2.2.2.2.2.2.2.1,hHeld.2.2.2.2.2.2.2.2.2.2.2.2.2.2.2.2.1,hHeld.2.2.2.2.2.2.2.2.2.2.2.2.2.2.2.2.2.1,hHeld.2.2.2.2.2.2.2.2.2.2.2.2.2.2.2.2.2.2.1,hHeld.2.2.2.2.2.2.2.2.2.2.2.2.2.2.2.2.2.2.2.1,hHeld.2.2.2.2.2.2.2.2.2.2.2.2.2.2.2.2.2.2.2.2.1,hHeld.2.2.2.2.2.2.2.2.2.2.2.2.2.2.2.2.2.2.2.2.2.1,hHeld.2.2.2.2.2.2.2.2.2.2.2.2.2.2.2.2.2.2.2.2.2.2.1,hHeld.2.2.2.2.2.2.2.2.2.2.2.2.2.2.2.2.2.2.2.2.2.2.2.1,hHeld.2.2.2.2.2.2.2.2.2.2.2.2.2.2.2.2.2.2.2.2.2.2.2.2.1,hHeld.2.2.2.2.2.2.2.2.2.2.2.2.2.2.2.2.2.2.2.2.2.2.2.2.2.1,hHeld.2.2.2.2.2.2.2.2.2.2.2.2.2.2.2.2.2.2.2.2.2.2.2.2.2.2.1,hHeld.2.2.2.2.2.2.2.2.2.2.2.2.2.2.2.2.2.2.2.2.2.2.2.2.2.2.2.1,hHeld.2.2.2.2.2.2.2.2.2.2.2.2.2.2.2.2.2.2.2.2.2.2.2.2.2.2.2.2⟩ (fun hHeld => ?_)
                   clear hK K
                   refine norm_ (a' := ?_) ?_ ?_
                   rotate_left
                   ·show Act.put _ (some 98) _ = _
                    simp only [Act.put,q1,q2,q3,i64_w,i32_w]
                    rfl
                   refine pw_ 29 (some 104) HT_.out ?_
                   refine pw_ 30 (some 105) HT_.out ?_
                   refine pw_ 31 (some 106) HT_.out ?_
                   refine pw_ 32 (some 107) HT_.out ?_
                   refine pw_ 33 (some 108) HT_.out ?_
                   refine pw_ 34 (some 109) HT_.out ?_
                   refine pw_ 35 (some 110) HT_.out ?_
                   refine tw_ 36 (some 111) HT_.out HW_.out hHeld rfl rfl (by rintro w' ⟨s0,s1,s2,s3,s4,s5,s6,s7,s8,s9,s10,s11,s12,s13,s14,s15,s16,s17,s18,s19,s20,s21,s22,s23,s24,s25,s26,s27,s28⟩;go_simp;with_reducible rfl) ?_
                   refine pw_ 37 (some 112) HT_.out ?_
                   refine pw_ 38 (some 113) HT_.out ?_
                   refine pw_ 40 (some 115) HT_.out ?_
                   refine pw_ 41 (some 116) HT_.out ?_
                   refine pw_ 42 (some 117) HT_.out ?_
                   refine pw_ 43 (some 118) HT_.out ?_
                   refine tw_ 39 (some 114) HT_.out HW_.out hHeld rfl rfl (by rintro w' ⟨s0,s1,s2,s3,s4,s5,s6,s7,s8,s9,s10,s11,s12,s13,s14,s15,s16,s17,s18,s19,s20,s21,s22,s23,s24,s25,s26,s27,s28⟩;go_simp;with_reducible rfl) ?_
                   refine tw_ 44 (some 119) HT_.out HW_.out hHeld rfl rfl (by rintro w' ⟨s0,s1,s2,s3,s4,s5,s6,s7,s8,s9,s10,s11,s12,s13,s14,s15,s16,s17,s18,s19,s20,s21,s22,s23,s24,s25,s26,s27,s28⟩;go_simp;with_reducible rfl) ?_
                   refine pw_ 45 (some 120) HT_.out ?_
                   refine pw_ 46 (some 121) HT_.out ?_
                   refine pw_ 47 (some 122) HT_.out ?_
                   refine pw_ 48 (some 123) HT_.out ?_
                   refine done_ (done_of HT_.out (by kernel_rfl)) ?_
                   (repeat (rw [drewN_self w48];generalize hq_ : World.drewN w48 _ = w48;have n0_ : Aside0 (Kd.Q k30 30 w48 w.heap.size (fun k_ => some k_ ≠ (.slice (some ad402) t388.length co20 : Value).ownBlock ∧ some k_ ≠ (v399 : Value).ownBlock ∧ k_ ≠ gb403) (.slice (some ad407) t382.length co9) t382) := ⟨by rw [← hq_];exact (by (with_reducible repeat (first|apply Kd.Q_alloc|apply Kd.Q_drewN|apply Kd.Q_drew));exact HO_3.out)⟩;have n1_ : Aside0 (Kd.R k59 59 w48 w.heap.size (fun _ => True) (.slice (some ad401) t383.length co10) t383) := ⟨by rw [← hq_];exact (by (with_reducible repeat (first|apply Kd.R_alloc|apply Kd.R_drewN|apply Kd.R_drew));exact HO_4.out)⟩;have n2_ : Aside0 (Kd.R k30 30 w48 w.heap.size (fun k_ => some k_ ≠ (.slice (some ad407) t382.length co9 : Value).ownBlock ∧ some k_ ≠ (v399 : Value).ownBlock ∧ k_ ≠ gb403) (.slice (some ad402) t388.length co20) t388) := ⟨by rw [← hq_];exact (by (with_reducible repeat (first|apply Kd.R_alloc|apply Kd.R_drewN|apply Kd.R_drew));exact HO_5.out)⟩;have n3_ : Aside0 (Kd.R k30 30 w48 w.heap.size (fun k_ => some k_ ≠ (.slice (some ad407) t382.length co9 : Value).ownBlock ∧ some k_ ≠ (.slice (some ad402) t388.length co20 : Value).ownBlock ∧ k_ ≠ gb403) v399 t397) := ⟨by rw [← hq_];exact (by (with_reducible repeat (first|apply Kd.R_alloc|apply Kd.R_drewN|apply Kd.R_drew));exact HO_9.out)⟩;have n4_ : Aside0 (w48.heap[gb403]? = some (.cells #[.int .i64 ((rd_T30 t388 ((rd_T59 t383 x11_2).f1)).f0),.int .i64 ((rd_T30 t388 ((rd_T59 t383 x11_2).f1)).f1)] 30 (0,0))) := ⟨by rw [← hq_];exact (by (with_reducible repeat (first|refine blk_drewN ?_ _|refine blk_drew ?_|refine blk_alloc ?_ _));exact BK403.out)⟩;have n5_ : Aside0 (Below w.heap.size w w48) := ⟨by rw [← hq_];exact (by repeat (first|(with_reducible first|exact HB.out|apply below_alloc|apply pw_below_drewN|apply below_drew1|refine below_set ?_ GE403.out)|exact HB.out))⟩;clear HO_3 HO_4 HO_5 HO_9 BK403 HB hq_;have HO_3 := n0_;have HO_4 := n1_;have HO_5 := n2_;have HO_9 := n3_;have BK403 := n4_;have HB := n5_;clear n0_ n1_ n2_ n3_ n4_ n5_))
                   try go_wp2
                   go_meet
                   case rel => exact ⟨_,((((rd_T30 t388 ((rd_T59 t383 x11_2).f1)).f1) != ((rd_T59 t383 x11_2).f2))),(by first|rfl|(simp;done)|(simp [*];done)),H',⟨by have := HJ6.out;have := HK2.out;first|omega|exact Nat.le_refl _⟩,⟨by (with_reducible repeat (first|apply Kd.Q_alloc|apply Kd.Q_drewN|apply Kd.Q_drew));exact HO_3.out⟩,⟨by (with_reducible repeat (first|apply Kd.R_alloc|apply Kd.R_drewN|apply Kd.R_drew));exact HO_4.out⟩,⟨by (with_reducible repeat (first|apply Kd.R_alloc|apply Kd.R_drewN|apply Kd.R_drew));exact HO_5.out⟩,⟨by (with_reducible repeat (first|apply Kd.R_alloc|apply Kd.R_drewN|apply Kd.R_drew));exact HO_9.out⟩,⟨by (with_reducible repeat (first|refine blk_drewN ?_ _|refine blk_drew ?_|refine blk_alloc ?_ _));exact BK403.out⟩,⟨by repeat (first|(with_reducible first|exact HB.out|apply below_alloc|apply pw_below_drewN|apply below_drew1|refine below_set ?_ GE403.out)|exact HB.out)⟩⟩
                  ·replace c47 := Bool.eq_false_iff.mpr c47
                   subst c47
                   (have c44b0z : t411 = false := by have h_ := c44b0;rw [← Nbq46.out] at h_;simpa using h_)
                   have H1 : (laws_FnInstalled.j2 k2 t382 t383 t388 t397 t398 x11_2 false) = some r := by rw [if_neg (show ¬ (false = true) by decide)] at H;exact H
                   clear H
                   have H := H1
                   clear H1
                   have H' := Aside0.mk H
                   clear H
                   try go_wp2
                   have n0_ := Aside0.mk (Kd.Q_drew HO_3.out)
                   have n1_ := Aside0.mk (Kd.R_drew HO_4.out)
                   have n2_ := Aside0.mk (Kd.R_drew HO_5.out)
                   have n3_ := Aside0.mk (Kd.R_drew HO_9.out)
                   have n4_ := Aside0.mk (blk_drew BK403.out)
                   have n5_ := Aside0.mk (below_drew1 HB.out)
                   clear HO_3
                   clear HO_4
                   clear HO_5
                   clear HO_9
                   clear BK403
                   clear HB
                   have HO_3 := n0_
                   have HO_4 := n1_
                   have HO_5 := n2_
                   have HO_9 := n3_
                   have BK403 := n4_
                   have HB := n5_
                   clear n0_ n1_ n2_ n3_ n4_ n5_
                   have p406 : 0 ≤ (x11_2 : Int) := of_decide_eq_true (by first|(with_reducible assumption)|assumption)
                   have q406 : x11_2 < (t383.length : Int) := of_decide_eq_true (by first|(with_reducible assumption)|assumption)
                   obtain ⟨ad406,e406,hx406_0,hx406_1,hx406_2,hx406_3,hx406_4⟩ := at_T59 (Kd.R_reads' HO_4.out).2.2 x11_2 p406 q406
                   (try rw [← Nbq46.out] at hx406_3)
                   obtain rfl : ad401 = ad406 := (by injection e406)
                   replace p406 := eq_true p406
                   replace q406 := eq_true q406
                   have p407 : 0 ≤ (((rd_T59 t383 x11_2).f1) : Int) := of_decide_eq_true (by first|(with_reducible assumption)|assumption)
                   have q407 : ((rd_T59 t383 x11_2).f1) < (t382.length : Int) := of_decide_eq_true (by first|(with_reducible assumption)|assumption)
                   obtain ⟨ad407,e407,hx407_0,hx407_1⟩ := at_T30 (Kd.Q_reads' HO_3.out).2.2 ((rd_T59 t383 x11_2).f1) p407 q407
                   cases e407
                   replace p407 := eq_true p407
                   replace q407 := eq_true q407
                   have p409 : 0 ≤ (x11_2 : Int) := of_decide_eq_true (by first|(with_reducible assumption)|assumption)
                   have q409 : x11_2 < (t383.length : Int) := of_decide_eq_true (by first|(with_reducible assumption)|assumption)
                   obtain ⟨ad409,e409,hx409_0,hx409_1,hx409_2,hx409_3,hx409_4⟩ := at_T59 (Kd.R_reads' HO_4.out).2.2 x11_2 p409 q409
                   (try rw [← Nbq46.out] at hx409_3)
                   obtain rfl : ad401 = ad409 := (by injection e409)
                   replace p409 := eq_true p409
                   replace q409 := eq_true q409
                   have p412 : 0 ≤ (x11_2 : Int) := of_decide_eq_true (by first|(with_reducible assumption)|assumption)
                   have q412 : x11_2 < (t383.length : Int) := of_decide_eq_true (by first|(with_reducible assumption)|assumption)
                   obtain ⟨ad412,e412,hx412_0,hx412_1,hx412_2,hx412_3,hx412_4⟩ := at_T59 (Kd.R_reads' HO_4.out).2.2 x11_2 p412 q412
                   (try rw [← Nbq46.out] at hx412_3)
                   obtain rfl : ad401 = ad412 := (by injection e412)
                   replace p412 := eq_true p412
                   replace q412 := eq_true q412
                   have p413 : 0 ≤ (x11_2 : Int) := of_decide_eq_true (by first|(with_reducible assumption)|assumption)
                   have q413 : x11_2 < (t383.length : Int) := of_decide_eq_true (by first|(with_reducible assumption)|assumption)
                   obtain ⟨ad413,e413,hx413_0,hx413_1,hx413_2,hx413_3,hx413_4⟩ := at_T59 (Kd.R_reads' HO_4.out).2.2 x11_2 p413 q413
                   (try rw [← Nbq46.out] at hx413_3)
                   obtain rfl : ad401 = ad413 := (by injection e413)
                   replace p413 := eq_true p413
                   replace q413 := eq_true q413
                   refine start_ (n := 49) (S := fun w' => w'.cell? ⟨gb403,0,none⟩ = some (.int .i64 ((rd_T30 t388 ((rd_T59 t383 x11_2).f1)).f0)) ∧ w'.cell? ⟨gb403,1,none⟩ = some (.int .i64 ((rd_T30 t388 ((rd_T59 t383 x11_2).f1)).f1)) ∧ w'.cell? (ad401.add ((x11_2).toNat * 5)) = some (.int .i64 ((rd_T59 t383 x11_2).f0)) ∧ w'.cell? ⟨(ad401.add ((x11_2).toNat * 5)).block,(ad401.add ((x11_2).toNat * 5)).off + 1,none⟩ = some (.int .i64 ((rd_T59 t383 x11_2).f1)) ∧ w'.cell? ⟨(ad401.add ((x11_2).toNat * 5)).block,(ad401.add ((x11_2).toNat * 5)).off + 2,none⟩ = some (.int .i64 ((rd_T59 t383 x11_2).f2)) ∧ w'.cell? ⟨(ad401.add ((x11_2).toNat * 5)).block,(ad401.add ((x11_2).toNat * 5)).off + 3,none⟩ = some (.bool false) ∧ w'.cell? ⟨(ad401.add ((x11_2).toNat * 5)).block,(ad401.add ((x11_2).toNat * 5)).off + 4,none⟩ = some (.int .i64 ((rd_T59 t383 x11_2).f4)) ∧ w'.cell? (ad407.add ((((rd_T59 t383 x11_2).f1)).toNat * 2)) = some (.int .i64 ((rd_T30 t382 ((rd_T59 t383 x11_2).f1)).f0)) ∧ w'.cell? ⟨(ad407.add ((((rd_T59 t383 x11_2).f1)).toNat * 2)).block,(ad407.add ((((rd_T59 t383 x11_2).f1)).toNat * 2)).off + 1,none⟩ = some (.int .i64 ((rd_T30 t382 ((rd_T59 t383 x11_2).f1)).f1)) ∧ w'.cell? (ad401.add ((x11_2).toNat * 5)) = some (.int .i64 ((rd_T59 t383 x11_2).f0)) ∧ w'.cell? ⟨(ad401.add ((x11_2).toNat * 5)).block,(ad401.add ((x11_2).toNat * 5)).off + 1,none⟩ = some (.int .i64 ((rd_T59 t383 x11_2).f1)) ∧ w'.cell? ⟨(ad401.add ((x11_2).toNat * 5)).block,(ad401.add ((x11_2).toNat * 5)).off + 2,none⟩ = some (.int .i64 ((rd_T59 t383 x11_2).f2)) ∧ w'.cell? ⟨(ad401.add ((x11_2).toNat * 5)).block,(ad401.add ((x11_2).toNat * 5)).off + 3,none⟩ = some (.bool false) ∧ w'.cell? ⟨(ad401.add ((x11_2).toNat * 5)).block,(ad401.add ((x11_2).toNat * 5)).off + 4,none⟩ = some (.int .i64 ((rd_T59 t383 x11_2).f4)) ∧ w'.cell? (ad401.add ((x11_2).toNat * 5)) = some (.int .i64 ((rd_T59 t383 x11_2).f0)) ∧ w'.cell? ⟨(ad401.add ((x11_2).toNat * 5)).block,(ad401.add ((x11_2).toNat * 5)).off + 1,none⟩ = some (.int .i64 ((rd_T59 t383 x11_2).f1)) ∧ w'.cell? ⟨(ad401.add ((x11_2).toNat * 5)).block,(ad401.add ((x11_2).toNat * 5)).off + 2,none⟩ = some (.int .i64 ((rd_T59 t383 x11_2).f2)) ∧ w'.cell? ⟨(ad401.add ((x11_2).toNat * 5)).block,(ad401.add ((x11_2).toNat * 5)).off + 3,none⟩ = some (.bool false) ∧ w'.cell? ⟨(ad401.add ((x11_2).toNat * 5)).block,(ad401.add ((x11_2).toNat * 5)).off + 4,none⟩ = some (.int .i64 ((rd_T59 t383 x11_2).f4)) ∧ w'.cell? (ad401.add ((x11_2).toNat * 5)) = some (.int .i64 ((rd_T59 t383 x11_2).f0)) ∧ w'.cell? ⟨(ad401.add ((x11_2).toNat * 5)).block,(ad401.add ((x11_2).toNat * 5)).off + 1,none⟩ = some (.int .i64 ((rd_T59 t383 x11_2).f1)) ∧ w'.cell? ⟨(ad401.add ((x11_2).toNat * 5)).block,(ad401.add ((x11_2).toNat * 5)).off + 2,none⟩ = some (.int .i64 ((rd_T59 t383 x11_2).f2)) ∧ w'.cell? ⟨(ad401.add ((x11_2).toNat * 5)).block,(ad401.add ((x11_2).toNat * 5)).off + 3,none⟩ = some (.bool false) ∧ w'.cell? ⟨(ad401.add ((x11_2).toNat * 5)).block,(ad401.add ((x11_2).toNat * 5)).off + 4,none⟩ = some (.int .i64 ((rd_T59 t383 x11_2).f4))) (ds := []) #[false,false,false,false,false,false,false,false,false,false,false,false,false,false,false,false,false,false,false,false,false,false,false,false,false,false,false,false,false,false,false,false,false,false,false,false,false,false,false,false,false,false,false,false,false,false,false,false,false] (by kernel_rfl) rfl rfl ⟨(blk_cell BK403.out 0).trans rfl,(blk_cell BK403.out 1).trans rfl,hx406_0,hx406_1,hx406_2,hx406_3,hx406_4,hx407_0,hx407_1,hx409_0,hx409_1,hx409_2,hx409_3,hx409_4,hx412_0,hx412_1,hx412_2,hx412_3,hx412_4,hx413_0,hx413_1,hx413_2,hx413_3,hx413_4⟩ (fun hHeld => ?_);refine with_tabW laws_FnInstalled.tab17 laws_FnInstalled.bits17 (fun HT_ HW_ => ?_)
                   generalize w36.drew = w49 at HO_3 HO_4 HO_5 HO_9 BK403 HB hx406_0 hx406_1 hx406_2 hx406_3 hx406_4 hx407_0 hx407_1 hx409_0 hx409_1 hx409_2 hx409_3 hx409_4 hx412_0 hx412_1 hx412_2 hx412_3 hx412_4 hx413_0 hx413_1 hx413_2 hx413_3 hx413_4 hHeld ⊢
                   refine pw_ 0 (some 75) HT_.out ?_
                   refine pw_ 1 (some 76) HT_.out ?_
                   refine pw_ 2 (some 77) HT_.out ?_
                   refine pw_ 3 (some 78) HT_.out ?_
                   refine pw_ 4 (some 79) HT_.out ?_
                   refine pw_ 10 (some 85) HT_.out ?_
                   refine pw_ 11 (some 86) HT_.out ?_
                   refine pw_ 12 (some 87) HT_.out ?_
                   refine pw_ 13 (some 88) HT_.out ?_
                   refine tw_ 5 (some 80) HT_.out HW_.out hHeld rfl rfl (by rintro w' ⟨s0,s1,s2,s3,s4,s5,s6,s7,s8,s9,s10,s11,s12,s13,s14,s15,s16,s17,s18,s19,s20,s21,s22,s23⟩;go_simp;with_reducible rfl) ?_
                   refine pw_ 6 (some 81) HT_.out ?_
                   refine pw_ 7 (some 82) HT_.out ?_
                   refine tw_ 8 (some 83) HT_.out HW_.out hHeld rfl rfl (by rintro w' ⟨s0,s1,s2,s3,s4,s5,s6,s7,s8,s9,s10,s11,s12,s13,s14,s15,s16,s17,s18,s19,s20,s21,s22,s23⟩;go_simp;with_reducible rfl) ?_
                   refine tw_ 14 (some 89) HT_.out HW_.out hHeld rfl rfl (by rintro w' ⟨s0,s1,s2,s3,s4,s5,s6,s7,s8,s9,s10,s11,s12,s13,s14,s15,s16,s17,s18,s19,s20,s21,s22,s23⟩;go_simp;with_reducible rfl) ?_
                   refine oz_ (i := 9) (N := some 84) HT_.out rfl rfl (by kernel_rfl) (by decide) (fun K hK => ?_)
                   refine goes_ Try.func45 (by kernel_rfl) rfl #[.int .i64 ((rd_T30 t382 ((rd_T59 t383 x11_2).f1)).f0)] (by rfl) rfl rfl (by (try simp only [List.map_toArray,List.map_cons,List.map_nil]);first|done|rfl|(simp only [List.length_drop,List.length_take];rfl)) ?_
                   with_reducible refine (impl_Version.calls ((rd_T30 t382 ((rd_T59 t383 x11_2).f1)).f0) t408 _ A38.out).mono ?_
                   rintro e w' ⟨rfl,⟨nd,rfl⟩⟩
                   refine ⟨_,rfl,?_⟩
                   refine hK.out _ _ ⟨(blk_cell BK403.out 0).trans rfl,(blk_cell BK403.out 1).trans rfl,hHeld.2.2.1,hHeld.2.2.2.1,hHeld.2.2.2.2.1,hHeld.2.2.2.2.2.1,hHeld.2.2.2.2.2.2.1,hHeld.2.2.2.2.2.2.2.1,hHeld.2.2.2.2.2.2.2.2.1,hHeld.2.2.2.2.2.2.2.2.2.1,hHeld.2.2.2.2.2.2.2.2.2.2.1,hHeld.2.2.2.2.2.2.2.2.2.2.2.1,hHeld.2.2.2.2.2.2.2.2.2.2.2.2.1,hHeld.2.2.2.2.2.2.2.2.2.2.2.2.2.1,hHeld.2.2.2.2.2.2.2.2.2.2.2.2.2.2.1,hHeld.2.2.2.2.2.2.2.2.2.2.2.2.2.2.2.1,hHeld.2.2.2.2.2.2.2.2.2.2.2.2.2.2.2.2.1,hHeld.2.2.2.2.2.2.2.2.2.2.2.2.2.2.2.2.2.1,hHeld.2.2.2.2.2.2.2.2.2.2.2.2.2.2.2.2.2.2.1,hHeld.2.2.2.2.2.2.2.2.2.2.2.2.2.2.2.2.2.2.2.1,hHeld.2.2.2.2.2.2.2.2.2.2.2.2.2.2.2.2.2.2.2.2.1,hHeld.2.2.2.2.2.2.2.2.2.2.2.2.2.2.2.2.2.2.2.2.2.1,hHeld.2.2.2.2.2.2.2.2.2.2.2.2.2.2.2.2.2.2.2.2.2.2.1,hHeld.2.2.2.2.2.2.2.2.2.2.2.2.2.2.2.2.2.2.2.2.2.2.2⟩ (fun hHeld => ?_)
                   clear hK K
                   refine norm_ (a' := ?_) ?_ ?_
                   rotate_left
                   ·show Act.put _ (some 84) _ = _
                    simp only [Act.put,q1,q2,q3,i64_w,i32_w]
                    rfl
                   refine pw_ 15 (some 90) HT_.out ?_
                   refine pw_ 16 (some 91) HT_.out ?_
                   refine pw_ 17 (some 92) HT_.out ?_
                   refine tw_ 18 (some 93) HT_.out HW_.out hHeld rfl rfl (by rintro w' ⟨s0,s1,s2,s3,s4,s5,s6,s7,s8,s9,s10,s11,s12,s13,s14,s15,s16,s17,s18,s19,s20,s21,s22,s23⟩;go_simp;with_reducible rfl) ?_
                   refine oz_ (i := 19) (N := some 94) HT_.out rfl rfl (by kernel_rfl) (by decide) (fun K hK => ?_)
                   refine goes_ Try.func29 (by kernel_rfl) rfl #[.int .i64 ((rd_T30 t388 ((rd_T59 t383 x11_2).f1)).f0)] (by rfl) rfl rfl (by (try simp only [List.map_toArray,List.map_cons,List.map_nil]);first|done|rfl|(simp only [List.length_drop,List.length_take];rfl)) ?_
                   with_reducible refine (impl_Locked.calls ((rd_T30 t388 ((rd_T59 t383 x11_2).f1)).f0) false _ A40.out).mono ?_
                   rintro e w' ⟨rfl,⟨nd,rfl⟩⟩
                   refine ⟨_,rfl,?_⟩
                   refine hK.out _ _ ⟨(blk_cell BK403.out 0).trans rfl,(blk_cell BK403.out 1).trans rfl,hHeld.2.2.1,hHeld.2.2.2.1,hHeld.2.2.2.2.1,hHeld.2.2.2.2.2.1,hHeld.2.2.2.2.2.2.1,hHeld.2.2.2.2.2.2.2.1,hHeld.2.2.2.2.2.2.2.2.1,hHeld.2.2.2.2.2.2.2.2.2.1,hHeld.2.2.2.2.2.2.2.2.2.2.1,hHeld.2.2.2.2.2.2.2.2.2.2.2.1,hHeld.2.2.2.2.2.2.2.2.2.2.2.2.1,hHeld.2.2.2.2.2.2.2.2.2.2.2.2.2.1,hHeld.2.2.2.2.2.2.2.2.2.2.2.2.2.2.1,hHeld.2.2.2.2.2.2.2.2.2.2.2.2.2.2.2.1,hHeld.2.2.2.2.2.2.2.2.2.2.2.2.2.2.2.2.1,hHeld.2.2.2.2.2.2.2.2.2.2.2.2.2.2.2.2.2.1,hHeld.2.2.2.2.2.2.2.2.2.2.2.2.2.2.2.2.2.2.1,hHeld.2.2.2.2.2.2.2.2.2.2.2.2.2.2.2.2.2.2.2.1,hHeld.2.2.2.2.2.2.2.2.2.2.2.2.2.2.2.2.2.2.2.2.1,hHeld.2.2.2.2.2.2.2.2.2.2.2.2.2.2.2.2.2.2.2.2.2.1,hHeld.2.2.2.2.2.2.2.2.2.2.2.2.2.2.2.2.2.2.2.2.2.2.1,hHeld.2.2.2.2.2.2.2.2.2.2.2.2.2.2.2.2.2.2.2.2.2.2.2⟩ (fun hHeld => ?_)
                   clear hK K
                   refine norm_ (a' := ?_) ?_ ?_
                   rotate_left
                   ·show Act.put _ (some 94) _ = _
                    simp only [Act.put,q1,q2,q3,i64_w,i32_w]
                    rfl
                   refine pw_ 20 (some 95) HT_.out ?_
                   refine pw_ 21 (some 96) HT_.out ?_
                   refine pw_ 24 (some 99) HT_.out ?_
                   refine pw_ 25 (some 100) HT_.out ?_
                   refine pw_ 26 (some 101) HT_.out ?_
                   refine pw_ 27 (some 102) HT_.out ?_
                   refine tw_ 22 (some 97) HT_.out HW_.out hHeld rfl rfl (by rintro w' ⟨s0,s1,s2,s3,s4,s5,s6,s7,s8,s9,s10,s11,s12,s13,s14,s15,s16,s17,s18,s19,s20,s21,s22,s23⟩;go_simp;with_reducible rfl) ?_
                   refine tw_ 28 (some 103) HT_.out HW_.out hHeld rfl rfl (by rintro w' ⟨s0,s1,s2,s3,s4,s5,s6,s7,s8,s9,s10,s11,s12,s13,s14,s15,s16,s17,s18,s19,s20,s21,s22,s23⟩;go_simp;with_reducible rfl) ?_
                   refine oz_ (i := 23) (N := some 98) HT_.out rfl rfl (by kernel_rfl) (by decide) (fun K hK => ?_)
                   refine goes_ Try.func28 (by kernel_rfl) rfl #[.int .i64 ((rd_T30 t388 ((rd_T59 t383 x11_2).f1)).f0)] (by rfl) rfl rfl (by (try simp only [List.map_toArray,List.map_cons,List.map_nil]);first|done|rfl|(simp only [List.length_drop,List.length_take];rfl)) ?_
                   with_reducible refine (impl_Used.calls ((rd_T30 t388 ((rd_T59 t383 x11_2).f1)).f0) t411 _ A43.out).mono ?_
                   rintro e w' ⟨rfl,⟨nd,rfl⟩⟩
                   refine ⟨_,rfl,?_⟩
                   refine hK.out _ _ ⟨(blk_cell BK403.out 0).trans rfl,(blk_cell BK403.out 1).trans rfl,hHeld.2.2.1,hHeld.2.2.2.1,hHeld.2.2.2.2.1,hHeld.2.2.2.2.2.1,hHeld.2.2.2.2.2.2.1,hHeld.2.2.2.2.2.2.2.1,hHeld.2.2.2.2.2.2.2.2.1,hHeld.2.2.2.2.2.2.2.2.2.1,hHeld.2.2.2.2.2.2.2.2.2.2.1,hHeld.2.2.2.2.2.2.2.2.2.2.2.1,hHeld.2.2.2.2.2.2.2.2.2.2.2.2.1,hHeld.2.2.2.2.2.2.2.2.2.2.2.2.2.1,hHeld.2.2.2.2.2.2.2.2.2.2.2.2.2.2.1,hHeld.2.2.2.2.2.2.2.2.2.2.2.2.2.2.2.1,hHeld.2.2.2.2.2.2.2.2.2.2.2.2.2.2.2.2.1,hHeld.2.2.2.2.2.2.2.2.2.2.2.2.2.2.2.2.2.1,hHeld.2.2.2.2.2.2.2.2.2.2.2.2.2.2.2.2.2.2.1,hHeld.2.2.2.2.2.2.2.2.2.2.2.2.2.2.2.2.2.2.2.1,hHeld.2.2.2.2.2.2.2.2.2.2.2.2.2.2.2.2.2.2.2.2.1,hHeld.2.2.2.2.2.2.2.2.2.2.2.2.2.2.2.2.2.2.2.2.2.1,hHeld.2.2.2.2.2.2.2.2.2.2.2.2.2.2.2.2.2.2.2.2.2.2.1,hHeld.2.2.2.2.2.2.2.2.2.2.2.2.2.2.2.2.2.2.2.2.2.2.2⟩ (fun hHeld => ?_)
                   clear hK K
                   refine norm_ (a' := ?_) ?_ ?_
                   rotate_left
                   ·show Act.put _ (some 98) _ = _
                    simp only [Act.put,q1,q2,q3,i64_w,i32_w]
                    rfl
                   refine pw_ 29 (some 104) HT_.out ?_
                   refine pw_ 30 (some 105) HT_.out ?_
                   refine pw_ 31 (some 106) HT_.out ?_
                   refine pw_ 32 (some 107) HT_.out ?_
                   refine pw_ 33 (some 108) HT_.out ?_
                   refine pw_ 34 (some 109) HT_.out ?_
                   refine pw_ 35 (some 110) HT_.out ?_
                   refine tw_ 36 (some 111) HT_.out HW_.out hHeld rfl rfl (by rintro w' ⟨s0,s1,s2,s3,s4,s5,s6,s7,s8,s9,s10,s11,s12,s13,s14,s15,s16,s17,s18,s19,s20,s21,s22,s23⟩;go_simp;with_reducible rfl) ?_
                   refine pw_ 37 (some 112) HT_.out ?_
                   refine pu_ 38 (some 113) HT_.out ?_
                   refine pu_ 39 (some 114) HT_.out ?_
                   refine pu_ 40 (some 115) HT_.out ?_
                   refine pu_ 41 (some 116) HT_.out ?_
                   refine pu_ 42 (some 117) HT_.out ?_
                   refine pu_ 43 (some 118) HT_.out ?_
                   refine pu_ 44 (some 119) HT_.out ?_
                   refine pu_ 45 (some 120) HT_.out ?_
                   refine pw_ 46 (some 121) HT_.out ?_
                   refine pw_ 47 (some 122) HT_.out ?_
                   refine pw_ 48 (some 123) HT_.out ?_
                   refine done_ (done_of HT_.out (by kernel_rfl)) ?_
                   (repeat (rw [drewN_self w49];generalize hq_ : World.drewN w49 _ = w49;have n0_ : Aside0 (Kd.Q k30 30 w49 w.heap.size (fun k_ => some k_ ≠ (.slice (some ad402) t388.length co20 : Value).ownBlock ∧ some k_ ≠ (v399 : Value).ownBlock ∧ k_ ≠ gb403) (.slice (some ad407) t382.length co9) t382) := ⟨by rw [← hq_];exact (by (with_reducible repeat (first|apply Kd.Q_alloc|apply Kd.Q_drewN|apply Kd.Q_drew));exact HO_3.out)⟩;have n1_ : Aside0 (Kd.R k59 59 w49 w.heap.size (fun _ => True) (.slice (some ad401) t383.length co10) t383) := ⟨by rw [← hq_];exact (by (with_reducible repeat (first|apply Kd.R_alloc|apply Kd.R_drewN|apply Kd.R_drew));exact HO_4.out)⟩;have n2_ : Aside0 (Kd.R k30 30 w49 w.heap.size (fun k_ => some k_ ≠ (.slice (some ad407) t382.length co9 : Value).ownBlock ∧ some k_ ≠ (v399 : Value).ownBlock ∧ k_ ≠ gb403) (.slice (some ad402) t388.length co20) t388) := ⟨by rw [← hq_];exact (by (with_reducible repeat (first|apply Kd.R_alloc|apply Kd.R_drewN|apply Kd.R_drew));exact HO_5.out)⟩;have n3_ : Aside0 (Kd.R k30 30 w49 w.heap.size (fun k_ => some k_ ≠ (.slice (some ad407) t382.length co9 : Value).ownBlock ∧ some k_ ≠ (.slice (some ad402) t388.length co20 : Value).ownBlock ∧ k_ ≠ gb403) v399 t397) := ⟨by rw [← hq_];exact (by (with_reducible repeat (first|apply Kd.R_alloc|apply Kd.R_drewN|apply Kd.R_drew));exact HO_9.out)⟩;have n4_ : Aside0 (w49.heap[gb403]? = some (.cells #[.int .i64 ((rd_T30 t388 ((rd_T59 t383 x11_2).f1)).f0),.int .i64 ((rd_T30 t388 ((rd_T59 t383 x11_2).f1)).f1)] 30 (0,0))) := ⟨by rw [← hq_];exact (by (with_reducible repeat (first|refine blk_drewN ?_ _|refine blk_drew ?_|refine blk_alloc ?_ _));exact BK403.out)⟩;have n5_ : Aside0 (Below w.heap.size w w49) := ⟨by rw [← hq_];exact (by repeat (first|(with_reducible first|exact HB.out|apply below_alloc|apply pw_below_drewN|apply below_drew1|refine below_set ?_ GE403.out)|exact HB.out))⟩;clear HO_3 HO_4 HO_5 HO_9 BK403 HB hq_;have HO_3 := n0_;have HO_4 := n1_;have HO_5 := n2_;have HO_9 := n3_;have BK403 := n4_;have HB := n5_;clear n0_ n1_ n2_ n3_ n4_ n5_))
                   try go_wp2
                   go_meet
                   case rel => exact ⟨_,(false),(by first|rfl|(simp;done)|(simp [*];done)),H',⟨by have := HJ6.out;have := HK2.out;first|omega|exact Nat.le_refl _⟩,⟨by (with_reducible repeat (first|apply Kd.Q_alloc|apply Kd.Q_drewN|apply Kd.Q_drew));exact HO_3.out⟩,⟨by (with_reducible repeat (first|apply Kd.R_alloc|apply Kd.R_drewN|apply Kd.R_drew));exact HO_4.out⟩,⟨by (with_reducible repeat (first|apply Kd.R_alloc|apply Kd.R_drewN|apply Kd.R_drew));exact HO_5.out⟩,⟨by (with_reducible repeat (first|apply Kd.R_alloc|apply Kd.R_drewN|apply Kd.R_drew));exact HO_9.out⟩,⟨by (with_reducible repeat (first|refine blk_drewN ?_ _|refine blk_drew ?_|refine blk_alloc ?_ _));exact BK403.out⟩,⟨by repeat (first|(with_reducible first|exact HB.out|apply below_alloc|apply pw_below_drewN|apply below_drew1|refine below_set ?_ GE403.out)|exact HB.out)⟩⟩
               ·rw [if_neg c39] at H
                have c39b0 : (t408 == ((rd_T59 t383 x11_2).f4)) = false := beq_eq_false_iff_ne.mpr c39
                have c39b1 : (t408 != ((rd_T59 t383 x11_2).f4)) = true := bne_iff_ne.mpr c39
                have H' := Aside0.mk H
                clear H
                try go_wp2
                have n0_ := Aside0.mk (Kd.Q_drew HO_3.out)
                have n1_ := Aside0.mk (Kd.R_drew HO_4.out)
                have n2_ := Aside0.mk (Kd.R_drew HO_5.out)
                have n3_ := Aside0.mk (Kd.R_drew HO_9.out)
                have n4_ := Aside0.mk (blk_drew BK403.out)
                have n5_ := Aside0.mk (below_drew1 HB.out)
                clear HO_3
                clear HO_4
                clear HO_5
                clear HO_9
                clear BK403
                clear HB
                have HO_3 := n0_
                have HO_4 := n1_
                have HO_5 := n2_
                have HO_9 := n3_
                have BK403 := n4_
                have HB := n5_
                clear n0_ n1_ n2_ n3_ n4_ n5_
                have p406 : 0 ≤ (x11_2 : Int) := of_decide_eq_true (by first|(with_reducible assumption)|assumption)
                have q406 : x11_2 < (t383.length : Int) := of_decide_eq_true (by first|(with_reducible assumption)|assumption)
                obtain ⟨ad406,e406,hx406_0,hx406_1,hx406_2,hx406_3,hx406_4⟩ := at_T59 (Kd.R_reads' HO_4.out).2.2 x11_2 p406 q406
                obtain rfl : ad401 = ad406 := (by injection e406)
                replace p406 := eq_true p406
                replace q406 := eq_true q406
                have p407 : 0 ≤ (((rd_T59 t383 x11_2).f1) : Int) := of_decide_eq_true (by first|(with_reducible assumption)|assumption)
                have q407 : ((rd_T59 t383 x11_2).f1) < (t382.length : Int) := of_decide_eq_true (by first|(with_reducible assumption)|assumption)
                obtain ⟨ad407,e407,hx407_0,hx407_1⟩ := at_T30 (Kd.Q_reads' HO_3.out).2.2 ((rd_T59 t383 x11_2).f1) p407 q407
                cases e407
                replace p407 := eq_true p407
                replace q407 := eq_true q407
                have p409 : 0 ≤ (x11_2 : Int) := of_decide_eq_true (by first|(with_reducible assumption)|assumption)
                have q409 : x11_2 < (t383.length : Int) := of_decide_eq_true (by first|(with_reducible assumption)|assumption)
                obtain ⟨ad409,e409,hx409_0,hx409_1,hx409_2,hx409_3,hx409_4⟩ := at_T59 (Kd.R_reads' HO_4.out).2.2 x11_2 p409 q409
                obtain rfl : ad401 = ad409 := (by injection e409)
                replace p409 := eq_true p409
                replace q409 := eq_true q409
                refine start_ (n := 49) (S := fun w' => w'.cell? (ad401.add ((x11_2).toNat * 5)) = some (.int .i64 ((rd_T59 t383 x11_2).f0)) ∧ w'.cell? ⟨(ad401.add ((x11_2).toNat * 5)).block,(ad401.add ((x11_2).toNat * 5)).off + 1,none⟩ = some (.int .i64 ((rd_T59 t383 x11_2).f1)) ∧ w'.cell? ⟨(ad401.add ((x11_2).toNat * 5)).block,(ad401.add ((x11_2).toNat * 5)).off + 2,none⟩ = some (.int .i64 ((rd_T59 t383 x11_2).f2)) ∧ w'.cell? ⟨(ad401.add ((x11_2).toNat * 5)).block,(ad401.add ((x11_2).toNat * 5)).off + 3,none⟩ = some (.bool ((rd_T59 t383 x11_2).f3)) ∧ w'.cell? ⟨(ad401.add ((x11_2).toNat * 5)).block,(ad401.add ((x11_2).toNat * 5)).off + 4,none⟩ = some (.int .i64 ((rd_T59 t383 x11_2).f4)) ∧ w'.cell? (ad407.add ((((rd_T59 t383 x11_2).f1)).toNat * 2)) = some (.int .i64 ((rd_T30 t382 ((rd_T59 t383 x11_2).f1)).f0)) ∧ w'.cell? ⟨(ad407.add ((((rd_T59 t383 x11_2).f1)).toNat * 2)).block,(ad407.add ((((rd_T59 t383 x11_2).f1)).toNat * 2)).off + 1,none⟩ = some (.int .i64 ((rd_T30 t382 ((rd_T59 t383 x11_2).f1)).f1)) ∧ w'.cell? (ad401.add ((x11_2).toNat * 5)) = some (.int .i64 ((rd_T59 t383 x11_2).f0)) ∧ w'.cell? ⟨(ad401.add ((x11_2).toNat * 5)).block,(ad401.add ((x11_2).toNat * 5)).off + 1,none⟩ = some (.int .i64 ((rd_T59 t383 x11_2).f1)) ∧ w'.cell? ⟨(ad401.add ((x11_2).toNat * 5)).block,(ad401.add ((x11_2).toNat * 5)).off + 2,none⟩ = some (.int .i64 ((rd_T59 t383 x11_2).f2)) ∧ w'.cell? ⟨(ad401.add ((x11_2).toNat * 5)).block,(ad401.add ((x11_2).toNat * 5)).off + 3,none⟩ = some (.bool ((rd_T59 t383 x11_2).f3)) ∧ w'.cell? ⟨(ad401.add ((x11_2).toNat * 5)).block,(ad401.add ((x11_2).toNat * 5)).off + 4,none⟩ = some (.int .i64 ((rd_T59 t383 x11_2).f4))) (ds := []) #[false,false,false,false,false,false,false,false,false,false,false,false,false,false,false,false,false,false,false,false,false,false,false,false,false,false,false,false,false,false,false,false,false,false,false,false,false,false,false,false,false,false,false,false,false,false,false,false,false] (by kernel_rfl) rfl rfl ⟨hx406_0,hx406_1,hx406_2,hx406_3,hx406_4,hx407_0,hx407_1,hx409_0,hx409_1,hx409_2,hx409_3,hx409_4⟩ (fun hHeld => ?_);refine with_tabW laws_FnInstalled.tab17 laws_FnInstalled.bits17 (fun HT_ HW_ => ?_)
                generalize w36.drew = w50 at HO_3 HO_4 HO_5 HO_9 BK403 HB hx406_0 hx406_1 hx406_2 hx406_3 hx406_4 hx407_0 hx407_1 hx409_0 hx409_1 hx409_2 hx409_3 hx409_4 hHeld ⊢
                refine pw_ 0 (some 75) HT_.out ?_
                refine pw_ 1 (some 76) HT_.out ?_
                refine pw_ 2 (some 77) HT_.out ?_
                refine pw_ 3 (some 78) HT_.out ?_
                refine pw_ 4 (some 79) HT_.out ?_
                refine pw_ 10 (some 85) HT_.out ?_
                refine pw_ 11 (some 86) HT_.out ?_
                refine pw_ 12 (some 87) HT_.out ?_
                refine pw_ 13 (some 88) HT_.out ?_
                refine tw_ 5 (some 80) HT_.out HW_.out hHeld rfl rfl (by rintro w' ⟨s0,s1,s2,s3,s4,s5,s6,s7,s8,s9,s10,s11⟩;go_simp;with_reducible rfl) ?_
                refine pw_ 6 (some 81) HT_.out ?_
                refine pw_ 7 (some 82) HT_.out ?_
                refine tw_ 8 (some 83) HT_.out HW_.out hHeld rfl rfl (by rintro w' ⟨s0,s1,s2,s3,s4,s5,s6,s7,s8,s9,s10,s11⟩;go_simp;with_reducible rfl) ?_
                refine tw_ 14 (some 89) HT_.out HW_.out hHeld rfl rfl (by rintro w' ⟨s0,s1,s2,s3,s4,s5,s6,s7,s8,s9,s10,s11⟩;go_simp;with_reducible rfl) ?_
                refine oz_ (i := 9) (N := some 84) HT_.out rfl rfl (by kernel_rfl) (by decide) (fun K hK => ?_)
                refine goes_ Try.func45 (by kernel_rfl) rfl #[.int .i64 ((rd_T30 t382 ((rd_T59 t383 x11_2).f1)).f0)] (by rfl) rfl rfl (by (try simp only [List.map_toArray,List.map_cons,List.map_nil]);first|done|rfl|(simp only [List.length_drop,List.length_take];rfl)) ?_
                with_reducible refine (impl_Version.calls ((rd_T30 t382 ((rd_T59 t383 x11_2).f1)).f0) t408 _ A38.out).mono ?_
                rintro e w' ⟨rfl,⟨nd,rfl⟩⟩
                refine ⟨_,rfl,?_⟩
                refine hK.out _ _ ⟨hHeld.1,hHeld.2.1,hHeld.2.2.1,hHeld.2.2.2.1,hHeld.2.2.2.2.1,hHeld.2.2.2.2.2.1,hHeld.2.2.2.2.2.2.1,hHeld.2.2.2.2.2.2.2.1,hHeld.2.2.2.2.2.2.2.2.1,hHeld.2.2.2.2.2.2.2.2.2.1,hHeld.2.2.2.2.2.2.2.2.2.2.1,hHeld.2.2.2.2.2.2.2.2.2.2.2⟩ (fun hHeld => ?_)
                clear hK K
                refine norm_ (a' := ?_) ?_ ?_
                rotate_left
                ·show Act.put _ (some 84) _ = _
                 simp only [Act.put,q1,q2,q3,i64_w,i32_w]
                 rfl
                refine pw_ 15 (some 90) HT_.out ?_
                refine pw_ 16 (some 91) HT_.out ?_
                refine pu_ 17 (some 92) HT_.out ?_
                refine pu_ 18 (some 93) HT_.out ?_
                refine pu_ 19 (some 94) HT_.out ?_
                refine pu_ 20 (some 95) HT_.out ?_
                refine pu_ 21 (some 96) HT_.out ?_
                refine pu_ 22 (some 97) HT_.out ?_
                refine pu_ 23 (some 98) HT_.out ?_
                refine pu_ 24 (some 99) HT_.out ?_
                refine pu_ 25 (some 100) HT_.out ?_
                refine pu_ 26 (some 101) HT_.out ?_
                refine pu_ 27 (some 102) HT_.out ?_
                refine pu_ 28 (some 103) HT_.out ?_
                refine pu_ 29 (some 104) HT_.out ?_
                refine pu_ 30 (some 105) HT_.out ?_
                refine pu_ 31 (some 106) HT_.out ?_
                refine pu_ 32 (some 107) HT_.out ?_
                refine pu_ 33 (some 108) HT_.out ?_
                refine pu_ 34 (some 109) HT_.out ?_
                refine pu_ 35 (some 110) HT_.out ?_
                refine pu_ 36 (some 111) HT_.out ?_
                refine pu_ 37 (some 112) HT_.out ?_
                refine pu_ 38 (some 113) HT_.out ?_
                refine pu_ 39 (some 114) HT_.out ?_
                refine pu_ 40 (some 115) HT_.out ?_
                refine pu_ 41 (some 116) HT_.out ?_
                refine pu_ 42 (some 117) HT_.out ?_
                refine pu_ 43 (some 118) HT_.out ?_
                refine pu_ 44 (some 119) HT_.out ?_
                refine pu_ 45 (some 120) HT_.out ?_
                refine pu_ 46 (some 121) HT_.out ?_
                refine pu_ 47 (some 122) HT_.out ?_
                refine pw_ 48 (some 123) HT_.out ?_
                refine done_ (done_of HT_.out (by kernel_rfl)) ?_
                (repeat (rw [drewN_self w50];generalize hq_ : World.drewN w50 _ = w50;have n0_ : Aside0 (Kd.Q k30 30 w50 w.heap.size (fun k_ => some k_ ≠ (.slice (some ad402) t388.length co20 : Value).ownBlock ∧ some k_ ≠ (v399 : Value).ownBlock ∧ k_ ≠ gb403) (.slice (some ad407) t382.length co9) t382) := ⟨by rw [← hq_];exact (by (with_reducible repeat (first|apply Kd.Q_alloc|apply Kd.Q_drewN|apply Kd.Q_drew));exact HO_3.out)⟩;have n1_ : Aside0 (Kd.R k59 59 w50 w.heap.size (fun _ => True) (.slice (some ad401) t383.length co10) t383) := ⟨by rw [← hq_];exact (by (with_reducible repeat (first|apply Kd.R_alloc|apply Kd.R_drewN|apply Kd.R_drew));exact HO_4.out)⟩;have n2_ : Aside0 (Kd.R k30 30 w50 w.heap.size (fun k_ => some k_ ≠ (.slice (some ad407) t382.length co9 : Value).ownBlock ∧ some k_ ≠ (v399 : Value).ownBlock ∧ k_ ≠ gb403) (.slice (some ad402) t388.length co20) t388) := ⟨by rw [← hq_];exact (by (with_reducible repeat (first|apply Kd.R_alloc|apply Kd.R_drewN|apply Kd.R_drew));exact HO_5.out)⟩;have n3_ : Aside0 (Kd.R k30 30 w50 w.heap.size (fun k_ => some k_ ≠ (.slice (some ad407) t382.length co9 : Value).ownBlock ∧ some k_ ≠ (.slice (some ad402) t388.length co20 : Value).ownBlock ∧ k_ ≠ gb403) v399 t397) := ⟨by rw [← hq_];exact (by (with_reducible repeat (first|apply Kd.R_alloc|apply Kd.R_drewN|apply Kd.R_drew));exact HO_9.out)⟩;have n4_ : Aside0 (w50.heap[gb403]? = some (.cells #[.int .i64 ((rd_T30 t388 ((rd_T59 t383 x11_2).f1)).f0),.int .i64 ((rd_T30 t388 ((rd_T59 t383 x11_2).f1)).f1)] 30 (0,0))) := ⟨by rw [← hq_];exact (by (with_reducible repeat (first|refine blk_drewN ?_ _|refine blk_drew ?_|refine blk_alloc ?_ _));exact BK403.out)⟩;have n5_ : Aside0 (Below w.heap.size w w50) := ⟨by rw [← hq_];exact (by repeat (first|(with_reducible first|exact HB.out|apply below_alloc|apply pw_below_drewN|apply below_drew1|refine below_set ?_ GE403.out)|exact HB.out))⟩;clear HO_3 HO_4 HO_5 HO_9 BK403 HB hq_;have HO_3 := n0_;have HO_4 := n1_;have HO_5 := n2_;have HO_9 := n3_;have BK403 := n4_;have HB := n5_;clear n0_ n1_ n2_ n3_ n4_ n5_))
                try go_wp2
                go_meet
                case rel => exact ⟨_,(false),(by first|rfl|(simp;done)|(simp [*];done)),H',⟨by have := HJ6.out;have := HK2.out;first|omega|exact Nat.le_refl _⟩,⟨by (with_reducible repeat (first|apply Kd.Q_alloc|apply Kd.Q_drewN|apply Kd.Q_drew));exact HO_3.out⟩,⟨by (with_reducible repeat (first|apply Kd.R_alloc|apply Kd.R_drewN|apply Kd.R_drew));exact HO_4.out⟩,⟨by (with_reducible repeat (first|apply Kd.R_alloc|apply Kd.R_drewN|apply Kd.R_drew));exact HO_5.out⟩,⟨by (with_reducible repeat (first|apply Kd.R_alloc|apply Kd.R_drewN|apply Kd.R_drew));exact HO_9.out⟩,⟨by (with_reducible repeat (first|refine blk_drewN ?_ _|refine blk_drew ?_|refine blk_alloc ?_ _));exact BK403.out⟩,⟨by repeat (first|(with_reducible first|exact HB.out|apply below_alloc|apply pw_below_drewN|apply below_drew1|refine below_set ?_ GE403.out)|exact HB.out)⟩⟩
              ·rw [if_neg c37] at H
               exact absurd H (by simp)
             case rest =>
              clear HC32
              try clear c2
              try clear p2
              try clear c3
              try clear c4
              try clear p4
              try clear q4
              try clear hx4
              try clear c28
              try clear c29
              try clear c37
              try clear c39
              try clear c39b0
              try clear c39b1
              try clear p40
              try clear q40
              try clear hx40
              try clear c45
              try clear hx406_0
              try clear hx406_1
              try clear hx406_2
              try clear hx406_3
              try clear hx406_4
              try clear hx407_0
              try clear hx407_1
              try clear hx409_0
              try clear hx409_1
              try clear hx409_2
              try clear hx409_3
              try clear hx409_4
              try clear p406
              try clear p407
              try clear p409
              try clear q406
              try clear q407
              try clear q409
              obtain ⟨kq,x123_31,rfl,HA,HJ31,HO_3,HO_4,HO_5,HO_9,BK403,HB⟩ := hcut
              cases kq with
              | zero => exact absurd HA.out (by simp [laws_FnInstalled.j2])
              | succ kj31 =>
               have H := HA.out
               clear HA
               simp only [laws_FnInstalled.j2] at H
               by_cases c51 : x123_31 = true
               ·subst c51
                have H1 : (some false) = some r := by rw [if_pos rfl] at H;exact H
                clear H
                have H := H1
                clear H1
                obtain rfl := Option.some.inj H
                go_wp2
                go_ret
                exact ⟨by first|rfl|(simp [errW_none,errW_some] <;> rfl)|(simp [*,errW_none,errW_some] <;> rfl),by repeat (first|(with_reducible first|exact HB.out|apply below_alloc|apply pw_below_drewN|apply below_drew1|refine below_set ?_ GE403.out)|exact HB.out)⟩
               ·replace c51 := Bool.eq_false_iff.mpr c51
                subst c51
                have H1 : (laws_FnInstalled.l0 kj31 t382 t383 t388 t397 t398 (wrap64 (x11_2 + 1))) = some r := by rw [if_neg (show ¬ (false = true) by decide)] at H;exact H
                clear H
                have H := H1
                clear H1
                have H' := Aside0.mk H
                clear H
                go_wp2
                go_roundg kj31
                case measure => have := HJ6.out;have := HK2.out;have := HJ31.out;omega
                case rel => exact ⟨(wrap64 (x11_2 + 1)),(by first|rfl|(simp;done)|(simp [*];done)),H',⟨by have := HJ6.out;have := HK2.out;have := HJ31.out;omega⟩,⟨by (with_reducible repeat (first|apply Kd.Q_alloc|apply Kd.Q_drewN|apply Kd.Q_drew));exact Kd.Q_mono HO_3.out (fun _ hk => ⟨hk.1,hk.2.1⟩)⟩,⟨by (with_reducible repeat (first|apply Kd.R_alloc|apply Kd.R_drewN|apply Kd.R_drew));exact HO_4.out⟩,⟨by (with_reducible repeat (first|apply Kd.R_alloc|apply Kd.R_drewN|apply Kd.R_drew));exact Kd.R_mono HO_5.out (fun _ hk => ⟨hk.1,hk.2.1⟩)⟩,⟨by (with_reducible repeat (first|apply Kd.R_alloc|apply Kd.R_drewN|apply Kd.R_drew));exact Kd.R_mono HO_9.out (fun _ hk => ⟨hk.1,hk.2.1⟩)⟩,⟨by repeat (first|(with_reducible first|exact HB.out|apply below_alloc|apply pw_below_drewN|apply below_drew1|refine below_set ?_ GE403.out)|exact HB.out)⟩⟩
           ·rw [if_neg c25] at H
            exact absurd H (by simp)
          ·rw [if_neg c24] at H
           exact absurd H (by simp)
         ·rw [if_neg c23] at H
          exact absurd H (by simp)
        ·rw [if_neg c22] at H
         have c22b0 : decide (x11_2 < (t383.length : Int)) = false := decide_eq_false c22
         clear c22
         by_cases c52 : t398 = true
         ·subst c52
          have H1 : ((laws_likeCells.f k2 t397 t388).bind fun t415 => (if t415 = true then ((impl_CellsOk.f t388).bind fun t416 => (some t416)) else (some false))) = some r := by rw [if_pos rfl] at H;exact H
          clear H
          have H := H1
          clear H1
          replace H := Option.bind_eq_some_iff.mp H
          obtain ⟨t415,A530,H⟩ := H
          replace H : (if t415 = true then ((impl_CellsOk.f t388).bind fun t416 => (some t416)) else (some false)) = some r := H
          have A53 := Aside0.mk A530
          clear A530
          by_cases c54 : t415 = true
          ·subst c54
           have H1 : ((impl_CellsOk.f t388).bind fun t416 => (some t416)) = some r := by rw [if_pos rfl] at H;exact H
           clear H
           have H := H1
           clear H1
           replace H := Option.bind_eq_some_iff.mp H
           obtain ⟨t416,A550,H⟩ := H
           replace H : (some t416) = some r := H
           have A55 := Aside0.mk A550
           clear A550
           obtain rfl := Option.some.inj H
           obtain ⟨Ao56,co56,eo56⟩ := Kd.R_slice HO_9.out
           subst eo56
           go_wp2_with (first|(go_at_call 43;(with_reducible refine (laws_likeCells.calls k2 _ _ t397 _ _ t388 true _ ?side1 ?side2 ?side3 ?side4 A53.out).mono ?_);(case side1 => repeat (first|exact (Kd.R_reads' HO_9.out).2.2|(with_reducible refine Kd.C_alloc ?_ _)|(with_reducible refine Kd.C_drewN ?_ _)|(with_reducible refine Kd.C_drew ?_)));(case side2 => exact (Kd.R_reads' HO_9.out).2.1);(case side3 => repeat (first|exact (Kd.R_reads' HO_5.out).2.2|(with_reducible refine Kd.C_alloc ?_ _)|(with_reducible refine Kd.C_drewN ?_ _)|(with_reducible refine Kd.C_drew ?_)));(case side4 => exact (Kd.R_reads' HO_5.out).2.1);rintro e w' ⟨rfl,⟨nd,rfl⟩⟩)|(go_at_call 17;(with_reducible refine (impl_CellsOk.calls _ _ t388 t416 _ ?side1 ?side2 A55.out).mono ?_);(case side1 => repeat (first|exact (Kd.R_reads' HO_5.out).2.2|(with_reducible refine Kd.C_alloc ?_ _)|(with_reducible refine Kd.C_drewN ?_ _)|(with_reducible refine Kd.C_drew ?_)));(case side2 => exact (Kd.R_reads' HO_5.out).2.1);rintro e w57 ⟨rfl,hb⟩;have n0_ := Aside0.mk (Kd.Q_below (by (with_reducible repeat (first|apply Kd.Q_alloc|apply Kd.Q_drewN|apply Kd.Q_drew));exact HO_3.out) hb);have n1_ := Aside0.mk (Kd.R_below (by (with_reducible repeat (first|apply Kd.R_alloc|apply Kd.R_drewN|apply Kd.R_drew));exact HO_4.out) hb);have n2_ := Aside0.mk (Kd.R_below (by (with_reducible repeat (first|apply Kd.R_alloc|apply Kd.R_drewN|apply Kd.R_drew));exact HO_5.out) hb);have n3_ := Aside0.mk (Kd.R_below (by (with_reducible repeat (first|apply Kd.R_alloc|apply Kd.R_drewN|apply Kd.R_drew));exact HO_9.out) hb);have n4_ := Aside0.mk (below_step (by repeat (first|(with_reducible first|exact HB.out|apply below_alloc|apply pw_below_drewN|apply below_drew1)|exact HB.out)) hb);clear HO_3;clear HO_4;clear HO_5;clear HO_9;clear HB;have HO_3 := n0_;have HO_4 := n1_;have HO_5 := n2_;have HO_9 := n3_;have HB := n4_;clear n0_ n1_ n2_ n3_ n4_;(try clear hb);(try clear hb2);(try clear hk);(try clear hi)))
           go_ret
           exact ⟨by first|rfl|(simp [errW_none,errW_some] <;> rfl)|(simp [*,errW_none,errW_some] <;> rfl),by repeat (first|(with_reducible first|exact HB.out|apply below_alloc|apply pw_below_drewN|apply below_drew1)|exact HB.out)⟩
          ·replace c54 := Bool.eq_false_iff.mpr c54
           subst c54
           have H1 : (some false) = some r := by rw [if_neg (show ¬ (false = true) by decide)] at H;exact H
           clear H
           have H := H1
           clear H1
           obtain rfl := Option.some.inj H
           obtain ⟨Ao58,co58,eo58⟩ := Kd.R_slice HO_9.out
           subst eo58
           go_wp2_with (first|(go_at_call 43;(with_reducible refine (laws_likeCells.calls k2 _ _ t397 _ _ t388 false _ ?side1 ?side2 ?side3 ?side4 A53.out).mono ?_);(case side1 => repeat (first|exact (Kd.R_reads' HO_9.out).2.2|(with_reducible refine Kd.C_alloc ?_ _)|(with_reducible refine Kd.C_drewN ?_ _)|(with_reducible refine Kd.C_drew ?_)));(case side2 => exact (Kd.R_reads' HO_9.out).2.1);(case side3 => repeat (first|exact (Kd.R_reads' HO_5.out).2.2|(with_reducible refine Kd.C_alloc ?_ _)|(with_reducible refine Kd.C_drewN ?_ _)|(with_reducible refine Kd.C_drew ?_)));(case side4 => exact (Kd.R_reads' HO_5.out).2.1);rintro e w' ⟨rfl,⟨nd,rfl⟩⟩))
           go_ret
           exact ⟨by first|rfl|(simp [errW_none,errW_some] <;> rfl)|(simp [*,errW_none,errW_some] <;> rfl),by repeat (first|(with_reducible first|exact HB.out|apply below_alloc|apply pw_below_drewN|apply below_drew1)|exact HB.out)⟩
         ·replace c52 := Bool.eq_false_iff.mpr c52
          subst c52
          have H1 : (some false) = some r := by rw [if_neg (show ¬ (false = true) by decide)] at H;exact H
          clear H
          have H := H1
          clear H1
          obtain rfl := Option.some.inj H
          go_wp2
          go_ret
          exact ⟨by first|rfl|(simp [errW_none,errW_some] <;> rfl)|(simp [*,errW_none,errW_some] <;> rfl),by repeat (first|(with_reducible first|exact HB.out|apply below_alloc|apply pw_below_drewN|apply below_drew1)|exact HB.out)⟩
     ·replace c18 := Bool.eq_false_iff.mpr c18
      subst c18
      have H1 : (some ((t388.length : Int) == 0)) = some r := by rw [if_neg (show ¬ (false = true) by decide)] at H;exact H
      clear H
      have H := H1
      clear H1
      obtain rfl := Option.some.inj H
      obtain ⟨Ao59,co59,eo59⟩ := Kd.R_slice HO_5.out
      subst eo59
      go_wp2
      go_ret
      exact ⟨by first|rfl|(simp [errW_none,errW_some] <;> rfl)|(simp [*,errW_none,errW_some] <;> rfl),by repeat (first|(with_reducible first|exact HB.out|apply below_alloc|apply pw_below_drewN|apply below_drew1)|exact HB.out)⟩

end Go.Proofs.Ytgdfbjmjgegicaa.XIs
