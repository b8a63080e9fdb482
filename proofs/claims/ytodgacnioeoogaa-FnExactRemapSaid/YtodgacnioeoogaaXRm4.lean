/- Proved: of each Go function here that a call comes to what the Lean function of its name tells. Written by a program of this session over the translation. No conditions beyond each theorem's own. -/
import Derived.Test.YtodgacnioeoogaaXRm0
import Derived.Test.YtodgacnioeoogaaXRm2
import Derived.Test.YtodgacnioeoogaaXRm3
namespace Go.Proofs.Ytodgacnioeoogaa.XRm
open Go.RowKit Go.Proofs.Ytodgacnioeoogaa.Aid Go.Proofs.YtodgacnioeoogaaW.PrintWords Go.Proofs.YtodgacnioeoogaaW.PrintLast Go.Proofs.YtodgacnioeoogaaW.PrintMore
set_option linter.unusedVariables false
set_option linter.unusedSimpArgs false

/-! ### spec_Remap: function 68 -/
mutual
def spec_Remap.j0 : Nat → List (S97) → List Bool → List Int → List (S97) → Bool → Option ((List (S97)) × List Int)
  | 0, _, _, _, _, _ => none
  | k + 1, x0, x1, x6, x7, x21 => if x21 = true then (some (x7, x6)) else (spec_Remap.l0 k x0 x1 x6 x7 0)
def spec_Remap.l0 : Nat → List (S97) → List Bool → List Int → List (S97) → Int → Option ((List (S97)) × List Int)
  | 0, _, _, _, _, _ => none
  | k + 1, x0, x1, x6, x7, x8 => if x8 < (x0.length : Int) then (spec_Remap.l1 k x0 x1 x6 x7 x8 0 ([] : List Int)) else (some (x7, x6))
def spec_Remap.l1 : Nat → List (S97) → List Bool → List Int → List (S97) → Int → Int → List Int → Option ((List (S97)) × List Int)
  | 0, _, _, _, _, _, _, _ => none
  | k + 1, x0, x1, x6, x7, x8, x10, x153000 => if 0 ≤ x8 then (if x8 < (x0.length : Int) then (if x10 < (((rd_T97 x0 x8).f0).length : Int) then (if 0 ≤ x10 then ((spec_l5Lives.f x1 (rd ((rd_T97 x0 x8).f0) x10)).bind fun t156 => (if t156 = true then (if x153000.length < 17592186044416 then (spec_Remap.l1 k x0 x1 x6 x7 x8 (wrap64 (x10 + 1)) (x153000 ++ [rd ((rd_T97 x0 x8).f0) x10])) else (none)) else (spec_Remap.l1 k x0 x1 x6 x7 x8 (wrap64 (x10 + 1)) x153000))) else (none)) else (if (x153000.length : Int) = 0 then (if x6.length < 17592186044416 then ((some (([] : List Int) : List Int)).bind fun y165 => (if y165.length + ((rd_T97 x0 x8).f0).length < 17592186044416 then (if x7.length < 5864062014805 then (spec_Remap.l0 k x0 x1 (x6 ++ [x8]) (x7 ++ [(⟨(y165 ++ ((rd_T97 x0 x8).f0))⟩ : S97)]) (wrap64 (x8 + 1))) else (none)) else (none))) else (none)) else (spec_Remap.l2 k x0 x1 x6 x7 x8 0 x153000))) else (none)) else (none)
def spec_Remap.l2 : Nat → List (S97) → List Bool → List Int → List (S97) → Int → Int → List Int → Option ((List (S97)) × List Int)
  | 0, _, _, _, _, _, _, _ => none
  | k + 1, x0, x1, x6, x7, x8, x11, x153000 => if x11 < (x1.length : Int) then (spec_Remap.j4 k x0 x1 x6 x7 x8 x11 (decide ((x153000.length : Int) < 3)) x153000) else (spec_Remap.j4 k x0 x1 x6 x7 x8 x11 false x153000)
def spec_Remap.j4 : Nat → List (S97) → List Bool → List Int → List (S97) → Int → Int → Bool → List Int → Option ((List (S97)) × List Int)
  | 0, _, _, _, _, _, _, _, _ => none
  | k + 1, x0, x1, x6, x7, x8, x11, x92, x153000 => if x92 = true then (if 0 ≤ x11 then (if x11 < (x1.length : Int) then (if rdOf false x1 x11 = true then ((spec_l3Has.f k x153000 x11).bind fun t176 => (if t176 = true then (spec_Remap.l2 k x0 x1 x6 x7 x8 (wrap64 (x11 + 1)) x153000) else (if x153000.length < 17592186044416 then (spec_Remap.l2 k x0 x1 x6 x7 x8 (wrap64 (x11 + 1)) (x153000 ++ [x11])) else (none)))) else (spec_Remap.l2 k x0 x1 x6 x7 x8 (wrap64 (x11 + 1)) x153000)) else (none)) else (none)) else (if x7.length < 5864062014805 then (spec_Remap.l0 k x0 x1 x6 (x7 ++ [(⟨x153000⟩ : S97)]) (wrap64 (x8 + 1))) else (none))
end
def spec_Remap.f (k : Nat) (l0 : List (S97)) (l1 : List Bool) : Option ((List (S97)) × List Int) := (some (([] : List Int) : List Int)).bind fun y145 => ((some (([] : List (S97)) : List (S97))).bind fun y148 => ((spec_PlacesOk.f k l0).bind fun t151 => (if t151 = true then (spec_Remap.j0 k l0 l1 y145 y148 (decide ((l1.length : Int) > 8))) else (spec_Remap.j0 k l0 l1 y145 y148 true))))

def spec_Remap.T13 : Bool × List (List Nat × List Nat) := (true, [([], []), ([0], [0]), ([], []), ([], []), ([2, 3], [2, 3]), ([4], [4]), ([5], [5]), ([], []), ([6, 7], [6, 7]), ([8], [8]), ([9], [9]), ([1, 10], [1, 10]), ([0, 1, 2, 3, 4, 5, 6, 7, 8, 9, 10, 11], []), ([12, 11, 11, 0, 1, 2, 3, 4, 5, 6, 7, 8, 9, 10, 11], [11, 12])])
def spec_Remap.B13 : List Nat := [0, 1, 0, 0, 12, 28, 60, 0, 252, 508, 1020, 2047, 4095, 8191]
theorem spec_Remap.tab13 : rtab .any (opsOf Try.f68 13) = spec_Remap.T13 := by kernel_rfl
theorem spec_Remap.bits13 : waitsOk spec_Remap.T13.2 spec_Remap.B13 = true := by kernel_rfl
set_option maxHeartbeats 8000000 in
set_option maxRecDepth 100000 in
theorem spec_Remap.calls (k : Nat) (A0 : Option Addr) (c0 : Nat) (l0 : List (S97)) (A1 : Option Addr) (c1 : Nat) (l1 : List Bool) (r1 : List (S97)) (r2 : List Int) (w : World) (hr0 : Kd.C k97 w A0 l0.length l0) (hc0 : l0.length ≤ c0) (hr1 : Kd.C Kd.bool w A1 l1.length l1) (hc1 : l1.length ≤ c1) (h : spec_Remap.f k l0 l1 = some (r1, r2)) :
    Calls Try.prog 68 #[.slice A0 l0.length c0, .slice A1 l1.length c1] w fun e w' => ∃ v0_ v1_ : Value, e = .returned (.tuple #[v0_, v1_]) ∧ Kd.S k97 97 w' w.heap.size (fun k_ => some k_ ≠ (v1_ : Value).ownBlock) v0_ r1 ∧ Kd.R (Kd.int .i64) 2 w' w.heap.size (fun _ => True) v1_ r2 ∧ Below w.heap.size w w' := by
 have hu97 := Try.underlying97
 have HR0 := Aside0.mk hr0
 have HC0 := Aside0.mk hc0
 clear hr0 hc0
 have HR1 := Aside0.mk hr1
 have HC1 := Aside0.mk hc1
 clear hr1 hc1
 have HB := Aside0.mk (Below.refl w.heap.size w)
 have H : ((some (([] : List Int) : List Int)).bind fun y145 => ((some (([] : List (S97)) : List (S97))).bind fun y148 => ((spec_PlacesOk.f k l0).bind fun t151 => (if t151 = true then (spec_Remap.j0 k l0 l1 y145 y148 (decide ((l1.length : Int) > 8))) else (spec_Remap.j0 k l0 l1 y145 y148 true))))) = some (r1,r2) := h
 clear h
 obtain ⟨y145,hy145⟩ : ∃ y_ : List Int,y_ = (([] : List Int)) := ⟨_,rfl⟩
 replace H : ((some (([] : List (S97)) : List (S97))).bind fun y148 => ((spec_PlacesOk.f k l0).bind fun t151 => (if t151 = true then (spec_Remap.j0 k l0 l1 y145 y148 (decide ((l1.length : Int) > 8))) else (spec_Remap.j0 k l0 l1 y145 y148 true)))) = some (r1,r2) := by first|(rw [hy145];with_reducible exact H)|(have H2_ := (Option.bind_some _ _).symm.trans H;rw [hy145];with_reducible exact H2_)|(have H2_ := (Option.bind_some _ _).symm.trans H;with_reducible exact H2_)|with_reducible exact H|(rw [hy145];exact H)|exact H
 have Ny145 := Aside0.mk hy145
 clear hy145
 obtain ⟨y148,hy148⟩ : ∃ y_ : List (S97),y_ = (([] : List (S97))) := ⟨_,rfl⟩
 replace H : ((spec_PlacesOk.f k l0).bind fun t151 => (if t151 = true then (spec_Remap.j0 k l0 l1 y145 y148 (decide ((l1.length : Int) > 8))) else (spec_Remap.j0 k l0 l1 y145 y148 true))) = some (r1,r2) := by first|(rw [hy148];with_reducible exact H)|(have H2_ := (Option.bind_some _ _).symm.trans H;rw [hy148];with_reducible exact H2_)|(have H2_ := (Option.bind_some _ _).symm.trans H;with_reducible exact H2_)|with_reducible exact H|(rw [hy148];exact H)|exact H
 have Ny148 := Aside0.mk hy148
 clear hy148
 have HC3 := Aside0.mk H
 clear H
 go_enter Try.func68,Try.ntmps68
 go_upto_region 3 with (first|((with_reducible refine gate_dst (N := 12) rfl ?_);(try (refine gate_guard (by rfl) ?_;dsimp only));refine Kd.R_lit (Kd.int .i64) _ 2 ?hg (N := 12) ?hd (xs := ([] : List Int)) (inner := []) (ok := fun _ => True) (okp := fun _ => True) ?hr ?hp (fun _ hk => hk) trivial (Below.refl _ _) (Nat.le_refl _) (by simp) ?_;(case hd => rfl);(case hg => rfl);(case hr => first|(go_simp;done)|(go_simp;rfl));(case hp => exact (Reps.none _ _));intro v146 w4 ho5 hb hg_ hnew_;clear hg_ hnew_;(first|rw [← Ny145.out] at ho5|(simp only [Int.reduceToNat] at ho5;rw [← Ny145.out] at ho5));have n0_ := Aside0.mk (Kd.R_lower ho5 (below_size (by repeat (first|(with_reducible first|exact HB.out|apply below_alloc|apply pw_below_drewN|apply below_drew1)|exact HB.out))));have n1_ := Aside0.mk (below_step (by repeat (first|(with_reducible first|exact HB.out|apply below_alloc|apply pw_below_drewN|apply below_drew1)|exact HB.out)) hb);clear HB;have HO147 := n0_;have HB := n1_;clear n0_ n1_;clear hb ho5)|((with_reducible refine gate_dst (N := 13) rfl ?_);(try (refine gate_guard (by rfl) ?_;dsimp only));refine Kd.S_lit k97 _ 97 ?hg (N := 13) ?hd (xs := ([] : List (S97))) (inner := []) (ok := fun _ => True) (okp := fun _ => True) ?hr ?hp (fun _ hk => hk) trivial (Below.refl _ _) (Nat.le_refl _) (by simp) ?_;(case hd => rfl);(case hg => rfl);(case hr => first|(go_simp;done)|(go_simp;rfl));(case hp => exact (Reps.none _ _));intro v149 w6 ho7 hb hg_ hnew_;clear hg_ hnew_;(first|rw [← Ny148.out] at ho7|(simp only [Int.reduceToNat] at ho7;rw [← Ny148.out] at ho7));have n0_ := Aside0.mk (Kd.R_below (by (with_reducible repeat (first|apply Kd.R_alloc|apply Kd.R_drewN|apply Kd.R_drew));exact HO147.out) hb);have n1_ := Aside0.mk (Kd.S_lower (Kd.S_new' ho7 (Kd.R_lt (by (with_reducible repeat (first|apply Kd.R_alloc|apply Kd.R_drewN|apply Kd.R_drew));exact HO147.out))) (below_size (by repeat (first|(with_reducible first|exact HB.out|apply below_alloc|apply pw_below_drewN|apply below_drew1)|exact HB.out))));have n2_ := Aside0.mk (below_step (by repeat (first|(with_reducible first|exact HB.out|apply below_alloc|apply pw_below_drewN|apply below_drew1)|exact HB.out)) hb);clear HO147;clear HB;have HO147 := n0_;have HO150 := n1_;have HB := n2_;clear n0_ n1_ n2_;clear hb ho7))
 (try simp only [Act.put,List.setIfInBounds_toArray,List.set_cons_zero,List.set_cons_succ])
 go_cut [21] (fun v21 wc => ∃ (kq : Nat) (x21_2 : Bool),v21 = .bool x21_2 ∧ Aside0 (spec_Remap.j0 kq l0 l1 y145 y148 x21_2 = some (r1,r2)) ∧ Aside0 (kq ≤ k) ∧ Aside0 (Kd.R (Kd.int .i64) 2 wc w.heap.size (fun _ => True) v146 y145) ∧ Aside0 (Kd.S k97 97 wc w.heap.size (fun k_ => some k_ ≠ (v146 : Value).ownBlock) v149 y148) ∧ Aside0 (Below w.heap.size w wc))
 case first =>
  have H := HC3.out
  clear HC3
  replace H := Option.bind_eq_some_iff.mp H
  obtain ⟨t151,A80,H⟩ := H
  replace H : (if t151 = true then (spec_Remap.j0 k l0 l1 y145 y148 (decide ((l1.length : Int) > 8))) else (spec_Remap.j0 k l0 l1 y145 y148 true)) = some (r1,r2) := H
  have A8 := Aside0.mk A80
  clear A80
  by_cases c9 : t151 = true
  ·subst c9
   have H1 : (spec_Remap.j0 k l0 l1 y145 y148 (decide ((l1.length : Int) > 8))) = some (r1,r2) := by rw [if_pos rfl] at H;exact H
   clear H
   have H := H1
   clear H1
   have H' := Aside0.mk H
   clear H
   go_wp2_with (first|((with_reducible refine gcal_ (f := 49) rfl ?_);refine goesL_ (some 15) rfl rfl Try.func49 (by kernel_rfl) rfl #[.slice A0 l0.length c0] rfl (by (try simp only [List.map_toArray,List.map_cons,List.map_nil]);first|done|rfl|(simp only [List.length_drop,List.length_take];rfl)) ?_;(with_reducible refine (spec_PlacesOk.calls k _ _ l0 true _ ?side1 ?side2 A8.out).mono ?_);(case side1 => repeat (first|exact (Kd.C_below HR0.out HB.out)|(with_reducible refine Kd.C_alloc ?_ _)|(with_reducible refine Kd.C_drewN ?_ _)|(with_reducible refine Kd.C_drew ?_)));(case side2 => exact HC0.out);rintro e w10 ⟨rfl,hb⟩;refine ⟨_,rfl,?_⟩;have n0_ := Aside0.mk (Kd.R_below (by (with_reducible repeat (first|apply Kd.R_alloc|apply Kd.R_drewN|apply Kd.R_drew));exact HO147.out) hb);have n1_ := Aside0.mk (Kd.S_below (by (with_reducible repeat (first|apply Kd.S_alloc|apply Kd.S_drewN|apply Kd.S_drew));exact HO150.out) hb);have n2_ := Aside0.mk (below_step (by repeat (first|(with_reducible first|exact HB.out|apply below_alloc|apply pw_below_drewN|apply below_drew1)|exact HB.out)) hb);clear HO147;clear HO150;clear HB;have HO147 := n0_;have HO150 := n1_;have HB := n2_;clear n0_ n1_ n2_;(try clear hb);(try clear hb2);(try clear hk);(try clear hi)))
   go_meet
   case rel => exact ⟨_,(decide ((l1.length : Int) > 8)),(by first|rfl|(simp;done)|(simp [*];done)),H',⟨by first|omega|exact Nat.le_refl _⟩,⟨by (with_reducible repeat (first|apply Kd.R_alloc|apply Kd.R_drewN|apply Kd.R_drew));exact HO147.out⟩,⟨by (with_reducible repeat (first|apply Kd.S_alloc|apply Kd.S_drewN|apply Kd.S_drew));exact Kd.S_mono HO150.out (fun _ hk => hk.2)⟩,⟨by repeat (first|(with_reducible first|exact HB.out|apply below_alloc|apply pw_below_drewN|apply below_drew1)|exact HB.out)⟩⟩
  ·replace c9 := Bool.eq_false_iff.mpr c9
   subst c9
   have H1 : (spec_Remap.j0 k l0 l1 y145 y148 true) = some (r1,r2) := by rw [if_neg (show ¬ (false = true) by decide)] at H;exact H
   clear H
   have H := H1
   clear H1
   have H' := Aside0.mk H
   clear H
   go_wp2_with (first|((with_reducible refine gcal_ (f := 49) rfl ?_);refine goesL_ (some 15) rfl rfl Try.func49 (by kernel_rfl) rfl #[.slice A0 l0.length c0] rfl (by (try simp only [List.map_toArray,List.map_cons,List.map_nil]);first|done|rfl|(simp only [List.length_drop,List.length_take];rfl)) ?_;(with_reducible refine (spec_PlacesOk.calls k _ _ l0 false _ ?side1 ?side2 A8.out).mono ?_);(case side1 => repeat (first|exact (Kd.C_below HR0.out HB.out)|(with_reducible refine Kd.C_alloc ?_ _)|(with_reducible refine Kd.C_drewN ?_ _)|(with_reducible refine Kd.C_drew ?_)));(case side2 => exact HC0.out);rintro e w11 ⟨rfl,hb⟩;refine ⟨_,rfl,?_⟩;have n0_ := Aside0.mk (Kd.R_below (by (with_reducible repeat (first|apply Kd.R_alloc|apply Kd.R_drewN|apply Kd.R_drew));exact HO147.out) hb);have n1_ := Aside0.mk (Kd.S_below (by (with_reducible repeat (first|apply Kd.S_alloc|apply Kd.S_drewN|apply Kd.S_drew));exact HO150.out) hb);have n2_ := Aside0.mk (below_step (by repeat (first|(with_reducible first|exact HB.out|apply below_alloc|apply pw_below_drewN|apply below_drew1)|exact HB.out)) hb);clear HO147;clear HO150;clear HB;have HO147 := n0_;have HO150 := n1_;have HB := n2_;clear n0_ n1_ n2_;(try clear hb);(try clear hb2);(try clear hk);(try clear hi)))
   go_meet
   case rel => exact ⟨_,(true),(by first|rfl|(simp;done)|(simp [*];done)),H',⟨by first|omega|exact Nat.le_refl _⟩,⟨by (with_reducible repeat (first|apply Kd.R_alloc|apply Kd.R_drewN|apply Kd.R_drew));exact HO147.out⟩,⟨by (with_reducible repeat (first|apply Kd.S_alloc|apply Kd.S_drewN|apply Kd.S_drew));exact Kd.S_mono HO150.out (fun _ hk => hk.2)⟩,⟨by repeat (first|(with_reducible first|exact HB.out|apply below_alloc|apply pw_below_drewN|apply below_drew1)|exact HB.out)⟩⟩
 case rest =>
  clear HC3
  try clear c1
  try clear p2
  try clear c4
  try clear c6
  try clear c9
  obtain ⟨kq,x21_2,rfl,HA,HJ2,HO_6,HO_7,HB⟩ := hcut
  cases kq with
    | zero => exact absurd HA.out (by simp [spec_Remap.j0])
    | succ kj2 =>
   have H := HA.out
   clear HA
   simp only [spec_Remap.j0] at H
   by_cases c12 : x21_2 = true
   ·subst c12
    have H1 : (some (y148,y145)) = some (r1,r2) := by rw [if_pos rfl] at H;exact H
    clear H
    have H := H1
    clear H1
    simp only [Option.some.injEq,Prod.mk.injEq] at H
    obtain ⟨rfl,rfl⟩ := H
    go_wp2
    go_ret2
    exact ⟨_,_,by first|rfl|(simp [errW_none,errW_some] <;> rfl)|(simp [*,errW_none,errW_some] <;> rfl),by (with_reducible repeat (first|apply Kd.S_alloc|apply Kd.S_drewN|apply Kd.S_drew));exact HO_7.out,by (with_reducible repeat (first|apply Kd.R_alloc|apply Kd.R_drewN|apply Kd.R_drew));exact HO_6.out,by repeat (first|(with_reducible first|exact HB.out|apply below_alloc|apply pw_below_drewN|apply below_drew1)|exact HB.out)⟩
   ·replace c12 := Bool.eq_false_iff.mpr c12
    subst c12
    have H1 : (spec_Remap.l0 kj2 l0 l1 y145 y148 0) = some (r1,r2) := by rw [if_neg (show ¬ (false = true) by decide)] at H;exact H
    clear H
    have H := H1
    clear H1
    have H' := Aside0.mk H
    clear H
    go_wp2
    go_loopg [6,7,8] kj2 (fun kq v6 v7 v8 w' => ∃ (x6_2 : List Int) (x7_2 : List (S97)) (x8_2 : Int),v8 = .int .i64 x8_2 ∧ Aside0 (spec_Remap.l0 kq l0 l1 x6_2 x7_2 x8_2 = some (r1,r2)) ∧ Aside0 (kq ≤ kj2) ∧ Aside0 (Kd.R (Kd.int .i64) 2 w' w.heap.size (fun _ => True) v6 x6_2) ∧ Aside0 (Kd.S k97 97 w' w.heap.size (fun k_ => some k_ ≠ (v6 : Value).ownBlock) v7 x7_2) ∧ Aside0 (Below w.heap.size w w'))
    case atStart => exact ⟨(y145),(y148),(0),(by first|rfl|(simp;done)|(simp [*];done)),H',⟨Nat.le_refl _⟩,⟨by (with_reducible repeat (first|apply Kd.R_alloc|apply Kd.R_drewN|apply Kd.R_drew));exact HO_6.out⟩,⟨by (with_reducible repeat (first|apply Kd.S_alloc|apply Kd.S_drewN|apply Kd.S_drew));exact HO_7.out⟩,⟨by repeat (first|(with_reducible first|exact HB.out|apply below_alloc|apply pw_below_drewN|apply below_drew1)|exact HB.out)⟩⟩
    case round =>
     clear H'
     try clear c1
     try clear p2
     try clear c4
     try clear c6
     try clear c9
     try clear c12
     try clear p2
     obtain ⟨x6_2,x7_2,x8_2,rfl,HA,HK2,HO_6,HO_7,HB⟩ := hrel
     cases gk with
     | zero => exact absurd HA.out (by simp [spec_Remap.l0])
     | succ k2 =>
      have H := HA.out
      clear HA
      simp only [spec_Remap.l0] at H
      by_cases c13 : x8_2 < (l0.length : Int)
      ·rw [if_pos c13] at H
       have c13b0 : decide (x8_2 < (l0.length : Int)) = true := decide_eq_true c13
       clear c13
       have H' := Aside0.mk H
       clear H
       go_wp2_with (first|((with_reducible refine gate_dst (N := 9) rfl ?_);(try (refine gate_guard (by rfl) ?_;dsimp only));refine box_event ?hg (N := 9) ?hd (cs := #[.slice none 0 0]) (t := 97) ?hr ?_;(case hd => rfl);(case hg => rfl);(case hr => first|(go_simp;done)|(go_simp;rfl));intro gb152 hg w14 hbox hb;have n0_ := Aside0.mk (Kd.R_below (by (with_reducible repeat (first|apply Kd.R_alloc|apply Kd.R_drewN|apply Kd.R_drew));exact HO_6.out) hb);have n1_ := Aside0.mk (Kd.S_below (Kd.S_elderB (by (with_reducible repeat (first|apply Kd.S_alloc|apply Kd.S_drewN|apply Kd.S_drew));exact HO_7.out) gb152 (Nat.le_of_eq hg.symm)) hb);have n2_ := Aside0.mk (below_step (by repeat (first|(with_reducible first|exact HB.out|apply below_alloc|apply pw_below_drewN|apply below_drew1)|exact HB.out)) hb);have n3_ := Aside0.mk (hbox);have n4_ := Aside0.mk ((by rw [hg];exact (below_size (by repeat (first|(with_reducible first|exact HB.out|apply below_alloc|apply pw_below_drewN|apply below_drew1)|exact HB.out))) : w.heap.size ≤ gb152));have n5_ := Aside0.mk ((by rw [hg];exact (below_size (by repeat (first|(with_reducible first|exact HB.out|apply below_alloc|apply pw_below_drewN|apply below_drew1)|exact HB.out))) : w.heap.size ≤ gb152));clear HO_6;clear HO_7;clear HB;have HO_6 := n0_;have HO_7 := n1_;have HB := n2_;have BK152 := n3_;have GW152 := n4_;have GE152 := n5_;clear n0_ n1_ n2_ n3_ n4_ n5_;clear hb hbox hg;have hcz15_0 : w14.cell? ⟨gb152,0,none⟩ = some (.slice none 0 0) := (blk_cell BK152.out 0).trans rfl;have hfz15_0 := blk_frozen BK152.out 0))
       go_loopg [10] k2 (fun kq v10 w' => ∃ (x10_3 : Int) (x153000_3 : List Int) (u153000 : Value),v10 = .int .i64 x10_3 ∧ Aside0 (spec_Remap.l1 kq l0 l1 x6_2 x7_2 x8_2 x10_3 x153000_3 = some (r1,r2)) ∧ Aside0 (kq ≤ k2) ∧ Aside0 (Kd.R (Kd.int .i64) 2 w' w.heap.size (fun k_ => some k_ ≠ (u153000 : Value).ownBlock) u6 x6_2) ∧ Aside0 (Kd.S k97 97 w' w.heap.size (fun k_ => some k_ ≠ (u6 : Value).ownBlock ∧ some k_ ≠ (u153000 : Value).ownBlock ∧ k_ ≠ gb152) u7 x7_2) ∧ Aside0 (Kd.R (Kd.int .i64) 2 w' w.heap.size (fun k_ => some k_ ≠ (u6 : Value).ownBlock) u153000 x153000_3) ∧ Aside0 (w'.heap[gb152]? = some (.cells #[u153000] 97 (0,0))) ∧ Aside0 (Below w.heap.size w w'))
       case atStart => exact ⟨(0),(([] : List Int)),(.slice none 0 0),(by first|rfl|(simp;done)|(simp [*];done)),H',⟨Nat.le_refl _⟩,⟨by (with_reducible repeat (first|apply Kd.R_alloc|apply Kd.R_drewN|apply Kd.R_drew));exact Kd.R_mono (Kd.R_far (p := ⟨gb152,0,none⟩) (Kd.R_types HO_6.out BK152.out (by decide)) (fun _ hk => hk.2) (.slice none 0 0)) (fun _ hk => (by simp [Value.ownBlock]))⟩,⟨by (with_reducible repeat (first|apply Kd.S_alloc|apply Kd.S_drewN|apply Kd.S_drew));exact Kd.S_mono (Kd.S_far (p := ⟨gb152,0,none⟩) (Kd.S_mono HO_7.out (fun k_ hk => (⟨hk,hk.2⟩ : _ ∧ k_ ≠ gb152))) (fun _ hk => hk.2) (.slice none 0 0)) (fun _ hk => ⟨hk.1.1,⟨(by simp [Value.ownBlock]),hk.1.2⟩⟩)⟩,⟨by first|exact Kd.R_nil _ _ _ _ _|exact Kd.N_nil _ _ _ _ _|exact Kd.V_nil _ _ _ _ _|exact Kd.Q_nil _ _ _ _ _|exact Kd.S_nil _ _ _ _ _⟩,⟨by (with_reducible repeat (first|refine blk_drewN ?_ _|refine blk_drew ?_|refine blk_alloc ?_ _));refine blk_put (cs := #[.slice none 0 0]) ?_ 0 _ rfl;(with_reducible repeat (first|refine blk_drewN ?_ _|refine blk_drew ?_|refine blk_alloc ?_ _));exact BK152.out⟩,⟨by repeat (first|(with_reducible first|exact HB.out|apply below_alloc|apply pw_below_drewN|apply below_drew1|refine below_set ?_ GE152.out)|exact HB.out)⟩⟩
       case round =>
        clear H'
        try clear c1
        try clear p2
        try clear c4
        try clear c6
        try clear c9
        try clear c12
        try clear c13
        try clear c13b0
        try clear hcz15_0
        try clear hfz15_0
        try clear p2
        obtain ⟨x10_3,x153000_3,u153000,rfl,HA,HK3,HO_6,HO_7,HO_153000,BK152,HB⟩ := hrel
        cases gk with
        | zero => exact absurd HA.out (by simp [spec_Remap.l1])
        | succ k3 =>
         have H := HA.out
         clear HA
         simp only [spec_Remap.l1] at H
         by_cases c16 : 0 ≤ x8_2
         ·rw [if_pos c16] at H
          have c16b0 : decide (0 ≤ x8_2) = true := decide_eq_true c16
          clear c16
          by_cases c17 : x8_2 < (l0.length : Int)
          ·rw [if_pos c17] at H
           have c17b0 : decide (x8_2 < (l0.length : Int)) = true := decide_eq_true c17
           clear c17
           by_cases c18 : x10_3 < (((rd_T97 l0 x8_2).f0).length : Int)
           ·rw [if_pos c18] at H
            have c18b0 : decide (x10_3 < (((rd_T97 l0 x8_2).f0).length : Int)) = true := decide_eq_true c18
            clear c18
            by_cases c19 : 0 ≤ x10_3
            ·rw [if_pos c19] at H
             have c19b0 : decide (0 ≤ x10_3) = true := decide_eq_true c19
             clear c19
             replace H := Option.bind_eq_some_iff.mp H
             obtain ⟨t156,A200,H⟩ := H
             replace H : (if t156 = true then (if x153000_3.length < 17592186044416 then (spec_Remap.l1 k3 l0 l1 x6_2 x7_2 x8_2 (wrap64 (x10_3 + 1)) (x153000_3 ++ [rd ((rd_T97 l0 x8_2).f0) x10_3])) else (none)) else (spec_Remap.l1 k3 l0 l1 x6_2 x7_2 x8_2 (wrap64 (x10_3 + 1)) x153000_3)) = some (r1,r2) := H
             have A20 := Aside0.mk A200
             clear A200
             by_cases c21 : t156 = true
             ·subst c21
              have H1 : (if x153000_3.length < 17592186044416 then (spec_Remap.l1 k3 l0 l1 x6_2 x7_2 x8_2 (wrap64 (x10_3 + 1)) (x153000_3 ++ [rd ((rd_T97 l0 x8_2).f0) x10_3])) else (none)) = some (r1,r2) := by rw [if_pos rfl] at H;exact H
              clear H
              have H := H1
              clear H1
              by_cases c22 : x153000_3.length < 17592186044416
              ·rw [if_pos c22] at H
               have LMc22 := Aside0.mk c22
               clear c22
               obtain ⟨y159,hy159⟩ : ∃ y_ : List Int,y_ = (x153000_3 ++ [rd ((rd_T97 l0 x8_2).f0) x10_3]) := ⟨_,rfl⟩
               replace H : (spec_Remap.l1 k3 l0 l1 x6_2 x7_2 x8_2 (wrap64 (x10_3 + 1)) y159) = some (r1,r2) := by first|(rw [hy159];with_reducible exact H)|(have H2_ := (Option.bind_some _ _).symm.trans H;rw [hy159];with_reducible exact H2_)|(have H2_ := (Option.bind_some _ _).symm.trans H;with_reducible exact H2_)|with_reducible exact H|(rw [hy159];exact H)|exact H
               have Ny159 := Aside0.mk hy159
               clear hy159
               have H' := Aside0.mk H
               clear H
               have p153 : 0 ≤ (x8_2 : Int) := of_decide_eq_true (by first|(with_reducible assumption)|assumption)
               have q153 : x8_2 < (l0.length : Int) := of_decide_eq_true (by first|(with_reducible assumption)|assumption)
               obtain ⟨ad153,A153_0,c153_0,e153,hx153_0,hl153_0,hi153_0⟩ := at_T97 HR0.out x8_2 p153 q153
               cases e153
               replace hx153_0 := (HB.out.cell (World.block_lt_of_cell? w _ hx153_0)).trans hx153_0
               have HR153_0 := Aside0.mk hi153_0
               have HC153_0 := Aside0.mk hl153_0
               clear hi153_0 hl153_0
               replace p153 := eq_true p153
               replace q153 := eq_true q153
               have p154 : 0 ≤ (x8_2 : Int) := of_decide_eq_true (by first|(with_reducible assumption)|assumption)
               have q154 : x8_2 < (l0.length : Int) := of_decide_eq_true (by first|(with_reducible assumption)|assumption)
               obtain ⟨ad154,A154_0,c154_0,e154,hx154_0,hl154_0,hi154_0⟩ := at_T97 HR0.out x8_2 p154 q154
               obtain rfl : ad153 = ad154 := (by injection e154)
               replace hx154_0 := (HB.out.cell (World.block_lt_of_cell? w _ hx154_0)).trans hx154_0
               have HR154_0 := Aside0.mk hi154_0
               have HC154_0 := Aside0.mk hl154_0
               clear hi154_0 hl154_0
               replace p154 := eq_true p154
               replace q154 := eq_true q154
               have ea_ := Option.some.inj (hx153_0.symm.trans hx154_0)
               injection ea_ with ea_ en_ ec_
               subst ea_
               subst ec_
               clear en_
               have p155 : 0 ≤ (x10_3 : Int) := of_decide_eq_true (by first|(with_reducible assumption)|assumption)
               have q155 : x10_3 < (((rd_T97 l0 x8_2).f0).length : Int) := of_decide_eq_true (by first|(with_reducible assumption)|assumption)
               obtain ⟨ad155,e155,hx155_0⟩ := Kd.at_int HR154_0.out x10_3 p155 q155
               cases e155
               replace hx155_0 := (HB.out.cell (World.block_lt_of_cell? w _ hx155_0)).trans hx155_0
               replace p155 := eq_true p155
               replace q155 := eq_true q155
               try go_wp2_with (first|((with_reducible refine gcal_ (f := 119) rfl ?_);refine goesL_ (some 50) rfl rfl Try.func119 (by kernel_rfl) rfl #[.slice A1 l1.length c1,.int .i64 (rd ((rd_T97 l0 x8_2).f0) x10_3)] rfl (by (try simp only [List.map_toArray,List.map_cons,List.map_nil]);first|done|rfl|(simp only [List.length_drop,List.length_take];rfl)) ?_;(with_reducible refine (spec_l5Lives.calls _ _ l1 (rd ((rd_T97 l0 x8_2).f0) x10_3) true _ ?side1 ?side2 A20.out).mono ?_);(case side1 => repeat (first|exact (Kd.C_below HR1.out HB.out)|(with_reducible refine Kd.C_alloc ?_ _)|(with_reducible refine Kd.C_drewN ?_ _)|(with_reducible refine Kd.C_drew ?_)));(case side2 => exact HC1.out);rintro e w' ⟨rfl,⟨nd,rfl⟩⟩;refine ⟨_,rfl,?_⟩;(try (rw [drewN_self wr];generalize hq_ : World.drewN wr _ = wr;have n0_ : Aside0 (Kd.R (Kd.int .i64) 2 wr w.heap.size (fun k_ => some k_ ≠ (u6 : Value).ownBlock) u153000 x153000_3) := ⟨by rw [← hq_];exact (by (with_reducible repeat (first|apply Kd.R_alloc|apply Kd.R_drewN|apply Kd.R_drew));exact HO_153000.out)⟩;have n1_ : Aside0 (Kd.R (Kd.int .i64) 2 wr w.heap.size (fun k_ => some k_ ≠ (u153000 : Value).ownBlock) u6 x6_2) := ⟨by rw [← hq_];exact (by (with_reducible repeat (first|apply Kd.R_alloc|apply Kd.R_drewN|apply Kd.R_drew));exact HO_6.out)⟩;have n2_ : Aside0 (Kd.S k97 97 wr w.heap.size (fun k_ => some k_ ≠ (u153000 : Value).ownBlock ∧ some k_ ≠ (u6 : Value).ownBlock ∧ k_ ≠ gb152) u7 x7_2) := ⟨by rw [← hq_];exact (by (with_reducible repeat (first|apply Kd.S_alloc|apply Kd.S_drewN|apply Kd.S_drew));exact Kd.S_mono HO_7.out (fun _ hk => ⟨hk.2.1,⟨hk.1,hk.2.2⟩⟩))⟩;have n3_ : Aside0 (wr.heap[gb152]? = some (.cells #[u153000] 97 (0,0))) := ⟨by rw [← hq_];exact (by (with_reducible repeat (first|refine blk_drewN ?_ _|refine blk_drew ?_|refine blk_alloc ?_ _));exact BK152.out)⟩;have n4_ : Aside0 (Below w.heap.size w wr) := ⟨by rw [← hq_];exact (by repeat (first|(with_reducible first|exact HB.out|apply below_alloc|apply pw_below_drewN|apply below_drew1|refine below_set ?_ GE152.out)|exact HB.out))⟩;clear HO_153000 HO_6 HO_7 BK152 HB hq_;have HO_153000 := n0_;have HO_6 := n1_;have HO_7 := n2_;have BK152 := n3_;have HB := n4_;clear n0_ n1_ n2_ n3_ n4_));(try (have hcy1_0 : wr.cell? ⟨gb152,0,none⟩ = some (u153000) := (blk_cell BK152.out 0).trans rfl));(try (have hfy1_0 := blk_frozen BK152.out 0))))
               have n0_ := Aside0.mk (Kd.R_drew HO_6.out)
               have n1_ := Aside0.mk (Kd.S_drew HO_7.out)
               have n2_ := Aside0.mk (Kd.R_drew HO_153000.out)
               have n3_ := Aside0.mk (blk_drew BK152.out)
               have n4_ := Aside0.mk (below_drew1 HB.out)
               clear HO_6
               clear HO_7
               clear HO_153000
               clear BK152
               clear HB
               have HO_6 := n0_
               have HO_7 := n1_
               have HO_153000 := n2_
               have BK152 := n3_
               have HB := n4_
               clear n0_ n1_ n2_ n3_ n4_
               have p157 : 0 ≤ (x8_2 : Int) := of_decide_eq_true (by first|(with_reducible assumption)|assumption)
               have q157 : x8_2 < (l0.length : Int) := of_decide_eq_true (by first|(with_reducible assumption)|assumption)
               obtain ⟨ad157,A157_0,c157_0,e157,hx157_0,hl157_0,hi157_0⟩ := at_T97 HR0.out x8_2 p157 q157
               have hw157_0 := hx157_0
               obtain rfl : ad153 = ad157 := (by injection e157)
               replace hx157_0 := (HB.out.cell (World.block_lt_of_cell? w _ hx157_0)).trans hx157_0
               have HR157_0 := Aside0.mk hi157_0
               have HC157_0 := Aside0.mk hl157_0
               clear hi157_0 hl157_0
               replace p157 := eq_true p157
               replace q157 := eq_true q157
               have p158 : 0 ≤ (x10_3 : Int) := of_decide_eq_true (by first|(with_reducible assumption)|assumption)
               have q158 : x10_3 < (((rd_T97 l0 x8_2).f0).length : Int) := of_decide_eq_true (by first|(with_reducible assumption)|assumption)
               obtain ⟨ad158,e158,hx158_0⟩ := Kd.at_int HR157_0.out x10_3 p158 q158
               have hw158_0 := hx158_0
               cases e158
               replace hx158_0 := (HB.out.cell (World.block_lt_of_cell? w _ hx158_0)).trans hx158_0
               replace p158 := eq_true p158
               replace q158 := eq_true q158
               refine start_ (n := 14) (S := fun w' => w'.cell? ⟨gb152,0,none⟩ = some (u153000) ∧ w'.cell? (ad153.add (x8_2).toNat) = some (.slice (some ad158) ((rd_T97 l0 x8_2).f0).length c157_0) ∧ w'.cell? (ad158.add (x10_3).toNat) = some (.int .i64 (rd ((rd_T97 l0 x8_2).f0) x10_3))) (ds := [13]) #[false,false,false,false,false,false,false,false,false,false,false,false,false,false] (by kernel_rfl) rfl rfl ⟨(blk_cell BK152.out 0).trans rfl,((HB.out.cell (World.block_lt_of_cell? w _ hw157_0)).trans hw157_0),((HB.out.cell (World.block_lt_of_cell? w _ hw158_0)).trans hw158_0)⟩ (fun hHeld => ?_);refine with_tabW spec_Remap.tab13 spec_Remap.bits13 (fun HT_ HW_ => ?_)
               generalize wr.drew = w23 at HO_6 HO_7 HO_153000 BK152 HB HR157_0 hx157_0 hx158_0 hHeld ⊢
               refine pw_ 0 (some 51) HT_.out ?_
               refine pw_ 2 (some 53) HT_.out ?_
               refine pw_ 3 (some 54) HT_.out ?_
               refine pw_ 4 (some 55) HT_.out ?_
               refine pw_ 5 (some 56) HT_.out ?_
               refine pw_ 7 (some 58) HT_.out ?_
               refine tw_ 1 (some 52) HT_.out HW_.out hHeld rfl rfl (by rintro w' ⟨s0,s1,s2⟩;go_simp;with_reducible rfl) ?_
               refine tw_ 6 (some 57) HT_.out HW_.out hHeld rfl rfl (by rintro w' ⟨s0,s1,s2⟩;go_simp;with_reducible rfl) ?_
               refine pw_ 8 (some 59) HT_.out ?_
               refine tw_ 9 (some 60) HT_.out HW_.out hHeld rfl rfl (by rintro w' ⟨s0,s1,s2⟩;go_simp;with_reducible rfl) ?_
               refine oz_ (i := 10) (N := some 61) HT_.out rfl rfl (by kernel_rfl) (by decide) (fun K hK => ?_)
               refine value_ (w1 := ?_) (v := ?_) (by rfl) rfl ?_ ?_
               rotate_left 2
               ·go_simp
                constructor
                ·rfl
                ·rfl
               refine hK.out _ _ ⟨(blk_cell (blk_alloc BK152.out _) 0).trans rfl,(World.cell?_alloc_lt _ _ _ (World.block_lt_of_cell? _ _ (((HB.out.cell (World.block_lt_of_cell? w _ hw157_0)).trans hw157_0)))).trans (((HB.out.cell (World.block_lt_of_cell? w _ hw157_0)).trans hw157_0)),(World.cell?_alloc_lt _ _ _ (World.block_lt_of_cell? _ _ (((HB.out.cell (World.block_lt_of_cell? w _ hw158_0)).trans hw158_0)))).trans (((HB.out.cell (World.block_lt_of_cell? w _ hw158_0)).trans hw158_0))⟩ (fun hHeld => ?_)
               clear hK K
               refine norm_ (a' := ?_) ?_ ?_
               rotate_left
               ·show Act.put _ (some 61) _ = _
                simp only [Act.put,q1,q2,q3,i64_w,i32_w]
                rfl
               refine oz_ (i := 11) (N := some 62) HT_.out rfl rfl (by kernel_rfl) (by decide) (fun K hK => ?_)
               refine Kd.R_append_step (Kd.int .i64) (w0 := w) w.heap.size (by rfl) (.tmp 52) (.tmp 61) 64 2 (.int .i64 0) 8 rfl Try.underlying64 info2 rfl (by decide) (by omega) u153000 x153000_3 (rd ((rd_T97 l0 x8_2).f0) x10_3) [.int .i64 (rd ((rd_T97 l0 x8_2).f0) x10_3)] (fun k_ => some k_ ≠ (u6 : Value).ownBlock) (fun _ => False) rfl rfl ?aP (fun _ hk => hk.elim) ?aF ?aO ?aB ?aS ?aL ?_
               (case aP => exact rfl)
               (case aB => exact (by repeat (first|(with_reducible first|exact HB.out|apply below_alloc|apply pw_below_drewN|apply below_drew1|refine below_set ?_ GE152.out)|exact HB.out)))
               (case aF => exact (fun k_ hk => Kd.fresh' (Kd.R_lt (by (with_reducible repeat (first|apply Kd.R_alloc|apply Kd.R_drewN|apply Kd.R_drew));exact HO_6.out)) k_ hk))
               (case aO => exact (by (with_reducible repeat (first|apply Kd.R_alloc|apply Kd.R_drewN|apply Kd.R_drew));exact HO_153000.out))
               (case aS => exact (below_size (by repeat (first|(with_reducible first|exact HB.out|apply below_alloc|apply pw_below_drewN|apply below_drew1|refine below_set ?_ GE152.out)|exact HB.out))))
               (case aL => have := LMc22.out;omega)
               intro v160 w24 ho hb hg hat
               rw [← Ny159.out] at ho
               have n0_ := Aside0.mk (Kd.R_after (ok := (fun _ => True)) (by (with_reducible repeat (first|apply Kd.R_alloc|apply Kd.R_drewN|apply Kd.R_drew));exact Kd.R_mono HO_6.out (fun _ hk => ⟨trivial,hk⟩)) hg hat)
               have n1_ := Aside0.mk (Kd.S_after (ok := (fun k_ => some k_ ≠ (u6 : Value).ownBlock ∧ k_ ≠ gb152)) (by (with_reducible repeat (first|apply Kd.S_alloc|apply Kd.S_drewN|apply Kd.S_drew));exact Kd.S_mono HO_7.out (fun _ hk => ⟨⟨hk.2.1,hk.2.2⟩,hk.1⟩)) hg hat)
               have n2_ := Aside0.mk (blk_grown (g := gb152) (o := .cells #[u153000] 97 (0,0)) (by (with_reducible repeat (first|refine blk_drewN ?_ _|refine blk_drew ?_|refine blk_alloc ?_ _));exact BK152.out) hg (Kd.R_ne HO_153000.out BK152.out (by decide)))
               have n3_ := Aside0.mk (hb)
               have n4_ := Aside0.mk (ho)
               clear HO_6
               clear HO_7
               clear BK152
               clear HB
               clear HO_153000
               have HO_6 := n0_
               have HO_7 := n1_
               have BK152 := n2_
               have HB := n3_
               have HO161 := n4_
               clear n0_ n1_ n2_ n3_ n4_
               clear ho hb hg hat
               obtain ⟨Ao25,co25,eo25⟩ := Kd.R_slice HO161.out
               (first|subst eo25|(injection eo25 with f1_ f2_ f3_;have f4_ := f1_.symm;have f5_ := f3_.symm;clear f1_ f2_ f3_;subst f4_;subst f5_))
               refine hK.out _ _ ⟨(blk_cell BK152.out 0).trans rfl,((HB.out.cell (World.block_lt_of_cell? w _ hw157_0)).trans hw157_0),((HB.out.cell (World.block_lt_of_cell? w _ hw158_0)).trans hw158_0)⟩ (fun hHeld => ?_)
               clear hK K
               refine norm_ (a' := ?_) ?_ ?_
               rotate_left
               ·show Act.put _ (some 62) _ = _
                simp only [Act.put,q1,q2,q3,i64_w,i32_w]
                rfl
               refine pw_ 12 (some 63) HT_.out ?_
               refine last_ (i := 13) (N := none) #[true,true,true,true,true,true,true,true,true,true,true,true,true,true] rfl rfl (one_of HT_.out (by kernel_rfl)) (by decide) (fun K hK => ?_)
               have hs26 : w24.cell? ⟨gb152,0,none⟩ = some (u153000) := (blk_cell BK152.out 0).trans rfl
               have hfs26 := blk_frozen BK152.out 0
               refine skip_ (w1 := ?_) (by rfl) rfl ?_ ?_
               rotate_left
               ·go_simp
                rfl
               refine hK.out _ _ ?_
               clear hK K
               refine done_ (done_of HT_.out (by kernel_rfl)) ?_
               try go_wp2
               go_roundg k3
               case measure => have := HJ2.out;have := HK2.out;have := HK3.out;omega
               case rel => exact ⟨(wrap64 (x10_3 + 1)),(y159),(.slice Ao25 y159.length co25),(by first|rfl|(simp;done)|(simp [*];done)),H',⟨by have := HJ2.out;have := HK2.out;have := HK3.out;omega⟩,⟨by (with_reducible repeat (first|apply Kd.R_alloc|apply Kd.R_drewN|apply Kd.R_drew));exact Kd.R_mono (Kd.R_far (p := ⟨gb152,0,none⟩) (Kd.R_types HO_6.out BK152.out (by decide)) (fun _ hk => hk.2) (.slice Ao25 y159.length co25)) (fun _ hk => hk.1.2)⟩,⟨by (with_reducible repeat (first|apply Kd.S_alloc|apply Kd.S_drewN|apply Kd.S_drew));exact Kd.S_mono (Kd.S_far (p := ⟨gb152,0,none⟩) (Kd.S_mono HO_7.out (fun k_ hk => (⟨hk,hk.1.2⟩ : _ ∧ k_ ≠ gb152))) (fun _ hk => hk.2) (.slice Ao25 y159.length co25)) (fun _ hk => ⟨hk.1.1.1,⟨hk.1.2,hk.1.1.2⟩⟩)⟩,⟨by (with_reducible repeat (first|apply Kd.R_alloc|apply Kd.R_drewN|apply Kd.R_drew));exact Kd.R_mono (Kd.R_far (p := ⟨gb152,0,none⟩) (Kd.R_types HO161.out BK152.out (by decide)) (fun _ hk => hk.2) (.slice Ao25 y159.length co25)) (fun _ hk => hk.1)⟩,⟨by (with_reducible repeat (first|refine blk_drewN ?_ _|refine blk_drew ?_|refine blk_alloc ?_ _));refine blk_put (cs := #[u153000]) ?_ 0 _ rfl;(with_reducible repeat (first|refine blk_drewN ?_ _|refine blk_drew ?_|refine blk_alloc ?_ _));exact BK152.out⟩,⟨by repeat (first|(with_reducible first|exact HB.out|apply below_alloc|apply pw_below_drewN|apply below_drew1|refine below_set ?_ GE152.out)|exact HB.out)⟩⟩
              ·rw [if_neg c22] at H
               exact absurd H (by simp)
             ·replace c21 := Bool.eq_false_iff.mpr c21
              subst c21
              have H1 : (spec_Remap.l1 k3 l0 l1 x6_2 x7_2 x8_2 (wrap64 (x10_3 + 1)) x153000_3) = some (r1,r2) := by rw [if_neg (show ¬ (false = true) by decide)] at H;exact H
              clear H
              have H := H1
              clear H1
              have H' := Aside0.mk H
              clear H
              have p153 : 0 ≤ (x8_2 : Int) := of_decide_eq_true (by first|(with_reducible assumption)|assumption)
              have q153 : x8_2 < (l0.length : Int) := of_decide_eq_true (by first|(with_reducible assumption)|assumption)
              obtain ⟨ad153,A153_0,c153_0,e153,hx153_0,hl153_0,hi153_0⟩ := at_T97 HR0.out x8_2 p153 q153
              cases e153
              replace hx153_0 := (HB.out.cell (World.block_lt_of_cell? w _ hx153_0)).trans hx153_0
              have HR153_0 := Aside0.mk hi153_0
              have HC153_0 := Aside0.mk hl153_0
              clear hi153_0 hl153_0
              replace p153 := eq_true p153
              replace q153 := eq_true q153
              have p154 : 0 ≤ (x8_2 : Int) := of_decide_eq_true (by first|(with_reducible assumption)|assumption)
              have q154 : x8_2 < (l0.length : Int) := of_decide_eq_true (by first|(with_reducible assumption)|assumption)
              obtain ⟨ad154,A154_0,c154_0,e154,hx154_0,hl154_0,hi154_0⟩ := at_T97 HR0.out x8_2 p154 q154
              obtain rfl : ad153 = ad154 := (by injection e154)
              replace hx154_0 := (HB.out.cell (World.block_lt_of_cell? w _ hx154_0)).trans hx154_0
              have HR154_0 := Aside0.mk hi154_0
              have HC154_0 := Aside0.mk hl154_0
              clear hi154_0 hl154_0
              replace p154 := eq_true p154
              replace q154 := eq_true q154
              have ea_ := Option.some.inj (hx153_0.symm.trans hx154_0)
              injection ea_ with ea_ en_ ec_
              subst ea_
              subst ec_
              clear en_
              have p155 : 0 ≤ (x10_3 : Int) := of_decide_eq_true (by first|(with_reducible assumption)|assumption)
              have q155 : x10_3 < (((rd_T97 l0 x8_2).f0).length : Int) := of_decide_eq_true (by first|(with_reducible assumption)|assumption)
              obtain ⟨ad155,e155,hx155_0⟩ := Kd.at_int HR154_0.out x10_3 p155 q155
              cases e155
              replace hx155_0 := (HB.out.cell (World.block_lt_of_cell? w _ hx155_0)).trans hx155_0
              replace p155 := eq_true p155
              replace q155 := eq_true q155
              go_wp2_with (first|((with_reducible refine gcal_ (f := 119) rfl ?_);refine goesL_ (some 50) rfl rfl Try.func119 (by kernel_rfl) rfl #[.slice A1 l1.length c1,.int .i64 (rd ((rd_T97 l0 x8_2).f0) x10_3)] rfl (by (try simp only [List.map_toArray,List.map_cons,List.map_nil]);first|done|rfl|(simp only [List.length_drop,List.length_take];rfl)) ?_;(with_reducible refine (spec_l5Lives.calls _ _ l1 (rd ((rd_T97 l0 x8_2).f0) x10_3) false _ ?side1 ?side2 A20.out).mono ?_);(case side1 => repeat (first|exact (Kd.C_below HR1.out HB.out)|(with_reducible refine Kd.C_alloc ?_ _)|(with_reducible refine Kd.C_drewN ?_ _)|(with_reducible refine Kd.C_drew ?_)));(case side2 => exact HC1.out);rintro e w' ⟨rfl,⟨nd,rfl⟩⟩;refine ⟨_,rfl,?_⟩))
              go_roundg k3
              case measure => have := HJ2.out;have := HK2.out;have := HK3.out;omega
              case rel => exact ⟨(wrap64 (x10_3 + 1)),(x153000_3),(u153000),(by first|rfl|(simp;done)|(simp [*];done)),H',⟨by have := HJ2.out;have := HK2.out;have := HK3.out;omega⟩,⟨by (with_reducible repeat (first|apply Kd.R_alloc|apply Kd.R_drewN|apply Kd.R_drew));exact HO_6.out⟩,⟨by (with_reducible repeat (first|apply Kd.S_alloc|apply Kd.S_drewN|apply Kd.S_drew));exact HO_7.out⟩,⟨by (with_reducible repeat (first|apply Kd.R_alloc|apply Kd.R_drewN|apply Kd.R_drew));exact HO_153000.out⟩,⟨by (with_reducible repeat (first|refine blk_drewN ?_ _|refine blk_drew ?_|refine blk_alloc ?_ _));exact BK152.out⟩,⟨by repeat (first|(with_reducible first|exact HB.out|apply below_alloc|apply pw_below_drewN|apply below_drew1|refine below_set ?_ GE152.out)|exact HB.out)⟩⟩
            ·rw [if_neg c19] at H
             exact absurd H (by simp)
           ·rw [if_neg c18] at H
            have c18b0 : decide (x10_3 < (((rd_T97 l0 x8_2).f0).length : Int)) = false := decide_eq_false c18
            clear c18
            by_cases c27 : (x153000_3.length : Int) = 0
            ·rw [if_pos c27] at H
             have c27b0 : ((x153000_3.length : Int) == 0) = true := beq_iff_eq.mpr c27
             have c27b1 : ((x153000_3.length : Int) != 0) = false := bne_eq_false_iff_eq.mpr c27
             clear c27
             by_cases c28 : x6_2.length < 17592186044416
             ·rw [if_pos c28] at H
              have LMc28 := Aside0.mk c28
              clear c28
              obtain ⟨y162,hy162⟩ : ∃ y_ : List Int,y_ = (x6_2 ++ [x8_2]) := ⟨_,rfl⟩
              replace H : ((some (([] : List Int) : List Int)).bind fun y165 => (if y165.length + ((rd_T97 l0 x8_2).f0).length < 17592186044416 then (if x7_2.length < 5864062014805 then (spec_Remap.l0 k3 l0 l1 y162 (x7_2 ++ [(⟨(y165 ++ ((rd_T97 l0 x8_2).f0))⟩ : S97)]) (wrap64 (x8_2 + 1))) else (none)) else (none))) = some (r1,r2) := by first|(rw [hy162];with_reducible exact H)|(have H2_ := (Option.bind_some _ _).symm.trans H;rw [hy162];with_reducible exact H2_)|(have H2_ := (Option.bind_some _ _).symm.trans H;with_reducible exact H2_)|with_reducible exact H|(rw [hy162];exact H)|exact H
              have Ny162 := Aside0.mk hy162
              clear hy162
              obtain ⟨y165,hy165⟩ : ∃ y_ : List Int,y_ = (([] : List Int)) := ⟨_,rfl⟩
              replace H : (if y165.length + ((rd_T97 l0 x8_2).f0).length < 17592186044416 then (if x7_2.length < 5864062014805 then (spec_Remap.l0 k3 l0 l1 y162 (x7_2 ++ [(⟨(y165 ++ ((rd_T97 l0 x8_2).f0))⟩ : S97)]) (wrap64 (x8_2 + 1))) else (none)) else (none)) = some (r1,r2) := by first|(rw [hy165];with_reducible exact H)|(have H2_ := (Option.bind_some _ _).symm.trans H;rw [hy165];with_reducible exact H2_)|(have H2_ := (Option.bind_some _ _).symm.trans H;with_reducible exact H2_)|with_reducible exact H|(rw [hy165];exact H)|exact H
              have Ny165 := Aside0.mk hy165
              clear hy165
              by_cases c29 : y165.length + ((rd_T97 l0 x8_2).f0).length < 17592186044416
              ·rw [if_pos c29] at H
               have LMc29 := Aside0.mk c29
               clear c29
               obtain ⟨y169,hy169⟩ : ∃ y_ : List Int,y_ = (y165 ++ ((rd_T97 l0 x8_2).f0)) := ⟨_,rfl⟩
               replace H : (if x7_2.length < 5864062014805 then (spec_Remap.l0 k3 l0 l1 y162 (x7_2 ++ [(⟨y169⟩ : S97)]) (wrap64 (x8_2 + 1))) else (none)) = some (r1,r2) := by first|(rw [hy169];with_reducible exact H)|(have H2_ := (Option.bind_some _ _).symm.trans H;rw [hy169];with_reducible exact H2_)|(have H2_ := (Option.bind_some _ _).symm.trans H;with_reducible exact H2_)|with_reducible exact H|(rw [hy169];exact H)|exact H
               have Ny169 := Aside0.mk hy169
               clear hy169
               by_cases c30 : x7_2.length < 5864062014805
               ·rw [if_pos c30] at H
                have LMc30 := Aside0.mk c30
                clear c30
                obtain ⟨y172,hy172⟩ : ∃ y_ : List (S97),y_ = (x7_2 ++ [(⟨y169⟩ : S97)]) := ⟨_,rfl⟩
                replace H : (spec_Remap.l0 k3 l0 l1 y162 y172 (wrap64 (x8_2 + 1))) = some (r1,r2) := by first|(rw [hy172];with_reducible exact H)|(have H2_ := (Option.bind_some _ _).symm.trans H;rw [hy172];with_reducible exact H2_)|(have H2_ := (Option.bind_some _ _).symm.trans H;with_reducible exact H2_)|with_reducible exact H|(rw [hy172];exact H)|exact H
                have Ny172 := Aside0.mk hy172
                clear hy172
                have H' := Aside0.mk H
                clear H
                have p153 : 0 ≤ (x8_2 : Int) := of_decide_eq_true (by first|(with_reducible assumption)|assumption)
                have q153 : x8_2 < (l0.length : Int) := of_decide_eq_true (by first|(with_reducible assumption)|assumption)
                obtain ⟨ad153,A153_0,c153_0,e153,hx153_0,hl153_0,hi153_0⟩ := at_T97 HR0.out x8_2 p153 q153
                cases e153
                replace hx153_0 := (HB.out.cell (World.block_lt_of_cell? w _ hx153_0)).trans hx153_0
                have HR153_0 := Aside0.mk hi153_0
                have HC153_0 := Aside0.mk hl153_0
                clear hi153_0 hl153_0
                replace p153 := eq_true p153
                replace q153 := eq_true q153
                have hcz31_0 : wr.cell? ⟨gb152,0,none⟩ = some (u153000) := (blk_cell BK152.out 0).trans rfl
                have hfz31_0 := blk_frozen BK152.out 0
                obtain ⟨Ao32,co32,eo32⟩ := Kd.R_slice HO_153000.out
                subst eo32
                go_wp2_with (first|((with_reducible refine gblt_ (b := .append) (xs := #[.tmp 68,.tmp 70]) rfl ?_);(try (refine gate_guard (by rfl) ?_;dsimp only));at_builtin;refine Kd.R_append (Kd.int .i64) (w0 := w) w.heap.size rfl (.tmp 68) (.tmp 70) 64 2 (.int .i64 0) 8 rfl Try.underlying64 info2 rfl (by decide) (by omega) u6 x6_2 x8_2 [.int .i64 x8_2] (fun k_ => some k_ ≠ (.slice Ao32 x153000_3.length co32 : Value).ownBlock) (fun _ => False) rfl rfl ?aP (fun _ hk => hk.elim) ?aF ?aO ?aB ?aS ?aL ?_;(case aP => exact rfl);(case aB => exact (by repeat (first|(with_reducible first|exact HB.out|apply below_alloc|apply pw_below_drewN|apply below_drew1|refine below_set ?_ GE152.out)|exact HB.out)));(case aF => exact (fun k_ hk => Kd.fresh' (Kd.R_lt (by (with_reducible repeat (first|apply Kd.R_alloc|apply Kd.R_drewN|apply Kd.R_drew));exact HO_153000.out)) k_ hk));(case aO => exact (by (with_reducible repeat (first|apply Kd.R_alloc|apply Kd.R_drewN|apply Kd.R_drew));exact HO_6.out));(case aS => exact (below_size (by repeat (first|(with_reducible first|exact HB.out|apply below_alloc|apply pw_below_drewN|apply below_drew1|refine below_set ?_ GE152.out)|exact HB.out))));(case aL => have := LMc28.out;omega);intro v163 w33 ho hb hg hat;rw [← Ny162.out] at ho;have n0_ := Aside0.mk (Kd.S_after (ok := (fun k_ => some k_ ≠ (.slice Ao32 x153000_3.length co32 : Value).ownBlock ∧ k_ ≠ gb152)) (by (with_reducible repeat (first|apply Kd.S_alloc|apply Kd.S_drewN|apply Kd.S_drew));exact Kd.S_mono HO_7.out (fun _ hk => ⟨⟨hk.2.1,hk.2.2⟩,hk.1⟩)) hg hat);have n1_ := Aside0.mk (Kd.R_after (ok := (fun _ => True)) (by (with_reducible repeat (first|apply Kd.R_alloc|apply Kd.R_drewN|apply Kd.R_drew));exact Kd.R_mono HO_153000.out (fun _ hk => ⟨trivial,hk⟩)) hg hat);have n2_ := Aside0.mk (blk_grown (g := gb152) (o := .cells #[.slice Ao32 x153000_3.length co32] 97 (0,0)) (by (with_reducible repeat (first|refine blk_drewN ?_ _|refine blk_drew ?_|refine blk_alloc ?_ _));exact BK152.out) hg (Kd.R_ne HO_6.out BK152.out (by decide)));have n3_ := Aside0.mk (hb);have n4_ := Aside0.mk (ho);clear HO_7;clear HO_153000;clear BK152;clear HB;clear HO_6;have HO_7 := n0_;have HO_153000 := n1_;have BK152 := n2_;have HB := n3_;have HO164 := n4_;clear n0_ n1_ n2_ n3_ n4_;clear ho hb hg hat)|((with_reducible refine gate_dst (N := 73) rfl ?_);(try (refine gate_guard (by rfl) ?_;dsimp only));refine Kd.R_lit (Kd.int .i64) _ 2 ?hg (N := 73) ?hd (xs := ([] : List Int)) (inner := []) (ok := fun _ => True) (okp := fun _ => True) ?hr ?hp (fun _ hk => hk) trivial (Below.refl _ _) (Nat.le_refl _) (by simp) ?_;(case hd => rfl);(case hg => rfl);(case hr => first|(go_simp;done)|(go_simp;rfl));(case hp => exact (Reps.none _ _));intro v166 w34 ho35 hb hg_ hnew_;clear hg_ hnew_;(first|rw [← Ny165.out] at ho35|(simp only [Int.reduceToNat] at ho35;rw [← Ny165.out] at ho35));have n0_ := Aside0.mk (Kd.S_elder' (by (with_reducible repeat (first|apply Kd.S_alloc|apply Kd.S_drewN|apply Kd.S_drew));exact HO_7.out) (Kd.R_base ho35) hb);have n1_ := Aside0.mk (Kd.R_elder' (by (with_reducible repeat (first|apply Kd.R_alloc|apply Kd.R_drewN|apply Kd.R_drew));exact HO_153000.out) (Kd.R_base ho35) hb);have n2_ := Aside0.mk (Kd.R_elder' (by (with_reducible repeat (first|apply Kd.R_alloc|apply Kd.R_drewN|apply Kd.R_drew));exact HO164.out) (Kd.R_base ho35) hb);have n3_ := Aside0.mk (Kd.R_lower (Kd.R_new' (Kd.R_new' ho35 (Kd.R_lt (by (with_reducible repeat (first|apply Kd.R_alloc|apply Kd.R_drewN|apply Kd.R_drew));exact HO_153000.out))) (Kd.R_lt (by (with_reducible repeat (first|apply Kd.R_alloc|apply Kd.R_drewN|apply Kd.R_drew));exact HO164.out))) (below_size (by repeat (first|(with_reducible first|exact HB.out|apply below_alloc|apply pw_below_drewN|apply below_drew1|refine below_set ?_ GE152.out)|exact HB.out))));have n4_ := Aside0.mk (blk_below (g := gb152) (o := .cells #[.slice Ao32 x153000_3.length co32] 97 (0,0)) (by (with_reducible repeat (first|refine blk_drewN ?_ _|refine blk_drew ?_|refine blk_alloc ?_ _));exact BK152.out) hb);have n5_ := Aside0.mk (below_step (by repeat (first|(with_reducible first|exact HB.out|apply below_alloc|apply pw_below_drewN|apply below_drew1|refine below_set ?_ GE152.out)|exact HB.out)) hb);clear HO_7;clear HO_153000;clear HO164;clear BK152;clear HB;have HO_7 := n0_;have HO_153000 := n1_;have HO164 := n2_;have HO167 := n3_;have BK152 := n4_;have HB := n5_;clear n0_ n1_ n2_ n3_ n4_ n5_;clear hb ho35;have p168 : 0 ≤ (x8_2 : Int) := of_decide_eq_true (by first|(with_reducible assumption)|assumption);have q168 : x8_2 < (l0.length : Int) := of_decide_eq_true (by first|(with_reducible assumption)|assumption);obtain ⟨ad168,A168_0,c168_0,e168,hx168_0,hl168_0,hi168_0⟩ := at_T97 HR0.out x8_2 p168 q168;obtain rfl : ad153 = ad168 := (by injection e168);replace hx168_0 := (HB.out.cell (World.block_lt_of_cell? w _ hx168_0)).trans hx168_0;have HR168_0 := Aside0.mk hi168_0;have HC168_0 := Aside0.mk hl168_0;clear hi168_0 hl168_0;replace p168 := eq_true p168;replace q168 := eq_true q168)|((with_reducible refine gblt_ (b := .append) (xs := #[.tmp 73,.tmp 78]) rfl ?_);(try (refine gate_guard (by rfl) ?_;dsimp only));at_builtin;refine Kd.R_append_rows (Kd.int .i64) (w0 := w) w.heap.size rfl (.tmp 73) (.tmp 78) 64 2 (.int .i64 0) 8 rfl Try.underlying64 info2 rfl (by decide) (by omega) v166 y165 ((rd_T97 l0 x8_2).f0) _ _ _ (fun k_ => some k_ ≠ (.slice Ao32 x153000_3.length co32 : Value).ownBlock ∧ some k_ ≠ (v163 : Value).ownBlock) (fun _ => False) rfl rfl ?aO ?aR (fun _ _ h => h) (fun _ h => h.elim) ?aF ?aB ?aS ?aL ?_;(case aR => repeat (first|exact (Kd.C_below HR168_0.out HB.out)|(with_reducible refine Kd.C_alloc ?_ _)|(with_reducible refine Kd.C_drewN ?_ _)|(with_reducible refine Kd.C_drew ?_)));(case aB => exact (by repeat (first|(with_reducible first|exact HB.out|apply below_alloc|apply pw_below_drewN|apply below_drew1|refine below_set ?_ GE152.out)|exact HB.out)));(case aF => exact (fun k_ hk => ⟨Kd.fresh' (Kd.R_lt (by (with_reducible repeat (first|apply Kd.R_alloc|apply Kd.R_drewN|apply Kd.R_drew));exact HO_153000.out)) k_ hk,Kd.fresh' (Kd.R_lt (by (with_reducible repeat (first|apply Kd.R_alloc|apply Kd.R_drewN|apply Kd.R_drew));exact HO164.out)) k_ hk⟩));(case aO => exact (by (with_reducible repeat (first|apply Kd.R_alloc|apply Kd.R_drewN|apply Kd.R_drew));exact Kd.R_mono HO167.out (fun _ hk => ⟨hk.1.2,hk.2⟩)));(case aS => exact (below_size (by repeat (first|(with_reducible first|exact HB.out|apply below_alloc|apply pw_below_drewN|apply below_drew1|refine below_set ?_ GE152.out)|exact HB.out))));(case aL => have := LMc29.out;omega);intro v170 w36 ho hb hg hat;rw [← Ny169.out] at ho;have n0_ := Aside0.mk (Kd.S_after (ok := (fun k_ => some k_ ≠ (.slice Ao32 x153000_3.length co32 : Value).ownBlock ∧ some k_ ≠ (v163 : Value).ownBlock ∧ k_ ≠ gb152)) (by (with_reducible repeat (first|apply Kd.S_alloc|apply Kd.S_drewN|apply Kd.S_drew));exact Kd.S_mono HO_7.out (fun _ hk => ⟨⟨hk.1.1.1,⟨hk.1.2,hk.1.1.2⟩⟩,hk.2⟩)) hg hat);have n1_ := Aside0.mk (Kd.R_after (ok := (fun k_ => some k_ ≠ (v163 : Value).ownBlock)) (by (with_reducible repeat (first|apply Kd.R_alloc|apply Kd.R_drewN|apply Kd.R_drew));exact Kd.R_mono HO_153000.out (fun _ hk => ⟨hk.1.2,hk.2⟩)) hg hat);have n2_ := Aside0.mk (blk_grown (g := gb152) (o := .cells #[.slice Ao32 x153000_3.length co32] 97 (0,0)) (by (with_reducible repeat (first|refine blk_drewN ?_ _|refine blk_drew ?_|refine blk_alloc ?_ _));exact BK152.out) hg (Kd.R_ne HO167.out BK152.out (by decide)));have n3_ := Aside0.mk (Kd.R_after (ok := (fun k_ => some k_ ≠ (.slice Ao32 x153000_3.length co32 : Value).ownBlock)) (by (with_reducible repeat (first|apply Kd.R_alloc|apply Kd.R_drewN|apply Kd.R_drew));exact HO164.out) hg hat);have n4_ := Aside0.mk (hb);have n5_ := Aside0.mk (ho);clear HO_7;clear HO_153000;clear BK152;clear HO164;clear HB;clear HO167;have HO_7 := n0_;have HO_153000 := n1_;have BK152 := n2_;have HO164 := n3_;have HB := n4_;have HO171 := n5_;clear n0_ n1_ n2_ n3_ n4_ n5_;clear ho hb hg hat;obtain ⟨Ao37,co37,eo37⟩ := Kd.R_slice HO171.out;subst eo37)|((with_reducible refine gblt_ (b := .append) (xs := #[.tmp 72,.tmp 81]) rfl ?_);(try (refine gate_guard (by rfl) ?_;dsimp only));at_builtin;refine Kd.S_append k97 (w0 := w) w.heap.size rfl (.tmp 72) (.tmp 81) 34 97 (.agg #[(.slice none 0 0)]) 24 rfl Try.underlying34 info97 rfl (by decide) (by omega) u7 x7_2 (⟨y169⟩ : S97) [.slice Ao37 y169.length co37] (fun k_ => some k_ ≠ (.slice Ao32 x153000_3.length co32 : Value).ownBlock ∧ some k_ ≠ (v163 : Value).ownBlock ∧ k_ ≠ gb152) (fun k_ => some k_ = (.slice Ao37 y169.length co37 : Value).ownBlock) rfl rfl ?aP (fun k_ hk_ => ((Kd.R_mono (ok' := fun k_ => ((fun k_ => some k_ ≠ (.slice Ao32 x153000_3.length co32 : Value).ownBlock ∧ some k_ ≠ (v163 : Value).ownBlock ∧ k_ ≠ gb152)) k_ ∧ some k_ ≠ (u7 : Value).ownBlock) (Kd.R_types (Kd.R_apart' (HO171.out) (Kd.S_typed HO_7.out) (by decide)) BK152.out (by decide)) (fun k_ hk => ⟨⟨hk.1.1.1,⟨hk.1.1.2,hk.2⟩⟩,hk.1.2⟩))).1 k_ hk_.symm) ?aF ?aO ?aB ?aS ?aL ?_;(case aP => exact k97_mkM _ _ _ (⟨y169⟩ : S97) (Kd.R_mono (Kd.R_tight rfl (Kd.R_mono (ok' := fun k_ => ((fun k_ => some k_ ≠ (.slice Ao32 x153000_3.length co32 : Value).ownBlock ∧ some k_ ≠ (v163 : Value).ownBlock ∧ k_ ≠ gb152)) k_ ∧ some k_ ≠ (u7 : Value).ownBlock) (Kd.R_types (Kd.R_apart' (HO171.out) (Kd.S_typed HO_7.out) (by decide)) BK152.out (by decide)) (fun k_ hk => ⟨⟨hk.1.1.1,⟨hk.1.1.2,hk.2⟩⟩,hk.1.2⟩))) (fun _ h_ => h_)));(case aB => exact (by repeat (first|(with_reducible first|exact HB.out|apply below_alloc|apply pw_below_drewN|apply below_drew1|refine below_set ?_ GE152.out)|exact HB.out)));(case aF => exact (fun k_ hk => ⟨Kd.fresh' (Kd.R_lt (by (with_reducible repeat (first|apply Kd.R_alloc|apply Kd.R_drewN|apply Kd.R_drew));exact HO_153000.out)) k_ hk,Kd.fresh' (Kd.R_lt (by (with_reducible repeat (first|apply Kd.R_alloc|apply Kd.R_drewN|apply Kd.R_drew));exact HO164.out)) k_ hk,Kd.freshB (g := gb152) (o := .cells #[.slice Ao32 x153000_3.length co32] 97 (0,0)) (by (with_reducible repeat (first|refine blk_drewN ?_ _|refine blk_drew ?_|refine blk_alloc ?_ _));exact BK152.out) k_ hk⟩));(case aO => exact (by (with_reducible repeat (first|apply Kd.S_alloc|apply Kd.S_drewN|apply Kd.S_drew));exact Kd.S_mono HO_7.out (fun k_ hk => ⟨⟨hk.1.1,⟨hk.1.2.1,hk.1.2.2⟩⟩,fun e_ => hk.2 e_⟩)));(case aS => exact (below_size (by repeat (first|(with_reducible first|exact HB.out|apply below_alloc|apply pw_below_drewN|apply below_drew1|refine below_set ?_ GE152.out)|exact HB.out))));(case aL => have := LMc30.out;omega);intro v173 w38 ho hb hg hat;rw [← Ny172.out] at ho;have n0_ := Aside0.mk (Kd.R_over' (by (with_reducible repeat (first|apply Kd.R_alloc|apply Kd.R_drewN|apply Kd.R_drew));exact HO_153000.out) (Kd.S_typed (by (with_reducible repeat (first|apply Kd.S_alloc|apply Kd.S_drewN|apply Kd.S_drew));exact HO_7.out)) (by decide) hg);have n1_ := Aside0.mk (blk_grown (g := gb152) (o := .cells #[.slice Ao32 x153000_3.length co32] 97 (0,0)) (by (with_reducible repeat (first|refine blk_drewN ?_ _|refine blk_drew ?_|refine blk_alloc ?_ _));exact BK152.out) hg (Kd.S_away HO_7.out (fun _ hk => hk.1.2.2)));have n2_ := Aside0.mk (Kd.R_over' (by (with_reducible repeat (first|apply Kd.R_alloc|apply Kd.R_drewN|apply Kd.R_drew));exact HO164.out) (Kd.S_typed (by (with_reducible repeat (first|apply Kd.S_alloc|apply Kd.S_drewN|apply Kd.S_drew));exact HO_7.out)) (by decide) hg);have n3_ := Aside0.mk (hb);have n4_ := Aside0.mk (ho);clear HO_153000;clear BK152;clear HO164;clear HB;clear HO_7;clear HO171;have HO_153000 := n0_;have BK152 := n1_;have HO164 := n2_;have HB := n3_;have HO174 := n4_;clear n0_ n1_ n2_ n3_ n4_;clear ho hb hg hat))
                go_roundg k3
                case measure => have := HJ2.out;have := HK2.out;have := HK3.out;omega
                case rel => exact ⟨(y162),(y172),(wrap64 (x8_2 + 1)),(by first|rfl|(simp;done)|(simp [*];done)),H',⟨by have := HJ2.out;have := HK2.out;have := HK3.out;omega⟩,⟨by (with_reducible repeat (first|apply Kd.R_alloc|apply Kd.R_drewN|apply Kd.R_drew));exact Kd.R_mono HO164.out (fun _ hk => trivial)⟩,⟨by (with_reducible repeat (first|apply Kd.S_alloc|apply Kd.S_drewN|apply Kd.S_drew));exact Kd.S_mono HO174.out (fun _ hk => hk.2.1)⟩,⟨by repeat (first|(with_reducible first|exact HB.out|apply below_alloc|apply pw_below_drewN|apply below_drew1|refine below_set ?_ GE152.out)|exact HB.out)⟩⟩
               ·rw [if_neg c30] at H
                exact absurd H (by simp)
              ·rw [if_neg c29] at H
               exact absurd H (by simp)
             ·rw [if_neg c28] at H
              exact absurd H (by simp)
            ·rw [if_neg c27] at H
             have c27b0 : ((x153000_3.length : Int) == 0) = false := beq_eq_false_iff_ne.mpr c27
             have c27b1 : ((x153000_3.length : Int) != 0) = true := bne_iff_ne.mpr c27
             have c27b2 : ¬ (x153000_3 = []) := fun h_ => c27 (by rw [h_];rfl)
             have H' := Aside0.mk H
             clear H
             have p153 : 0 ≤ (x8_2 : Int) := of_decide_eq_true (by first|(with_reducible assumption)|assumption)
             have q153 : x8_2 < (l0.length : Int) := of_decide_eq_true (by first|(with_reducible assumption)|assumption)
             obtain ⟨ad153,A153_0,c153_0,e153,hx153_0,hl153_0,hi153_0⟩ := at_T97 HR0.out x8_2 p153 q153
             cases e153
             replace hx153_0 := (HB.out.cell (World.block_lt_of_cell? w _ hx153_0)).trans hx153_0
             have HR153_0 := Aside0.mk hi153_0
             have HC153_0 := Aside0.mk hl153_0
             clear hi153_0 hl153_0
             replace p153 := eq_true p153
             replace q153 := eq_true q153
             have hcz39_0 : wr.cell? ⟨gb152,0,none⟩ = some (u153000) := (blk_cell BK152.out 0).trans rfl
             have hfz39_0 := blk_frozen BK152.out 0
             obtain ⟨Ao40,co40,eo40⟩ := Kd.R_slice HO_153000.out
             subst eo40
             go_wp2
             go_loopg [11] k3 (fun kq v11 w' => ∃ (x11_4 : Int) (x153000_4 : List Int) (u153000 : Value),v11 = .int .i64 x11_4 ∧ Aside0 (spec_Remap.l2 kq l0 l1 x6_2 x7_2 x8_2 x11_4 x153000_4 = some (r1,r2)) ∧ Aside0 (kq ≤ k3) ∧ Aside0 (Kd.R (Kd.int .i64) 2 w' w.heap.size (fun k_ => some k_ ≠ (u153000 : Value).ownBlock) u6 x6_2) ∧ Aside0 (Kd.S k97 97 w' w.heap.size (fun k_ => some k_ ≠ (u6 : Value).ownBlock ∧ some k_ ≠ (u153000 : Value).ownBlock ∧ k_ ≠ gb152) u7 x7_2) ∧ Aside0 (Kd.R (Kd.int .i64) 2 w' w.heap.size (fun k_ => some k_ ≠ (u6 : Value).ownBlock) u153000 x153000_4) ∧ Aside0 (w'.heap[gb152]? = some (.cells #[u153000] 97 (0,0))) ∧ Aside0 (Below w.heap.size w w'))
             case atStart => exact ⟨(0),(x153000_3),(.slice Ao40 x153000_3.length co40),(by first|rfl|(simp;done)|(simp [*];done)),H',⟨Nat.le_refl _⟩,⟨by (with_reducible repeat (first|apply Kd.R_alloc|apply Kd.R_drewN|apply Kd.R_drew));exact HO_6.out⟩,⟨by (with_reducible repeat (first|apply Kd.S_alloc|apply Kd.S_drewN|apply Kd.S_drew));exact HO_7.out⟩,⟨by (with_reducible repeat (first|apply Kd.R_alloc|apply Kd.R_drewN|apply Kd.R_drew));exact HO_153000.out⟩,⟨by (with_reducible repeat (first|refine blk_drewN ?_ _|refine blk_drew ?_|refine blk_alloc ?_ _));exact BK152.out⟩,⟨by repeat (first|(with_reducible first|exact HB.out|apply below_alloc|apply pw_below_drewN|apply below_drew1|refine below_set ?_ GE152.out)|exact HB.out)⟩⟩
             case round =>
              clear H'
              try clear c1
              try clear p1
              try clear q1
              try clear hx1
              try clear c2
              try clear p2
              try clear c3
              try clear c4
              try clear c6
              try clear p6
              try clear c9
              try clear c11
              try clear c12
              try clear c13
              try clear c13b0
              try clear c15
              try clear p15
              try clear q15
              try clear hx15
              try clear c16
              try clear c16b0
              try clear p16
              try clear q16
              try clear hx16
              try clear c17
              try clear c17b0
              try clear c18
              try clear c18b0
              try clear c19
              try clear c19b0
              try clear c21
              try clear c22
              try clear c27
              try clear c27b0
              try clear c27b1
              try clear c27b2
              try clear c28
              try clear c29
              try clear c30
              try clear hcz15_0
              try clear hcz31_0
              try clear hcz39_0
              try clear hfz15_0
              try clear hfz31_0
              try clear hfz39_0
              try clear hx153_0
              try clear hx154_0
              try clear hx155_0
              try clear hx157_0
              try clear hx158_0
              try clear hx168_0
              try clear p153
              try clear p154
              try clear p155
              try clear p157
              try clear p158
              try clear p168
              try clear p2
              try clear q153
              try clear q154
              try clear q155
              try clear q157
              try clear q158
              try clear q168
              obtain ⟨x11_4,x153000_4,u153000,rfl,HA,HK4,HO_6,HO_7,HO_153000,BK152,HB⟩ := hrel
              cases gk with
              | zero => exact absurd HA.out (by simp [spec_Remap.l2])
              | succ k4 =>
               have H := HA.out
               clear HA
               simp only [spec_Remap.l2] at H
               have HC41 := Aside0.mk H
               clear H
               go_upto_region 18 with (fail)
               go_cut [92] (fun v92 wc => ∃ (kq : Nat) (x92_40 : Bool),v92 = .bool x92_40 ∧ Aside0 (spec_Remap.j4 kq l0 l1 x6_2 x7_2 x8_2 x11_4 x92_40 x153000_4 = some (r1,r2)) ∧ Aside0 (kq ≤ k4) ∧ Aside0 (Kd.R (Kd.int .i64) 2 wc w.heap.size (fun k_ => some k_ ≠ (u153000 : Value).ownBlock) u6 x6_2) ∧ Aside0 (Kd.S k97 97 wc w.heap.size (fun k_ => some k_ ≠ (u6 : Value).ownBlock ∧ some k_ ≠ (u153000 : Value).ownBlock ∧ k_ ≠ gb152) u7 x7_2) ∧ Aside0 (Kd.R (Kd.int .i64) 2 wc w.heap.size (fun k_ => some k_ ≠ (u6 : Value).ownBlock) u153000 x153000_4) ∧ Aside0 (wc.heap[gb152]? = some (.cells #[u153000] 97 (0,0))) ∧ Aside0 (Below w.heap.size w wc))
               case first =>
                have H := HC41.out
                clear HC41
                by_cases c42 : x11_4 < (l1.length : Int)
                ·rw [if_pos c42] at H
                 have c42b0 : decide (x11_4 < (l1.length : Int)) = true := decide_eq_true c42
                 clear c42
                 (first|rw [c42b0]|(simp only [i64_w,i32_w];rw [c42b0])|skip)
                 have H' := Aside0.mk H
                 clear H
                 have hcz43_0 : wr.cell? ⟨gb152,0,none⟩ = some (u153000) := (blk_cell BK152.out 0).trans rfl
                 have hfz43_0 := blk_frozen BK152.out 0
                 obtain ⟨Ao44,co44,eo44⟩ := Kd.R_slice HO_153000.out
                 subst eo44
                 go_wp2
                 go_meet
                 case rel => exact ⟨_,(decide ((x153000_4.length : Int) < 3)),(by first|rfl|(simp;done)|(simp [*];done)),H',⟨by have := HJ2.out;have := HK2.out;have := HK3.out;have := HK4.out;first|omega|exact Nat.le_refl _⟩,⟨by (with_reducible repeat (first|apply Kd.R_alloc|apply Kd.R_drewN|apply Kd.R_drew));exact HO_6.out⟩,⟨by (with_reducible repeat (first|apply Kd.S_alloc|apply Kd.S_drewN|apply Kd.S_drew));exact HO_7.out⟩,⟨by (with_reducible repeat (first|apply Kd.R_alloc|apply Kd.R_drewN|apply Kd.R_drew));exact HO_153000.out⟩,⟨by (with_reducible repeat (first|refine blk_drewN ?_ _|refine blk_drew ?_|refine blk_alloc ?_ _));exact BK152.out⟩,⟨by repeat (first|(with_reducible first|exact HB.out|apply below_alloc|apply pw_below_drewN|apply below_drew1|refine below_set ?_ GE152.out)|exact HB.out)⟩⟩
                ·rw [if_neg c42] at H
                 have c42b0 : decide (x11_4 < (l1.length : Int)) = false := decide_eq_false c42
                 clear c42
                 (first|rw [c42b0]|(simp only [i64_w,i32_w];rw [c42b0])|skip)
                 have H' := Aside0.mk H
                 clear H
                 go_wp2
                 go_meet
                 case rel => exact ⟨_,(false),(by first|rfl|(simp;done)|(simp [*];done)),H',⟨by have := HJ2.out;have := HK2.out;have := HK3.out;have := HK4.out;first|omega|exact Nat.le_refl _⟩,⟨by (with_reducible repeat (first|apply Kd.R_alloc|apply Kd.R_drewN|apply Kd.R_drew));exact HO_6.out⟩,⟨by (with_reducible repeat (first|apply Kd.S_alloc|apply Kd.S_drewN|apply Kd.S_drew));exact HO_7.out⟩,⟨by (with_reducible repeat (first|apply Kd.R_alloc|apply Kd.R_drewN|apply Kd.R_drew));exact HO_153000.out⟩,⟨by (with_reducible repeat (first|refine blk_drewN ?_ _|refine blk_drew ?_|refine blk_alloc ?_ _));exact BK152.out⟩,⟨by repeat (first|(with_reducible first|exact HB.out|apply below_alloc|apply pw_below_drewN|apply below_drew1|refine below_set ?_ GE152.out)|exact HB.out)⟩⟩
               case rest =>
                clear HC41
                try clear c1
                try clear p1
                try clear q1
                try clear hx1
                try clear c2
                try clear p2
                try clear c3
                try clear c4
                try clear c6
                try clear p6
                try clear c9
                try clear c11
                try clear c12
                try clear c13
                try clear c13b0
                try clear c15
                try clear p15
                try clear q15
                try clear hx15
                try clear c16
                try clear c16b0
                try clear p16
                try clear q16
                try clear hx16
                try clear c17
                try clear c17b0
                try clear c18
                try clear c18b0
                try clear c19
                try clear c19b0
                try clear c21
                try clear c22
                try clear c27
                try clear c27b0
                try clear c27b1
                try clear c27b2
                try clear c28
                try clear c29
                try clear c30
                try clear c42
                try clear c42b0
                try clear hcz15_0
                try clear hcz31_0
                try clear hcz39_0
                try clear hcz43_0
                try clear hfz15_0
                try clear hfz31_0
                try clear hfz39_0
                try clear hfz43_0
                try clear hx153_0
                try clear hx154_0
                try clear hx155_0
                try clear hx157_0
                try clear hx158_0
                try clear hx168_0
                try clear p1
                try clear p15
                try clear p153
                try clear p154
                try clear p155
                try clear p157
                try clear p158
                try clear p16
                try clear p168
                try clear p2
                try clear p6
                try clear q1
                try clear q15
                try clear q153
                try clear q154
                try clear q155
                try clear q157
                try clear q158
                try clear q16
                try clear q168
                obtain ⟨kq,x92_40,rfl,HA,HJ40,HO_6,HO_7,HO_153000,BK152,HB⟩ := hcut
                cases kq with
                | zero => exact absurd HA.out (by simp [spec_Remap.j4])
                | succ kj40 =>
                 have H := HA.out
                 clear HA
                 simp only [spec_Remap.j4] at H
                 by_cases c45 : x92_40 = true
                 ·subst c45
                  have H1 : (if 0 ≤ x11_4 then (if x11_4 < (l1.length : Int) then (if rdOf false l1 x11_4 = true then ((spec_l3Has.f kj40 x153000_4 x11_4).bind fun t176 => (if t176 = true then (spec_Remap.l2 kj40 l0 l1 x6_2 x7_2 x8_2 (wrap64 (x11_4 + 1)) x153000_4) else (if x153000_4.length < 17592186044416 then (spec_Remap.l2 kj40 l0 l1 x6_2 x7_2 x8_2 (wrap64 (x11_4 + 1)) (x153000_4 ++ [x11_4])) else (none)))) else (spec_Remap.l2 kj40 l0 l1 x6_2 x7_2 x8_2 (wrap64 (x11_4 + 1)) x153000_4)) else (none)) else (none)) = some (r1,r2) := by rw [if_pos rfl] at H;exact H
                  clear H
                  have H := H1
                  clear H1
                  by_cases c46 : 0 ≤ x11_4
                  ·rw [if_pos c46] at H
                   have c46b0 : decide (0 ≤ x11_4) = true := decide_eq_true c46
                   clear c46
                   by_cases c47 : x11_4 < (l1.length : Int)
                   ·rw [if_pos c47] at H
                    have c47b0 : decide (x11_4 < (l1.length : Int)) = true := decide_eq_true c47
                    clear c47
                    obtain ⟨bq48,hbq48⟩ : ∃ b_ : Bool,b_ = (rdOf false l1 x11_4) := ⟨_,rfl⟩
                    replace H : (if bq48 = true then ((spec_l3Has.f kj40 x153000_4 x11_4).bind fun t176 => (if t176 = true then (spec_Remap.l2 kj40 l0 l1 x6_2 x7_2 x8_2 (wrap64 (x11_4 + 1)) x153000_4) else (if x153000_4.length < 17592186044416 then (spec_Remap.l2 kj40 l0 l1 x6_2 x7_2 x8_2 (wrap64 (x11_4 + 1)) (x153000_4 ++ [x11_4])) else (none)))) else (spec_Remap.l2 kj40 l0 l1 x6_2 x7_2 x8_2 (wrap64 (x11_4 + 1)) x153000_4)) = some (r1,r2) := by rw [← hbq48] at H;exact H
                    have Nbq48 := Aside0.mk hbq48
                    clear hbq48
                    by_cases c49 : bq48 = true
                    ·subst c49
                     have H1 : ((spec_l3Has.f kj40 x153000_4 x11_4).bind fun t176 => (if t176 = true then (spec_Remap.l2 kj40 l0 l1 x6_2 x7_2 x8_2 (wrap64 (x11_4 + 1)) x153000_4) else (if x153000_4.length < 17592186044416 then (spec_Remap.l2 kj40 l0 l1 x6_2 x7_2 x8_2 (wrap64 (x11_4 + 1)) (x153000_4 ++ [x11_4])) else (none)))) = some (r1,r2) := by rw [if_pos rfl] at H;exact H
                     clear H
                     have H := H1
                     clear H1
                     replace H := Option.bind_eq_some_iff.mp H
                     obtain ⟨t176,A500,H⟩ := H
                     replace H : (if t176 = true then (spec_Remap.l2 kj40 l0 l1 x6_2 x7_2 x8_2 (wrap64 (x11_4 + 1)) x153000_4) else (if x153000_4.length < 17592186044416 then (spec_Remap.l2 kj40 l0 l1 x6_2 x7_2 x8_2 (wrap64 (x11_4 + 1)) (x153000_4 ++ [x11_4])) else (none))) = some (r1,r2) := H
                     have A50 := Aside0.mk A500
                     clear A500
                     by_cases c51 : t176 = true
                     ·subst c51
                      have H1 : (spec_Remap.l2 kj40 l0 l1 x6_2 x7_2 x8_2 (wrap64 (x11_4 + 1)) x153000_4) = some (r1,r2) := by rw [if_pos rfl] at H;exact H
                      clear H
                      have H := H1
                      clear H1
                      have H' := Aside0.mk H
                      clear H
                      have p175 : 0 ≤ (x11_4 : Int) := of_decide_eq_true (by first|(with_reducible assumption)|assumption)
                      have q175 : x11_4 < (l1.length : Int) := of_decide_eq_true (by first|(with_reducible assumption)|assumption)
                      obtain ⟨ad175,e175,hx175_0⟩ := Kd.at_bool HR1.out x11_4 p175 q175
                      (try rw [← Nbq48.out] at hx175_0)
                      cases e175
                      replace hx175_0 := (HB.out.cell (World.block_lt_of_cell? w _ hx175_0)).trans hx175_0
                      replace p175 := eq_true p175
                      replace q175 := eq_true q175
                      have hcz52_0 : wc.cell? ⟨gb152,0,none⟩ = some (u153000) := (blk_cell BK152.out 0).trans rfl
                      have hfz52_0 := blk_frozen BK152.out 0
                      obtain ⟨Ao53,co53,eo53⟩ := Kd.R_slice HO_153000.out
                      subst eo53
                      go_wp2_with (first|(go_at_call 96;(with_reducible refine (spec_l3Has.calls kj40 _ _ x153000_4 x11_4 true _ ?side1 ?side2 A50.out).mono ?_);(case side1 => repeat (first|exact (Kd.R_reads' HO_153000.out).2.2|(with_reducible refine Kd.C_alloc ?_ _)|(with_reducible refine Kd.C_drewN ?_ _)|(with_reducible refine Kd.C_drew ?_)));(case side2 => exact (Kd.R_reads' HO_153000.out).2.1);rintro e w' ⟨rfl,⟨nd,rfl⟩⟩))
                      go_roundg kj40
                      case measure => have := HJ2.out;have := HK2.out;have := HK3.out;have := HK4.out;have := HJ40.out;omega
                      case rel => exact ⟨(wrap64 (x11_4 + 1)),(x153000_4),(.slice Ao53 x153000_4.length co53),(by first|rfl|(simp;done)|(simp [*];done)),H',⟨by have := HJ2.out;have := HK2.out;have := HK3.out;have := HK4.out;have := HJ40.out;omega⟩,⟨by (with_reducible repeat (first|apply Kd.R_alloc|apply Kd.R_drewN|apply Kd.R_drew));exact HO_6.out⟩,⟨by (with_reducible repeat (first|apply Kd.S_alloc|apply Kd.S_drewN|apply Kd.S_drew));exact HO_7.out⟩,⟨by (with_reducible repeat (first|apply Kd.R_alloc|apply Kd.R_drewN|apply Kd.R_drew));exact HO_153000.out⟩,⟨by (with_reducible repeat (first|refine blk_drewN ?_ _|refine blk_drew ?_|refine blk_alloc ?_ _));exact BK152.out⟩,⟨by repeat (first|(with_reducible first|exact HB.out|apply below_alloc|apply pw_below_drewN|apply below_drew1|refine below_set ?_ GE152.out)|exact HB.out)⟩⟩
                     ·replace c51 := Bool.eq_false_iff.mpr c51
                      subst c51
                      have H1 : (if x153000_4.length < 17592186044416 then (spec_Remap.l2 kj40 l0 l1 x6_2 x7_2 x8_2 (wrap64 (x11_4 + 1)) (x153000_4 ++ [x11_4])) else (none)) = some (r1,r2) := by rw [if_neg (show ¬ (false = true) by decide)] at H;exact H
                      clear H
                      have H := H1
                      clear H1
                      by_cases c54 : x153000_4.length < 17592186044416
                      ·rw [if_pos c54] at H
                       have LMc54 := Aside0.mk c54
                       clear c54
                       obtain ⟨y177,hy177⟩ : ∃ y_ : List Int,y_ = (x153000_4 ++ [x11_4]) := ⟨_,rfl⟩
                       replace H : (spec_Remap.l2 kj40 l0 l1 x6_2 x7_2 x8_2 (wrap64 (x11_4 + 1)) y177) = some (r1,r2) := by first|(rw [hy177];with_reducible exact H)|(have H2_ := (Option.bind_some _ _).symm.trans H;rw [hy177];with_reducible exact H2_)|(have H2_ := (Option.bind_some _ _).symm.trans H;with_reducible exact H2_)|with_reducible exact H|(rw [hy177];exact H)|exact H
                       have Ny177 := Aside0.mk hy177
                       clear hy177
                       have H' := Aside0.mk H
                       clear H
                       have p175 : 0 ≤ (x11_4 : Int) := of_decide_eq_true (by first|(with_reducible assumption)|assumption)
                       have q175 : x11_4 < (l1.length : Int) := of_decide_eq_true (by first|(with_reducible assumption)|assumption)
                       obtain ⟨ad175,e175,hx175_0⟩ := Kd.at_bool HR1.out x11_4 p175 q175
                       (try rw [← Nbq48.out] at hx175_0)
                       cases e175
                       replace hx175_0 := (HB.out.cell (World.block_lt_of_cell? w _ hx175_0)).trans hx175_0
                       replace p175 := eq_true p175
                       replace q175 := eq_true q175
                       have hcz55_0 : wc.cell? ⟨gb152,0,none⟩ = some (u153000) := (blk_cell BK152.out 0).trans rfl
                       have hfz55_0 := blk_frozen BK152.out 0
                       obtain ⟨Ao56,co56,eo56⟩ := Kd.R_slice HO_153000.out
                       subst eo56
                       go_wp2_with (first|(go_at_call 96;(with_reducible refine (spec_l3Has.calls kj40 _ _ x153000_4 x11_4 false _ ?side1 ?side2 A50.out).mono ?_);(case side1 => repeat (first|exact (Kd.R_reads' HO_153000.out).2.2|(with_reducible refine Kd.C_alloc ?_ _)|(with_reducible refine Kd.C_drewN ?_ _)|(with_reducible refine Kd.C_drew ?_)));(case side2 => exact (Kd.R_reads' HO_153000.out).2.1);rintro e w' ⟨rfl,⟨nd,rfl⟩⟩;(try (rw [drewN_self wc];generalize hq_ : World.drewN wc _ = wc;have n0_ : Aside0 (Kd.R (Kd.int .i64) 2 wc w.heap.size (fun k_ => some k_ ≠ (u6 : Value).ownBlock) (.slice Ao56 x153000_4.length co56) x153000_4) := ⟨by rw [← hq_];exact (by (with_reducible repeat (first|apply Kd.R_alloc|apply Kd.R_drewN|apply Kd.R_drew));exact HO_153000.out)⟩;have n1_ : Aside0 (Kd.R (Kd.int .i64) 2 wc w.heap.size (fun k_ => some k_ ≠ (.slice Ao56 x153000_4.length co56 : Value).ownBlock) u6 x6_2) := ⟨by rw [← hq_];exact (by (with_reducible repeat (first|apply Kd.R_alloc|apply Kd.R_drewN|apply Kd.R_drew));exact HO_6.out)⟩;have n2_ : Aside0 (Kd.S k97 97 wc w.heap.size (fun k_ => some k_ ≠ (.slice Ao56 x153000_4.length co56 : Value).ownBlock ∧ some k_ ≠ (u6 : Value).ownBlock ∧ k_ ≠ gb152) u7 x7_2) := ⟨by rw [← hq_];exact (by (with_reducible repeat (first|apply Kd.S_alloc|apply Kd.S_drewN|apply Kd.S_drew));exact Kd.S_mono HO_7.out (fun _ hk => ⟨hk.2.1,⟨hk.1,hk.2.2⟩⟩))⟩;have n3_ : Aside0 (wc.heap[gb152]? = some (.cells #[.slice Ao56 x153000_4.length co56] 97 (0,0))) := ⟨by rw [← hq_];exact (by (with_reducible repeat (first|refine blk_drewN ?_ _|refine blk_drew ?_|refine blk_alloc ?_ _));exact BK152.out)⟩;have n4_ : Aside0 (Below w.heap.size w wc) := ⟨by rw [← hq_];exact (by repeat (first|(with_reducible first|exact HB.out|apply below_alloc|apply pw_below_drewN|apply below_drew1|refine below_set ?_ GE152.out)|exact HB.out))⟩;clear HO_153000 HO_6 HO_7 BK152 HB hq_;have HO_153000 := n0_;have HO_6 := n1_;have HO_7 := n2_;have BK152 := n3_;have HB := n4_;clear n0_ n1_ n2_ n3_ n4_));(try (have hcy2_0 : wc.cell? ⟨gb152,0,none⟩ = some (.slice Ao56 x153000_4.length co56) := (blk_cell BK152.out 0).trans rfl));(try (have hfy2_0 := blk_frozen BK152.out 0)))|((with_reducible refine gblt_ (b := .append) (xs := #[.tmp 107,.tmp 109]) rfl ?_);(try (refine gate_guard (by rfl) ?_;dsimp only));at_builtin;refine Kd.R_append (Kd.int .i64) (w0 := w) w.heap.size rfl (.tmp 107) (.tmp 109) 64 2 (.int .i64 0) 8 rfl Try.underlying64 info2 rfl (by decide) (by omega) (.slice Ao56 x153000_4.length co56) x153000_4 x11_4 [.int .i64 x11_4] (fun k_ => some k_ ≠ (u6 : Value).ownBlock) (fun _ => False) rfl rfl ?aP (fun _ hk => hk.elim) ?aF ?aO ?aB ?aS ?aL ?_;(case aP => exact rfl);(case aB => exact (by repeat (first|(with_reducible first|exact HB.out|apply below_alloc|apply pw_below_drewN|apply below_drew1|refine below_set ?_ GE152.out)|exact HB.out)));(case aF => exact (fun k_ hk => Kd.fresh' (Kd.R_lt (by (with_reducible repeat (first|apply Kd.R_alloc|apply Kd.R_drewN|apply Kd.R_drew));exact HO_6.out)) k_ hk));(case aO => exact (by (with_reducible repeat (first|apply Kd.R_alloc|apply Kd.R_drewN|apply Kd.R_drew));exact HO_153000.out));(case aS => exact (below_size (by repeat (first|(with_reducible first|exact HB.out|apply below_alloc|apply pw_below_drewN|apply below_drew1|refine below_set ?_ GE152.out)|exact HB.out))));(case aL => have := LMc54.out;omega);intro v178 w57 ho hb hg hat;rw [← Ny177.out] at ho;have n0_ := Aside0.mk (Kd.R_after (ok := (fun _ => True)) (by (with_reducible repeat (first|apply Kd.R_alloc|apply Kd.R_drewN|apply Kd.R_drew));exact Kd.R_mono HO_6.out (fun _ hk => ⟨trivial,hk⟩)) hg hat);have n1_ := Aside0.mk (Kd.S_after (ok := (fun k_ => some k_ ≠ (u6 : Value).ownBlock ∧ k_ ≠ gb152)) (by (with_reducible repeat (first|apply Kd.S_alloc|apply Kd.S_drewN|apply Kd.S_drew));exact Kd.S_mono HO_7.out (fun _ hk => ⟨⟨hk.2.1,hk.2.2⟩,hk.1⟩)) hg hat);have n2_ := Aside0.mk (blk_grown (g := gb152) (o := .cells #[.slice Ao56 x153000_4.length co56] 97 (0,0)) (by (with_reducible repeat (first|refine blk_drewN ?_ _|refine blk_drew ?_|refine blk_alloc ?_ _));exact BK152.out) hg (Kd.R_ne HO_153000.out BK152.out (by decide)));have n3_ := Aside0.mk (hb);have n4_ := Aside0.mk (ho);clear HO_6;clear HO_7;clear BK152;clear HB;clear HO_153000;have HO_6 := n0_;have HO_7 := n1_;have BK152 := n2_;have HB := n3_;have HO179 := n4_;clear n0_ n1_ n2_ n3_ n4_;clear ho hb hg hat;obtain ⟨Ao58,co58,eo58⟩ := Kd.R_slice HO179.out;subst eo58;have hcz59_0 : w57.cell? ⟨gb152,0,none⟩ = some (.slice Ao56 x153000_4.length co56) := (blk_cell BK152.out 0).trans rfl;have hfz59_0 := blk_frozen BK152.out 0))
                       go_roundg kj40
                       case measure => have := HJ2.out;have := HK2.out;have := HK3.out;have := HK4.out;have := HJ40.out;omega
                       case rel => exact ⟨(wrap64 (x11_4 + 1)),(y177),(.slice Ao58 y177.length co58),(by first|rfl|(simp;done)|(simp [*];done)),H',⟨by have := HJ2.out;have := HK2.out;have := HK3.out;have := HK4.out;have := HJ40.out;omega⟩,⟨by (with_reducible repeat (first|apply Kd.R_alloc|apply Kd.R_drewN|apply Kd.R_drew));exact Kd.R_mono (Kd.R_far (p := ⟨gb152,0,none⟩) (Kd.R_types HO_6.out BK152.out (by decide)) (fun _ hk => hk.2) (.slice Ao58 y177.length co58)) (fun _ hk => hk.1.2)⟩,⟨by (with_reducible repeat (first|apply Kd.S_alloc|apply Kd.S_drewN|apply Kd.S_drew));exact Kd.S_mono (Kd.S_far (p := ⟨gb152,0,none⟩) (Kd.S_mono HO_7.out (fun k_ hk => (⟨hk,hk.1.2⟩ : _ ∧ k_ ≠ gb152))) (fun _ hk => hk.2) (.slice Ao58 y177.length co58)) (fun _ hk => ⟨hk.1.1.1,⟨hk.1.2,hk.1.1.2⟩⟩)⟩,⟨by (with_reducible repeat (first|apply Kd.R_alloc|apply Kd.R_drewN|apply Kd.R_drew));exact Kd.R_mono (Kd.R_far (p := ⟨gb152,0,none⟩) (Kd.R_types HO179.out BK152.out (by decide)) (fun _ hk => hk.2) (.slice Ao58 y177.length co58)) (fun _ hk => hk.1)⟩,⟨by (with_reducible repeat (first|refine blk_drewN ?_ _|refine blk_drew ?_|refine blk_alloc ?_ _));refine blk_put (cs := #[.slice Ao56 x153000_4.length co56]) ?_ 0 _ rfl;(with_reducible repeat (first|refine blk_drewN ?_ _|refine blk_drew ?_|refine blk_alloc ?_ _));exact BK152.out⟩,⟨by repeat (first|(with_reducible first|exact HB.out|apply below_alloc|apply pw_below_drewN|apply below_drew1|refine below_set ?_ GE152.out)|exact HB.out)⟩⟩
                      ·rw [if_neg c54] at H
                       exact absurd H (by simp)
                    ·replace c49 := Bool.eq_false_iff.mpr c49
                     subst c49
                     have H1 : (spec_Remap.l2 kj40 l0 l1 x6_2 x7_2 x8_2 (wrap64 (x11_4 + 1)) x153000_4) = some (r1,r2) := by rw [if_neg (show ¬ (false = true) by decide)] at H;exact H
                     clear H
                     have H := H1
                     clear H1
                     have H' := Aside0.mk H
                     clear H
                     have p175 : 0 ≤ (x11_4 : Int) := of_decide_eq_true (by first|(with_reducible assumption)|assumption)
                     have q175 : x11_4 < (l1.length : Int) := of_decide_eq_true (by first|(with_reducible assumption)|assumption)
                     obtain ⟨ad175,e175,hx175_0⟩ := Kd.at_bool HR1.out x11_4 p175 q175
                     (try rw [← Nbq48.out] at hx175_0)
                     cases e175
                     replace hx175_0 := (HB.out.cell (World.block_lt_of_cell? w _ hx175_0)).trans hx175_0
                     replace p175 := eq_true p175
                     replace q175 := eq_true q175
                     go_wp2
                     go_roundg kj40
                     case measure => have := HJ2.out;have := HK2.out;have := HK3.out;have := HK4.out;have := HJ40.out;omega
                     case rel => exact ⟨(wrap64 (x11_4 + 1)),(x153000_4),(u153000),(by first|rfl|(simp;done)|(simp [*];done)),H',⟨by have := HJ2.out;have := HK2.out;have := HK3.out;have := HK4.out;have := HJ40.out;omega⟩,⟨by (with_reducible repeat (first|apply Kd.R_alloc|apply Kd.R_drewN|apply Kd.R_drew));exact HO_6.out⟩,⟨by (with_reducible repeat (first|apply Kd.S_alloc|apply Kd.S_drewN|apply Kd.S_drew));exact HO_7.out⟩,⟨by (with_reducible repeat (first|apply Kd.R_alloc|apply Kd.R_drewN|apply Kd.R_drew));exact HO_153000.out⟩,⟨by (with_reducible repeat (first|refine blk_drewN ?_ _|refine blk_drew ?_|refine blk_alloc ?_ _));exact BK152.out⟩,⟨by repeat (first|(with_reducible first|exact HB.out|apply below_alloc|apply pw_below_drewN|apply below_drew1|refine below_set ?_ GE152.out)|exact HB.out)⟩⟩
                   ·rw [if_neg c47] at H
                    exact absurd H (by simp)
                  ·rw [if_neg c46] at H
                   exact absurd H (by simp)
                 ·replace c45 := Bool.eq_false_iff.mpr c45
                  subst c45
                  have H1 : (if x7_2.length < 5864062014805 then (spec_Remap.l0 kj40 l0 l1 x6_2 (x7_2 ++ [(⟨x153000_4⟩ : S97)]) (wrap64 (x8_2 + 1))) else (none)) = some (r1,r2) := by rw [if_neg (show ¬ (false = true) by decide)] at H;exact H
                  clear H
                  have H := H1
                  clear H1
                  by_cases c60 : x7_2.length < 5864062014805
                  ·rw [if_pos c60] at H
                   have LMc60 := Aside0.mk c60
                   clear c60
                   obtain ⟨y180,hy180⟩ : ∃ y_ : List (S97),y_ = (x7_2 ++ [(⟨x153000_4⟩ : S97)]) := ⟨_,rfl⟩
                   replace H : (spec_Remap.l0 kj40 l0 l1 x6_2 y180 (wrap64 (x8_2 + 1))) = some (r1,r2) := by first|(rw [hy180];with_reducible exact H)|(have H2_ := (Option.bind_some _ _).symm.trans H;rw [hy180];with_reducible exact H2_)|(have H2_ := (Option.bind_some _ _).symm.trans H;with_reducible exact H2_)|with_reducible exact H|(rw [hy180];exact H)|exact H
                   have Ny180 := Aside0.mk hy180
                   clear hy180
                   have H' := Aside0.mk H
                   clear H
                   have hcz61_0 : wc.cell? ⟨gb152,0,none⟩ = some (u153000) := (blk_cell BK152.out 0).trans rfl
                   have hfz61_0 := blk_frozen BK152.out 0
                   obtain ⟨Ao63,co63,eo63⟩ := Kd.R_slice HO_153000.out
                   subst eo63
                   go_wp2_with (first|((with_reducible refine gblt_ (b := .append) (xs := #[.tmp 112,.tmp 114]) rfl ?_);(try (refine gate_guard (by rfl) ?_;dsimp only));at_builtin;refine Kd.S_append k97 (w0 := w) w.heap.size rfl (.tmp 112) (.tmp 114) 34 97 (.agg #[(.slice none 0 0)]) 24 rfl Try.underlying34 info97 rfl (by decide) (by omega) u7 x7_2 (⟨x153000_4⟩ : S97) [.slice Ao63 x153000_4.length co63] (fun k_ => some k_ ≠ (u6 : Value).ownBlock ∧ k_ ≠ gb152) (fun k_ => some k_ = (.slice Ao63 x153000_4.length co63 : Value).ownBlock) rfl rfl ?aP (fun k_ hk_ => ((Kd.R_mono (ok' := fun k_ => ((fun k_ => some k_ ≠ (u6 : Value).ownBlock ∧ k_ ≠ gb152)) k_ ∧ some k_ ≠ (u7 : Value).ownBlock) (Kd.R_types (Kd.R_apart' (HO_153000.out) (Kd.S_typed HO_7.out) (by decide)) BK152.out (by decide)) (fun k_ hk => ⟨⟨hk.1.1,hk.2⟩,hk.1.2⟩))).1 k_ hk_.symm) ?aF ?aO ?aB ?aS ?aL ?_;(case aP => exact k97_mkM _ _ _ (⟨x153000_4⟩ : S97) (Kd.R_mono (Kd.R_tight rfl (Kd.R_mono (ok' := fun k_ => ((fun k_ => some k_ ≠ (u6 : Value).ownBlock ∧ k_ ≠ gb152)) k_ ∧ some k_ ≠ (u7 : Value).ownBlock) (Kd.R_types (Kd.R_apart' (HO_153000.out) (Kd.S_typed HO_7.out) (by decide)) BK152.out (by decide)) (fun k_ hk => ⟨⟨hk.1.1,hk.2⟩,hk.1.2⟩))) (fun _ h_ => h_)));(case aB => exact (by repeat (first|(with_reducible first|exact HB.out|apply below_alloc|apply pw_below_drewN|apply below_drew1|refine below_set ?_ GE152.out)|exact HB.out)));(case aF => exact (fun k_ hk => ⟨Kd.fresh' (Kd.R_lt (by (with_reducible repeat (first|apply Kd.R_alloc|apply Kd.R_drewN|apply Kd.R_drew));exact HO_6.out)) k_ hk,Kd.freshB (g := gb152) (o := .cells #[.slice Ao63 x153000_4.length co63] 97 (0,0)) (by (with_reducible repeat (first|refine blk_drewN ?_ _|refine blk_drew ?_|refine blk_alloc ?_ _));exact BK152.out) k_ hk⟩));(case aO => exact (by (with_reducible repeat (first|apply Kd.S_alloc|apply Kd.S_drewN|apply Kd.S_drew));exact Kd.S_mono HO_7.out (fun k_ hk => ⟨⟨hk.1,hk.2.2⟩,fun e_ => hk.2.1 e_⟩)));(case aS => exact (below_size (by repeat (first|(with_reducible first|exact HB.out|apply below_alloc|apply pw_below_drewN|apply below_drew1|refine below_set ?_ GE152.out)|exact HB.out))));(case aL => have := LMc60.out;omega);intro v181 w62 ho hb hg hat;rw [← Ny180.out] at ho;have n0_ := Aside0.mk (Kd.R_over' (by (with_reducible repeat (first|apply Kd.R_alloc|apply Kd.R_drewN|apply Kd.R_drew));exact HO_6.out) (Kd.S_typed (by (with_reducible repeat (first|apply Kd.S_alloc|apply Kd.S_drewN|apply Kd.S_drew));exact HO_7.out)) (by decide) hg);have n1_ := Aside0.mk (blk_grown (g := gb152) (o := .cells #[.slice Ao63 x153000_4.length co63] 97 (0,0)) (by (with_reducible repeat (first|refine blk_drewN ?_ _|refine blk_drew ?_|refine blk_alloc ?_ _));exact BK152.out) hg (Kd.S_away HO_7.out (fun _ hk => hk.2.2)));have n2_ := Aside0.mk (hb);have n3_ := Aside0.mk (ho);clear HO_6;clear BK152;clear HB;clear HO_7;clear HO_153000;have HO_6 := n0_;have BK152 := n1_;have HB := n2_;have HO182 := n3_;clear n0_ n1_ n2_ n3_;clear ho hb hg hat))
                   go_roundg kj40
                   case measure => have := HJ2.out;have := HK2.out;have := HK3.out;have := HK4.out;have := HJ40.out;omega
                   case rel => exact ⟨(x6_2),(y180),(wrap64 (x8_2 + 1)),(by first|rfl|(simp;done)|(simp [*];done)),H',⟨by have := HJ2.out;have := HK2.out;have := HK3.out;have := HK4.out;have := HJ40.out;omega⟩,⟨by (with_reducible repeat (first|apply Kd.R_alloc|apply Kd.R_drewN|apply Kd.R_drew));exact Kd.R_mono HO_6.out (fun _ hk => trivial)⟩,⟨by (with_reducible repeat (first|apply Kd.S_alloc|apply Kd.S_drewN|apply Kd.S_drew));exact Kd.S_mono HO182.out (fun _ hk => hk.1)⟩,⟨by repeat (first|(with_reducible first|exact HB.out|apply below_alloc|apply pw_below_drewN|apply below_drew1|refine below_set ?_ GE152.out)|exact HB.out)⟩⟩
                  ·rw [if_neg c60] at H
                   exact absurd H (by simp)
          ·rw [if_neg c17] at H
           exact absurd H (by simp)
         ·rw [if_neg c16] at H
          exact absurd H (by simp)
      ·rw [if_neg c13] at H
       have c13b0 : decide (x8_2 < (l0.length : Int)) = false := decide_eq_false c13
       clear c13
       simp only [Option.some.injEq,Prod.mk.injEq] at H
       obtain ⟨rfl,rfl⟩ := H
       go_wp2
       go_ret2
       exact ⟨_,_,by first|rfl|(simp [errW_none,errW_some] <;> rfl)|(simp [*,errW_none,errW_some] <;> rfl),by (with_reducible repeat (first|apply Kd.S_alloc|apply Kd.S_drewN|apply Kd.S_drew));exact HO_7.out,by (with_reducible repeat (first|apply Kd.R_alloc|apply Kd.R_drewN|apply Kd.R_drew));exact HO_6.out,by repeat (first|(with_reducible first|exact HB.out|apply below_alloc|apply pw_below_drewN|apply below_drew1)|exact HB.out)⟩

end Go.Proofs.Ytodgacnioeoogaa.XRm
