/- Proved: of each Go function here that a call comes to what the Lean function of its name tells. Written by a program of this session over the translation. No conditions beyond each theorem's own. -/
import Derived.Test.YtgdfbjmjgegicaaXPs0
import Derived.Test.YtgdfbjmjgegicaaXPs1
import Derived.Test.YtgdfbjmjgegicaaXPs5
namespace Go.Proofs.Ytgdfbjmjgegicaa.XPs
open Go.RowKit Go.Proofs.Ytgdfbjmjgegicaa.Aid Go.Proofs.YtgdfbjmjgegicaaW.PrintWords Go.Proofs.YtgdfbjmjgegicaaW.PrintLast Go.Proofs.YtgdfbjmjgegicaaW.PrintMore
set_option linter.unusedVariables false
set_option linter.unusedSimpArgs false

/-! ### spec_Remap: function 53 -/
mutual
def spec_Remap.j0 : Nat → List (S84) → List Bool → List Int → List (S84) → Bool → Option ((List (S84)) × List Int)
  | 0, _, _, _, _, _ => none
  | k + 1, x0, x1, x6, x7, x21 => if x21 = true then (some (x7, x6)) else (spec_Remap.l0 k x0 x1 x6 x7 0)
def spec_Remap.l0 : Nat → List (S84) → List Bool → List Int → List (S84) → Int → Option ((List (S84)) × List Int)
  | 0, _, _, _, _, _ => none
  | k + 1, x0, x1, x6, x7, x8 => if x8 < (x0.length : Int) then (spec_Remap.l1 k x0 x1 x6 x7 x8 0 ([] : List Int)) else (some (x7, x6))
def spec_Remap.l1 : Nat → List (S84) → List Bool → List Int → List (S84) → Int → Int → List Int → Option ((List (S84)) × List Int)
  | 0, _, _, _, _, _, _, _ => none
  | k + 1, x0, x1, x6, x7, x8, x10, x242000 => if 0 ≤ x8 then (if x8 < (x0.length : Int) then (if x10 < (((rd_T84 x0 x8).f0).length : Int) then (if 0 ≤ x10 then ((spec_l5Lives.f x1 (rd ((rd_T84 x0 x8).f0) x10)).bind fun t245 => (if t245 = true then (if x242000.length < 17592186044416 then (spec_Remap.l1 k x0 x1 x6 x7 x8 (wrap64 (x10 + 1)) (x242000 ++ [rd ((rd_T84 x0 x8).f0) x10])) else (none)) else (spec_Remap.l1 k x0 x1 x6 x7 x8 (wrap64 (x10 + 1)) x242000))) else (none)) else (if (x242000.length : Int) = 0 then (if x6.length < 17592186044416 then ((some (([] : List Int) : List Int)).bind fun y254 => (if y254.length + ((rd_T84 x0 x8).f0).length < 17592186044416 then (if x7.length < 5864062014805 then (spec_Remap.l0 k x0 x1 (x6 ++ [x8]) (x7 ++ [(⟨(y254 ++ ((rd_T84 x0 x8).f0))⟩ : S84)]) (wrap64 (x8 + 1))) else (none)) else (none))) else (none)) else (spec_Remap.l2 k x0 x1 x6 x7 x8 0 x242000))) else (none)) else (none)
def spec_Remap.l2 : Nat → List (S84) → List Bool → List Int → List (S84) → Int → Int → List Int → Option ((List (S84)) × List Int)
  | 0, _, _, _, _, _, _, _ => none
  | k + 1, x0, x1, x6, x7, x8, x11, x242000 => if x11 < (x1.length : Int) then (spec_Remap.j4 k x0 x1 x6 x7 x8 x11 (decide ((x242000.length : Int) < 3)) x242000) else (spec_Remap.j4 k x0 x1 x6 x7 x8 x11 false x242000)
def spec_Remap.j4 : Nat → List (S84) → List Bool → List Int → List (S84) → Int → Int → Bool → List Int → Option ((List (S84)) × List Int)
  | 0, _, _, _, _, _, _, _, _ => none
  | k + 1, x0, x1, x6, x7, x8, x11, x92, x242000 => if x92 = true then (if 0 ≤ x11 then (if x11 < (x1.length : Int) then (if rdOf false x1 x11 = true then ((spec_l3Has.f k x242000 x11).bind fun t265 => (if t265 = true then (spec_Remap.l2 k x0 x1 x6 x7 x8 (wrap64 (x11 + 1)) x242000) else (if x242000.length < 17592186044416 then (spec_Remap.l2 k x0 x1 x6 x7 x8 (wrap64 (x11 + 1)) (x242000 ++ [x11])) else (none)))) else (spec_Remap.l2 k x0 x1 x6 x7 x8 (wrap64 (x11 + 1)) x242000)) else (none)) else (none)) else (if x7.length < 5864062014805 then (spec_Remap.l0 k x0 x1 x6 (x7 ++ [(⟨x242000⟩ : S84)]) (wrap64 (x8 + 1))) else (none))
end
def spec_Remap.f (k : Nat) (l0 : List (S84)) (l1 : List Bool) : Option ((List (S84)) × List Int) := (some (([] : List Int) : List Int)).bind fun y234 => ((some (([] : List (S84)) : List (S84))).bind fun y237 => ((spec_PlacesOk.f k l0).bind fun t240 => (if t240 = true then (spec_Remap.j0 k l0 l1 y234 y237 (decide ((l1.length : Int) > 8))) else (spec_Remap.j0 k l0 l1 y234 y237 true))))

def spec_Remap.T13 : Bool × List (List Nat × List Nat) := (true, [([], []), ([0], [0]), ([], []), ([], []), ([2, 3], [2, 3]), ([4], [4]), ([5], [5]), ([], []), ([6, 7], [6, 7]), ([8], [8]), ([9], [9]), ([1, 10], [1, 10]), ([0, 1, 2, 3, 4, 5, 6, 7, 8, 9, 10, 11], []), ([12, 11, 11, 0, 1, 2, 3, 4, 5, 6, 7, 8, 9, 10, 11], [11, 12])])
def spec_Remap.B13 : List Nat := [0, 1, 0, 0, 12, 28, 60, 0, 252, 508, 1020, 2047, 4095, 8191]
theorem spec_Remap.tab13 : rtab .any (opsOf Try.f53 13) = spec_Remap.T13 := by kernel_rfl
theorem spec_Remap.bits13 : waitsOk spec_Remap.T13.2 spec_Remap.B13 = true := by kernel_rfl
set_option maxHeartbeats 8000000 in
set_option maxRecDepth 100000 in
theorem spec_Remap.calls (k : Nat) (A0 : Option Addr) (c0 : Nat) (l0 : List (S84)) (A1 : Option Addr) (c1 : Nat) (l1 : List Bool) (r1 : List (S84)) (r2 : List Int) (w : World) (hr0 : Kd.C k84 w A0 l0.length l0) (hc0 : l0.length ≤ c0) (hr1 : Kd.C Kd.bool w A1 l1.length l1) (hc1 : l1.length ≤ c1) (h : spec_Remap.f k l0 l1 = some (r1, r2)) :
    Calls Try.prog 53 #[.slice A0 l0.length c0, .slice A1 l1.length c1] w fun e w' => ∃ v0_ v1_ : Value, e = .returned (.tuple #[v0_, v1_]) ∧ Kd.S k84 84 w' w.heap.size (fun k_ => some k_ ≠ (v1_ : Value).ownBlock) v0_ r1 ∧ Kd.R (Kd.int .i64) 2 w' w.heap.size (fun _ => True) v1_ r2 ∧ Below w.heap.size w w' := by
 have hu84 := Try.underlying84
 have HR0 := Aside0.mk hr0
 have HC0 := Aside0.mk hc0
 clear hr0 hc0
 have HR1 := Aside0.mk hr1
 have HC1 := Aside0.mk hc1
 clear hr1 hc1
 have HB := Aside0.mk (Below.refl w.heap.size w)
 have H : ((some (([] : List Int) : List Int)).bind fun y234 => ((some (([] : List (S84)) : List (S84))).bind fun y237 => ((spec_PlacesOk.f k l0).bind fun t240 => (if t240 = true then (spec_Remap.j0 k l0 l1 y234 y237 (decide ((l1.length : Int) > 8))) else (spec_Remap.j0 k l0 l1 y234 y237 true))))) = some (r1,r2) := h
 clear h
 obtain ⟨y234,hy234⟩ : ∃ y_ : List Int,y_ = (([] : List Int)) := ⟨_,rfl⟩
 replace H : ((some (([] : List (S84)) : List (S84))).bind fun y237 => ((spec_PlacesOk.f k l0).bind fun t240 => (if t240 = true then (spec_Remap.j0 k l0 l1 y234 y237 (decide ((l1.length : Int) > 8))) else (spec_Remap.j0 k l0 l1 y234 y237 true)))) = some (r1,r2) := by first|(rw [hy234];with_reducible exact H)|(have H2_ := (Option.bind_some _ _).symm.trans H;rw [hy234];with_reducible exact H2_)|(have H2_ := (Option.bind_some _ _).symm.trans H;with_reducible exact H2_)|with_reducible exact H|(rw [hy234];exact H)|exact H
 have Ny234 := Aside0.mk hy234
 clear hy234
 obtain ⟨y237,hy237⟩ : ∃ y_ : List (S84),y_ = (([] : List (S84))) := ⟨_,rfl⟩
 replace H : ((spec_PlacesOk.f k l0).bind fun t240 => (if t240 = true then (spec_Remap.j0 k l0 l1 y234 y237 (decide ((l1.length : Int) > 8))) else (spec_Remap.j0 k l0 l1 y234 y237 true))) = some (r1,r2) := by first|(rw [hy237];with_reducible exact H)|(have H2_ := (Option.bind_some _ _).symm.trans H;rw [hy237];with_reducible exact H2_)|(have H2_ := (Option.bind_some _ _).symm.trans H;with_reducible exact H2_)|with_reducible exact H|(rw [hy237];exact H)|exact H
 have Ny237 := Aside0.mk hy237
 clear hy237
 have HC3 := Aside0.mk H
 clear H
 go_enter Try.func53,Try.ntmps53
 go_upto_region 3 with (first|((with_reducible refine gate_dst (N := 12) rfl ?_);(try (refine gate_guard (by rfl) ?_;dsimp only));refine Kd.R_lit (Kd.int .i64) _ 2 ?hg (N := 12) ?hd (xs := ([] : List Int)) (inner := []) (ok := fun _ => True) (okp := fun _ => True) ?hr ?hp (fun _ hk => hk) trivial (Below.refl _ _) (Nat.le_refl _) (by simp) ?_;(case hd => rfl);(case hg => rfl);(case hr => first|(go_simp;done)|(go_simp;rfl));(case hp => exact (Reps.none _ _));intro v235 w4 ho5 hb hg_ hnew_;clear hg_ hnew_;(first|rw [← Ny234.out] at ho5|(simp only [Int.reduceToNat] at ho5;rw [← Ny234.out] at ho5));have n0_ := Aside0.mk (Kd.R_lower ho5 (below_size b_));have n1_ := Aside0.mk (below_step b_ hb);clear HB;have HO236 := n0_;have HB := n1_;clear n0_ n1_;clear hb ho5)|((with_reducible refine gate_dst (N := 13) rfl ?_);(try (refine gate_guard (by rfl) ?_;dsimp only));refine Kd.S_lit k84 _ 84 ?hg (N := 13) ?hd (xs := ([] : List (S84))) (inner := []) (ok := fun _ => True) (okp := fun _ => True) ?hr ?hp (fun _ hk => hk) trivial (Below.refl _ _) (Nat.le_refl _) (by simp) ?_;(case hd => rfl);(case hg => rfl);(case hr => first|(go_simp;done)|(go_simp;rfl));(case hp => exact (Reps.none _ _));intro v238 w6 ho7 hb hg_ hnew_;clear hg_ hnew_;(first|rw [← Ny237.out] at ho7|(simp only [Int.reduceToNat] at ho7;rw [← Ny237.out] at ho7));have n0_ := Aside0.mk (Kd.R_below (by (with_reducible repeat (first|apply Kd.R_alloc|apply Kd.R_drewN|apply Kd.R_drew));exact HO236.out) hb);have n1_ := Aside0.mk (Kd.S_lower (Kd.S_new' ho7 (Kd.R_lt (by (with_reducible repeat (first|apply Kd.R_alloc|apply Kd.R_drewN|apply Kd.R_drew));exact HO236.out))) (below_size b_));have n2_ := Aside0.mk (below_step b_ hb);clear HO236;clear HB;have HO236 := n0_;have HO239 := n1_;have HB := n2_;clear n0_ n1_ n2_;clear hb ho7))
 (try simp only [Act.put,List.setIfInBounds_toArray,List.set_cons_zero,List.set_cons_succ])
 go_cut [21] (fun v21 wc => ∃ (kq : Nat) (x21_2 : Bool),v21 = .bool x21_2 ∧ Aside0 (spec_Remap.j0 kq l0 l1 y234 y237 x21_2 = some (r1,r2)) ∧ Aside0 (kq ≤ k) ∧ Aside0 (Kd.R (Kd.int .i64) 2 wc w.heap.size (fun _ => True) v235 y234) ∧ Aside0 (Kd.S k84 84 wc w.heap.size (fun k_ => some k_ ≠ (v235 : Value).ownBlock) v238 y237) ∧ Aside0 (Below w.heap.size w wc))
 case first =>
  have H := HC3.out
  clear HC3
  replace H := bs_ H
  obtain ⟨t240,A8,H⟩ := H
  by_cases c9 : t240 = true
  ·subst c9
   replace H := it_ H
   have H' := Aside0.mk H
   clear H
   go_wp2_with (first|((with_reducible refine gcal_ (f := 97) rfl ?_);refine gl_ (some 15) Try.func97 #[.slice A0 l0.length c0] ?_;(with_reducible refine (spec_PlacesOk.calls k _ _ l0 true _ ?side1 ?side2 A8.out).mono ?_);(case side1 => exact cb_ HR0);(case side2 => exact HC0.out);rintro e w10 ⟨rfl,hb⟩;refine ⟨_,rfl,?_⟩;replace HO236 := Aside0.mk (Kd.R_below (by (with_reducible repeat (first|apply Kd.R_alloc|apply Kd.R_drewN|apply Kd.R_drew));exact HO236.out) hb);replace HO239 := Aside0.mk (Kd.S_below (by (with_reducible repeat (first|apply Kd.S_alloc|apply Kd.S_drewN|apply Kd.S_drew));exact HO239.out) hb);replace HB := Aside0.mk (below_step b_ hb);(try clear hb);(try clear hb2);(try clear hk);(try clear hi)))
   go_meet
   case rel => exact ⟨_,(decide ((l1.length : Int) > 8)),rs_,H',⟨by first|omega|exact Nat.le_refl _⟩,⟨by (with_reducible repeat (first|apply Kd.R_alloc|apply Kd.R_drewN|apply Kd.R_drew));exact HO236.out⟩,⟨by (with_reducible repeat (first|apply Kd.S_alloc|apply Kd.S_drewN|apply Kd.S_drew));exact Kd.S_mono HO239.out (fun _ hk => hk.2)⟩,⟨b_⟩⟩
  ·replace c9 := Bool.eq_false_iff.mpr c9
   subst c9
   replace H := ie_ H
   have H' := Aside0.mk H
   clear H
   go_wp2_with (first|((with_reducible refine gcal_ (f := 97) rfl ?_);refine gl_ (some 15) Try.func97 #[.slice A0 l0.length c0] ?_;(with_reducible refine (spec_PlacesOk.calls k _ _ l0 false _ ?side1 ?side2 A8.out).mono ?_);(case side1 => exact cb_ HR0);(case side2 => exact HC0.out);rintro e w11 ⟨rfl,hb⟩;refine ⟨_,rfl,?_⟩;replace HO236 := Aside0.mk (Kd.R_below (by (with_reducible repeat (first|apply Kd.R_alloc|apply Kd.R_drewN|apply Kd.R_drew));exact HO236.out) hb);replace HO239 := Aside0.mk (Kd.S_below (by (with_reducible repeat (first|apply Kd.S_alloc|apply Kd.S_drewN|apply Kd.S_drew));exact HO239.out) hb);replace HB := Aside0.mk (below_step b_ hb);(try clear hb);(try clear hb2);(try clear hk);(try clear hi)))
   go_meet
   case rel => exact ⟨_,(true),rs_,H',⟨by first|omega|exact Nat.le_refl _⟩,⟨by (with_reducible repeat (first|apply Kd.R_alloc|apply Kd.R_drewN|apply Kd.R_drew));exact HO236.out⟩,⟨by (with_reducible repeat (first|apply Kd.S_alloc|apply Kd.S_drewN|apply Kd.S_drew));exact Kd.S_mono HO239.out (fun _ hk => hk.2)⟩,⟨b_⟩⟩
 case rest =>
  clear HC3
  try clear c1
  try clear p2
  try clear c5
  try clear c9
  obtain ⟨kq,x21_2,rfl,HA,HJ2,HO_6,HO_7,HB⟩ := hcut
  cases kq with
    | zero => exact absurd HA.out (by simp [spec_Remap.j0])
    | succ kj2 =>
   have H := HA.out
   clear HA
   simp only [spec_Remap.j0] at H
   by_cases c12 : x21_2 = true
   ·subst c12
    replace H := it_ H
    simp only [Option.some.injEq,Prod.mk.injEq] at H
    obtain ⟨rfl,rfl⟩ := H
    go_wp2
    go_ret2
    exact ⟨_,_,rf_,by (with_reducible repeat (first|apply Kd.S_alloc|apply Kd.S_drewN|apply Kd.S_drew));exact HO_7.out,by (with_reducible repeat (first|apply Kd.R_alloc|apply Kd.R_drewN|apply Kd.R_drew));exact HO_6.out,b_⟩
   ·replace c12 := Bool.eq_false_iff.mpr c12
    subst c12
    replace H := ie_ H
    have H' := Aside0.mk H
    clear H
    go_wp2
    go_loopg [6,7,8] kj2 (fun kq v6 v7 v8 w' => ∃ (x6_2 : List Int) (x7_2 : List (S84)) (x8_2 : Int),v8 = .int .i64 x8_2 ∧ Aside0 (spec_Remap.l0 kq l0 l1 x6_2 x7_2 x8_2 = some (r1,r2)) ∧ Aside0 (kq ≤ kj2) ∧ Aside0 (Kd.R (Kd.int .i64) 2 w' w.heap.size (fun _ => True) v6 x6_2) ∧ Aside0 (Kd.S k84 84 w' w.heap.size (fun k_ => some k_ ≠ (v6 : Value).ownBlock) v7 x7_2) ∧ Aside0 (Below w.heap.size w w'))
    case atStart => exact ⟨(y234),(y237),(0),rs_,H',⟨Nat.le_refl _⟩,⟨by (with_reducible repeat (first|apply Kd.R_alloc|apply Kd.R_drewN|apply Kd.R_drew));exact HO_6.out⟩,⟨by (with_reducible repeat (first|apply Kd.S_alloc|apply Kd.S_drewN|apply Kd.S_drew));exact HO_7.out⟩,⟨b_⟩⟩
    case round =>
     clear H'
     try clear c1
     try clear p2
     try clear c5
     try clear c9
     try clear c12
     try clear p2
     obtain ⟨x6_2,x7_2,x8_2,rfl,HA,HK2,HO_6,HO_7,HB⟩ := hrel
     cases gk with
     | zero => exact absurd HA.out (by simp [spec_Remap.l0])
     | succ k2 =>
      have H := HA.out
      clear HA
      simp only [spec_Remap.l0] at H
      by_cases c13 : x8_2 < (l0.length : Int)
      ·rw [if_pos c13] at H
       have c13b0 : decide (x8_2 < (l0.length : Int)) = true := decide_eq_true c13
       clear c13
       have H' := Aside0.mk H
       clear H
       go_wp2_with (first|((with_reducible refine gate_dst (N := 9) rfl ?_);(try (refine gate_guard (by rfl) ?_;dsimp only));refine bx_ 9 #[.slice none 0 0] 84 ?_;intro gb241 hg w14 hbox hb;replace HO_6 := Aside0.mk (Kd.R_below (by (with_reducible repeat (first|apply Kd.R_alloc|apply Kd.R_drewN|apply Kd.R_drew));exact HO_6.out) hb);replace HO_7 := Aside0.mk (Kd.S_below (Kd.S_elderB (by (with_reducible repeat (first|apply Kd.S_alloc|apply Kd.S_drewN|apply Kd.S_drew));exact HO_7.out) gb241 (Nat.le_of_eq hg.symm)) hb);replace HB := nb_ hg hbox hb;obtain ⟨BK241,GW241,GE241,HB⟩ := HB;clear hb hbox hg;have hcz15_0 : w14.cell? ⟨gb241,0,none⟩ = some (.slice none 0 0) := (blk_cell BK241.out 0).trans rfl;have hfz15_0 := blk_frozen BK241.out 0))
       go_loopg [10] k2 (fun kq v10 w' => ∃ (x10_3 : Int) (x242000_3 : List Int) (u242000 : Value),v10 = .int .i64 x10_3 ∧ Aside0 (spec_Remap.l1 kq l0 l1 x6_2 x7_2 x8_2 x10_3 x242000_3 = some (r1,r2)) ∧ Aside0 (kq ≤ k2) ∧ Aside0 (Kd.R (Kd.int .i64) 2 w' w.heap.size (fun k_ => some k_ ≠ (u242000 : Value).ownBlock) u6 x6_2) ∧ Aside0 (Kd.S k84 84 w' w.heap.size (fun k_ => some k_ ≠ (u6 : Value).ownBlock ∧ some k_ ≠ (u242000 : Value).ownBlock ∧ k_ ≠ gb241) u7 x7_2) ∧ Aside0 (Kd.R (Kd.int .i64) 2 w' w.heap.size (fun k_ => some k_ ≠ (u6 : Value).ownBlock) u242000 x242000_3) ∧ Aside0 (w'.heap[gb241]? = some (.cells #[u242000] 84 (0,0))) ∧ Aside0 (Below w.heap.size w w'))
       case atStart => exact ⟨(0),(([] : List Int)),(.slice none 0 0),rs_,H',⟨Nat.le_refl _⟩,⟨by (with_reducible repeat (first|apply Kd.R_alloc|apply Kd.R_drewN|apply Kd.R_drew));exact Kd.R_mono (Kd.R_far (p := ⟨gb241,0,none⟩) (Kd.R_types HO_6.out BK241.out (by decide)) (fun _ hk => hk.2) (.slice none 0 0)) (fun _ hk => (by simp [Value.ownBlock]))⟩,⟨by (with_reducible repeat (first|apply Kd.S_alloc|apply Kd.S_drewN|apply Kd.S_drew));exact Kd.S_mono (Kd.S_far (p := ⟨gb241,0,none⟩) (Kd.S_mono HO_7.out (fun k_ hk => (⟨hk,hk.2⟩ : _ ∧ k_ ≠ gb241))) (fun _ hk => hk.2) (.slice none 0 0)) (fun _ hk => ⟨hk.1.1,⟨(by simp [Value.ownBlock]),hk.1.2⟩⟩)⟩,⟨by first|exact Kd.R_nil _ _ _ _ _|exact Kd.N_nil _ _ _ _ _|exact Kd.V_nil _ _ _ _ _|exact Kd.Q_nil _ _ _ _ _|exact Kd.S_nil _ _ _ _ _⟩,⟨by (with_reducible repeat (first|refine blk_drewN ?_ _|refine blk_drew ?_|refine blk_alloc ?_ _));refine blk_put (cs := #[.slice none 0 0]) ?_ 0 _ rfl;(with_reducible repeat (first|refine blk_drewN ?_ _|refine blk_drew ?_|refine blk_alloc ?_ _));exact BK241.out⟩,⟨b_⟩⟩
       case round =>
        clear H'
        try clear c1
        try clear p2
        try clear c5
        try clear c9
        try clear c12
        try clear c13
        try clear c13b0
        try clear hcz15_0
        try clear hfz15_0
        try clear p2
        obtain ⟨x10_3,x242000_3,u242000,rfl,HA,HK3,HO_6,HO_7,HO_242000,BK241,HB⟩ := hrel
        cases gk with
        | zero => exact absurd HA.out (by simp [spec_Remap.l1])
        | succ k3 =>
         have H := HA.out
         clear HA
         simp only [spec_Remap.l1] at H
         by_cases c16 : 0 ≤ x8_2
         ·rw [if_pos c16] at H
          have c16b0 : decide (0 ≤ x8_2) = true := decide_eq_true c16
          clear c16
          by_cases c17 : x8_2 < (l0.length : Int)
          ·rw [if_pos c17] at H
           have c17b0 : decide (x8_2 < (l0.length : Int)) = true := decide_eq_true c17
           clear c17
           by_cases c18 : x10_3 < (((rd_T84 l0 x8_2).f0).length : Int)
           ·rw [if_pos c18] at H
            have c18b0 : decide (x10_3 < (((rd_T84 l0 x8_2).f0).length : Int)) = true := decide_eq_true c18
            clear c18
            by_cases c19 : 0 ≤ x10_3
            ·rw [if_pos c19] at H
             have c19b0 : decide (0 ≤ x10_3) = true := decide_eq_true c19
             clear c19
             replace H := bs_ H
             obtain ⟨t245,A20,H⟩ := H
             by_cases c21 : t245 = true
             ·subst c21
              replace H := it_ H
              by_cases c22 : x242000_3.length < 17592186044416
              ·rw [if_pos c22] at H
               have LMc22 := Aside0.mk c22
               clear c22
               obtain ⟨y248,hy248⟩ : ∃ y_ : List Int,y_ = (x242000_3 ++ [rd ((rd_T84 l0 x8_2).f0) x10_3]) := ⟨_,rfl⟩
               replace H : (spec_Remap.l1 k3 l0 l1 x6_2 x7_2 x8_2 (wrap64 (x10_3 + 1)) y248) = some (r1,r2) := by first|(rw [hy248];with_reducible exact H)|(have H2_ := (Option.bind_some _ _).symm.trans H;rw [hy248];with_reducible exact H2_)|(have H2_ := (Option.bind_some _ _).symm.trans H;with_reducible exact H2_)|with_reducible exact H|(rw [hy248];exact H)|exact H
               have Ny248 := Aside0.mk hy248
               clear hy248
               have H' := Aside0.mk H
               clear H
               have p242 : 0 ≤ (x8_2 : Int) := od_
               have q242 : x8_2 < (l0.length : Int) := od_
               obtain ⟨ad242,A242_0,c242_0,e242,hx242_0,hl242_0,hi242_0⟩ := at_T84 HR0.out x8_2 p242 q242
               cases e242
               replace hx242_0 := hx_ HB hx242_0
               have HR242_0 := Aside0.mk hi242_0
               have HC242_0 := Aside0.mk hl242_0
               clear hi242_0 hl242_0
               replace p242 := eq_true p242
               replace q242 := eq_true q242
               have p243 : 0 ≤ (x8_2 : Int) := od_
               have q243 : x8_2 < (l0.length : Int) := od_
               obtain ⟨ad243,A243_0,c243_0,e243,hx243_0,hl243_0,hi243_0⟩ := at_T84 HR0.out x8_2 p243 q243
               obtain rfl : ad242 = ad243 := (by injection e243)
               replace hx243_0 := hx_ HB hx243_0
               have HR243_0 := Aside0.mk hi243_0
               have HC243_0 := Aside0.mk hl243_0
               clear hi243_0 hl243_0
               replace p243 := eq_true p243
               replace q243 := eq_true q243
               have ea_ := Option.some.inj (hx242_0.symm.trans hx243_0)
               injection ea_ with ea_ en_ ec_
               subst ea_
               subst ec_
               clear en_
               have p244 : 0 ≤ (x10_3 : Int) := od_
               have q244 : x10_3 < (((rd_T84 l0 x8_2).f0).length : Int) := od_
               obtain ⟨ad244,e244,hx244_0⟩ := Kd.at_int HR243_0.out x10_3 p244 q244
               cases e244
               replace hx244_0 := hx_ HB hx244_0
               replace p244 := eq_true p244
               replace q244 := eq_true q244
               try go_wp2_with (first|((with_reducible refine gcal_ (f := 98) rfl ?_);refine gl_ (some 50) Try.func98 #[.slice A1 l1.length c1,.int .i64 (rd ((rd_T84 l0 x8_2).f0) x10_3)] ?_;(with_reducible refine (spec_l5Lives.calls _ _ l1 (rd ((rd_T84 l0 x8_2).f0) x10_3) true _ ?side1 ?side2 A20.out).mono ?_);(case side1 => exact cb_ HR1);(case side2 => exact HC1.out);rintro e w' ⟨rfl,⟨nd,rfl⟩⟩;refine ⟨_,rfl,?_⟩;(try (rw [drewN_self wr];generalize hq_ : World.drewN wr _ = wr;have n0_ : Aside0 (Kd.R (Kd.int .i64) 2 wr w.heap.size (fun k_ => some k_ ≠ (u6 : Value).ownBlock) u242000 x242000_3) := ⟨by rw [← hq_];exact (by (with_reducible repeat (first|apply Kd.R_alloc|apply Kd.R_drewN|apply Kd.R_drew));exact HO_242000.out)⟩;have n1_ : Aside0 (Kd.R (Kd.int .i64) 2 wr w.heap.size (fun k_ => some k_ ≠ (u242000 : Value).ownBlock) u6 x6_2) := ⟨by rw [← hq_];exact (by (with_reducible repeat (first|apply Kd.R_alloc|apply Kd.R_drewN|apply Kd.R_drew));exact HO_6.out)⟩;have n2_ : Aside0 (Kd.S k84 84 wr w.heap.size (fun k_ => some k_ ≠ (u242000 : Value).ownBlock ∧ some k_ ≠ (u6 : Value).ownBlock ∧ k_ ≠ gb241) u7 x7_2) := ⟨by rw [← hq_];exact (by (with_reducible repeat (first|apply Kd.S_alloc|apply Kd.S_drewN|apply Kd.S_drew));exact Kd.S_mono HO_7.out (fun _ hk => ⟨hk.2.1,⟨hk.1,hk.2.2⟩⟩))⟩;have n3_ : Aside0 (wr.heap[gb241]? = some (.cells #[u242000] 84 (0,0))) := ⟨by rw [← hq_];exact kk_⟩;have n4_ : Aside0 (Below w.heap.size w wr) := ⟨by rw [← hq_];exact b_⟩;clear HO_242000 HO_6 HO_7 BK241 HB hq_;have HO_242000 := n0_;have HO_6 := n1_;have HO_7 := n2_;have BK241 := n3_;have HB := n4_;clear n0_ n1_ n2_ n3_ n4_));(try (have hcy7_0 : wr.cell? ⟨gb241,0,none⟩ = some (u242000) := (blk_cell BK241.out 0).trans rfl));(try (have hfy7_0 := blk_frozen BK241.out 0))))
               replace HO_6 := Aside0.mk (Kd.R_drew HO_6.out)
               replace HO_7 := Aside0.mk (Kd.S_drew HO_7.out)
               replace HO_242000 := Aside0.mk (Kd.R_drew HO_242000.out)
               replace BK241 := Aside0.mk (blk_drew BK241.out)
               replace HB := Aside0.mk (below_drew1 HB.out)
               have p246 : 0 ≤ (x8_2 : Int) := od_
               have q246 : x8_2 < (l0.length : Int) := od_
               obtain ⟨ad246,A246_0,c246_0,e246,hx246_0,hl246_0,hi246_0⟩ := at_T84 HR0.out x8_2 p246 q246
               have hw246_0 := hx246_0
               obtain rfl : ad242 = ad246 := (by injection e246)
               replace hx246_0 := hx_ HB hx246_0
               have HR246_0 := Aside0.mk hi246_0
               have HC246_0 := Aside0.mk hl246_0
               clear hi246_0 hl246_0
               replace p246 := eq_true p246
               replace q246 := eq_true q246
               have p247 : 0 ≤ (x10_3 : Int) := od_
               have q247 : x10_3 < (((rd_T84 l0 x8_2).f0).length : Int) := od_
               obtain ⟨ad247,e247,hx247_0⟩ := Kd.at_int HR246_0.out x10_3 p247 q247
               have hw247_0 := hx247_0
               cases e247
               replace hx247_0 := hx_ HB hx247_0
               replace p247 := eq_true p247
               replace q247 := eq_true q247
               refine std_ 14 (S := fun w' => (w'.cell? ⟨gb241,0,none⟩ = some (u242000)) ∧ (w'.cell? (ad242.add (x8_2).toNat) = some (.slice (some ad247) ((rd_T84 l0 x8_2).f0).length c246_0)) ∧ w'.cell? (ad247.add (x10_3).toNat) = some (.int .i64 (rd ((rd_T84 l0 x8_2).f0) x10_3))) (ds := [13]) hh_ (fun hHeld => ?_);refine with_tabW spec_Remap.tab13 spec_Remap.bits13 (fun HT_ HW_ => ?_)
               generalize wr.drew = w23 at HO_6 HO_7 HO_242000 BK241 HB HR246_0 hx246_0 hx247_0 hHeld ⊢
               refine pv_ 0 51 ?_
               refine pv_ 2 53 ?_
               refine pv_ 3 54 ?_
               refine pv_ 4 55 ?_
               refine pv_ 5 56 ?_
               refine pv_ 7 58 ?_
               refine tx_ 1 52 hHeld ?_
               refine tx_ 6 57 hHeld ?_
               refine pv_ 8 59 ?_
               refine tx_ 9 60 hHeld ?_
               refine oy_ 10 61 (fun K hK => ?_)
               refine value_ (w1 := ?_) (v := ?_) (by rfl) rfl ?_ ?_
               rotate_left 2
               ·go_simp
                constructor
                ·rfl
                ·rfl
               refine hK.out _ _ ⟨(blk_cell (blk_alloc BK241.out _) 0).trans rfl,(World.cell?_alloc_lt _ _ _ (World.block_lt_of_cell? _ _ ((hx_ HB hw246_0)))).trans ((hx_ HB hw246_0)),(World.cell?_alloc_lt _ _ _ (World.block_lt_of_cell? _ _ ((hx_ HB hw247_0)))).trans ((hx_ HB hw247_0))⟩ (fun hHeld => ?_)
               clear hK K
               refine nr_ (some 61) _ ?_
               refine oy_ 11 62 (fun K hK => ?_)
               refine Kd.R_append_step (Kd.int .i64) (w0 := w) w.heap.size (by rfl) (.tmp 52) (.tmp 61) 35 2 (.int .i64 0) 8 rfl Try.underlying35 info2 rfl (by decide) (by omega) u242000 x242000_3 (rd ((rd_T84 l0 x8_2).f0) x10_3) [.int .i64 (rd ((rd_T84 l0 x8_2).f0) x10_3)] (fun k_ => some k_ ≠ (u6 : Value).ownBlock) (fun _ => False) rfl rfl ?aP (fun _ hk => hk.elim) ?aF ?aO ?aB ?aS ?aL ?_
               (case aP => exact rfl)
               (case aB => exact b_)
               (case aF => exact (fun k_ hk => Kd.fresh' (Kd.R_lt (by (with_reducible repeat (first|apply Kd.R_alloc|apply Kd.R_drewN|apply Kd.R_drew));exact HO_6.out)) k_ hk))
               (case aO => exact (by (with_reducible repeat (first|apply Kd.R_alloc|apply Kd.R_drewN|apply Kd.R_drew));exact HO_242000.out))
               (case aS => exact (below_size b_))
               (case aL => have := LMc22.out;omega)
               intro v249 w24 ho hb hg hat
               rw [← Ny248.out] at ho
               replace HO_6 := Aside0.mk (Kd.R_after (ok := (fun _ => True)) (by (with_reducible repeat (first|apply Kd.R_alloc|apply Kd.R_drewN|apply Kd.R_drew));exact Kd.R_mono HO_6.out (fun _ hk => ⟨trivial,hk⟩)) hg hat)
               replace HO_7 := Aside0.mk (Kd.S_after (ok := (fun k_ => some k_ ≠ (u6 : Value).ownBlock ∧ k_ ≠ gb241)) (by (with_reducible repeat (first|apply Kd.S_alloc|apply Kd.S_drewN|apply Kd.S_drew));exact Kd.S_mono HO_7.out (fun _ hk => ⟨⟨hk.2.1,hk.2.2⟩,hk.1⟩)) hg hat)
               replace BK241 := Aside0.mk (blk_grown (kb_ BK241) hg (Kd.R_ne HO_242000.out BK241.out (by decide)))
               replace HB := Aside0.mk (hb)
               have HO250 := Aside0.mk (ho)
               clear HO_242000
               clear ho hb hg hat
               obtain ⟨Ao25,co25,eo25⟩ := Kd.R_slice HO250.out
               (first|subst eo25|(injection eo25 with f1_ f2_ f3_;have f4_ := f1_.symm;have f5_ := f3_.symm;clear f1_ f2_ f3_;subst f4_;subst f5_))
               refine hK.out _ _ hh_ (fun hHeld => ?_)
               clear hK K
               refine nr_ (some 62) _ ?_
               refine pv_ 12 63 ?_
               refine last_ (i := 13) (N := none) #[true,true,true,true,true,true,true,true,true,true,true,true,true,true] rfl rfl (one_of HT_.out (by kernel_rfl)) (by decide) (fun K hK => ?_)
               have hs26 : w24.cell? ⟨gb241,0,none⟩ = some (u242000) := (blk_cell BK241.out 0).trans rfl
               have hfs26 := blk_frozen BK241.out 0
               refine skip_ (w1 := ?_) (by rfl) rfl ?_ ?_
               rotate_left
               ·go_simp
                rfl
               refine hK.out _ _ ?_
               clear hK K
               refine done_ (done_of HT_.out (by kernel_rfl)) ?_
               try go_wp2
               go_roundg k3
               case measure => have := HJ2.out;have := HK2.out;have := HK3.out;omega
               case rel => exact ⟨(wrap64 (x10_3 + 1)),(y248),(.slice Ao25 y248.length co25),rs_,H',⟨by have := HJ2.out;have := HK2.out;have := HK3.out;omega⟩,⟨by (with_reducible repeat (first|apply Kd.R_alloc|apply Kd.R_drewN|apply Kd.R_drew));exact Kd.R_mono (Kd.R_far (p := ⟨gb241,0,none⟩) (Kd.R_types HO_6.out BK241.out (by decide)) (fun _ hk => hk.2) (.slice Ao25 y248.length co25)) (fun _ hk => hk.1.2)⟩,⟨by (with_reducible repeat (first|apply Kd.S_alloc|apply Kd.S_drewN|apply Kd.S_drew));exact Kd.S_mono (Kd.S_far (p := ⟨gb241,0,none⟩) (Kd.S_mono HO_7.out (fun k_ hk => (⟨hk,hk.1.2⟩ : _ ∧ k_ ≠ gb241))) (fun _ hk => hk.2) (.slice Ao25 y248.length co25)) (fun _ hk => ⟨hk.1.1.1,⟨hk.1.2,hk.1.1.2⟩⟩)⟩,⟨by (with_reducible repeat (first|apply Kd.R_alloc|apply Kd.R_drewN|apply Kd.R_drew));exact Kd.R_mono (Kd.R_far (p := ⟨gb241,0,none⟩) (Kd.R_types HO250.out BK241.out (by decide)) (fun _ hk => hk.2) (.slice Ao25 y248.length co25)) (fun _ hk => hk.1)⟩,⟨by (with_reducible repeat (first|refine blk_drewN ?_ _|refine blk_drew ?_|refine blk_alloc ?_ _));refine blk_put (cs := #[u242000]) ?_ 0 _ rfl;(with_reducible repeat (first|refine blk_drewN ?_ _|refine blk_drew ?_|refine blk_alloc ?_ _));exact BK241.out⟩,⟨b_⟩⟩
              ·rw [if_neg c22] at H
               exact absurd H (by simp)
             ·replace c21 := Bool.eq_false_iff.mpr c21
              subst c21
              replace H := ie_ H
              have H' := Aside0.mk H
              clear H
              have p242 : 0 ≤ (x8_2 : Int) := od_
              have q242 : x8_2 < (l0.length : Int) := od_
              obtain ⟨ad242,A242_0,c242_0,e242,hx242_0,hl242_0,hi242_0⟩ := at_T84 HR0.out x8_2 p242 q242
              cases e242
              replace hx242_0 := hx_ HB hx242_0
              have HR242_0 := Aside0.mk hi242_0
              have HC242_0 := Aside0.mk hl242_0
              clear hi242_0 hl242_0
              replace p242 := eq_true p242
              replace q242 := eq_true q242
              have p243 : 0 ≤ (x8_2 : Int) := od_
              have q243 : x8_2 < (l0.length : Int) := od_
              obtain ⟨ad243,A243_0,c243_0,e243,hx243_0,hl243_0,hi243_0⟩ := at_T84 HR0.out x8_2 p243 q243
              obtain rfl : ad242 = ad243 := (by injection e243)
              replace hx243_0 := hx_ HB hx243_0
              have HR243_0 := Aside0.mk hi243_0
              have HC243_0 := Aside0.mk hl243_0
              clear hi243_0 hl243_0
              replace p243 := eq_true p243
              replace q243 := eq_true q243
              have ea_ := Option.some.inj (hx242_0.symm.trans hx243_0)
              injection ea_ with ea_ en_ ec_
              subst ea_
              subst ec_
              clear en_
              have p244 : 0 ≤ (x10_3 : Int) := od_
              have q244 : x10_3 < (((rd_T84 l0 x8_2).f0).length : Int) := od_
              obtain ⟨ad244,e244,hx244_0⟩ := Kd.at_int HR243_0.out x10_3 p244 q244
              cases e244
              replace hx244_0 := hx_ HB hx244_0
              replace p244 := eq_true p244
              replace q244 := eq_true q244
              go_wp2_with (first|((with_reducible refine gcal_ (f := 98) rfl ?_);refine gl_ (some 50) Try.func98 #[.slice A1 l1.length c1,.int .i64 (rd ((rd_T84 l0 x8_2).f0) x10_3)] ?_;(with_reducible refine (spec_l5Lives.calls _ _ l1 (rd ((rd_T84 l0 x8_2).f0) x10_3) false _ ?side1 ?side2 A20.out).mono ?_);(case side1 => exact cb_ HR1);(case side2 => exact HC1.out);rintro e w' ⟨rfl,⟨nd,rfl⟩⟩;refine ⟨_,rfl,?_⟩))
              go_roundg k3
              case measure => have := HJ2.out;have := HK2.out;have := HK3.out;omega
              case rel => exact ⟨(wrap64 (x10_3 + 1)),(x242000_3),(u242000),rs_,H',⟨by have := HJ2.out;have := HK2.out;have := HK3.out;omega⟩,⟨by (with_reducible repeat (first|apply Kd.R_alloc|apply Kd.R_drewN|apply Kd.R_drew));exact HO_6.out⟩,⟨by (with_reducible repeat (first|apply Kd.S_alloc|apply Kd.S_drewN|apply Kd.S_drew));exact HO_7.out⟩,⟨by (with_reducible repeat (first|apply Kd.R_alloc|apply Kd.R_drewN|apply Kd.R_drew));exact HO_242000.out⟩,⟨kb_ BK241⟩,⟨b_⟩⟩
            ·rw [if_neg c19] at H
             exact absurd H (by simp)
           ·rw [if_neg c18] at H
            have c18b0 : decide (x10_3 < (((rd_T84 l0 x8_2).f0).length : Int)) = false := decide_eq_false c18
            clear c18
            by_cases c27 : (x242000_3.length : Int) = 0
            ·rw [if_pos c27] at H
             have c27b0 : ((x242000_3.length : Int) == 0) = true := beq_iff_eq.mpr c27
             have c27b1 : ((x242000_3.length : Int) != 0) = false := bne_eq_false_iff_eq.mpr c27
             clear c27
             by_cases c28 : x6_2.length < 17592186044416
             ·rw [if_pos c28] at H
              have LMc28 := Aside0.mk c28
              clear c28
              obtain ⟨y251,hy251⟩ : ∃ y_ : List Int,y_ = (x6_2 ++ [x8_2]) := ⟨_,rfl⟩
              replace H : ((some (([] : List Int) : List Int)).bind fun y254 => (if y254.length + ((rd_T84 l0 x8_2).f0).length < 17592186044416 then (if x7_2.length < 5864062014805 then (spec_Remap.l0 k3 l0 l1 y251 (x7_2 ++ [(⟨(y254 ++ ((rd_T84 l0 x8_2).f0))⟩ : S84)]) (wrap64 (x8_2 + 1))) else (none)) else (none))) = some (r1,r2) := by first|(rw [hy251];with_reducible exact H)|(have H2_ := (Option.bind_some _ _).symm.trans H;rw [hy251];with_reducible exact H2_)|(have H2_ := (Option.bind_some _ _).symm.trans H;with_reducible exact H2_)|with_reducible exact H|(rw [hy251];exact H)|exact H
              have Ny251 := Aside0.mk hy251
              clear hy251
              obtain ⟨y254,hy254⟩ : ∃ y_ : List Int,y_ = (([] : List Int)) := ⟨_,rfl⟩
              replace H : (if y254.length + ((rd_T84 l0 x8_2).f0).length < 17592186044416 then (if x7_2.length < 5864062014805 then (spec_Remap.l0 k3 l0 l1 y251 (x7_2 ++ [(⟨(y254 ++ ((rd_T84 l0 x8_2).f0))⟩ : S84)]) (wrap64 (x8_2 + 1))) else (none)) else (none)) = some (r1,r2) := by first|(rw [hy254];with_reducible exact H)|(have H2_ := (Option.bind_some _ _).symm.trans H;rw [hy254];with_reducible exact H2_)|(have H2_ := (Option.bind_some _ _).symm.trans H;with_reducible exact H2_)|with_reducible exact H|(rw [hy254];exact H)|exact H
              have Ny254 := Aside0.mk hy254
              clear hy254
              by_cases c29 : y254.length + ((rd_T84 l0 x8_2).f0).length < 17592186044416
              ·rw [if_pos c29] at H
               have LMc29 := Aside0.mk c29
               clear c29
               obtain ⟨y258,hy258⟩ : ∃ y_ : List Int,y_ = (y254 ++ ((rd_T84 l0 x8_2).f0)) := ⟨_,rfl⟩
               replace H : (if x7_2.length < 5864062014805 then (spec_Remap.l0 k3 l0 l1 y251 (x7_2 ++ [(⟨y258⟩ : S84)]) (wrap64 (x8_2 + 1))) else (none)) = some (r1,r2) := by first|(rw [hy258];with_reducible exact H)|(have H2_ := (Option.bind_some _ _).symm.trans H;rw [hy258];with_reducible exact H2_)|(have H2_ := (Option.bind_some _ _).symm.trans H;with_reducible exact H2_)|with_reducible exact H|(rw [hy258];exact H)|exact H
               have Ny258 := Aside0.mk hy258
               clear hy258
               by_cases c30 : x7_2.length < 5864062014805
               ·rw [if_pos c30] at H
                have LMc30 := Aside0.mk c30
                clear c30
                obtain ⟨y261,hy261⟩ : ∃ y_ : List (S84),y_ = (x7_2 ++ [(⟨y258⟩ : S84)]) := ⟨_,rfl⟩
                replace H : (spec_Remap.l0 k3 l0 l1 y251 y261 (wrap64 (x8_2 + 1))) = some (r1,r2) := by first|(rw [hy261];with_reducible exact H)|(have H2_ := (Option.bind_some _ _).symm.trans H;rw [hy261];with_reducible exact H2_)|(have H2_ := (Option.bind_some _ _).symm.trans H;with_reducible exact H2_)|with_reducible exact H|(rw [hy261];exact H)|exact H
                have Ny261 := Aside0.mk hy261
                clear hy261
                have H' := Aside0.mk H
                clear H
                have p242 : 0 ≤ (x8_2 : Int) := od_
                have q242 : x8_2 < (l0.length : Int) := od_
                obtain ⟨ad242,A242_0,c242_0,e242,hx242_0,hl242_0,hi242_0⟩ := at_T84 HR0.out x8_2 p242 q242
                cases e242
                replace hx242_0 := hx_ HB hx242_0
                have HR242_0 := Aside0.mk hi242_0
                have HC242_0 := Aside0.mk hl242_0
                clear hi242_0 hl242_0
                replace p242 := eq_true p242
                replace q242 := eq_true q242
                have hcz31_0 : wr.cell? ⟨gb241,0,none⟩ = some (u242000) := (blk_cell BK241.out 0).trans rfl
                have hfz31_0 := blk_frozen BK241.out 0
                obtain ⟨Ao32,co32,eo32⟩ := Kd.R_slice HO_242000.out
                subst eo32
                go_wp2_with (first|((with_reducible refine gblt_ (b := .append) (xs := #[.tmp 68,.tmp 70]) rfl ?_);(try (refine gate_guard (by rfl) ?_;dsimp only));at_builtin;refine Kd.R_append (Kd.int .i64) (w0 := w) w.heap.size rfl (.tmp 68) (.tmp 70) 35 2 (.int .i64 0) 8 rfl Try.underlying35 info2 rfl (by decide) (by omega) u6 x6_2 x8_2 [.int .i64 x8_2] (fun k_ => some k_ ≠ (.slice Ao32 x242000_3.length co32 : Value).ownBlock) (fun _ => False) rfl rfl ?aP (fun _ hk => hk.elim) ?aF ?aO ?aB ?aS ?aL ?_;(case aP => exact rfl);(case aB => exact b_);(case aF => exact (fun k_ hk => Kd.fresh' (Kd.R_lt (by (with_reducible repeat (first|apply Kd.R_alloc|apply Kd.R_drewN|apply Kd.R_drew));exact HO_242000.out)) k_ hk));(case aO => exact (by (with_reducible repeat (first|apply Kd.R_alloc|apply Kd.R_drewN|apply Kd.R_drew));exact HO_6.out));(case aS => exact (below_size b_));(case aL => have := LMc28.out;omega);intro v252 w33 ho hb hg hat;rw [← Ny251.out] at ho;replace HO_7 := Aside0.mk (Kd.S_after (ok := (fun k_ => some k_ ≠ (.slice Ao32 x242000_3.length co32 : Value).ownBlock ∧ k_ ≠ gb241)) (by (with_reducible repeat (first|apply Kd.S_alloc|apply Kd.S_drewN|apply Kd.S_drew));exact Kd.S_mono HO_7.out (fun _ hk => ⟨⟨hk.2.1,hk.2.2⟩,hk.1⟩)) hg hat);replace HO_242000 := Aside0.mk (Kd.R_after (ok := (fun _ => True)) (by (with_reducible repeat (first|apply Kd.R_alloc|apply Kd.R_drewN|apply Kd.R_drew));exact Kd.R_mono HO_242000.out (fun _ hk => ⟨trivial,hk⟩)) hg hat);replace BK241 := Aside0.mk (blk_grown (kb_ BK241) hg (Kd.R_ne HO_6.out BK241.out (by decide)));replace HB := Aside0.mk (hb);have HO253 := Aside0.mk (ho);clear HO_6;clear ho hb hg hat)|((with_reducible refine gate_dst (N := 73) rfl ?_);(try (refine gate_guard (by rfl) ?_;dsimp only));refine Kd.R_lit (Kd.int .i64) _ 2 ?hg (N := 73) ?hd (xs := ([] : List Int)) (inner := []) (ok := fun _ => True) (okp := fun _ => True) ?hr ?hp (fun _ hk => hk) trivial (Below.refl _ _) (Nat.le_refl _) (by simp) ?_;(case hd => rfl);(case hg => rfl);(case hr => first|(go_simp;done)|(go_simp;rfl));(case hp => exact (Reps.none _ _));intro v255 w34 ho35 hb hg_ hnew_;clear hg_ hnew_;(first|rw [← Ny254.out] at ho35|(simp only [Int.reduceToNat] at ho35;rw [← Ny254.out] at ho35));replace HO_7 := Aside0.mk (Kd.S_elder' (by (with_reducible repeat (first|apply Kd.S_alloc|apply Kd.S_drewN|apply Kd.S_drew));exact HO_7.out) (Kd.R_base ho35) hb);replace BK241 := Aside0.mk (blk_below (kb_ BK241) hb);have HO256 := Aside0.mk (Kd.R_lower (Kd.R_new' (Kd.R_new' ho35 (Kd.R_lt (by (with_reducible repeat (first|apply Kd.R_alloc|apply Kd.R_drewN|apply Kd.R_drew));exact HO_242000.out))) (Kd.R_lt (by (with_reducible repeat (first|apply Kd.R_alloc|apply Kd.R_drewN|apply Kd.R_drew));exact HO253.out))) (below_size b_));replace HO_242000 := Aside0.mk (Kd.R_elder' (by (with_reducible repeat (first|apply Kd.R_alloc|apply Kd.R_drewN|apply Kd.R_drew));exact HO_242000.out) (Kd.R_base ho35) hb);replace HO253 := Aside0.mk (Kd.R_elder' (by (with_reducible repeat (first|apply Kd.R_alloc|apply Kd.R_drewN|apply Kd.R_drew));exact HO253.out) (Kd.R_base ho35) hb);replace HB := Aside0.mk (below_step b_ hb);clear hb ho35;have p257 : 0 ≤ (x8_2 : Int) := od_;have q257 : x8_2 < (l0.length : Int) := od_;obtain ⟨ad257,A257_0,c257_0,e257,hx257_0,hl257_0,hi257_0⟩ := at_T84 HR0.out x8_2 p257 q257;obtain rfl : ad242 = ad257 := (by injection e257);replace hx257_0 := hx_ HB hx257_0;have HR257_0 := Aside0.mk hi257_0;have HC257_0 := Aside0.mk hl257_0;clear hi257_0 hl257_0;replace p257 := eq_true p257;replace q257 := eq_true q257)|((with_reducible refine gblt_ (b := .append) (xs := #[.tmp 73,.tmp 78]) rfl ?_);(try (refine gate_guard (by rfl) ?_;dsimp only));at_builtin;refine Kd.R_append_rows (Kd.int .i64) (w0 := w) w.heap.size rfl (.tmp 73) (.tmp 78) 35 2 (.int .i64 0) 8 rfl Try.underlying35 info2 rfl (by decide) (by omega) v255 y254 ((rd_T84 l0 x8_2).f0) _ _ _ (fun k_ => some k_ ≠ (.slice Ao32 x242000_3.length co32 : Value).ownBlock ∧ some k_ ≠ (v252 : Value).ownBlock) (fun _ => False) rfl rfl ?aO ?aR (fun _ _ h => h) (fun _ h => h.elim) ?aF ?aB ?aS ?aL ?_;(case aR => repeat (first|exact (Kd.C_below HR257_0.out HB.out)|(with_reducible refine Kd.C_alloc ?_ _)|(with_reducible refine Kd.C_drewN ?_ _)|(with_reducible refine Kd.C_drew ?_)));(case aB => exact b_);(case aF => exact (fun k_ hk => ⟨Kd.fresh' (Kd.R_lt (by (with_reducible repeat (first|apply Kd.R_alloc|apply Kd.R_drewN|apply Kd.R_drew));exact HO_242000.out)) k_ hk,Kd.fresh' (Kd.R_lt (by (with_reducible repeat (first|apply Kd.R_alloc|apply Kd.R_drewN|apply Kd.R_drew));exact HO253.out)) k_ hk⟩));(case aO => exact (by (with_reducible repeat (first|apply Kd.R_alloc|apply Kd.R_drewN|apply Kd.R_drew));exact Kd.R_mono HO256.out (fun _ hk => ⟨hk.1.2,hk.2⟩)));(case aS => exact (below_size b_));(case aL => have := LMc29.out;omega);intro v259 w36 ho hb hg hat;rw [← Ny258.out] at ho;replace HO_7 := Aside0.mk (Kd.S_after (ok := (fun k_ => some k_ ≠ (.slice Ao32 x242000_3.length co32 : Value).ownBlock ∧ some k_ ≠ (v252 : Value).ownBlock ∧ k_ ≠ gb241)) (by (with_reducible repeat (first|apply Kd.S_alloc|apply Kd.S_drewN|apply Kd.S_drew));exact Kd.S_mono HO_7.out (fun _ hk => ⟨⟨hk.1.1.1,⟨hk.1.2,hk.1.1.2⟩⟩,hk.2⟩)) hg hat);replace HO_242000 := Aside0.mk (Kd.R_after (ok := (fun k_ => some k_ ≠ (v252 : Value).ownBlock)) (by (with_reducible repeat (first|apply Kd.R_alloc|apply Kd.R_drewN|apply Kd.R_drew));exact Kd.R_mono HO_242000.out (fun _ hk => ⟨hk.1.2,hk.2⟩)) hg hat);replace BK241 := Aside0.mk (blk_grown (kb_ BK241) hg (Kd.R_ne HO256.out BK241.out (by decide)));replace HO253 := Aside0.mk (Kd.R_after (ok := (fun k_ => some k_ ≠ (.slice Ao32 x242000_3.length co32 : Value).ownBlock)) (by (with_reducible repeat (first|apply Kd.R_alloc|apply Kd.R_drewN|apply Kd.R_drew));exact HO253.out) hg hat);replace HB := Aside0.mk (hb);have HO260 := Aside0.mk (ho);clear HO256;clear ho hb hg hat;obtain ⟨Ao37,co37,eo37⟩ := Kd.R_slice HO260.out;subst eo37)|((with_reducible refine gblt_ (b := .append) (xs := #[.tmp 72,.tmp 81]) rfl ?_);(try (refine gate_guard (by rfl) ?_;dsimp only));at_builtin;refine Kd.S_append k84 (w0 := w) w.heap.size rfl (.tmp 72) (.tmp 81) 70 84 (.agg #[(.slice none 0 0)]) 24 rfl Try.underlying70 info84 rfl (by decide) (by omega) u7 x7_2 (⟨y258⟩ : S84) [.slice Ao37 y258.length co37] (fun k_ => some k_ ≠ (.slice Ao32 x242000_3.length co32 : Value).ownBlock ∧ some k_ ≠ (v252 : Value).ownBlock ∧ k_ ≠ gb241) (fun k_ => some k_ = (.slice Ao37 y258.length co37 : Value).ownBlock) rfl rfl ?aP (fun k_ hk_ => ((Kd.R_mono (ok' := fun k_ => ((fun k_ => some k_ ≠ (.slice Ao32 x242000_3.length co32 : Value).ownBlock ∧ some k_ ≠ (v252 : Value).ownBlock ∧ k_ ≠ gb241)) k_ ∧ some k_ ≠ (u7 : Value).ownBlock) (Kd.R_types (Kd.R_apart' (HO260.out) (Kd.S_typed HO_7.out) (by decide)) BK241.out (by decide)) (fun k_ hk => ⟨⟨hk.1.1.1,⟨hk.1.1.2,hk.2⟩⟩,hk.1.2⟩))).1 k_ hk_.symm) ?aF ?aO ?aB ?aS ?aL ?_;(case aP => exact k84_mkM _ _ _ (⟨y258⟩ : S84) (Kd.R_mono (Kd.R_tight rfl (Kd.R_mono (ok' := fun k_ => ((fun k_ => some k_ ≠ (.slice Ao32 x242000_3.length co32 : Value).ownBlock ∧ some k_ ≠ (v252 : Value).ownBlock ∧ k_ ≠ gb241)) k_ ∧ some k_ ≠ (u7 : Value).ownBlock) (Kd.R_types (Kd.R_apart' (HO260.out) (Kd.S_typed HO_7.out) (by decide)) BK241.out (by decide)) (fun k_ hk => ⟨⟨hk.1.1.1,⟨hk.1.1.2,hk.2⟩⟩,hk.1.2⟩))) (fun _ h_ => h_)));(case aB => exact b_);(case aF => exact (fun k_ hk => ⟨Kd.fresh' (Kd.R_lt (by (with_reducible repeat (first|apply Kd.R_alloc|apply Kd.R_drewN|apply Kd.R_drew));exact HO_242000.out)) k_ hk,Kd.fresh' (Kd.R_lt (by (with_reducible repeat (first|apply Kd.R_alloc|apply Kd.R_drewN|apply Kd.R_drew));exact HO253.out)) k_ hk,Kd.freshB (kb_ BK241) k_ hk⟩));(case aO => exact (by (with_reducible repeat (first|apply Kd.S_alloc|apply Kd.S_drewN|apply Kd.S_drew));exact Kd.S_mono HO_7.out (fun k_ hk => ⟨⟨hk.1.1,⟨hk.1.2.1,hk.1.2.2⟩⟩,fun e_ => hk.2 e_⟩)));(case aS => exact (below_size b_));(case aL => have := LMc30.out;omega);intro v262 w38 ho hb hg hat;rw [← Ny261.out] at ho;replace HO_242000 := Aside0.mk (Kd.R_over' (by (with_reducible repeat (first|apply Kd.R_alloc|apply Kd.R_drewN|apply Kd.R_drew));exact HO_242000.out) (Kd.S_typed (by (with_reducible repeat (first|apply Kd.S_alloc|apply Kd.S_drewN|apply Kd.S_drew));exact HO_7.out)) (by decide) hg);replace BK241 := Aside0.mk (blk_grown (kb_ BK241) hg (Kd.S_away HO_7.out (fun _ hk => hk.1.2.2)));replace HO253 := Aside0.mk (Kd.R_over' (by (with_reducible repeat (first|apply Kd.R_alloc|apply Kd.R_drewN|apply Kd.R_drew));exact HO253.out) (Kd.S_typed (by (with_reducible repeat (first|apply Kd.S_alloc|apply Kd.S_drewN|apply Kd.S_drew));exact HO_7.out)) (by decide) hg);replace HB := Aside0.mk (hb);have HO263 := Aside0.mk (ho);clear HO_7 HO260;clear ho hb hg hat))
                go_roundg k3
                case measure => have := HJ2.out;have := HK2.out;have := HK3.out;omega
                case rel => exact ⟨(y251),(y261),(wrap64 (x8_2 + 1)),rs_,H',⟨by have := HJ2.out;have := HK2.out;have := HK3.out;omega⟩,⟨by (with_reducible repeat (first|apply Kd.R_alloc|apply Kd.R_drewN|apply Kd.R_drew));exact Kd.R_mono HO253.out (fun _ hk => trivial)⟩,⟨by (with_reducible repeat (first|apply Kd.S_alloc|apply Kd.S_drewN|apply Kd.S_drew));exact Kd.S_mono HO263.out (fun _ hk => hk.2.1)⟩,⟨b_⟩⟩
               ·rw [if_neg c30] at H
                exact absurd H (by simp)
              ·rw [if_neg c29] at H
               exact absurd H (by simp)
             ·rw [if_neg c28] at H
              exact absurd H (by simp)
            ·rw [if_neg c27] at H
             have c27b0 : ((x242000_3.length : Int) == 0) = false := beq_eq_false_iff_ne.mpr c27
             have c27b1 : ((x242000_3.length : Int) != 0) = true := bne_iff_ne.mpr c27
             have c27b2 : ¬ (x242000_3 = []) := fun h_ => c27 (by rw [h_];rfl)
             have H' := Aside0.mk H
             clear H
             have p242 : 0 ≤ (x8_2 : Int) := od_
             have q242 : x8_2 < (l0.length : Int) := od_
             obtain ⟨ad242,A242_0,c242_0,e242,hx242_0,hl242_0,hi242_0⟩ := at_T84 HR0.out x8_2 p242 q242
             cases e242
             replace hx242_0 := hx_ HB hx242_0
             have HR242_0 := Aside0.mk hi242_0
             have HC242_0 := Aside0.mk hl242_0
             clear hi242_0 hl242_0
             replace p242 := eq_true p242
             replace q242 := eq_true q242
             have hcz39_0 : wr.cell? ⟨gb241,0,none⟩ = some (u242000) := (blk_cell BK241.out 0).trans rfl
             have hfz39_0 := blk_frozen BK241.out 0
             obtain ⟨Ao40,co40,eo40⟩ := Kd.R_slice HO_242000.out
             subst eo40
             go_wp2
             go_loopg [11] k3 (fun kq v11 w' => ∃ (x11_4 : Int) (x242000_4 : List Int) (u242000 : Value),v11 = .int .i64 x11_4 ∧ Aside0 (spec_Remap.l2 kq l0 l1 x6_2 x7_2 x8_2 x11_4 x242000_4 = some (r1,r2)) ∧ Aside0 (kq ≤ k3) ∧ Aside0 (Kd.R (Kd.int .i64) 2 w' w.heap.size (fun k_ => some k_ ≠ (u242000 : Value).ownBlock) u6 x6_2) ∧ Aside0 (Kd.S k84 84 w' w.heap.size (fun k_ => some k_ ≠ (u6 : Value).ownBlock ∧ some k_ ≠ (u242000 : Value).ownBlock ∧ k_ ≠ gb241) u7 x7_2) ∧ Aside0 (Kd.R (Kd.int .i64) 2 w' w.heap.size (fun k_ => some k_ ≠ (u6 : Value).ownBlock) u242000 x242000_4) ∧ Aside0 (w'.heap[gb241]? = some (.cells #[u242000] 84 (0,0))) ∧ Aside0 (Below w.heap.size w w'))
             case atStart => exact ⟨(0),(x242000_3),(.slice Ao40 x242000_3.length co40),rs_,H',⟨Nat.le_refl _⟩,⟨by (with_reducible repeat (first|apply Kd.R_alloc|apply Kd.R_drewN|apply Kd.R_drew));exact HO_6.out⟩,⟨by (with_reducible repeat (first|apply Kd.S_alloc|apply Kd.S_drewN|apply Kd.S_drew));exact HO_7.out⟩,⟨by (with_reducible repeat (first|apply Kd.R_alloc|apply Kd.R_drewN|apply Kd.R_drew));exact HO_242000.out⟩,⟨kb_ BK241⟩,⟨b_⟩⟩
             case round =>
              clear H'
              try clear c1
              try clear c2
              try clear p2
              try clear q2
              try clear hx2
              try clear c3
              try clear c5
              try clear p6
              try clear c9
              try clear c12
              try clear c13
              try clear c13b0
              try clear c16
              try clear c16b0
              try clear c17
              try clear c17b0
              try clear c18
              try clear c18b0
              try clear c19
              try clear c19b0
              try clear c21
              try clear c22
              try clear c24
              try clear p24
              try clear q24
              try clear hx24
              try clear c25
              try clear p25
              try clear q25
              try clear hx25
              try clear c27
              try clear c27b0
              try clear c27b1
              try clear c27b2
              try clear c28
              try clear c29
              try clear c30
              try clear hcz15_0
              try clear hcz31_0
              try clear hcz39_0
              try clear hfz15_0
              try clear hfz31_0
              try clear hfz39_0
              try clear hx242_0
              try clear hx243_0
              try clear hx244_0
              try clear hx246_0
              try clear hx247_0
              try clear hx257_0
              try clear p2
              try clear p242
              try clear p243
              try clear p244
              try clear p246
              try clear p247
              try clear p257
              try clear q242
              try clear q243
              try clear q244
              try clear q246
              try clear q247
              try clear q257
              obtain ⟨x11_4,x242000_4,u242000,rfl,HA,HK4,HO_6,HO_7,HO_242000,BK241,HB⟩ := hrel
              cases gk with
              | zero => exact absurd HA.out (by simp [spec_Remap.l2])
              | succ k4 =>
               have H := HA.out
               clear HA
               simp only [spec_Remap.l2] at H
               have HC41 := Aside0.mk H
               clear H
               go_upto_region 18 with (fail)
               go_cut [92] (fun v92 wc => ∃ (kq : Nat) (x92_40 : Bool),v92 = .bool x92_40 ∧ Aside0 (spec_Remap.j4 kq l0 l1 x6_2 x7_2 x8_2 x11_4 x92_40 x242000_4 = some (r1,r2)) ∧ Aside0 (kq ≤ k4) ∧ Aside0 (Kd.R (Kd.int .i64) 2 wc w.heap.size (fun k_ => some k_ ≠ (u242000 : Value).ownBlock) u6 x6_2) ∧ Aside0 (Kd.S k84 84 wc w.heap.size (fun k_ => some k_ ≠ (u6 : Value).ownBlock ∧ some k_ ≠ (u242000 : Value).ownBlock ∧ k_ ≠ gb241) u7 x7_2) ∧ Aside0 (Kd.R (Kd.int .i64) 2 wc w.heap.size (fun k_ => some k_ ≠ (u6 : Value).ownBlock) u242000 x242000_4) ∧ Aside0 (wc.heap[gb241]? = some (.cells #[u242000] 84 (0,0))) ∧ Aside0 (Below w.heap.size w wc))
               case first =>
                have H := HC41.out
                clear HC41
                by_cases c42 : x11_4 < (l1.length : Int)
                ·rw [if_pos c42] at H
                 have c42b0 : decide (x11_4 < (l1.length : Int)) = true := decide_eq_true c42
                 clear c42
                 (first|rw [c42b0]|(simp only [i64_w,i32_w];rw [c42b0])|skip)
                 have H' := Aside0.mk H
                 clear H
                 have hcz43_0 : wr.cell? ⟨gb241,0,none⟩ = some (u242000) := (blk_cell BK241.out 0).trans rfl
                 have hfz43_0 := blk_frozen BK241.out 0
                 obtain ⟨Ao44,co44,eo44⟩ := Kd.R_slice HO_242000.out
                 subst eo44
                 go_wp2
                 go_meet
                 case rel => exact ⟨_,(decide ((x242000_4.length : Int) < 3)),rs_,H',⟨by have := HJ2.out;have := HK2.out;have := HK3.out;have := HK4.out;first|omega|exact Nat.le_refl _⟩,⟨by (with_reducible repeat (first|apply Kd.R_alloc|apply Kd.R_drewN|apply Kd.R_drew));exact HO_6.out⟩,⟨by (with_reducible repeat (first|apply Kd.S_alloc|apply Kd.S_drewN|apply Kd.S_drew));exact HO_7.out⟩,⟨by (with_reducible repeat (first|apply Kd.R_alloc|apply Kd.R_drewN|apply Kd.R_drew));exact HO_242000.out⟩,⟨kb_ BK241⟩,⟨b_⟩⟩
                ·rw [if_neg c42] at H
                 have c42b0 : decide (x11_4 < (l1.length : Int)) = false := decide_eq_false c42
                 clear c42
                 (first|rw [c42b0]|(simp only [i64_w,i32_w];rw [c42b0])|skip)
                 have H' := Aside0.mk H
                 clear H
                 go_wp2
                 go_meet
                 case rel => exact ⟨_,(false),rs_,H',⟨by have := HJ2.out;have := HK2.out;have := HK3.out;have := HK4.out;first|omega|exact Nat.le_refl _⟩,⟨by (with_reducible repeat (first|apply Kd.R_alloc|apply Kd.R_drewN|apply Kd.R_drew));exact HO_6.out⟩,⟨by (with_reducible repeat (first|apply Kd.S_alloc|apply Kd.S_drewN|apply Kd.S_drew));exact HO_7.out⟩,⟨by (with_reducible repeat (first|apply Kd.R_alloc|apply Kd.R_drewN|apply Kd.R_drew));exact HO_242000.out⟩,⟨kb_ BK241⟩,⟨b_⟩⟩
               case rest =>
                clear HC41
                try clear c1
                try clear c2
                try clear p2
                try clear q2
                try clear hx2
                try clear c3
                try clear c4
                try clear c5
                try clear p6
                try clear c9
                try clear c12
                try clear c13
                try clear c13b0
                try clear c16
                try clear c16b0
                try clear c17
                try clear c17b0
                try clear c18
                try clear c18b0
                try clear c19
                try clear c19b0
                try clear c21
                try clear c22
                try clear c24
                try clear p24
                try clear q24
                try clear hx24
                try clear c25
                try clear p25
                try clear q25
                try clear hx25
                try clear c27
                try clear c27b0
                try clear c27b1
                try clear c27b2
                try clear c28
                try clear c29
                try clear c30
                try clear c42
                try clear c42b0
                try clear hcz15_0
                try clear hcz31_0
                try clear hcz39_0
                try clear hcz43_0
                try clear hfz15_0
                try clear hfz31_0
                try clear hfz39_0
                try clear hfz43_0
                try clear hx242_0
                try clear hx243_0
                try clear hx244_0
                try clear hx246_0
                try clear hx247_0
                try clear hx257_0
                try clear p2
                try clear p24
                try clear p242
                try clear p243
                try clear p244
                try clear p246
                try clear p247
                try clear p25
                try clear p257
                try clear p6
                try clear q2
                try clear q24
                try clear q242
                try clear q243
                try clear q244
                try clear q246
                try clear q247
                try clear q25
                try clear q257
                obtain ⟨kq,x92_40,rfl,HA,HJ40,HO_6,HO_7,HO_242000,BK241,HB⟩ := hcut
                cases kq with
                | zero => exact absurd HA.out (by simp [spec_Remap.j4])
                | succ kj40 =>
                 have H := HA.out
                 clear HA
                 simp only [spec_Remap.j4] at H
                 by_cases c45 : x92_40 = true
                 ·subst c45
                  replace H := it_ H
                  by_cases c46 : 0 ≤ x11_4
                  ·rw [if_pos c46] at H
                   have c46b0 : decide (0 ≤ x11_4) = true := decide_eq_true c46
                   clear c46
                   by_cases c47 : x11_4 < (l1.length : Int)
                   ·rw [if_pos c47] at H
                    have c47b0 : decide (x11_4 < (l1.length : Int)) = true := decide_eq_true c47
                    clear c47
                    obtain ⟨bq48,hbq48⟩ : ∃ b_ : Bool,b_ = (rdOf false l1 x11_4) := ⟨_,rfl⟩
                    replace H : (if bq48 = true then ((spec_l3Has.f kj40 x242000_4 x11_4).bind fun t265 => (if t265 = true then (spec_Remap.l2 kj40 l0 l1 x6_2 x7_2 x8_2 (wrap64 (x11_4 + 1)) x242000_4) else (if x242000_4.length < 17592186044416 then (spec_Remap.l2 kj40 l0 l1 x6_2 x7_2 x8_2 (wrap64 (x11_4 + 1)) (x242000_4 ++ [x11_4])) else (none)))) else (spec_Remap.l2 kj40 l0 l1 x6_2 x7_2 x8_2 (wrap64 (x11_4 + 1)) x242000_4)) = some (r1,r2) := by rw [← hbq48] at H;exact H
                    have Nbq48 := Aside0.mk hbq48
                    clear hbq48
                    by_cases c49 : bq48 = true
                    ·subst c49
                     replace H := it_ H
                     replace H := bs_ H
                     obtain ⟨t265,A50,H⟩ := H
                     by_cases c51 : t265 = true
                     ·subst c51
                      replace H := it_ H
                      have H' := Aside0.mk H
                      clear H
                      have p264 : 0 ≤ (x11_4 : Int) := od_
                      have q264 : x11_4 < (l1.length : Int) := od_
                      obtain ⟨ad264,e264,hx264_0⟩ := Kd.at_bool HR1.out x11_4 p264 q264
                      (try rw [← Nbq48.out] at hx264_0)
                      cases e264
                      replace hx264_0 := hx_ HB hx264_0
                      replace p264 := eq_true p264
                      replace q264 := eq_true q264
                      have hcz52_0 : wc.cell? ⟨gb241,0,none⟩ = some (u242000) := (blk_cell BK241.out 0).trans rfl
                      have hfz52_0 := blk_frozen BK241.out 0
                      obtain ⟨Ao53,co53,eo53⟩ := Kd.R_slice HO_242000.out
                      subst eo53
                      go_wp2_with (first|(go_at_call 70;(with_reducible refine (spec_l3Has.calls kj40 _ _ x242000_4 x11_4 true _ ?side1 ?side2 A50.out).mono ?_);(case side1 => repeat (first|exact (Kd.R_reads' HO_242000.out).2.2|(with_reducible refine Kd.C_alloc ?_ _)|(with_reducible refine Kd.C_drewN ?_ _)|(with_reducible refine Kd.C_drew ?_)));(case side2 => exact (Kd.R_reads' HO_242000.out).2.1);rintro e w' ⟨rfl,⟨nd,rfl⟩⟩))
                      go_roundg kj40
                      case measure => have := HJ2.out;have := HK2.out;have := HK3.out;have := HK4.out;have := HJ40.out;omega
                      case rel => exact ⟨(wrap64 (x11_4 + 1)),(x242000_4),(.slice Ao53 x242000_4.length co53),rs_,H',⟨by have := HJ2.out;have := HK2.out;have := HK3.out;have := HK4.out;have := HJ40.out;omega⟩,⟨by (with_reducible repeat (first|apply Kd.R_alloc|apply Kd.R_drewN|apply Kd.R_drew));exact HO_6.out⟩,⟨by (with_reducible repeat (first|apply Kd.S_alloc|apply Kd.S_drewN|apply Kd.S_drew));exact HO_7.out⟩,⟨by (with_reducible repeat (first|apply Kd.R_alloc|apply Kd.R_drewN|apply Kd.R_drew));exact HO_242000.out⟩,⟨kb_ BK241⟩,⟨b_⟩⟩
                     ·replace c51 := Bool.eq_false_iff.mpr c51
                      subst c51
                      replace H := ie_ H
                      by_cases c54 : x242000_4.length < 17592186044416
                      ·rw [if_pos c54] at H
                       have LMc54 := Aside0.mk c54
                       clear c54
                       obtain ⟨y266,hy266⟩ : ∃ y_ : List Int,y_ = (x242000_4 ++ [x11_4]) := ⟨_,rfl⟩
                       replace H : (spec_Remap.l2 kj40 l0 l1 x6_2 x7_2 x8_2 (wrap64 (x11_4 + 1)) y266) = some (r1,r2) := by first|(rw [hy266];with_reducible exact H)|(have H2_ := (Option.bind_some _ _).symm.trans H;rw [hy266];with_reducible exact H2_)|(have H2_ := (Option.bind_some _ _).symm.trans H;with_reducible exact H2_)|with_reducible exact H|(rw [hy266];exact H)|exact H
                       have Ny266 := Aside0.mk hy266
                       clear hy266
                       have H' := Aside0.mk H
                       clear H
                       have p264 : 0 ≤ (x11_4 : Int) := od_
                       have q264 : x11_4 < (l1.length : Int) := od_
                       obtain ⟨ad264,e264,hx264_0⟩ := Kd.at_bool HR1.out x11_4 p264 q264
                       (try rw [← Nbq48.out] at hx264_0)
                       cases e264
                       replace hx264_0 := hx_ HB hx264_0
                       replace p264 := eq_true p264
                       replace q264 := eq_true q264
                       have hcz55_0 : wc.cell? ⟨gb241,0,none⟩ = some (u242000) := (blk_cell BK241.out 0).trans rfl
                       have hfz55_0 := blk_frozen BK241.out 0
                       obtain ⟨Ao56,co56,eo56⟩ := Kd.R_slice HO_242000.out
                       subst eo56
                       go_wp2_with (first|(go_at_call 70;(with_reducible refine (spec_l3Has.calls kj40 _ _ x242000_4 x11_4 false _ ?side1 ?side2 A50.out).mono ?_);(case side1 => repeat (first|exact (Kd.R_reads' HO_242000.out).2.2|(with_reducible refine Kd.C_alloc ?_ _)|(with_reducible refine Kd.C_drewN ?_ _)|(with_reducible refine Kd.C_drew ?_)));(case side2 => exact (Kd.R_reads' HO_242000.out).2.1);rintro e w' ⟨rfl,⟨nd,rfl⟩⟩;(try (rw [drewN_self wc];generalize hq_ : World.drewN wc _ = wc;have n0_ : Aside0 (Kd.R (Kd.int .i64) 2 wc w.heap.size (fun k_ => some k_ ≠ (u6 : Value).ownBlock) (.slice Ao56 x242000_4.length co56) x242000_4) := ⟨by rw [← hq_];exact (by (with_reducible repeat (first|apply Kd.R_alloc|apply Kd.R_drewN|apply Kd.R_drew));exact HO_242000.out)⟩;have n1_ : Aside0 (Kd.R (Kd.int .i64) 2 wc w.heap.size (fun k_ => some k_ ≠ (.slice Ao56 x242000_4.length co56 : Value).ownBlock) u6 x6_2) := ⟨by rw [← hq_];exact (by (with_reducible repeat (first|apply Kd.R_alloc|apply Kd.R_drewN|apply Kd.R_drew));exact HO_6.out)⟩;have n2_ : Aside0 (Kd.S k84 84 wc w.heap.size (fun k_ => some k_ ≠ (.slice Ao56 x242000_4.length co56 : Value).ownBlock ∧ some k_ ≠ (u6 : Value).ownBlock ∧ k_ ≠ gb241) u7 x7_2) := ⟨by rw [← hq_];exact (by (with_reducible repeat (first|apply Kd.S_alloc|apply Kd.S_drewN|apply Kd.S_drew));exact Kd.S_mono HO_7.out (fun _ hk => ⟨hk.2.1,⟨hk.1,hk.2.2⟩⟩))⟩;have n3_ : Aside0 (wc.heap[gb241]? = some (.cells #[.slice Ao56 x242000_4.length co56] 84 (0,0))) := ⟨by rw [← hq_];exact kk_⟩;have n4_ : Aside0 (Below w.heap.size w wc) := ⟨by rw [← hq_];exact b_⟩;clear HO_242000 HO_6 HO_7 BK241 HB hq_;have HO_242000 := n0_;have HO_6 := n1_;have HO_7 := n2_;have BK241 := n3_;have HB := n4_;clear n0_ n1_ n2_ n3_ n4_));(try (have hcy8_0 : wc.cell? ⟨gb241,0,none⟩ = some (.slice Ao56 x242000_4.length co56) := (blk_cell BK241.out 0).trans rfl));(try (have hfy8_0 := blk_frozen BK241.out 0)))|((with_reducible refine gblt_ (b := .append) (xs := #[.tmp 107,.tmp 109]) rfl ?_);(try (refine gate_guard (by rfl) ?_;dsimp only));at_builtin;refine Kd.R_append (Kd.int .i64) (w0 := w) w.heap.size rfl (.tmp 107) (.tmp 109) 35 2 (.int .i64 0) 8 rfl Try.underlying35 info2 rfl (by decide) (by omega) (.slice Ao56 x242000_4.length co56) x242000_4 x11_4 [.int .i64 x11_4] (fun k_ => some k_ ≠ (u6 : Value).ownBlock) (fun _ => False) rfl rfl ?aP (fun _ hk => hk.elim) ?aF ?aO ?aB ?aS ?aL ?_;(case aP => exact rfl);(case aB => exact b_);(case aF => exact (fun k_ hk => Kd.fresh' (Kd.R_lt (by (with_reducible repeat (first|apply Kd.R_alloc|apply Kd.R_drewN|apply Kd.R_drew));exact HO_6.out)) k_ hk));(case aO => exact (by (with_reducible repeat (first|apply Kd.R_alloc|apply Kd.R_drewN|apply Kd.R_drew));exact HO_242000.out));(case aS => exact (below_size b_));(case aL => have := LMc54.out;omega);intro v267 w57 ho hb hg hat;rw [← Ny266.out] at ho;replace HO_6 := Aside0.mk (Kd.R_after (ok := (fun _ => True)) (by (with_reducible repeat (first|apply Kd.R_alloc|apply Kd.R_drewN|apply Kd.R_drew));exact Kd.R_mono HO_6.out (fun _ hk => ⟨trivial,hk⟩)) hg hat);replace HO_7 := Aside0.mk (Kd.S_after (ok := (fun k_ => some k_ ≠ (u6 : Value).ownBlock ∧ k_ ≠ gb241)) (by (with_reducible repeat (first|apply Kd.S_alloc|apply Kd.S_drewN|apply Kd.S_drew));exact Kd.S_mono HO_7.out (fun _ hk => ⟨⟨hk.2.1,hk.2.2⟩,hk.1⟩)) hg hat);replace BK241 := Aside0.mk (blk_grown (kb_ BK241) hg (Kd.R_ne HO_242000.out BK241.out (by decide)));replace HB := Aside0.mk (hb);have HO268 := Aside0.mk (ho);clear HO_242000;clear ho hb hg hat;obtain ⟨Ao58,co58,eo58⟩ := Kd.R_slice HO268.out;subst eo58;have hcz59_0 : w57.cell? ⟨gb241,0,none⟩ = some (.slice Ao56 x242000_4.length co56) := (blk_cell BK241.out 0).trans rfl;have hfz59_0 := blk_frozen BK241.out 0))
                       go_roundg kj40
                       case measure => have := HJ2.out;have := HK2.out;have := HK3.out;have := HK4.out;have := HJ40.out;omega
                       case rel => exact ⟨(wrap64 (x11_4 + 1)),(y266),(.slice Ao58 y266.length co58),rs_,H',⟨by have := HJ2.out;have := HK2.out;have := HK3.out;have := HK4.out;have := HJ40.out;omega⟩,⟨by (with_reducible repeat (first|apply Kd.R_alloc|apply Kd.R_drewN|apply Kd.R_drew));exact Kd.R_mono (Kd.R_far (p := ⟨gb241,0,none⟩) (Kd.R_types HO_6.out BK241.out (by decide)) (fun _ hk => hk.2) (.slice Ao58 y266.length co58)) (fun _ hk => hk.1.2)⟩,⟨by (with_reducible repeat (first|apply Kd.S_alloc|apply Kd.S_drewN|apply Kd.S_drew));exact Kd.S_mono (Kd.S_far (p := ⟨gb241,0,none⟩) (Kd.S_mono HO_7.out (fun k_ hk => (⟨hk,hk.1.2⟩ : _ ∧ k_ ≠ gb241))) (fun _ hk => hk.2) (.slice Ao58 y266.length co58)) (fun _ hk => ⟨hk.1.1.1,⟨hk.1.2,hk.1.1.2⟩⟩)⟩,⟨by (with_reducible repeat (first|apply Kd.R_alloc|apply Kd.R_drewN|apply Kd.R_drew));exact Kd.R_mono (Kd.R_far (p := ⟨gb241,0,none⟩) (Kd.R_types HO268.out BK241.out (by decide)) (fun _ hk => hk.2) (.slice Ao58 y266.length co58)) (fun _ hk => hk.1)⟩,⟨by (with_reducible repeat (first|refine blk_drewN ?_ _|refine blk_drew ?_|refine blk_alloc ?_ _));refine blk_put (cs := #[.slice Ao56 x242000_4.length co56]) ?_ 0 _ rfl;(with_reducible repeat (first|refine blk_drewN ?_ _|refine blk_drew ?_|refine blk_alloc ?_ _));exact BK241.out⟩,⟨b_⟩⟩
                      ·rw [if_neg c54] at H
                       exact absurd H (by simp)
                    ·replace c49 := Bool.eq_false_iff.mpr c49
                     subst c49
                     replace H := ie_ H
                     have H' := Aside0.mk H
                     clear H
                     have p264 : 0 ≤ (x11_4 : Int) := od_
                     have q264 : x11_4 < (l1.length : Int) := od_
                     obtain ⟨ad264,e264,hx264_0⟩ := Kd.at_bool HR1.out x11_4 p264 q264
                     (try rw [← Nbq48.out] at hx264_0)
                     cases e264
                     replace hx264_0 := hx_ HB hx264_0
                     replace p264 := eq_true p264
                     replace q264 := eq_true q264
                     go_wp2
                     go_roundg kj40
                     case measure => have := HJ2.out;have := HK2.out;have := HK3.out;have := HK4.out;have := HJ40.out;omega
                     case rel => exact ⟨(wrap64 (x11_4 + 1)),(x242000_4),(u242000),rs_,H',⟨by have := HJ2.out;have := HK2.out;have := HK3.out;have := HK4.out;have := HJ40.out;omega⟩,⟨by (with_reducible repeat (first|apply Kd.R_alloc|apply Kd.R_drewN|apply Kd.R_drew));exact HO_6.out⟩,⟨by (with_reducible repeat (first|apply Kd.S_alloc|apply Kd.S_drewN|apply Kd.S_drew));exact HO_7.out⟩,⟨by (with_reducible repeat (first|apply Kd.R_alloc|apply Kd.R_drewN|apply Kd.R_drew));exact HO_242000.out⟩,⟨kb_ BK241⟩,⟨b_⟩⟩
                   ·rw [if_neg c47] at H
                    exact absurd H (by simp)
                  ·rw [if_neg c46] at H
                   exact absurd H (by simp)
                 ·replace c45 := Bool.eq_false_iff.mpr c45
                  subst c45
                  replace H := ie_ H
                  by_cases c60 : x7_2.length < 5864062014805
                  ·rw [if_pos c60] at H
                   have LMc60 := Aside0.mk c60
                   clear c60
                   obtain ⟨y269,hy269⟩ : ∃ y_ : List (S84),y_ = (x7_2 ++ [(⟨x242000_4⟩ : S84)]) := ⟨_,rfl⟩
                   replace H : (spec_Remap.l0 kj40 l0 l1 x6_2 y269 (wrap64 (x8_2 + 1))) = some (r1,r2) := by first|(rw [hy269];with_reducible exact H)|(have H2_ := (Option.bind_some _ _).symm.trans H;rw [hy269];with_reducible exact H2_)|(have H2_ := (Option.bind_some _ _).symm.trans H;with_reducible exact H2_)|with_reducible exact H|(rw [hy269];exact H)|exact H
                   have Ny269 := Aside0.mk hy269
                   clear hy269
                   have H' := Aside0.mk H
                   clear H
                   have hcz61_0 : wc.cell? ⟨gb241,0,none⟩ = some (u242000) := (blk_cell BK241.out 0).trans rfl
                   have hfz61_0 := blk_frozen BK241.out 0
                   obtain ⟨Ao63,co63,eo63⟩ := Kd.R_slice HO_242000.out
                   subst eo63
                   go_wp2_with (first|((with_reducible refine gblt_ (b := .append) (xs := #[.tmp 112,.tmp 114]) rfl ?_);(try (refine gate_guard (by rfl) ?_;dsimp only));at_builtin;refine Kd.S_append k84 (w0 := w) w.heap.size rfl (.tmp 112) (.tmp 114) 70 84 (.agg #[(.slice none 0 0)]) 24 rfl Try.underlying70 info84 rfl (by decide) (by omega) u7 x7_2 (⟨x242000_4⟩ : S84) [.slice Ao63 x242000_4.length co63] (fun k_ => some k_ ≠ (u6 : Value).ownBlock ∧ k_ ≠ gb241) (fun k_ => some k_ = (.slice Ao63 x242000_4.length co63 : Value).ownBlock) rfl rfl ?aP (fun k_ hk_ => ((Kd.R_mono (ok' := fun k_ => ((fun k_ => some k_ ≠ (u6 : Value).ownBlock ∧ k_ ≠ gb241)) k_ ∧ some k_ ≠ (u7 : Value).ownBlock) (Kd.R_types (Kd.R_apart' (HO_242000.out) (Kd.S_typed HO_7.out) (by decide)) BK241.out (by decide)) (fun k_ hk => ⟨⟨hk.1.1,hk.2⟩,hk.1.2⟩))).1 k_ hk_.symm) ?aF ?aO ?aB ?aS ?aL ?_;(case aP => exact k84_mkM _ _ _ (⟨x242000_4⟩ : S84) (Kd.R_mono (Kd.R_tight rfl (Kd.R_mono (ok' := fun k_ => ((fun k_ => some k_ ≠ (u6 : Value).ownBlock ∧ k_ ≠ gb241)) k_ ∧ some k_ ≠ (u7 : Value).ownBlock) (Kd.R_types (Kd.R_apart' (HO_242000.out) (Kd.S_typed HO_7.out) (by decide)) BK241.out (by decide)) (fun k_ hk => ⟨⟨hk.1.1,hk.2⟩,hk.1.2⟩))) (fun _ h_ => h_)));(case aB => exact b_);(case aF => exact (fun k_ hk => ⟨Kd.fresh' (Kd.R_lt (by (with_reducible repeat (first|apply Kd.R_alloc|apply Kd.R_drewN|apply Kd.R_drew));exact HO_6.out)) k_ hk,Kd.freshB (kb_ BK241) k_ hk⟩));(case aO => exact (by (with_reducible repeat (first|apply Kd.S_alloc|apply Kd.S_drewN|apply Kd.S_drew));exact Kd.S_mono HO_7.out (fun k_ hk => ⟨⟨hk.1,hk.2.2⟩,fun e_ => hk.2.1 e_⟩)));(case aS => exact (below_size b_));(case aL => have := LMc60.out;omega);intro v270 w62 ho hb hg hat;rw [← Ny269.out] at ho;replace HO_6 := Aside0.mk (Kd.R_over' (by (with_reducible repeat (first|apply Kd.R_alloc|apply Kd.R_drewN|apply Kd.R_drew));exact HO_6.out) (Kd.S_typed (by (with_reducible repeat (first|apply Kd.S_alloc|apply Kd.S_drewN|apply Kd.S_drew));exact HO_7.out)) (by decide) hg);replace BK241 := Aside0.mk (blk_grown (kb_ BK241) hg (Kd.S_away HO_7.out (fun _ hk => hk.2.2)));replace HB := Aside0.mk (hb);have HO271 := Aside0.mk (ho);clear HO_7 HO_242000;clear ho hb hg hat))
                   go_roundg kj40
                   case measure => have := HJ2.out;have := HK2.out;have := HK3.out;have := HK4.out;have := HJ40.out;omega
                   case rel => exact ⟨(x6_2),(y269),(wrap64 (x8_2 + 1)),rs_,H',⟨by have := HJ2.out;have := HK2.out;have := HK3.out;have := HK4.out;have := HJ40.out;omega⟩,⟨by (with_reducible repeat (first|apply Kd.R_alloc|apply Kd.R_drewN|apply Kd.R_drew));exact Kd.R_mono HO_6.out (fun _ hk => trivial)⟩,⟨by (with_reducible repeat (first|apply Kd.S_alloc|apply Kd.S_drewN|apply Kd.S_drew));exact Kd.S_mono HO271.out (fun _ hk => hk.1)⟩,⟨b_⟩⟩
                  ·rw [if_neg c60] at H
                   exact absurd H (by simp)
          ·rw [if_neg c17] at H
           exact absurd H (by simp)
         ·rw [if_neg c16] at H
          exact absurd H (by simp)
      ·rw [if_neg c13] at H
       have c13b0 : decide (x8_2 < (l0.length : Int)) = false := decide_eq_false c13
       clear c13
       simp only [Option.some.injEq,Prod.mk.injEq] at H
       obtain ⟨rfl,rfl⟩ := H
       go_wp2
       go_ret2
       exact ⟨_,_,rf_,by (with_reducible repeat (first|apply Kd.S_alloc|apply Kd.S_drewN|apply Kd.S_drew));exact HO_7.out,by (with_reducible repeat (first|apply Kd.R_alloc|apply Kd.R_drewN|apply Kd.R_drew));exact HO_6.out,b_⟩

end Go.Proofs.Ytgdfbjmjgegicaa.XPs
