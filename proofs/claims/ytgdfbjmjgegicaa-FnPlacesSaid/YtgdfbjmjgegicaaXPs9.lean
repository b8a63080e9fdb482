/- Proved: of each Go function here that a call comes to what the Lean function of its name tells. Written by a program of this session over the translation. No conditions beyond each theorem's own. -/
import Derived.Test.YtgdfbjmjgegicaaXPs0
import Derived.Test.YtgdfbjmjgegicaaXPs1
import Derived.Test.YtgdfbjmjgegicaaXPs2
import Derived.Test.YtgdfbjmjgegicaaXPs4
import Derived.Test.YtgdfbjmjgegicaaXPs6
import Derived.Test.YtgdfbjmjgegicaaXPs7
import Derived.Test.YtgdfbjmjgegicaaXPs8
namespace Go.Proofs.Ytgdfbjmjgegicaa.XPs
open Go.RowKit Go.Proofs.Ytgdfbjmjgegicaa.Aid Go.Proofs.YtgdfbjmjgegicaaW.PrintWords Go.Proofs.YtgdfbjmjgegicaaW.PrintLast Go.Proofs.YtgdfbjmjgegicaaW.PrintMore
set_option linter.unusedVariables false
set_option linter.unusedSimpArgs false

/-! ### laws_FnPlaces: function 13 -/
mutual
def laws_FnPlaces.j0 : Nat → List Int → List (S84) → List Bool → List (S84) → List Int → Bool → Option (Bool)
  | 0, _, _, _, _, _, _ => none
  | k + 1, x0, x3, x4, x5, x6, x52 => if x52 = true then (none) else ((spec_DrawSpread.f k x0).bind fun bt353 => ((impl_Spread.f k bt353.1 bt353.2).bind fun bt355 => ((spec_Spread.f k bt353.1 bt353.2).bind fun bt359 => (if (bt355.2 != bt359.2) = true then (none) else ((laws_likePlaces.f k bt355.1 bt359.1).bind fun t363 => (if t363 = true then (if bt355.2 = true then ((impl_PlacesOk.f k bt355.1).bind fun t364 => (if t364 = true then ((impl_Primary.f k bt355.1 0).bind fun t365 => (laws_FnPlaces.j1 k x3 x4 x5 x6 (t365 != 0))) else (none))) else (laws_FnPlaces.j1 k x3 x4 x5 x6 false)) else (none)))))))
def laws_FnPlaces.j1 : Nat → List (S84) → List Bool → List (S84) → List Int → Bool → Option (Bool)
  | 0, _, _, _, _, _ => none
  | k + 1, x3, x4, x5, x6, x91 => if x91 = true then (none) else (if (x5.length : Int) = 0 then ((impl_PlacesOk.f k x3).bind fun t366 => (if t366 = true then (some (decide ((x4.length : Int) > 8))) else (some true))) else (laws_FnPlaces.l0 k x3 x4 x5 x6 0 0))
def laws_FnPlaces.l0 : Nat → List (S84) → List Bool → List (S84) → List Int → Int → Int → Option (Bool)
  | 0, _, _, _, _, _, _ => none
  | k + 1, x3, x4, x5, x6, x15, x16 => if x16 < (x4.length : Int) then (if 0 ≤ x16 then (if rdOf false x4 x16 = true then (laws_FnPlaces.l0 k x3 x4 x5 x6 (wrap64 (x15 + 1)) (wrap64 (x16 + 1))) else (laws_FnPlaces.l0 k x3 x4 x5 x6 x15 (wrap64 (x16 + 1)))) else (none)) else (laws_FnPlaces.l1 k x3 x4 x5 x6 x15 0 0)
def laws_FnPlaces.l1 : Nat → List (S84) → List Bool → List (S84) → List Int → Int → Int → Int → Option (Bool)
  | 0, _, _, _, _, _, _, _ => none
  | k + 1, x3, x4, x5, x6, x15, x17, x18 => if x18 < (x3.length : Int) then (laws_FnPlaces.l2 k x3 x4 x5 x6 x15 x17 x18 false 0) else (if x17 = (x6.length : Int) then ((impl_PlacesOk.f k x5).bind fun t368 => (some t368)) else (none))
def laws_FnPlaces.l2 : Nat → List (S84) → List Bool → List (S84) → List Int → Int → Int → Int → Bool → Int → Option (Bool)
  | 0, _, _, _, _, _, _, _, _, _ => none
  | k + 1, x3, x4, x5, x6, x15, x17, x18, x19, x20 => if x20 < (x6.length : Int) then (if x19 = true then (laws_FnPlaces.l2 k x3 x4 x5 x6 x15 x17 x18 true (wrap64 (x20 + 1))) else (if 0 ≤ x20 then (laws_FnPlaces.l2 k x3 x4 x5 x6 x15 x17 x18 ((rd x6 x20) == x18) (wrap64 (x20 + 1))) else (none))) else (if x19 = true then (if 0 ≤ x18 then (if x18 < (x5.length : Int) then (if x18 < (x3.length : Int) then ((laws_likeInts.f k ((rd_T84 x5 x18).f0) ((rd_T84 x3 x18).f0)).bind fun t372 => (if t372 = true then (laws_FnPlaces.l1 k x3 x4 x5 x6 x15 (wrap64 (x17 + 1)) (wrap64 (x18 + 1))) else (none))) else (none)) else (none)) else (none)) else (if x15 > 3 then (laws_FnPlaces.j5 k x3 x4 x5 x6 x15 x17 x18 3) else (laws_FnPlaces.j5 k x3 x4 x5 x6 x15 x17 x18 x15)))
def laws_FnPlaces.j5 : Nat → List (S84) → List Bool → List (S84) → List Int → Int → Int → Int → Int → Option (Bool)
  | 0, _, _, _, _, _, _, _, _ => none
  | k + 1, x3, x4, x5, x6, x15, x17, x18, x21 => if 0 ≤ x18 then (if x18 < (x5.length : Int) then (if (((rd_T84 x5 x18).f0).length : Int) = x21 then ((impl_Backups.f k x5 x18).bind fun t374 => (laws_FnPlaces.j6 k x3 x4 x5 x6 x15 x17 x18 ((t374.length : Int) != (wrap64 (x21 - 1))))) else (none)) else (none)) else (none)
def laws_FnPlaces.j6 : Nat → List (S84) → List Bool → List (S84) → List Int → Int → Int → Int → Bool → Option (Bool)
  | 0, _, _, _, _, _, _, _, _ => none
  | k + 1, x3, x4, x5, x6, x15, x17, x18, x170 => if x170 = true then (none) else (laws_FnPlaces.l3 k x3 x4 x5 x6 x15 x17 x18 0)
def laws_FnPlaces.l3 : Nat → List (S84) → List Bool → List (S84) → List Int → Int → Int → Int → Int → Option (Bool)
  | 0, _, _, _, _, _, _, _, _ => none
  | k + 1, x3, x4, x5, x6, x15, x17, x18, x22 => if 0 ≤ x18 then (if x18 < (x5.length : Int) then (if x22 < (((rd_T84 x5 x18).f0).length : Int) then (if 0 ≤ x22 then (if (rd ((rd_T84 x5 x18).f0) x22) ≥ (x4.length : Int) then (none) else (if 0 ≤ (rd ((rd_T84 x5 x18).f0) x22) then (if (rd ((rd_T84 x5 x18).f0) x22) < (x4.length : Int) then (if (rdOf false x4 (rd ((rd_T84 x5 x18).f0) x22) = true) then (laws_FnPlaces.l3 k x3 x4 x5 x6 x15 x17 x18 (wrap64 (x22 + 1))) else (none)) else (none)) else (none))) else (none)) else (laws_FnPlaces.l1 k x3 x4 x5 x6 x15 x17 (wrap64 (x18 + 1)))) else (none)) else (none)
end
def laws_FnPlaces.f (k : Nat) (l0 : List Int) : Option (Bool) := (laws_big.f l0).bind fun t332 => (if t332 = true then (some true) else ((spec_DrawRemap.f k l0).bind fun bt333 => ((impl_Remap.f k bt333.1 bt333.2).bind fun bt339 => ((spec_Remap.f k bt333.1 bt333.2).bind fun bt345 => ((laws_likePlaces.f k bt339.1 bt345.1).bind fun t351 => (if t351 = true then ((laws_likeInts.f k bt339.2 bt345.2).bind fun t352 => (laws_FnPlaces.j0 k l0 bt333.1 bt333.2 bt339.1 bt339.2 (!t352))) else (none)))))))

def laws_FnPlaces.T32 : Bool × List (List Nat × List Nat) := (true, [([], []), ([], []), ([0, 1], [0, 1]), ([2], [2]), ([3], [3]), ([], []), ([], []), ([5, 6], [5, 6]), ([7], [7]), ([8], [8]), ([4, 9], [4, 9]), ([10], [10])])
def laws_FnPlaces.B32 : List Nat := [0, 0, 3, 7, 15, 0, 0, 96, 224, 480, 1023, 2047]
theorem laws_FnPlaces.tab32 : rtab .any (opsOf Try.f13 32) = laws_FnPlaces.T32 := by kernel_rfl
theorem laws_FnPlaces.bits32 : waitsOk laws_FnPlaces.T32.2 laws_FnPlaces.B32 = true := by kernel_rfl
set_option maxHeartbeats 8000000 in
set_option maxRecDepth 100000 in
theorem laws_FnPlaces.calls (k : Nat) (A0 : Option Addr) (c0 : Nat) (l0 : List Int) (r : Bool) (w : World) (hr0 : Kd.C (Kd.int .u8) w A0 l0.length l0) (hc0 : l0.length ≤ c0) (h : laws_FnPlaces.f k l0 = some r) :
    Calls Try.prog 13 #[.slice A0 l0.length c0] w fun e w' => e = .returned (.bool r) ∧ Below w.heap.size w w' := by
 have HR0 := Aside0.mk hr0
 have HC0 := Aside0.mk hc0
 clear hr0 hc0
 have HB := Aside0.mk (Below.refl w.heap.size w)
 have H : ((laws_big.f l0).bind fun t332 => (if t332 = true then (some true) else ((spec_DrawRemap.f k l0).bind fun bt333 => ((impl_Remap.f k bt333.1 bt333.2).bind fun bt339 => ((spec_Remap.f k bt333.1 bt333.2).bind fun bt345 => ((laws_likePlaces.f k bt339.1 bt345.1).bind fun t351 => (if t351 = true then ((laws_likeInts.f k bt339.2 bt345.2).bind fun t352 => (laws_FnPlaces.j0 k l0 bt333.1 bt333.2 bt339.1 bt339.2 (!t352))) else (none)))))))) = some r := h
 clear h
 replace H := bs_ H
 obtain ⟨t332,A2,H⟩ := H
 by_cases c3 : t332 = true
 ·subst c3
  replace H := it_ H
  first
  | (cases H; done)
  | obtain rfl := Option.some.inj H
    go_enter Try.func13,Try.ntmps13
    go_wp2_with (first|((with_reducible refine gcal_ (f := 26) rfl ?_);refine gl_ (some 25) Try.func26 #[.slice A0 l0.length c0] ?_;(with_reducible refine (laws_big.calls _ _ l0 true _ ?side1 ?side2 A2.out).mono ?_);(case side1 => repeat (first|exact HR0.out|(with_reducible refine Kd.C_alloc ?_ _)|(with_reducible refine Kd.C_drewN ?_ _)|(with_reducible refine Kd.C_drew ?_)));(case side2 => exact HC0.out);rintro e w' ⟨rfl,⟨nd,rfl⟩⟩;refine ⟨_,rfl,?_⟩))
    go_ret
    exact ⟨rf_,b_⟩
 ·replace c3 := Bool.eq_false_iff.mpr c3
  subst c3
  replace H := ie_ H
  replace H := Option.bind_eq_some_iff.mp H
  obtain ⟨⟨t333,t336⟩,A40,H⟩ := H
  replace H : ((impl_Remap.f k t333 t336).bind fun bt339 => ((spec_Remap.f k t333 t336).bind fun bt345 => ((laws_likePlaces.f k bt339.1 bt345.1).bind fun t351 => (if t351 = true then ((laws_likeInts.f k bt339.2 bt345.2).bind fun t352 => (laws_FnPlaces.j0 k l0 t333 t336 bt339.1 bt339.2 (!t352))) else (none))))) = some r := H
  have A4 := Aside0.mk A40
  clear A40
  replace H := Option.bind_eq_some_iff.mp H
  obtain ⟨⟨t339,t340⟩,A50,H⟩ := H
  replace H : ((spec_Remap.f k t333 t336).bind fun bt345 => ((laws_likePlaces.f k t339 bt345.1).bind fun t351 => (if t351 = true then ((laws_likeInts.f k t340 bt345.2).bind fun t352 => (laws_FnPlaces.j0 k l0 t333 t336 t339 t340 (!t352))) else (none)))) = some r := H
  have A5 := Aside0.mk A50
  clear A50
  replace H := Option.bind_eq_some_iff.mp H
  obtain ⟨⟨t345,t346⟩,A60,H⟩ := H
  replace H : ((laws_likePlaces.f k t339 t345).bind fun t351 => (if t351 = true then ((laws_likeInts.f k t340 t346).bind fun t352 => (laws_FnPlaces.j0 k l0 t333 t336 t339 t340 (!t352))) else (none))) = some r := H
  have A6 := Aside0.mk A60
  clear A60
  have HC7 := Aside0.mk H
  clear H
  go_enter Try.func13,Try.ntmps13
  go_upto_region 6 with (first|((with_reducible refine gcal_ (f := 26) rfl ?_);refine gl_ (some 25) Try.func26 #[.slice A0 l0.length c0] ?_;(with_reducible refine (laws_big.calls _ _ l0 false _ ?side1 ?side2 A2.out).mono ?_);(case side1 => repeat (first|exact HR0.out|(with_reducible refine Kd.C_alloc ?_ _)|(with_reducible refine Kd.C_drewN ?_ _)|(with_reducible refine Kd.C_drew ?_)));(case side2 => exact HC0.out);rintro e w' ⟨rfl,⟨nd,rfl⟩⟩;refine ⟨_,rfl,?_⟩)|((with_reducible refine gcal_ (f := 51) rfl ?_);refine gl_ (some 28) Try.func51 #[.slice A0 l0.length c0] ?_;(with_reducible refine (spec_DrawRemap.calls k _ _ l0 t333 t336 _ ?side1 ?side2 A4.out).mono ?_);(case side1 => repeat (first|exact HR0.out|(with_reducible refine Kd.C_alloc ?_ _)|(with_reducible refine Kd.C_drewN ?_ _)|(with_reducible refine Kd.C_drew ?_)));(case side2 => exact HC0.out);rintro e w8 ⟨v334,v337,rfl,ho0,ho1,hb⟩;refine ⟨_,rfl,?_⟩;have n0_ := Aside0.mk (Kd.N_lower (Kd.N_mono (ok' := fun k_ => some k_ ≠ (v337 : Value).ownBlock) ho0 (fun k_ hk_ => hk_.2)) (below_size b_));have n1_ := Aside0.mk (Kd.R_lower (Kd.R_mono (ok' := fun k_ => True) ho1 (fun _ hk_ => trivial)) (below_size b_));have n2_ := Aside0.mk (below_step b_ hb);clear HB;have HO335 := n0_;have HO338 := n1_;have HB := n2_;clear n0_ n1_ n2_;(try clear hb);(try clear hb2);(try clear hk);(try clear hi);(try clear ho0);(try clear ho1);obtain ⟨Ao9,co9,eo9⟩ := Kd.N_slice HO335.out;subst eo9;obtain ⟨Ao10,co10,eo10⟩ := Kd.R_slice HO338.out;subst eo10)|((with_reducible refine gcal_ (f := 52) rfl ?_);refine gl_ (some 34) Try.func52 #[.slice Ao9 t333.length co9,.slice Ao10 t336.length co10] ?_;(with_reducible refine (impl_Remap.calls k _ _ t333 _ _ t336 t339 t340 _ ?side1 ?side2 ?side3 ?side4 A5.out).mono ?_);(case side1 => repeat (first|exact (Kd.N_reads' HO335.out).2.2|(with_reducible refine Kd.C_alloc ?_ _)|(with_reducible refine Kd.C_drewN ?_ _)|(with_reducible refine Kd.C_drew ?_)));(case side2 => exact (Kd.N_reads' HO335.out).2.1);(case side3 => repeat (first|exact (Kd.R_reads' HO338.out).2.2|(with_reducible refine Kd.C_alloc ?_ _)|(with_reducible refine Kd.C_drewN ?_ _)|(with_reducible refine Kd.C_drew ?_)));(case side4 => exact (Kd.R_reads' HO338.out).2.1);rintro e w11 ⟨v341,v343,rfl,ho0,ho1,hb⟩;refine ⟨_,rfl,?_⟩;have n0_ := Aside0.mk (Kd.N_mono (Kd.N_told (Kd.N_told (Kd.N_old (by (with_reducible repeat (first|apply Kd.N_alloc|apply Kd.N_drewN|apply Kd.N_drew));exact HO335.out) hb) (by first | exact Kd.N_base ho0 | exact Kd.R_base (Kd.S_R ho0))) (Kd.R_base ho1)) (fun _ h_ => h_.1));have n1_ := Aside0.mk (Kd.R_below (by (with_reducible repeat (first|apply Kd.R_alloc|apply Kd.R_drewN|apply Kd.R_drew));exact HO338.out) hb);have n2_ := Aside0.mk (Kd.N_lower (Kd.N_mono (ok' := fun k_ => some k_ ≠ (v343 : Value).ownBlock ∧ some k_ ≠ (.slice Ao9 t333.length co9 : Value).ownBlock ∧ some k_ ≠ (.slice Ao10 t336.length co10 : Value).ownBlock) (Kd.S_N (Kd.S_bound ho0)) (fun k_ hk_ => ⟨hk_.1,(Kd.fresh' (Kd.N_lt (by (with_reducible repeat (first|apply Kd.N_alloc|apply Kd.N_drewN|apply Kd.N_drew));exact HO335.out)) k_ hk_.2.1),(Kd.fresh' (Kd.R_lt (by (with_reducible repeat (first|apply Kd.R_alloc|apply Kd.R_drewN|apply Kd.R_drew));exact HO338.out)) k_ hk_.2.1)⟩)) (below_size b_));have n3_ := Aside0.mk (Kd.R_lower ho1 (below_size b_));have n4_ := Aside0.mk (below_step b_ hb);clear HO335;clear HO338;clear HB;have HO335 := n0_;have HO338 := n1_;have HO342 := n2_;have HO344 := n3_;have HB := n4_;clear n0_ n1_ n2_ n3_ n4_;(try clear hb);(try clear hb2);(try clear hk);(try clear hi);(try clear ho0);(try clear ho1))|((with_reducible refine gcal_ (f := 53) rfl ?_);refine gl_ (some 40) Try.func53 #[.slice Ao9 t333.length co9,.slice Ao10 t336.length co10] ?_;(with_reducible refine (spec_Remap.calls k _ _ t333 _ _ t336 t345 t346 _ ?side1 ?side2 ?side3 ?side4 A6.out).mono ?_);(case side1 => repeat (first|exact (Kd.N_reads' HO335.out).2.2|(with_reducible refine Kd.C_alloc ?_ _)|(with_reducible refine Kd.C_drewN ?_ _)|(with_reducible refine Kd.C_drew ?_)));(case side2 => exact (Kd.N_reads' HO335.out).2.1);(case side3 => repeat (first|exact (Kd.R_reads' HO338.out).2.2|(with_reducible refine Kd.C_alloc ?_ _)|(with_reducible refine Kd.C_drewN ?_ _)|(with_reducible refine Kd.C_drew ?_)));(case side4 => exact (Kd.R_reads' HO338.out).2.1);rintro e w12 ⟨v347,v349,rfl,ho0,ho1,hb⟩;refine ⟨_,rfl,?_⟩;have n0_ := Aside0.mk (Kd.N_mono (Kd.N_told (Kd.N_told (Kd.N_old (by (with_reducible repeat (first|apply Kd.N_alloc|apply Kd.N_drewN|apply Kd.N_drew));exact HO335.out) hb) (by first | exact Kd.N_base ho0 | exact Kd.R_base (Kd.S_R ho0))) (Kd.R_base ho1)) (fun _ h_ => h_.1));have n1_ := Aside0.mk (Kd.R_below (by (with_reducible repeat (first|apply Kd.R_alloc|apply Kd.R_drewN|apply Kd.R_drew));exact HO338.out) hb);have n2_ := Aside0.mk (Kd.N_mono (Kd.N_told (Kd.N_told (Kd.N_old (by (with_reducible repeat (first|apply Kd.N_alloc|apply Kd.N_drewN|apply Kd.N_drew));exact HO342.out) hb) (by first | exact Kd.N_base ho0 | exact Kd.R_base (Kd.S_R ho0))) (Kd.R_base ho1)) (fun _ h_ => h_.1));have n3_ := Aside0.mk (Kd.R_elder' (by (with_reducible repeat (first|apply Kd.R_alloc|apply Kd.R_drewN|apply Kd.R_drew));exact HO344.out) (Kd.R_base ho1) hb);have n4_ := Aside0.mk (Kd.N_lower (Kd.N_mono (ok' := fun k_ => some k_ ≠ (v349 : Value).ownBlock ∧ some k_ ≠ (.slice Ao9 t333.length co9 : Value).ownBlock ∧ some k_ ≠ (.slice Ao10 t336.length co10 : Value).ownBlock ∧ some k_ ≠ (v341 : Value).ownBlock ∧ some k_ ≠ (v343 : Value).ownBlock) (Kd.S_N (Kd.S_bound ho0)) (fun k_ hk_ => ⟨hk_.1,(Kd.fresh' (Kd.N_lt (by (with_reducible repeat (first|apply Kd.N_alloc|apply Kd.N_drewN|apply Kd.N_drew));exact HO335.out)) k_ hk_.2.1),(Kd.fresh' (Kd.R_lt (by (with_reducible repeat (first|apply Kd.R_alloc|apply Kd.R_drewN|apply Kd.R_drew));exact HO338.out)) k_ hk_.2.1),(Kd.fresh' (Kd.N_lt (by (with_reducible repeat (first|apply Kd.N_alloc|apply Kd.N_drewN|apply Kd.N_drew));exact HO342.out)) k_ hk_.2.1),(Kd.fresh' (Kd.R_lt (by (with_reducible repeat (first|apply Kd.R_alloc|apply Kd.R_drewN|apply Kd.R_drew));exact HO344.out)) k_ hk_.2.1)⟩)) (below_size b_));have n5_ := Aside0.mk (Kd.R_lower (Kd.R_new' ho1 (Kd.R_lt (by (with_reducible repeat (first|apply Kd.R_alloc|apply Kd.R_drewN|apply Kd.R_drew));exact HO344.out))) (below_size b_));have n6_ := Aside0.mk (below_step b_ hb);clear HO335;clear HO338;clear HO342;clear HO344;clear HB;have HO335 := n0_;have HO338 := n1_;have HO342 := n2_;have HO344 := n3_;have HO348 := n4_;have HO350 := n5_;have HB := n6_;clear n0_ n1_ n2_ n3_ n4_ n5_ n6_;(try clear hb);(try clear hb2);(try clear hk);(try clear hi);(try clear ho0);(try clear ho1)))
  (try simp only [Act.put,List.setIfInBounds_toArray,List.set_cons_zero,List.set_cons_succ])
  go_cut [52] (fun v52 wc => ∃ (kq : Nat) (x52_6 : Bool),v52 = .bool x52_6 ∧ Aside0 (laws_FnPlaces.j0 kq l0 t333 t336 t339 t340 x52_6 = some r) ∧ Aside0 (kq ≤ k) ∧ Aside0 (Kd.N k84 84 wc w.heap.size (fun k_ => some k_ ≠ ((.slice Ao10 t336.length co10) : Value).ownBlock ∧ some k_ ≠ (v341 : Value).ownBlock ∧ some k_ ≠ (v343 : Value).ownBlock) (.slice Ao9 t333.length co9) t333) ∧ Aside0 (Kd.R Kd.bool 4 wc w.heap.size (fun _ => True) (.slice Ao10 t336.length co10) t336) ∧ Aside0 (Kd.N k84 84 wc w.heap.size (fun k_ => some k_ ≠ ((.slice Ao9 t333.length co9) : Value).ownBlock ∧ some k_ ≠ ((.slice Ao10 t336.length co10) : Value).ownBlock ∧ some k_ ≠ (v343 : Value).ownBlock) v341 t339) ∧ Aside0 (Kd.R (Kd.int .i64) 2 wc w.heap.size (fun _ => True) v343 t340) ∧ Aside0 (Below w.heap.size w wc))
  case first =>
   have H := HC7.out
   clear HC7
   replace H := bs_ H
   obtain ⟨t351,A13,H⟩ := H
   by_cases c14 : t351 = true
   ·subst c14
    replace H := it_ H
    replace H := bs_ H
    obtain ⟨t352,A15,H⟩ := H
    have H' := Aside0.mk H
    clear H
    obtain ⟨Ao16,co16,eo16⟩ := Kd.N_slice HO342.out
    subst eo16
    obtain ⟨Ao17,co17,eo17⟩ := Kd.N_slice HO348.out
    subst eo17
    go_wp2_with (first|((with_reducible refine gcal_ (f := 54) rfl ?_);refine gl_ (some 45) Try.func54 #[.slice Ao16 t339.length co16,.slice Ao17 t345.length co17] ?_;(with_reducible refine (laws_likePlaces.calls k _ _ t339 _ _ t345 true _ ?side1 ?side2 ?side3 ?side4 A13.out).mono ?_);(case side1 => repeat (first|exact (Kd.N_reads' HO342.out).2.2|(with_reducible refine Kd.C_alloc ?_ _)|(with_reducible refine Kd.C_drewN ?_ _)|(with_reducible refine Kd.C_drew ?_)));(case side2 => exact (Kd.N_reads' HO342.out).2.1);(case side3 => repeat (first|exact (Kd.N_reads' HO348.out).2.2|(with_reducible refine Kd.C_alloc ?_ _)|(with_reducible refine Kd.C_drewN ?_ _)|(with_reducible refine Kd.C_drew ?_)));(case side4 => exact (Kd.N_reads' HO348.out).2.1);rintro e w18 ⟨rfl,hb⟩;refine ⟨_,rfl,?_⟩;replace HO335 := Aside0.mk (Kd.N_below (by (with_reducible repeat (first|apply Kd.N_alloc|apply Kd.N_drewN|apply Kd.N_drew));exact HO335.out) hb);replace HO338 := Aside0.mk (Kd.R_below (by (with_reducible repeat (first|apply Kd.R_alloc|apply Kd.R_drewN|apply Kd.R_drew));exact HO338.out) hb);replace HO342 := Aside0.mk (Kd.N_below (by (with_reducible repeat (first|apply Kd.N_alloc|apply Kd.N_drewN|apply Kd.N_drew));exact HO342.out) hb);replace HO344 := Aside0.mk (Kd.R_below (by (with_reducible repeat (first|apply Kd.R_alloc|apply Kd.R_drewN|apply Kd.R_drew));exact HO344.out) hb);replace HO348 := Aside0.mk (Kd.N_below (by (with_reducible repeat (first|apply Kd.N_alloc|apply Kd.N_drewN|apply Kd.N_drew));exact HO348.out) hb);replace HO350 := Aside0.mk (Kd.R_below (by (with_reducible repeat (first|apply Kd.R_alloc|apply Kd.R_drewN|apply Kd.R_drew));exact HO350.out) hb);replace HB := Aside0.mk (below_step b_ hb);(try clear hb);(try clear hb2);(try clear hk);(try clear hi);obtain ⟨Ao19,co19,eo19⟩ := Kd.R_slice HO344.out;subst eo19;obtain ⟨Ao20,co20,eo20⟩ := Kd.R_slice HO350.out;subst eo20)|(go_at_call 55;(with_reducible refine (laws_likeInts.calls k _ _ t340 _ _ t346 t352 _ ?side1 ?side2 ?side3 ?side4 A15.out).mono ?_);(case side1 => repeat (first|exact (Kd.R_reads' HO344.out).2.2|(with_reducible refine Kd.C_alloc ?_ _)|(with_reducible refine Kd.C_drewN ?_ _)|(with_reducible refine Kd.C_drew ?_)));(case side2 => exact (Kd.R_reads' HO344.out).2.1);(case side3 => repeat (first|exact (Kd.R_reads' HO350.out).2.2|(with_reducible refine Kd.C_alloc ?_ _)|(with_reducible refine Kd.C_drewN ?_ _)|(with_reducible refine Kd.C_drew ?_)));(case side4 => exact (Kd.R_reads' HO350.out).2.1);rintro e w' ⟨rfl,⟨nd,rfl⟩⟩))
    go_meet
    case rel => exact ⟨_,(!t352),rs_,H',⟨by first|omega|exact Nat.le_refl _⟩,⟨by (with_reducible repeat (first|apply Kd.N_alloc|apply Kd.N_drewN|apply Kd.N_drew));exact Kd.N_mono HO335.out (fun _ hk => ⟨hk.1.1.1.1,⟨hk.1.1.1.2,hk.1.1.2⟩⟩)⟩,⟨by (with_reducible repeat (first|apply Kd.R_alloc|apply Kd.R_drewN|apply Kd.R_drew));exact HO338.out⟩,⟨by (with_reducible repeat (first|apply Kd.N_alloc|apply Kd.N_drewN|apply Kd.N_drew));exact Kd.N_mono HO342.out (fun _ hk => ⟨hk.1.1.2.1,⟨hk.1.1.2.2,hk.1.1.1⟩⟩)⟩,⟨by (with_reducible repeat (first|apply Kd.R_alloc|apply Kd.R_drewN|apply Kd.R_drew));exact Kd.R_mono HO344.out (fun _ hk => trivial)⟩,⟨b_⟩⟩
   ·replace c14 := Bool.eq_false_iff.mpr c14
    subst c14
    replace H := ie_ H
    exact absurd H (by simp)
  case rest =>
   clear HC7
   try clear c1
   try clear c2
   try clear p2
   try clear c3
   try clear c5
   try clear c13
   try clear c14
   obtain ⟨kq,x52_6,rfl,HA,HJ6,HO_3,HO_4,HO_5,HO_6,HB⟩ := hcut
   cases kq with
   | zero => exact absurd HA.out (by simp [laws_FnPlaces.j0])
   | succ kj6 =>
    have H := HA.out
    clear HA
    simp only [laws_FnPlaces.j0] at H
    by_cases c24 : x52_6 = true
    ·subst c24
     replace H := it_ H
     first
     | (cases H; done)
     | obtain rfl := Option.some.inj H
       go_wp2
       go_ret
       exact ⟨rf_,b_⟩
    ·replace c24 := Bool.eq_false_iff.mpr c24
     subst c24
     replace H := ie_ H
     replace H := Option.bind_eq_some_iff.mp H
     obtain ⟨⟨t353,t354⟩,A250,H⟩ := H
     replace H : ((impl_Spread.f kj6 t353 t354).bind fun bt355 => ((spec_Spread.f kj6 t353 t354).bind fun bt359 => (if (bt355.2 != bt359.2) = true then (none) else ((laws_likePlaces.f kj6 bt355.1 bt359.1).bind fun t363 => (if t363 = true then (if bt355.2 = true then ((impl_PlacesOk.f kj6 bt355.1).bind fun t364 => (if t364 = true then ((impl_Primary.f kj6 bt355.1 0).bind fun t365 => (laws_FnPlaces.j1 kj6 t333 t336 t339 t340 (t365 != 0))) else (none))) else (laws_FnPlaces.j1 kj6 t333 t336 t339 t340 false)) else (none)))))) = some r := H
     have A25 := Aside0.mk A250
     clear A250
     replace H := Option.bind_eq_some_iff.mp H
     obtain ⟨⟨t355,t356⟩,A260,H⟩ := H
     replace H : ((spec_Spread.f kj6 t353 t354).bind fun bt359 => (if (t356 != bt359.2) = true then (none) else ((laws_likePlaces.f kj6 t355 bt359.1).bind fun t363 => (if t363 = true then (if t356 = true then ((impl_PlacesOk.f kj6 t355).bind fun t364 => (if t364 = true then ((impl_Primary.f kj6 t355 0).bind fun t365 => (laws_FnPlaces.j1 kj6 t333 t336 t339 t340 (t365 != 0))) else (none))) else (laws_FnPlaces.j1 kj6 t333 t336 t339 t340 false)) else (none))))) = some r := H
     have A26 := Aside0.mk A260
     clear A260
     replace H := Option.bind_eq_some_iff.mp H
     obtain ⟨⟨t359,t360⟩,A270,H⟩ := H
     replace H : (if (t356 != t360) = true then (none) else ((laws_likePlaces.f kj6 t355 t359).bind fun t363 => (if t363 = true then (if t356 = true then ((impl_PlacesOk.f kj6 t355).bind fun t364 => (if t364 = true then ((impl_Primary.f kj6 t355 0).bind fun t365 => (laws_FnPlaces.j1 kj6 t333 t336 t339 t340 (t365 != 0))) else (none))) else (laws_FnPlaces.j1 kj6 t333 t336 t339 t340 false)) else (none)))) = some r := H
     have A27 := Aside0.mk A270
     clear A270
     have HC28 := Aside0.mk H
     clear H
     go_upto_region 11 with (first|((with_reducible refine gcal_ (f := 56) rfl ?_);refine gl_ (some 55) Try.func56 #[.slice A0 l0.length c0] ?_;(with_reducible refine (spec_DrawSpread.calls kj6 _ _ l0 t353 t354 _ ?side1 ?side2 A25.out).mono ?_);(case side1 => exact cb_ HR0);(case side2 => exact HC0.out);rintro e w29 ⟨rfl,hb⟩;refine ⟨_,rfl,?_⟩;have n0_ := Aside0.mk (Kd.N_below (by (with_reducible repeat (first|apply Kd.N_alloc|apply Kd.N_drewN|apply Kd.N_drew));exact HO_3.out) hb);have n1_ := Aside0.mk (Kd.R_below (by (with_reducible repeat (first|apply Kd.R_alloc|apply Kd.R_drewN|apply Kd.R_drew));exact HO_4.out) hb);have n2_ := Aside0.mk (Kd.N_below (by (with_reducible repeat (first|apply Kd.N_alloc|apply Kd.N_drewN|apply Kd.N_drew));exact HO_5.out) hb);have n3_ := Aside0.mk (Kd.R_below (by (with_reducible repeat (first|apply Kd.R_alloc|apply Kd.R_drewN|apply Kd.R_drew));exact HO_6.out) hb);have n4_ := Aside0.mk (below_step b_ hb);clear HO_3;clear HO_4;clear HO_5;clear HO_6;clear HB;have HO_3 := n0_;have HO_4 := n1_;have HO_5 := n2_;have HO_6 := n3_;have HB := n4_;clear n0_ n1_ n2_ n3_ n4_;(try clear hb);(try clear hb2);(try clear hk);(try clear hi))|((with_reducible refine gcal_ (f := 57) rfl ?_);refine gl_ (some 61) Try.func57 #[.int .i64 t353,.int .i64 t354] ?_;(with_reducible refine (impl_Spread.calls kj6 t353 t354 t355 t356 _ A26.out).mono ?_);rintro e w30 ⟨v357,rfl,ho0,hb⟩;refine ⟨_,rfl,?_⟩;have n0_ := Aside0.mk (Kd.N_elder' (by (with_reducible repeat (first|apply Kd.N_alloc|apply Kd.N_drewN|apply Kd.N_drew));exact HO_3.out) (by first | exact Kd.N_base ho0 | exact Kd.R_base (Kd.S_R ho0)) hb);have n1_ := Aside0.mk (Kd.R_below (by (with_reducible repeat (first|apply Kd.R_alloc|apply Kd.R_drewN|apply Kd.R_drew));exact HO_4.out) hb);have n2_ := Aside0.mk (Kd.N_elder' (by (with_reducible repeat (first|apply Kd.N_alloc|apply Kd.N_drewN|apply Kd.N_drew));exact HO_5.out) (by first | exact Kd.N_base ho0 | exact Kd.R_base (Kd.S_R ho0)) hb);have n3_ := Aside0.mk (Kd.R_below (by (with_reducible repeat (first|apply Kd.R_alloc|apply Kd.R_drewN|apply Kd.R_drew));exact HO_6.out) hb);have n4_ := Aside0.mk (Kd.N_lower (Kd.N_mono (ok' := fun k_ => some k_ ≠ (.slice Ao9 t333.length co9 : Value).ownBlock ∧ some k_ ≠ (.slice Ao10 t336.length co10 : Value).ownBlock ∧ some k_ ≠ (v341 : Value).ownBlock ∧ some k_ ≠ (v343 : Value).ownBlock) (Kd.S_N (Kd.S_bound ho0)) (fun k_ hk_ => ⟨(Kd.fresh' (Kd.N_lt (by (with_reducible repeat (first|apply Kd.N_alloc|apply Kd.N_drewN|apply Kd.N_drew));exact HO_3.out)) k_ hk_.2.1),(Kd.fresh' (Kd.R_lt (by (with_reducible repeat (first|apply Kd.R_alloc|apply Kd.R_drewN|apply Kd.R_drew));exact HO_4.out)) k_ hk_.2.1),(Kd.fresh' (Kd.N_lt (by (with_reducible repeat (first|apply Kd.N_alloc|apply Kd.N_drewN|apply Kd.N_drew));exact HO_5.out)) k_ hk_.2.1),(Kd.fresh' (Kd.R_lt (by (with_reducible repeat (first|apply Kd.R_alloc|apply Kd.R_drewN|apply Kd.R_drew));exact HO_6.out)) k_ hk_.2.1)⟩)) (below_size b_));have n5_ := Aside0.mk (below_step b_ hb);clear HO_3;clear HO_4;clear HO_5;clear HO_6;clear HB;have HO_3 := n0_;have HO_4 := n1_;have HO_5 := n2_;have HO_6 := n3_;have HO358 := n4_;have HB := n5_;clear n0_ n1_ n2_ n3_ n4_ n5_;(try clear hb);(try clear hb2);(try clear hk);(try clear hi);(try clear ho0))|((with_reducible refine gcal_ (f := 58) rfl ?_);refine gl_ (some 67) Try.func58 #[.int .i64 t353,.int .i64 t354] ?_;(with_reducible refine (spec_Spread.calls kj6 t353 t354 t359 t360 _ A27.out).mono ?_);rintro e w31 ⟨v361,rfl,ho0,hb⟩;refine ⟨_,rfl,?_⟩;have n0_ := Aside0.mk (Kd.N_elder' (by (with_reducible repeat (first|apply Kd.N_alloc|apply Kd.N_drewN|apply Kd.N_drew));exact HO_3.out) (by first | exact Kd.N_base ho0 | exact Kd.R_base (Kd.S_R ho0)) hb);have n1_ := Aside0.mk (Kd.R_below (by (with_reducible repeat (first|apply Kd.R_alloc|apply Kd.R_drewN|apply Kd.R_drew));exact HO_4.out) hb);have n2_ := Aside0.mk (Kd.N_elder' (by (with_reducible repeat (first|apply Kd.N_alloc|apply Kd.N_drewN|apply Kd.N_drew));exact HO_5.out) (by first | exact Kd.N_base ho0 | exact Kd.R_base (Kd.S_R ho0)) hb);have n3_ := Aside0.mk (Kd.R_below (by (with_reducible repeat (first|apply Kd.R_alloc|apply Kd.R_drewN|apply Kd.R_drew));exact HO_6.out) hb);have n4_ := Aside0.mk (Kd.N_elder' (by (with_reducible repeat (first|apply Kd.N_alloc|apply Kd.N_drewN|apply Kd.N_drew));exact HO358.out) (by first | exact Kd.N_base ho0 | exact Kd.R_base (Kd.S_R ho0)) hb);have n5_ := Aside0.mk (Kd.N_lower (Kd.N_mono (ok' := fun k_ => some k_ ≠ (.slice Ao9 t333.length co9 : Value).ownBlock ∧ some k_ ≠ (.slice Ao10 t336.length co10 : Value).ownBlock ∧ some k_ ≠ (v341 : Value).ownBlock ∧ some k_ ≠ (v343 : Value).ownBlock ∧ some k_ ≠ (v357 : Value).ownBlock) (Kd.S_N (Kd.S_bound ho0)) (fun k_ hk_ => ⟨(Kd.fresh' (Kd.N_lt (by (with_reducible repeat (first|apply Kd.N_alloc|apply Kd.N_drewN|apply Kd.N_drew));exact HO_3.out)) k_ hk_.2.1),(Kd.fresh' (Kd.R_lt (by (with_reducible repeat (first|apply Kd.R_alloc|apply Kd.R_drewN|apply Kd.R_drew));exact HO_4.out)) k_ hk_.2.1),(Kd.fresh' (Kd.N_lt (by (with_reducible repeat (first|apply Kd.N_alloc|apply Kd.N_drewN|apply Kd.N_drew));exact HO_5.out)) k_ hk_.2.1),(Kd.fresh' (Kd.R_lt (by (with_reducible repeat (first|apply Kd.R_alloc|apply Kd.R_drewN|apply Kd.R_drew));exact HO_6.out)) k_ hk_.2.1),(Kd.fresh' (Kd.N_lt (by (with_reducible repeat (first|apply Kd.N_alloc|apply Kd.N_drewN|apply Kd.N_drew));exact HO358.out)) k_ hk_.2.1)⟩)) (below_size b_));have n6_ := Aside0.mk (below_step b_ hb);clear HO_3;clear HO_4;clear HO_5;clear HO_6;clear HO358;clear HB;have HO_3 := n0_;have HO_4 := n1_;have HO_5 := n2_;have HO_6 := n3_;have HO358 := n4_;have HO362 := n5_;have HB := n6_;clear n0_ n1_ n2_ n3_ n4_ n5_ n6_;(try clear hb);(try clear hb2);(try clear hk);(try clear hi);(try clear ho0)))
     (try simp only [Act.put,List.setIfInBounds_toArray,List.set_cons_zero,List.set_cons_succ])
     go_cut [91] (fun v91 wc => ∃ (kq : Nat) (x91_27 : Bool),v91 = .bool x91_27 ∧ Aside0 (laws_FnPlaces.j1 kq t333 t336 t339 t340 x91_27 = some r) ∧ Aside0 (kq ≤ kj6) ∧ Aside0 (Kd.N k84 84 wc w.heap.size (fun k_ => some k_ ≠ ((.slice Ao10 t336.length co10) : Value).ownBlock ∧ some k_ ≠ (v341 : Value).ownBlock ∧ some k_ ≠ (v343 : Value).ownBlock) (.slice Ao9 t333.length co9) t333) ∧ Aside0 (Kd.R Kd.bool 4 wc w.heap.size (fun _ => True) (.slice Ao10 t336.length co10) t336) ∧ Aside0 (Kd.N k84 84 wc w.heap.size (fun k_ => some k_ ≠ ((.slice Ao9 t333.length co9) : Value).ownBlock ∧ some k_ ≠ ((.slice Ao10 t336.length co10) : Value).ownBlock ∧ some k_ ≠ (v343 : Value).ownBlock) v341 t339) ∧ Aside0 (Kd.R (Kd.int .i64) 2 wc w.heap.size (fun _ => True) v343 t340) ∧ Aside0 (Below w.heap.size w wc))
     case first =>
      have H := HC28.out
      clear HC28
      by_cases c32 : (t356 != t360) = true
      ·rw [if_pos c32] at H
       have c32b0 : (t356 != t360) = true := c32
       (try (have c32b1 : decide (t356 = t360) = false := by simpa using c32))
       (try (have c32b2 : (t356 == t360) = false := by simpa using c32))
       (try (have c32b3 : ¬ (t356 = t360) := by simpa using c32))
       clear c32
       (first|rw [c32b0]|(simp only [i64_w,i32_w];rw [c32b0])|skip)
       exact absurd H (by simp)
      ·rw [if_neg c32] at H
       have c32b0 : (t356 != t360) = false := by simpa using c32
       (try (have c32b1 : decide (t356 = t360) = true := by simpa using c32))
       (try (have c32b2 : (t356 == t360) = true := by simpa using c32))
       clear c32
       (first|rw [c32b0]|(simp only [i64_w,i32_w];rw [c32b0])|skip)
       replace H := bs_ H
       obtain ⟨t363,A33,H⟩ := H
       by_cases c34 : t363 = true
       ·subst c34
        replace H := it_ H
        by_cases c35 : t356 = true
        ·subst c35
         replace H := it_ H
         replace H := bs_ H
         obtain ⟨t364,A36,H⟩ := H
         by_cases c37 : t364 = true
         ·subst c37
          replace H := it_ H
          replace H := bs_ H
          obtain ⟨t365,A38,H⟩ := H
          have H' := Aside0.mk H
          clear H
          obtain ⟨Ao39,co39,eo39⟩ := Kd.N_slice HO358.out
          subst eo39
          obtain ⟨Ao40,co40,eo40⟩ := Kd.N_slice HO362.out
          subst eo40
          go_wp2_with (first|(go_at_call 54;(with_reducible refine (laws_likePlaces.calls kj6 _ _ t355 _ _ t359 true _ ?side1 ?side2 ?side3 ?side4 A33.out).mono ?_);(case side1 => repeat (first|exact (Kd.N_reads' HO358.out).2.2|(with_reducible refine Kd.C_alloc ?_ _)|(with_reducible refine Kd.C_drewN ?_ _)|(with_reducible refine Kd.C_drew ?_)));(case side2 => exact (Kd.N_reads' HO358.out).2.1);(case side3 => repeat (first|exact (Kd.N_reads' HO362.out).2.2|(with_reducible refine Kd.C_alloc ?_ _)|(with_reducible refine Kd.C_drewN ?_ _)|(with_reducible refine Kd.C_drew ?_)));(case side4 => exact (Kd.N_reads' HO362.out).2.1);rintro e w41 ⟨rfl,hb⟩;replace HO_3 := Aside0.mk (Kd.N_below (by (with_reducible repeat (first|apply Kd.N_alloc|apply Kd.N_drewN|apply Kd.N_drew));exact HO_3.out) hb);replace HO_4 := Aside0.mk (Kd.R_below (by (with_reducible repeat (first|apply Kd.R_alloc|apply Kd.R_drewN|apply Kd.R_drew));exact HO_4.out) hb);replace HO_5 := Aside0.mk (Kd.N_below (by (with_reducible repeat (first|apply Kd.N_alloc|apply Kd.N_drewN|apply Kd.N_drew));exact HO_5.out) hb);replace HO_6 := Aside0.mk (Kd.R_below (by (with_reducible repeat (first|apply Kd.R_alloc|apply Kd.R_drewN|apply Kd.R_drew));exact HO_6.out) hb);replace HO358 := Aside0.mk (Kd.N_below (by (with_reducible repeat (first|apply Kd.N_alloc|apply Kd.N_drewN|apply Kd.N_drew));exact HO358.out) hb);replace HO362 := Aside0.mk (Kd.N_below (by (with_reducible repeat (first|apply Kd.N_alloc|apply Kd.N_drewN|apply Kd.N_drew));exact HO362.out) hb);replace HB := Aside0.mk (below_step b_ hb);(try clear hb);(try clear hb2);(try clear hk);(try clear hi))|(go_at_call 59;(with_reducible refine (impl_PlacesOk.calls kj6 _ _ t355 true _ ?side1 ?side2 A36.out).mono ?_);(case side1 => repeat (first|exact (Kd.N_reads' HO358.out).2.2|(with_reducible refine Kd.C_alloc ?_ _)|(with_reducible refine Kd.C_drewN ?_ _)|(with_reducible refine Kd.C_drew ?_)));(case side2 => exact (Kd.N_reads' HO358.out).2.1);rintro e w42 ⟨rfl,hb⟩;replace HO_3 := Aside0.mk (Kd.N_below (by (with_reducible repeat (first|apply Kd.N_alloc|apply Kd.N_drewN|apply Kd.N_drew));exact HO_3.out) hb);replace HO_4 := Aside0.mk (Kd.R_below (by (with_reducible repeat (first|apply Kd.R_alloc|apply Kd.R_drewN|apply Kd.R_drew));exact HO_4.out) hb);replace HO_5 := Aside0.mk (Kd.N_below (by (with_reducible repeat (first|apply Kd.N_alloc|apply Kd.N_drewN|apply Kd.N_drew));exact HO_5.out) hb);replace HO_6 := Aside0.mk (Kd.R_below (by (with_reducible repeat (first|apply Kd.R_alloc|apply Kd.R_drewN|apply Kd.R_drew));exact HO_6.out) hb);replace HO358 := Aside0.mk (Kd.N_below (by (with_reducible repeat (first|apply Kd.N_alloc|apply Kd.N_drewN|apply Kd.N_drew));exact HO358.out) hb);replace HO362 := Aside0.mk (Kd.N_below (by (with_reducible repeat (first|apply Kd.N_alloc|apply Kd.N_drewN|apply Kd.N_drew));exact HO362.out) hb);replace HB := Aside0.mk (below_step b_ hb);(try clear hb);(try clear hb2);(try clear hk);(try clear hi))|(go_at_call 60;(with_reducible refine (impl_Primary.calls kj6 _ _ t355 0 t365 _ ?side1 ?side2 A38.out).mono ?_);(case side1 => repeat (first|exact (Kd.N_reads' HO358.out).2.2|(with_reducible refine Kd.C_alloc ?_ _)|(with_reducible refine Kd.C_drewN ?_ _)|(with_reducible refine Kd.C_drew ?_)));(case side2 => exact (Kd.N_reads' HO358.out).2.1);rintro e w43 ⟨rfl,hb⟩;replace HO_3 := Aside0.mk (Kd.N_below (by (with_reducible repeat (first|apply Kd.N_alloc|apply Kd.N_drewN|apply Kd.N_drew));exact HO_3.out) hb);replace HO_4 := Aside0.mk (Kd.R_below (by (with_reducible repeat (first|apply Kd.R_alloc|apply Kd.R_drewN|apply Kd.R_drew));exact HO_4.out) hb);replace HO_5 := Aside0.mk (Kd.N_below (by (with_reducible repeat (first|apply Kd.N_alloc|apply Kd.N_drewN|apply Kd.N_drew));exact HO_5.out) hb);replace HO_6 := Aside0.mk (Kd.R_below (by (with_reducible repeat (first|apply Kd.R_alloc|apply Kd.R_drewN|apply Kd.R_drew));exact HO_6.out) hb);replace HO358 := Aside0.mk (Kd.N_below (by (with_reducible repeat (first|apply Kd.N_alloc|apply Kd.N_drewN|apply Kd.N_drew));exact HO358.out) hb);replace HO362 := Aside0.mk (Kd.N_below (by (with_reducible repeat (first|apply Kd.N_alloc|apply Kd.N_drewN|apply Kd.N_drew));exact HO362.out) hb);replace HB := Aside0.mk (below_step b_ hb);(try clear hb);(try clear hb2);(try clear hk);(try clear hi)))
          go_meet
          case rel => exact ⟨_,((t365 != 0)),rs_,H',⟨by have := HJ6.out;first|omega|exact Nat.le_refl _⟩,⟨by (with_reducible repeat (first|apply Kd.N_alloc|apply Kd.N_drewN|apply Kd.N_drew));exact Kd.N_mono HO_3.out (fun _ hk => ⟨hk.1.1.1,⟨hk.1.1.2.1,hk.1.1.2.2⟩⟩)⟩,⟨by (with_reducible repeat (first|apply Kd.R_alloc|apply Kd.R_drewN|apply Kd.R_drew));exact HO_4.out⟩,⟨by (with_reducible repeat (first|apply Kd.N_alloc|apply Kd.N_drewN|apply Kd.N_drew));exact Kd.N_mono HO_5.out (fun _ hk => ⟨hk.1.1.1,⟨hk.1.1.2.1,hk.1.1.2.2⟩⟩)⟩,⟨by (with_reducible repeat (first|apply Kd.R_alloc|apply Kd.R_drewN|apply Kd.R_drew));exact HO_6.out⟩,⟨b_⟩⟩
         ·replace c37 := Bool.eq_false_iff.mpr c37
          subst c37
          replace H := ie_ H
          exact absurd H (by simp)
        ·replace c35 := Bool.eq_false_iff.mpr c35
         subst c35
         replace H := ie_ H
         have H' := Aside0.mk H
         clear H
         obtain ⟨Ao48,co48,eo48⟩ := Kd.N_slice HO358.out
         subst eo48
         obtain ⟨Ao49,co49,eo49⟩ := Kd.N_slice HO362.out
         subst eo49
         go_wp2_with (first|(go_at_call 54;(with_reducible refine (laws_likePlaces.calls kj6 _ _ t355 _ _ t359 true _ ?side1 ?side2 ?side3 ?side4 A33.out).mono ?_);(case side1 => repeat (first|exact (Kd.N_reads' HO358.out).2.2|(with_reducible refine Kd.C_alloc ?_ _)|(with_reducible refine Kd.C_drewN ?_ _)|(with_reducible refine Kd.C_drew ?_)));(case side2 => exact (Kd.N_reads' HO358.out).2.1);(case side3 => repeat (first|exact (Kd.N_reads' HO362.out).2.2|(with_reducible refine Kd.C_alloc ?_ _)|(with_reducible refine Kd.C_drewN ?_ _)|(with_reducible refine Kd.C_drew ?_)));(case side4 => exact (Kd.N_reads' HO362.out).2.1);rintro e w50 ⟨rfl,hb⟩;replace HO_3 := Aside0.mk (Kd.N_below (by (with_reducible repeat (first|apply Kd.N_alloc|apply Kd.N_drewN|apply Kd.N_drew));exact HO_3.out) hb);replace HO_4 := Aside0.mk (Kd.R_below (by (with_reducible repeat (first|apply Kd.R_alloc|apply Kd.R_drewN|apply Kd.R_drew));exact HO_4.out) hb);replace HO_5 := Aside0.mk (Kd.N_below (by (with_reducible repeat (first|apply Kd.N_alloc|apply Kd.N_drewN|apply Kd.N_drew));exact HO_5.out) hb);replace HO_6 := Aside0.mk (Kd.R_below (by (with_reducible repeat (first|apply Kd.R_alloc|apply Kd.R_drewN|apply Kd.R_drew));exact HO_6.out) hb);replace HO358 := Aside0.mk (Kd.N_below (by (with_reducible repeat (first|apply Kd.N_alloc|apply Kd.N_drewN|apply Kd.N_drew));exact HO358.out) hb);replace HO362 := Aside0.mk (Kd.N_below (by (with_reducible repeat (first|apply Kd.N_alloc|apply Kd.N_drewN|apply Kd.N_drew));exact HO362.out) hb);replace HB := Aside0.mk (below_step b_ hb);(try clear hb);(try clear hb2);(try clear hk);(try clear hi)))
         go_meet
         case rel => exact ⟨_,(false),rs_,H',⟨by have := HJ6.out;first|omega|exact Nat.le_refl _⟩,⟨by (with_reducible repeat (first|apply Kd.N_alloc|apply Kd.N_drewN|apply Kd.N_drew));exact Kd.N_mono HO_3.out (fun _ hk => ⟨hk.1.1.1,⟨hk.1.1.2.1,hk.1.1.2.2⟩⟩)⟩,⟨by (with_reducible repeat (first|apply Kd.R_alloc|apply Kd.R_drewN|apply Kd.R_drew));exact HO_4.out⟩,⟨by (with_reducible repeat (first|apply Kd.N_alloc|apply Kd.N_drewN|apply Kd.N_drew));exact Kd.N_mono HO_5.out (fun _ hk => ⟨hk.1.1.1,⟨hk.1.1.2.1,hk.1.1.2.2⟩⟩)⟩,⟨by (with_reducible repeat (first|apply Kd.R_alloc|apply Kd.R_drewN|apply Kd.R_drew));exact HO_6.out⟩,⟨b_⟩⟩
       ·replace c34 := Bool.eq_false_iff.mpr c34
        subst c34
        replace H := ie_ H
        exact absurd H (by simp)
     case rest =>
      clear HC28
      try clear c1
      try clear c2
      try clear p2
      try clear c3
      try clear c5
      try clear c13
      try clear c14
      try clear c24
      try clear c26
      try clear c32
      try clear c32b0
      try clear c32b1
      try clear c32b2
      try clear c34
      try clear c35
      try clear c37
      try clear c51
      try clear c52
      try clear c53
      try clear p2
      obtain ⟨kq,x91_27,rfl,HA,HJ27,HO_3,HO_4,HO_5,HO_6,HB⟩ := hcut
      cases kq with
      | zero => exact absurd HA.out (by simp [laws_FnPlaces.j1])
      | succ kj27 =>
       have H := HA.out
       clear HA
       simp only [laws_FnPlaces.j1] at H
       by_cases c54 : x91_27 = true
       ·subst c54
        replace H := it_ H
        first
        | (cases H; done)
        | obtain rfl := Option.some.inj H
          go_wp2
          go_ret
          exact ⟨rf_,b_⟩
       ·replace c54 := Bool.eq_false_iff.mpr c54
        subst c54
        replace H := ie_ H
        by_cases c55 : (t339.length : Int) = 0
        ·rw [if_pos c55] at H
         have c55b0 : ((t339.length : Int) == 0) = true := beq_iff_eq.mpr c55
         have c55b1 : ((t339.length : Int) != 0) = false := bne_eq_false_iff_eq.mpr c55
         clear c55
         replace H := bs_ H
         obtain ⟨t366,A56,H⟩ := H
         by_cases c57 : t366 = true
         ·subst c57
          replace H := it_ H
          first
          | (cases H; done)
          | obtain rfl := Option.some.inj H
            obtain ⟨Ao58,co58,eo58⟩ := Kd.N_slice HO_5.out
            subst eo58
            go_wp2_with (first|((with_reducible refine gcal_ (f := 59) rfl ?_);refine gl_ (some 96) Try.func59 #[.slice Ao9 t333.length co9] ?_;(with_reducible refine (impl_PlacesOk.calls kj27 _ _ t333 true _ ?side1 ?side2 A56.out).mono ?_);(case side1 => repeat (first|exact (Kd.N_reads' HO_3.out).2.2|(with_reducible refine Kd.C_alloc ?_ _)|(with_reducible refine Kd.C_drewN ?_ _)|(with_reducible refine Kd.C_drew ?_)));(case side2 => exact (Kd.N_reads' HO_3.out).2.1);rintro e w59 ⟨rfl,hb⟩;refine ⟨_,rfl,?_⟩;replace HO_3 := Aside0.mk (Kd.N_below (by (with_reducible repeat (first|apply Kd.N_alloc|apply Kd.N_drewN|apply Kd.N_drew));exact HO_3.out) hb);replace HO_4 := Aside0.mk (Kd.R_below (by (with_reducible repeat (first|apply Kd.R_alloc|apply Kd.R_drewN|apply Kd.R_drew));exact HO_4.out) hb);replace HO_5 := Aside0.mk (Kd.N_below (by (with_reducible repeat (first|apply Kd.N_alloc|apply Kd.N_drewN|apply Kd.N_drew));exact HO_5.out) hb);replace HO_6 := Aside0.mk (Kd.R_below (by (with_reducible repeat (first|apply Kd.R_alloc|apply Kd.R_drewN|apply Kd.R_drew));exact HO_6.out) hb);replace HB := Aside0.mk (below_step b_ hb);(try clear hb);(try clear hb2);(try clear hk);(try clear hi)))
            go_ret
            exact ⟨rf_,b_⟩
         ·replace c57 := Bool.eq_false_iff.mpr c57
          subst c57
          replace H := ie_ H
          first
          | (cases H; done)
          | obtain rfl := Option.some.inj H
            obtain ⟨Ao60,co60,eo60⟩ := Kd.N_slice HO_5.out
            subst eo60
            go_wp2_with (first|((with_reducible refine gcal_ (f := 59) rfl ?_);refine gl_ (some 96) Try.func59 #[.slice Ao9 t333.length co9] ?_;(with_reducible refine (impl_PlacesOk.calls kj27 _ _ t333 false _ ?side1 ?side2 A56.out).mono ?_);(case side1 => repeat (first|exact (Kd.N_reads' HO_3.out).2.2|(with_reducible refine Kd.C_alloc ?_ _)|(with_reducible refine Kd.C_drewN ?_ _)|(with_reducible refine Kd.C_drew ?_)));(case side2 => exact (Kd.N_reads' HO_3.out).2.1);rintro e w61 ⟨rfl,hb⟩;refine ⟨_,rfl,?_⟩;replace HO_3 := Aside0.mk (Kd.N_below (by (with_reducible repeat (first|apply Kd.N_alloc|apply Kd.N_drewN|apply Kd.N_drew));exact HO_3.out) hb);replace HO_4 := Aside0.mk (Kd.R_below (by (with_reducible repeat (first|apply Kd.R_alloc|apply Kd.R_drewN|apply Kd.R_drew));exact HO_4.out) hb);replace HO_5 := Aside0.mk (Kd.N_below (by (with_reducible repeat (first|apply Kd.N_alloc|apply Kd.N_drewN|apply Kd.N_drew));exact HO_5.out) hb);replace HO_6 := Aside0.mk (Kd.R_below (by (with_reducible repeat (first|apply Kd.R_alloc|apply Kd.R_drewN|apply Kd.R_drew));exact HO_6.out) hb);replace HB := Aside0.mk (below_step b_ hb);(try clear hb);(try clear hb2);(try clear hk);(try clear hi)))
            go_ret
            exact ⟨rf_,b_⟩
        ·rw [if_neg c55] at H
         have c55b0 : ((t339.length : Int) == 0) = false := beq_eq_false_iff_ne.mpr c55
         have c55b1 : ((t339.length : Int) != 0) = true := bne_iff_ne.mpr c55
         have c55b2 : ¬ (t339 = []) := fun h_ => c55 (by rw [h_];rfl)
         have H' := Aside0.mk H
         clear H
         obtain ⟨Ao62,co62,eo62⟩ := Kd.N_slice HO_5.out
         subst eo62
         go_wp2
         go_loopg [15,16] kj27 (fun kq v15 v16 w' => ∃ (x15_3 : Int) (x16_3 : Int),v15 = .int .i64 x15_3 ∧ v16 = .int .i64 x16_3 ∧ Aside0 (laws_FnPlaces.l0 kq t333 t336 t339 t340 x15_3 x16_3 = some r) ∧ Aside0 (kq ≤ kj27) ∧ Aside0 (Kd.N k84 84 w' w.heap.size (fun k_ => some k_ ≠ ((.slice Ao10 t336.length co10) : Value).ownBlock ∧ some k_ ≠ ((.slice Ao62 t339.length co62) : Value).ownBlock ∧ some k_ ≠ (v343 : Value).ownBlock) (.slice Ao9 t333.length co9) t333) ∧ Aside0 (Kd.R Kd.bool 4 w' w.heap.size (fun _ => True) (.slice Ao10 t336.length co10) t336) ∧ Aside0 (Kd.N k84 84 w' w.heap.size (fun k_ => some k_ ≠ ((.slice Ao9 t333.length co9) : Value).ownBlock ∧ some k_ ≠ ((.slice Ao10 t336.length co10) : Value).ownBlock ∧ some k_ ≠ (v343 : Value).ownBlock) (.slice Ao62 t339.length co62) t339) ∧ Aside0 (Kd.R (Kd.int .i64) 2 w' w.heap.size (fun _ => True) v343 t340) ∧ Aside0 (Below w.heap.size w w'))
         case atStart => exact ⟨(0),(0),rs_,rs_,H',⟨Nat.le_refl _⟩,⟨by (with_reducible repeat (first|apply Kd.N_alloc|apply Kd.N_drewN|apply Kd.N_drew));exact HO_3.out⟩,⟨by (with_reducible repeat (first|apply Kd.R_alloc|apply Kd.R_drewN|apply Kd.R_drew));exact HO_4.out⟩,⟨by (with_reducible repeat (first|apply Kd.N_alloc|apply Kd.N_drewN|apply Kd.N_drew));exact HO_5.out⟩,⟨by (with_reducible repeat (first|apply Kd.R_alloc|apply Kd.R_drewN|apply Kd.R_drew));exact HO_6.out⟩,⟨b_⟩⟩
         case round =>
          clear H'
          try clear c1
          try clear c2
          try clear p2
          try clear c3
          try clear c5
          try clear c13
          try clear c14
          try clear c24
          try clear c26
          try clear c32
          try clear c32b0
          try clear c32b1
          try clear c32b2
          try clear c34
          try clear c35
          try clear c37
          try clear c51
          try clear c52
          try clear c53
          try clear c54
          try clear c55
          try clear c55b0
          try clear c55b1
          try clear c55b2
          try clear c56
          try clear c57
          try clear c58
          try clear c59
          try clear p2
          obtain ⟨x15_3,x16_3,rfl,rfl,HA,HK3,HO_3,HO_4,HO_5,HO_6,HB⟩ := hrel
          cases gk with
          | zero => exact absurd HA.out (by simp [laws_FnPlaces.l0])
          | succ k3 =>
           have H := HA.out
           clear HA
           simp only [laws_FnPlaces.l0] at H
           by_cases c63 : x16_3 < (t336.length : Int)
           ·rw [if_pos c63] at H
            have c63b0 : decide (x16_3 < (t336.length : Int)) = true := decide_eq_true c63
            clear c63
            by_cases c64 : 0 ≤ x16_3
            ·rw [if_pos c64] at H
             have c64b0 : decide (0 ≤ x16_3) = true := decide_eq_true c64
             clear c64
             obtain ⟨bq65,hbq65⟩ : ∃ b_ : Bool,b_ = (rdOf false t336 x16_3) := ⟨_,rfl⟩
             replace H : (if bq65 = true then (laws_FnPlaces.l0 k3 t333 t336 t339 t340 (wrap64 (x15_3 + 1)) (wrap64 (x16_3 + 1))) else (laws_FnPlaces.l0 k3 t333 t336 t339 t340 x15_3 (wrap64 (x16_3 + 1)))) = some r := by rw [← hbq65] at H;exact H
             have Nbq65 := Aside0.mk hbq65
             clear hbq65
             by_cases c66 : bq65 = true
             ·subst c66
              replace H := it_ H
              have H' := Aside0.mk H
              clear H
              have p367 : 0 ≤ (x16_3 : Int) := od_
              have q367 : x16_3 < (t336.length : Int) := od_
              obtain ⟨ad367,e367,hx367_0⟩ := Kd.at_bool (Kd.R_reads' HO_4.out).2.2 x16_3 p367 q367
              (try rw [← Nbq65.out] at hx367_0)
              cases e367
              replace p367 := eq_true p367
              replace q367 := eq_true q367
              go_wp2
              go_roundg k3
              case measure => have := HJ6.out;have := HJ27.out;have := HK3.out;omega
              case rel => exact ⟨(wrap64 (x15_3 + 1)),(wrap64 (x16_3 + 1)),rs_,rs_,H',⟨by have := HJ6.out;have := HJ27.out;have := HK3.out;omega⟩,⟨by (with_reducible repeat (first|apply Kd.N_alloc|apply Kd.N_drewN|apply Kd.N_drew));exact HO_3.out⟩,⟨by (with_reducible repeat (first|apply Kd.R_alloc|apply Kd.R_drewN|apply Kd.R_drew));exact HO_4.out⟩,⟨by (with_reducible repeat (first|apply Kd.N_alloc|apply Kd.N_drewN|apply Kd.N_drew));exact HO_5.out⟩,⟨by (with_reducible repeat (first|apply Kd.R_alloc|apply Kd.R_drewN|apply Kd.R_drew));exact HO_6.out⟩,⟨b_⟩⟩
             ·replace c66 := Bool.eq_false_iff.mpr c66
              subst c66
              replace H := ie_ H
              have H' := Aside0.mk H
              clear H
              have p367 : 0 ≤ (x16_3 : Int) := od_
              have q367 : x16_3 < (t336.length : Int) := od_
              obtain ⟨ad367,e367,hx367_0⟩ := Kd.at_bool (Kd.R_reads' HO_4.out).2.2 x16_3 p367 q367
              (try rw [← Nbq65.out] at hx367_0)
              cases e367
              replace p367 := eq_true p367
              replace q367 := eq_true q367
              go_wp2
              go_roundg k3
              case measure => have := HJ6.out;have := HJ27.out;have := HK3.out;omega
              case rel => exact ⟨(x15_3),(wrap64 (x16_3 + 1)),rs_,rs_,H',⟨by have := HJ6.out;have := HJ27.out;have := HK3.out;omega⟩,⟨by (with_reducible repeat (first|apply Kd.N_alloc|apply Kd.N_drewN|apply Kd.N_drew));exact HO_3.out⟩,⟨by (with_reducible repeat (first|apply Kd.R_alloc|apply Kd.R_drewN|apply Kd.R_drew));exact HO_4.out⟩,⟨by (with_reducible repeat (first|apply Kd.N_alloc|apply Kd.N_drewN|apply Kd.N_drew));exact HO_5.out⟩,⟨by (with_reducible repeat (first|apply Kd.R_alloc|apply Kd.R_drewN|apply Kd.R_drew));exact HO_6.out⟩,⟨b_⟩⟩
            ·rw [if_neg c64] at H
             exact absurd H (by simp)
           ·rw [if_neg c63] at H
            have c63b0 : decide (x16_3 < (t336.length : Int)) = false := decide_eq_false c63
            clear c63
            have H' := Aside0.mk H
            clear H
            go_wp2
            go_loopg [17,18] k3 (fun kq v17 v18 w' => ∃ (x17_4 : Int) (x18_4 : Int),v17 = .int .i64 x17_4 ∧ v18 = .int .i64 x18_4 ∧ Aside0 (laws_FnPlaces.l1 kq t333 t336 t339 t340 x15_3 x17_4 x18_4 = some r) ∧ Aside0 (kq ≤ k3) ∧ Aside0 (Kd.N k84 84 w' w.heap.size (fun k_ => some k_ ≠ ((.slice Ao10 t336.length co10) : Value).ownBlock ∧ some k_ ≠ ((.slice Ao62 t339.length co62) : Value).ownBlock ∧ some k_ ≠ (v343 : Value).ownBlock) (.slice Ao9 t333.length co9) t333) ∧ Aside0 (Kd.R Kd.bool 4 w' w.heap.size (fun _ => True) (.slice Ao10 t336.length co10) t336) ∧ Aside0 (Kd.N k84 84 w' w.heap.size (fun k_ => some k_ ≠ ((.slice Ao9 t333.length co9) : Value).ownBlock ∧ some k_ ≠ ((.slice Ao10 t336.length co10) : Value).ownBlock ∧ some k_ ≠ (v343 : Value).ownBlock) (.slice Ao62 t339.length co62) t339) ∧ Aside0 (Kd.R (Kd.int .i64) 2 w' w.heap.size (fun _ => True) v343 t340) ∧ Aside0 (Below w.heap.size w w'))
            case atStart => exact ⟨(0),(0),rs_,rs_,H',⟨Nat.le_refl _⟩,⟨by (with_reducible repeat (first|apply Kd.N_alloc|apply Kd.N_drewN|apply Kd.N_drew));exact HO_3.out⟩,⟨by (with_reducible repeat (first|apply Kd.R_alloc|apply Kd.R_drewN|apply Kd.R_drew));exact HO_4.out⟩,⟨by (with_reducible repeat (first|apply Kd.N_alloc|apply Kd.N_drewN|apply Kd.N_drew));exact HO_5.out⟩,⟨by (with_reducible repeat (first|apply Kd.R_alloc|apply Kd.R_drewN|apply Kd.R_drew));exact HO_6.out⟩,⟨b_⟩⟩
            case round =>
             clear H'
             try clear c1
             try clear c2
             try clear p2
             try clear c3
             try clear p3
             try clear q3
             try clear hx3
             try clear c5
             try clear c6
             try clear p6
             try clear q6
             try clear c13
             try clear c14
             try clear c24
             try clear c26
             try clear c32
             try clear c32b0
             try clear c32b1
             try clear c32b2
             try clear c34
             try clear c35
             try clear p36
             try clear q36
             try clear hx36
             try clear c37
             try clear c51
             try clear c52
             try clear c53
             try clear c54
             try clear c55
             try clear c55b0
             try clear c55b1
             try clear c55b2
             try clear c56
             try clear c57
             try clear c58
             try clear c59
             try clear c63
             try clear c63b0
             try clear c64
             try clear c64b0
             try clear p64
             try clear q65
             try clear c66
             try clear hx367_0
             try clear p2
             try clear p367
             try clear q367
             obtain ⟨x17_4,x18_4,rfl,rfl,HA,HK4,HO_3,HO_4,HO_5,HO_6,HB⟩ := hrel
             cases gk with
             | zero => exact absurd HA.out (by simp [laws_FnPlaces.l1])
             | succ k4 =>
              have H := HA.out
              clear HA
              simp only [laws_FnPlaces.l1] at H
              by_cases c67 : x18_4 < (t333.length : Int)
              ·rw [if_pos c67] at H
               have c67b0 : decide (x18_4 < (t333.length : Int)) = true := decide_eq_true c67
               clear c67
               have H' := Aside0.mk H
               clear H
               go_wp2
               go_loopg [19,20] k4 (fun kq v19 v20 w' => ∃ (x19_5 : Bool) (x20_5 : Int),v19 = .bool x19_5 ∧ v20 = .int .i64 x20_5 ∧ Aside0 (laws_FnPlaces.l2 kq t333 t336 t339 t340 x15_3 x17_4 x18_4 x19_5 x20_5 = some r) ∧ Aside0 (kq ≤ k4) ∧ Aside0 (Kd.N k84 84 w' w.heap.size (fun k_ => some k_ ≠ ((.slice Ao10 t336.length co10) : Value).ownBlock ∧ some k_ ≠ ((.slice Ao62 t339.length co62) : Value).ownBlock ∧ some k_ ≠ (v343 : Value).ownBlock) (.slice Ao9 t333.length co9) t333) ∧ Aside0 (Kd.R Kd.bool 4 w' w.heap.size (fun _ => True) (.slice Ao10 t336.length co10) t336) ∧ Aside0 (Kd.N k84 84 w' w.heap.size (fun k_ => some k_ ≠ ((.slice Ao9 t333.length co9) : Value).ownBlock ∧ some k_ ≠ ((.slice Ao10 t336.length co10) : Value).ownBlock ∧ some k_ ≠ (v343 : Value).ownBlock) (.slice Ao62 t339.length co62) t339) ∧ Aside0 (Kd.R (Kd.int .i64) 2 w' w.heap.size (fun _ => True) v343 t340) ∧ Aside0 (Below w.heap.size w w'))
               case atStart => exact ⟨(false),(0),rs_,rs_,H',⟨Nat.le_refl _⟩,⟨by (with_reducible repeat (first|apply Kd.N_alloc|apply Kd.N_drewN|apply Kd.N_drew));exact HO_3.out⟩,⟨by (with_reducible repeat (first|apply Kd.R_alloc|apply Kd.R_drewN|apply Kd.R_drew));exact HO_4.out⟩,⟨by (with_reducible repeat (first|apply Kd.N_alloc|apply Kd.N_drewN|apply Kd.N_drew));exact HO_5.out⟩,⟨by (with_reducible repeat (first|apply Kd.R_alloc|apply Kd.R_drewN|apply Kd.R_drew));exact HO_6.out⟩,⟨b_⟩⟩
               case round =>
                clear H'
                try clear c1
                try clear c2
                try clear p2
                try clear c3
                try clear p3
                try clear q3
                try clear hx3
                try clear c5
                try clear c6
                try clear p6
                try clear q6
                try clear c13
                try clear c14
                try clear c24
                try clear c26
                try clear c32
                try clear c32b0
                try clear c32b1
                try clear c32b2
                try clear c34
                try clear c35
                try clear p36
                try clear q36
                try clear hx36
                try clear c37
                try clear c51
                try clear c52
                try clear c53
                try clear c54
                try clear c55
                try clear c55b0
                try clear c55b1
                try clear c55b2
                try clear c56
                try clear c57
                try clear c58
                try clear c59
                try clear c63
                try clear c63b0
                try clear c64
                try clear c64b0
                try clear p64
                try clear q65
                try clear c66
                try clear c67
                try clear c67b0
                try clear hx367_0
                try clear p2
                try clear p3
                try clear p36
                try clear p367
                try clear p6
                try clear p64
                try clear q3
                try clear q36
                try clear q367
                try clear q6
                try clear q65
                obtain ⟨x19_5,x20_5,rfl,rfl,HA,HK5,HO_3,HO_4,HO_5,HO_6,HB⟩ := hrel
                cases gk with
                | zero => exact absurd HA.out (by simp [laws_FnPlaces.l2])
                | succ k5 =>
                 have H := HA.out
                 clear HA
                 simp only [laws_FnPlaces.l2] at H
                 by_cases c68 : x20_5 < (t340.length : Int)
                 ·rw [if_pos c68] at H
                  have c68b0 : decide (x20_5 < (t340.length : Int)) = true := decide_eq_true c68
                  clear c68
                  by_cases c69 : x19_5 = true
                  ·subst c69
                   replace H := it_ H
                   have H' := Aside0.mk H
                   clear H
                   obtain ⟨Ao70,co70,eo70⟩ := Kd.R_slice HO_6.out
                   subst eo70
                   go_wp2
                   go_roundg k5
                   case measure => have := HJ6.out;have := HJ27.out;have := HK3.out;have := HK4.out;have := HK5.out;omega
                   case rel => exact ⟨(true),(wrap64 (x20_5 + 1)),rs_,rs_,H',⟨by have := HJ6.out;have := HJ27.out;have := HK3.out;have := HK4.out;have := HK5.out;omega⟩,⟨by (with_reducible repeat (first|apply Kd.N_alloc|apply Kd.N_drewN|apply Kd.N_drew));exact HO_3.out⟩,⟨by (with_reducible repeat (first|apply Kd.R_alloc|apply Kd.R_drewN|apply Kd.R_drew));exact HO_4.out⟩,⟨by (with_reducible repeat (first|apply Kd.N_alloc|apply Kd.N_drewN|apply Kd.N_drew));exact HO_5.out⟩,⟨by (with_reducible repeat (first|apply Kd.R_alloc|apply Kd.R_drewN|apply Kd.R_drew));exact HO_6.out⟩,⟨b_⟩⟩
                  ·replace c69 := Bool.eq_false_iff.mpr c69
                   subst c69
                   replace H := ie_ H
                   by_cases c71 : 0 ≤ x20_5
                   ·rw [if_pos c71] at H
                    have c71b0 : decide (0 ≤ x20_5) = true := decide_eq_true c71
                    clear c71
                    have H' := Aside0.mk H
                    clear H
                    obtain ⟨Ao72,co72,eo72⟩ := Kd.R_slice HO_6.out
                    subst eo72
                    have p369 : 0 ≤ (x20_5 : Int) := od_
                    have q369 : x20_5 < (t340.length : Int) := od_
                    obtain ⟨ad369,e369,hx369_0⟩ := Kd.at_int (Kd.R_reads' HO_6.out).2.2 x20_5 p369 q369
                    cases e369
                    replace p369 := eq_true p369
                    replace q369 := eq_true q369
                    go_wp2
                    go_roundg k5
                    case measure => have := HJ6.out;have := HJ27.out;have := HK3.out;have := HK4.out;have := HK5.out;omega
                    case rel => exact ⟨(((rd t340 x20_5) == x18_4)),(wrap64 (x20_5 + 1)),rs_,rs_,H',⟨by have := HJ6.out;have := HJ27.out;have := HK3.out;have := HK4.out;have := HK5.out;omega⟩,⟨by (with_reducible repeat (first|apply Kd.N_alloc|apply Kd.N_drewN|apply Kd.N_drew));exact HO_3.out⟩,⟨by (with_reducible repeat (first|apply Kd.R_alloc|apply Kd.R_drewN|apply Kd.R_drew));exact HO_4.out⟩,⟨by (with_reducible repeat (first|apply Kd.N_alloc|apply Kd.N_drewN|apply Kd.N_drew));exact HO_5.out⟩,⟨by (with_reducible repeat (first|apply Kd.R_alloc|apply Kd.R_drewN|apply Kd.R_drew));exact HO_6.out⟩,⟨b_⟩⟩
                   ·rw [if_neg c71] at H
                    exact absurd H (by simp)
                 ·rw [if_neg c68] at H
                  have c68b0 : decide (x20_5 < (t340.length : Int)) = false := decide_eq_false c68
                  clear c68
                  by_cases c73 : x19_5 = true
                  ·subst c73
                   replace H := it_ H
                   by_cases c74 : 0 ≤ x18_4
                   ·rw [if_pos c74] at H
                    have c74b0 : decide (0 ≤ x18_4) = true := decide_eq_true c74
                    clear c74
                    by_cases c75 : x18_4 < (t339.length : Int)
                    ·rw [if_pos c75] at H
                     have c75b0 : decide (x18_4 < (t339.length : Int)) = true := decide_eq_true c75
                     clear c75
                     by_cases c76 : x18_4 < (t333.length : Int)
                     ·rw [if_pos c76] at H
                      have c76b0 : decide (x18_4 < (t333.length : Int)) = true := decide_eq_true c76
                      clear c76
                      replace H := bs_ H
                      obtain ⟨t372,A77,H⟩ := H
                      by_cases c78 : t372 = true
                      ·subst c78
                       replace H := it_ H
                       have H' := Aside0.mk H
                       clear H
                       obtain ⟨Ao79,co79,eo79⟩ := Kd.R_slice HO_6.out
                       subst eo79
                       try go_wp2
                       replace HO_3 := Aside0.mk (Kd.N_drew HO_3.out)
                       replace HO_4 := Aside0.mk (Kd.R_drew HO_4.out)
                       replace HO_5 := Aside0.mk (Kd.N_drew HO_5.out)
                       replace HO_6 := Aside0.mk (Kd.R_drew HO_6.out)
                       replace HB := Aside0.mk (below_drew1 HB.out)
                       have p370 : 0 ≤ (x18_4 : Int) := od_
                       have q370 : x18_4 < (t339.length : Int) := od_
                       obtain ⟨ad370,A370_0,c370_0,e370,hx370_0,hl370_0,hi370_0⟩ := at_T84 (Kd.N_reads' HO_5.out).2.2 x18_4 p370 q370
                       cases e370
                       obtain ⟨ce370,hce370,hMe370,hcc370⟩ := Kd.N_get HO_5.out z84 x18_4 p370 (by first|exact q370|exact od_|(have e_ := (Kd.N_reads' HO_5.out).1;omega))
                       obtain ⟨ua370_0,uc370_0,rfl,ul370_0,ge370_0⟩ := k84_openF hMe370
                       have hv370_0 := hcc370 0 _ rfl
                       rw [Nat.add_zero,show (k84).sz = 1 from rfl,Nat.mul_one] at hv370_0
                       replace hv370_0 := Option.some.inj (hv370_0.symm.trans hx370_0)
                       injection hv370_0 with hva_ hvn_ hvc_
                       rw [hva_] at ge370_0
                       rw [hvc_] at ul370_0
                       have HL370_0 := Aside0.mk (show Kd.V (Kd.int .i64) 2 _ w.heap.size _ _ ((rd_T84 t339 x18_4).f0) from Kd.V_mk ul370_0 ge370_0)
                       clear hva_ hvn_ hvc_ ge370_0 ul370_0
                       clear hcc370 hce370
                       have HR370_0 := Aside0.mk hi370_0
                       have HC370_0 := Aside0.mk hl370_0
                       clear hi370_0 hl370_0
                       replace p370 := eq_true p370
                       replace q370 := eq_true q370
                       have p371 : 0 ≤ (x18_4 : Int) := od_
                       have q371 : x18_4 < (t333.length : Int) := od_
                       obtain ⟨ad371,A371_0,c371_0,e371,hx371_0,hl371_0,hi371_0⟩ := at_T84 (Kd.N_reads' HO_3.out).2.2 x18_4 p371 q371
                       cases e371
                       obtain ⟨ce371,hce371,hMe371,hcc371⟩ := Kd.N_get HO_3.out z84 x18_4 p371 (by first|exact q371|exact od_|(have e_ := (Kd.N_reads' HO_3.out).1;omega))
                       obtain ⟨ua371_0,uc371_0,rfl,ul371_0,ge371_0⟩ := k84_openF hMe371
                       have hv371_0 := hcc371 0 _ rfl
                       rw [Nat.add_zero,show (k84).sz = 1 from rfl,Nat.mul_one] at hv371_0
                       replace hv371_0 := Option.some.inj (hv371_0.symm.trans hx371_0)
                       injection hv371_0 with hva_ hvn_ hvc_
                       rw [hva_] at ge371_0
                       rw [hvc_] at ul371_0
                       have HL371_0 := Aside0.mk (show Kd.V (Kd.int .i64) 2 _ w.heap.size _ _ ((rd_T84 t333 x18_4).f0) from Kd.V_mk ul371_0 ge371_0)
                       clear hva_ hvn_ hvc_ ge371_0 ul371_0
                       clear hcc371 hce371
                       have HR371_0 := Aside0.mk hi371_0
                       have HC371_0 := Aside0.mk hl371_0
                       clear hi371_0 hl371_0
                       replace p371 := eq_true p371
                       replace q371 := eq_true q371
                       refine st_ 12 (S := fun w' => (w'.cell? (ad370.add (x18_4).toNat) = some (.slice A370_0 ((rd_T84 t339 x18_4).f0).length c370_0)) ∧ w'.cell? (ad371.add (x18_4).toNat) = some (.slice A371_0 ((rd_T84 t333 x18_4).f0).length c371_0)) hh_ (fun hHeld => ?_);refine with_tabW laws_FnPlaces.tab32 laws_FnPlaces.bits32 (fun HT_ HW_ => ?_)
                       generalize wr.drew = w80 at HO_3 HO_4 HO_5 HO_6 HB HL370_0 HL371_0 HR370_0 HR371_0 hx370_0 hx371_0 hHeld ⊢
                       refine pv_ 0 139 ?_
                       refine pv_ 1 140 ?_
                       refine pv_ 2 141 ?_
                       refine pv_ 3 142 ?_
                       refine pv_ 5 144 ?_
                       refine pv_ 6 145 ?_
                       refine pv_ 7 146 ?_
                       refine pv_ 8 147 ?_
                       refine tx_ 4 143 hHeld ?_
                       refine tx_ 9 148 hHeld ?_
                       refine oy_ 10 149 (fun K hK => ?_)
                       refine gs_ Try.func55 #[.slice A370_0 ((rd_T84 t339 x18_4).f0).length c370_0,.slice A371_0 ((rd_T84 t333 x18_4).f0).length c371_0] ?_
                       with_reducible refine (laws_likeInts.calls k5 _ _ ((rd_T84 t339 x18_4).f0) _ _ ((rd_T84 t333 x18_4).f0) true _ ?side1 ?side2 ?side3 ?side4 A77.out).mono ?_
                       (case side1 => repeat (first|exact (by repeat (first|(with_reducible exact HR370_0.out)|(with_reducible refine Kd.C_alloc ?_ _)|(with_reducible refine Kd.C_drewN ?_ _)|(with_reducible refine Kd.C_drew ?_)|exact HR370_0.out))|(with_reducible refine Kd.C_alloc ?_ _)|(with_reducible refine Kd.C_drewN ?_ _)|(with_reducible refine Kd.C_drew ?_)))
                       (case side2 => exact HC370_0.out)
                       (case side3 => repeat (first|exact (by repeat (first|(with_reducible exact HR371_0.out)|(with_reducible refine Kd.C_alloc ?_ _)|(with_reducible refine Kd.C_drewN ?_ _)|(with_reducible refine Kd.C_drew ?_)|exact HR371_0.out))|(with_reducible refine Kd.C_alloc ?_ _)|(with_reducible refine Kd.C_drewN ?_ _)|(with_reducible refine Kd.C_drew ?_)))
                       (case side4 => exact HC371_0.out)
                       rintro e w' ⟨rfl,⟨nd,rfl⟩⟩
                       refine ⟨_,rfl,?_⟩
                       refine hK.out _ _ ⟨hHeld.1,hHeld.2⟩ (fun hHeld => ?_)
                       clear hK K
                       refine nr_ (some 149) _ ?_
                       refine pv_ 11 150 ?_
                       refine done_ (done_of HT_.out (by kernel_rfl)) ?_
                       try go_wp2
                       go_roundg k5
                       case measure => have := HJ6.out;have := HJ27.out;have := HK3.out;have := HK4.out;have := HK5.out;omega
                       case rel => exact ⟨(wrap64 (x17_4 + 1)),(wrap64 (x18_4 + 1)),rs_,rs_,H',⟨by have := HJ6.out;have := HJ27.out;have := HK3.out;have := HK4.out;have := HK5.out;omega⟩,⟨by (with_reducible repeat (first|apply Kd.N_alloc|apply Kd.N_drewN|apply Kd.N_drew));exact HO_3.out⟩,⟨by (with_reducible repeat (first|apply Kd.R_alloc|apply Kd.R_drewN|apply Kd.R_drew));exact HO_4.out⟩,⟨by (with_reducible repeat (first|apply Kd.N_alloc|apply Kd.N_drewN|apply Kd.N_drew));exact HO_5.out⟩,⟨by (with_reducible repeat (first|apply Kd.R_alloc|apply Kd.R_drewN|apply Kd.R_drew));exact HO_6.out⟩,⟨b_⟩⟩
                      ·replace c78 := Bool.eq_false_iff.mpr c78
                       subst c78
                       replace H := ie_ H
                       first
                       | (cases H; done)
                       | obtain rfl := Option.some.inj H
                         obtain ⟨Ao81,co81,eo81⟩ := Kd.R_slice HO_6.out
                         subst eo81
                         try go_wp2
                         replace HO_3 := Aside0.mk (Kd.N_drew HO_3.out)
                         replace HO_4 := Aside0.mk (Kd.R_drew HO_4.out)
                         replace HO_5 := Aside0.mk (Kd.N_drew HO_5.out)
                         replace HO_6 := Aside0.mk (Kd.R_drew HO_6.out)
                         replace HB := Aside0.mk (below_drew1 HB.out)
                         have p370 : 0 ≤ (x18_4 : Int) := od_
                         have q370 : x18_4 < (t339.length : Int) := od_
                         obtain ⟨ad370,A370_0,c370_0,e370,hx370_0,hl370_0,hi370_0⟩ := at_T84 (Kd.N_reads' HO_5.out).2.2 x18_4 p370 q370
                         cases e370
                         obtain ⟨ce370,hce370,hMe370,hcc370⟩ := Kd.N_get HO_5.out z84 x18_4 p370 (by first|exact q370|exact od_|(have e_ := (Kd.N_reads' HO_5.out).1;omega))
                         obtain ⟨ua370_0,uc370_0,rfl,ul370_0,ge370_0⟩ := k84_openF hMe370
                         have hv370_0 := hcc370 0 _ rfl
                         rw [Nat.add_zero,show (k84).sz = 1 from rfl,Nat.mul_one] at hv370_0
                         replace hv370_0 := Option.some.inj (hv370_0.symm.trans hx370_0)
                         injection hv370_0 with hva_ hvn_ hvc_
                         rw [hva_] at ge370_0
                         rw [hvc_] at ul370_0
                         have HL370_0 := Aside0.mk (show Kd.V (Kd.int .i64) 2 _ w.heap.size _ _ ((rd_T84 t339 x18_4).f0) from Kd.V_mk ul370_0 ge370_0)
                         clear hva_ hvn_ hvc_ ge370_0 ul370_0
                         clear hcc370 hce370
                         have HR370_0 := Aside0.mk hi370_0
                         have HC370_0 := Aside0.mk hl370_0
                         clear hi370_0 hl370_0
                         replace p370 := eq_true p370
                         replace q370 := eq_true q370
                         have p371 : 0 ≤ (x18_4 : Int) := od_
                         have q371 : x18_4 < (t333.length : Int) := od_
                         obtain ⟨ad371,A371_0,c371_0,e371,hx371_0,hl371_0,hi371_0⟩ := at_T84 (Kd.N_reads' HO_3.out).2.2 x18_4 p371 q371
                         cases e371
                         obtain ⟨ce371,hce371,hMe371,hcc371⟩ := Kd.N_get HO_3.out z84 x18_4 p371 (by first|exact q371|exact od_|(have e_ := (Kd.N_reads' HO_3.out).1;omega))
                         obtain ⟨ua371_0,uc371_0,rfl,ul371_0,ge371_0⟩ := k84_openF hMe371
                         have hv371_0 := hcc371 0 _ rfl
                         rw [Nat.add_zero,show (k84).sz = 1 from rfl,Nat.mul_one] at hv371_0
                         replace hv371_0 := Option.some.inj (hv371_0.symm.trans hx371_0)
                         injection hv371_0 with hva_ hvn_ hvc_
                         rw [hva_] at ge371_0
                         rw [hvc_] at ul371_0
                         have HL371_0 := Aside0.mk (show Kd.V (Kd.int .i64) 2 _ w.heap.size _ _ ((rd_T84 t333 x18_4).f0) from Kd.V_mk ul371_0 ge371_0)
                         clear hva_ hvn_ hvc_ ge371_0 ul371_0
                         clear hcc371 hce371
                         have HR371_0 := Aside0.mk hi371_0
                         have HC371_0 := Aside0.mk hl371_0
                         clear hi371_0 hl371_0
                         replace p371 := eq_true p371
                         replace q371 := eq_true q371
                         refine st_ 12 (S := fun w' => (w'.cell? (ad370.add (x18_4).toNat) = some (.slice A370_0 ((rd_T84 t339 x18_4).f0).length c370_0)) ∧ w'.cell? (ad371.add (x18_4).toNat) = some (.slice A371_0 ((rd_T84 t333 x18_4).f0).length c371_0)) hh_ (fun hHeld => ?_);refine with_tabW laws_FnPlaces.tab32 laws_FnPlaces.bits32 (fun HT_ HW_ => ?_)
                         generalize wr.drew = w82 at HO_3 HO_4 HO_5 HO_6 HB HL370_0 HL371_0 HR370_0 HR371_0 hx370_0 hx371_0 hHeld ⊢
                         refine pv_ 0 139 ?_
                         refine pv_ 1 140 ?_
                         refine pv_ 2 141 ?_
                         refine pv_ 3 142 ?_
                         refine pv_ 5 144 ?_
                         refine pv_ 6 145 ?_
                         refine pv_ 7 146 ?_
                         refine pv_ 8 147 ?_
                         refine tx_ 4 143 hHeld ?_
                         refine tx_ 9 148 hHeld ?_
                         refine oy_ 10 149 (fun K hK => ?_)
                         refine gs_ Try.func55 #[.slice A370_0 ((rd_T84 t339 x18_4).f0).length c370_0,.slice A371_0 ((rd_T84 t333 x18_4).f0).length c371_0] ?_
                         with_reducible refine (laws_likeInts.calls k5 _ _ ((rd_T84 t339 x18_4).f0) _ _ ((rd_T84 t333 x18_4).f0) false _ ?side1 ?side2 ?side3 ?side4 A77.out).mono ?_
                         (case side1 => repeat (first|exact (by repeat (first|(with_reducible exact HR370_0.out)|(with_reducible refine Kd.C_alloc ?_ _)|(with_reducible refine Kd.C_drewN ?_ _)|(with_reducible refine Kd.C_drew ?_)|exact HR370_0.out))|(with_reducible refine Kd.C_alloc ?_ _)|(with_reducible refine Kd.C_drewN ?_ _)|(with_reducible refine Kd.C_drew ?_)))
                         (case side2 => exact HC370_0.out)
                         (case side3 => repeat (first|exact (by repeat (first|(with_reducible exact HR371_0.out)|(with_reducible refine Kd.C_alloc ?_ _)|(with_reducible refine Kd.C_drewN ?_ _)|(with_reducible refine Kd.C_drew ?_)|exact HR371_0.out))|(with_reducible refine Kd.C_alloc ?_ _)|(with_reducible refine Kd.C_drewN ?_ _)|(with_reducible refine Kd.C_drew ?_)))
                         (case side4 => exact HC371_0.out)
                         rintro e w' ⟨rfl,⟨nd,rfl⟩⟩
                         refine ⟨_,rfl,?_⟩
                         refine hK.out _ _ ⟨hHeld.1,hHeld.2⟩ (fun hHeld => ?_)
                         clear hK K
                         refine nr_ (some 149) _ ?_
                         refine pv_ 11 150 ?_
                         refine done_ (done_of HT_.out (by kernel_rfl)) ?_
                         try go_wp2
                         go_ret
                         exact ⟨rf_,b_⟩
                     ·rw [if_neg c76] at H
                      exact absurd H (by simp)
                    ·rw [if_neg c75] at H
                     exact absurd H (by simp)
                   ·rw [if_neg c74] at H
                    exact absurd H (by simp)
                  ·replace c73 := Bool.eq_false_iff.mpr c73
                   subst c73
                   replace H := ie_ H
                   have HC83 := Aside0.mk H
                   clear H
                   obtain ⟨Ao84,co84,eo84⟩ := Kd.R_slice HO_6.out
                   subst eo84
                   go_upto_if 153 with (fail)
                   go_cut [21] (fun v21 wc => ∃ (kq : Nat) (x21_82 : Int),v21 = .int .i64 x21_82 ∧ Aside0 (laws_FnPlaces.j5 kq t333 t336 t339 t340 x15_3 x17_4 x18_4 x21_82 = some r) ∧ Aside0 (kq ≤ k5) ∧ Aside0 (Kd.N k84 84 wc w.heap.size (fun k_ => some k_ ≠ ((.slice Ao10 t336.length co10) : Value).ownBlock ∧ some k_ ≠ ((.slice Ao62 t339.length co62) : Value).ownBlock ∧ some k_ ≠ ((.slice Ao84 t340.length co84) : Value).ownBlock) (.slice Ao9 t333.length co9) t333) ∧ Aside0 (Kd.R Kd.bool 4 wc w.heap.size (fun _ => True) (.slice Ao10 t336.length co10) t336) ∧ Aside0 (Kd.N k84 84 wc w.heap.size (fun k_ => some k_ ≠ ((.slice Ao9 t333.length co9) : Value).ownBlock ∧ some k_ ≠ ((.slice Ao10 t336.length co10) : Value).ownBlock ∧ some k_ ≠ ((.slice Ao84 t340.length co84) : Value).ownBlock) (.slice Ao62 t339.length co62) t339) ∧ Aside0 (Kd.R (Kd.int .i64) 2 wc w.heap.size (fun _ => True) (.slice Ao84 t340.length co84) t340) ∧ Aside0 (Below w.heap.size w wc))
                   case first =>
                    have H := HC83.out
                    clear HC83
                    by_cases c85 : x15_3 > 3
                    ·rw [if_pos c85] at H
                     have c85b0 : decide (3 < x15_3) = true := decide_eq_true c85
                     clear c85
                     (first|rw [c85b0]|(simp only [i64_w,i32_w];rw [c85b0])|skip)
                     have H' := Aside0.mk H
                     clear H
                     go_wp2
                     go_meet
                     case rel => exact ⟨_,(3),rs_,H',⟨by have := HJ6.out;have := HJ27.out;have := HK3.out;have := HK4.out;have := HK5.out;first|omega|exact Nat.le_refl _⟩,⟨by (with_reducible repeat (first|apply Kd.N_alloc|apply Kd.N_drewN|apply Kd.N_drew));exact HO_3.out⟩,⟨by (with_reducible repeat (first|apply Kd.R_alloc|apply Kd.R_drewN|apply Kd.R_drew));exact HO_4.out⟩,⟨by (with_reducible repeat (first|apply Kd.N_alloc|apply Kd.N_drewN|apply Kd.N_drew));exact HO_5.out⟩,⟨by (with_reducible repeat (first|apply Kd.R_alloc|apply Kd.R_drewN|apply Kd.R_drew));exact HO_6.out⟩,⟨b_⟩⟩
                    ·rw [if_neg c85] at H
                     have c85b0 : decide (3 < x15_3) = false := decide_eq_false c85
                     clear c85
                     (first|rw [c85b0]|(simp only [i64_w,i32_w];rw [c85b0])|skip)
                     have H' := Aside0.mk H
                     clear H
                     go_wp2
                     go_meet
                     case rel => exact ⟨_,(x15_3),rs_,H',⟨by have := HJ6.out;have := HJ27.out;have := HK3.out;have := HK4.out;have := HK5.out;first|omega|exact Nat.le_refl _⟩,⟨by (with_reducible repeat (first|apply Kd.N_alloc|apply Kd.N_drewN|apply Kd.N_drew));exact HO_3.out⟩,⟨by (with_reducible repeat (first|apply Kd.R_alloc|apply Kd.R_drewN|apply Kd.R_drew));exact HO_4.out⟩,⟨by (with_reducible repeat (first|apply Kd.N_alloc|apply Kd.N_drewN|apply Kd.N_drew));exact HO_5.out⟩,⟨by (with_reducible repeat (first|apply Kd.R_alloc|apply Kd.R_drewN|apply Kd.R_drew));exact HO_6.out⟩,⟨b_⟩⟩
                   case rest =>
                    clear HC83
                    try clear c1
                    try clear c2
                    try clear p2
                    try clear c3
                    try clear p3
                    try clear q3
                    try clear hx3
                    try clear c5
                    try clear c6
                    try clear p6
                    try clear q6
                    try clear c7
                    try clear c8
                    try clear c13
                    try clear c14
                    try clear c24
                    try clear c26
                    try clear c32
                    try clear c32b0
                    try clear c32b1
                    try clear c32b2
                    try clear c34
                    try clear c35
                    try clear p36
                    try clear q36
                    try clear hx36
                    try clear c37
                    try clear p37
                    try clear q37
                    try clear hx37
                    try clear c51
                    try clear c52
                    try clear c53
                    try clear c54
                    try clear c55
                    try clear c55b0
                    try clear c55b1
                    try clear c55b2
                    try clear c56
                    try clear c57
                    try clear c58
                    try clear c59
                    try clear c63
                    try clear c63b0
                    try clear c64
                    try clear c64b0
                    try clear p64
                    try clear q65
                    try clear c66
                    try clear c67
                    try clear c67b0
                    try clear c68
                    try clear c68b0
                    try clear c69
                    try clear c71
                    try clear c71b0
                    try clear c73
                    try clear c74
                    try clear c74b0
                    try clear c75
                    try clear c75b0
                    try clear c76
                    try clear c76b0
                    try clear c78
                    try clear c85
                    try clear c85b0
                    try clear hx367_0
                    try clear hx369_0
                    try clear hx370_0
                    try clear hx371_0
                    try clear p2
                    try clear p3
                    try clear p36
                    try clear p367
                    try clear p369
                    try clear p370
                    try clear p371
                    try clear p6
                    try clear p64
                    try clear q3
                    try clear q36
                    try clear q367
                    try clear q369
                    try clear q370
                    try clear q371
                    try clear q6
                    try clear q65
                    obtain ⟨kq,x21_82,rfl,HA,HJ82,HO_3,HO_4,HO_5,HO_6,HB⟩ := hcut
                    cases kq with
                    | zero => exact absurd HA.out (by simp [laws_FnPlaces.j5])
                    | succ kj82 =>
                     have H := HA.out
                     clear HA
                     simp only [laws_FnPlaces.j5] at H
                     have HC86 := Aside0.mk H
                     clear H
                     go_upto_region 37 with (fail)
                     go_cut [170] (fun v170 wc => ∃ (kq : Nat) (x170_85 : Bool),v170 = .bool x170_85 ∧ Aside0 (laws_FnPlaces.j6 kq t333 t336 t339 t340 x15_3 x17_4 x18_4 x170_85 = some r) ∧ Aside0 (kq ≤ kj82) ∧ Aside0 (Kd.N k84 84 wc w.heap.size (fun k_ => some k_ ≠ ((.slice Ao10 t336.length co10) : Value).ownBlock ∧ some k_ ≠ ((.slice Ao62 t339.length co62) : Value).ownBlock ∧ some k_ ≠ ((.slice Ao84 t340.length co84) : Value).ownBlock) (.slice Ao9 t333.length co9) t333) ∧ Aside0 (Kd.R Kd.bool 4 wc w.heap.size (fun _ => True) (.slice Ao10 t336.length co10) t336) ∧ Aside0 (Kd.N k84 84 wc w.heap.size (fun k_ => some k_ ≠ ((.slice Ao9 t333.length co9) : Value).ownBlock ∧ some k_ ≠ ((.slice Ao10 t336.length co10) : Value).ownBlock ∧ some k_ ≠ ((.slice Ao84 t340.length co84) : Value).ownBlock) (.slice Ao62 t339.length co62) t339) ∧ Aside0 (Kd.R (Kd.int .i64) 2 wc w.heap.size (fun _ => True) (.slice Ao84 t340.length co84) t340) ∧ Aside0 (Below w.heap.size w wc))
                     case first =>
                      have H := HC86.out
                      clear HC86
                      by_cases c87 : 0 ≤ x18_4
                      ·rw [if_pos c87] at H
                       have c87b0 : decide (0 ≤ x18_4) = true := decide_eq_true c87
                       clear c87
                       (first|rw [c87b0]|(simp only [i64_w,i32_w];rw [c87b0])|skip)
                       by_cases c88 : x18_4 < (t339.length : Int)
                       ·rw [if_pos c88] at H
                        have c88b0 : decide (x18_4 < (t339.length : Int)) = true := decide_eq_true c88
                        clear c88
                        by_cases c89 : (((rd_T84 t339 x18_4).f0).length : Int) = x21_82
                        ·rw [if_pos c89] at H
                         have c89b0 : ((((rd_T84 t339 x18_4).f0).length : Int) == x21_82) = true := beq_iff_eq.mpr c89
                         have c89b1 : ((((rd_T84 t339 x18_4).f0).length : Int) != x21_82) = false := bne_eq_false_iff_eq.mpr c89
                         clear c89
                         replace H := bs_ H
                         obtain ⟨t374,A90,H⟩ := H
                         have H' := Aside0.mk H
                         clear H
                         have p373 : 0 ≤ (x18_4 : Int) := od_
                         have q373 : x18_4 < (t339.length : Int) := od_
                         obtain ⟨ad373,A373_0,c373_0,e373,hx373_0,hl373_0,hi373_0⟩ := at_T84 (Kd.N_reads' HO_5.out).2.2 x18_4 p373 q373
                         cases e373
                         obtain ⟨ce373,hce373,hMe373,hcc373⟩ := Kd.N_get HO_5.out z84 x18_4 p373 (by first|exact q373|exact od_|(have e_ := (Kd.N_reads' HO_5.out).1;omega))
                         obtain ⟨ua373_0,uc373_0,rfl,ul373_0,ge373_0⟩ := k84_openF hMe373
                         have hv373_0 := hcc373 0 _ rfl
                         rw [Nat.add_zero,show (k84).sz = 1 from rfl,Nat.mul_one] at hv373_0
                         replace hv373_0 := Option.some.inj (hv373_0.symm.trans hx373_0)
                         injection hv373_0 with hva_ hvn_ hvc_
                         rw [hva_] at ge373_0
                         rw [hvc_] at ul373_0
                         have HL373_0 := Aside0.mk (show Kd.V (Kd.int .i64) 2 _ w.heap.size _ _ ((rd_T84 t339 x18_4).f0) from Kd.V_mk ul373_0 ge373_0)
                         clear hva_ hvn_ hvc_ ge373_0 ul373_0
                         clear hcc373 hce373
                         have HR373_0 := Aside0.mk hi373_0
                         have HC373_0 := Aside0.mk hl373_0
                         clear hi373_0 hl373_0
                         replace p373 := eq_true p373
                         replace q373 := eq_true q373
                         go_wp2_with (first|(go_at_call 61;(with_reducible refine (impl_Backups.calls kj82 _ _ t339 x18_4 t374 _ ?side1 ?side2 A90.out).mono ?_);(case side1 => repeat (first|exact (Kd.N_reads' HO_5.out).2.2|(with_reducible refine Kd.C_alloc ?_ _)|(with_reducible refine Kd.C_drewN ?_ _)|(with_reducible refine Kd.C_drew ?_)));(case side2 => exact (Kd.N_reads' HO_5.out).2.1);rintro e w91 ⟨v375,rfl,ho0,hb⟩;replace HO_3 := Aside0.mk (Kd.N_elder' (by (with_reducible repeat (first|apply Kd.N_alloc|apply Kd.N_drewN|apply Kd.N_drew));exact HO_3.out) (Kd.R_base ho0) hb);replace HO_4 := Aside0.mk (Kd.R_below (by (with_reducible repeat (first|apply Kd.R_alloc|apply Kd.R_drewN|apply Kd.R_drew));exact HO_4.out) hb);replace HO_5 := Aside0.mk (Kd.N_elder' (by (with_reducible repeat (first|apply Kd.N_alloc|apply Kd.N_drewN|apply Kd.N_drew));exact HO_5.out) (Kd.R_base ho0) hb);replace HL373_0 := Aside0.mk (Kd.V_elder' (by (with_reducible repeat (first|apply Kd.V_alloc|apply Kd.V_drewN|apply Kd.V_drew));exact HL373_0.out) (Kd.R_base ho0) hb);replace HR373_0 := Aside0.mk (Kd.C_below (by repeat (first|(with_reducible exact HR373_0.out)|(with_reducible refine Kd.C_alloc ?_ _)|(with_reducible refine Kd.C_drewN ?_ _)|(with_reducible refine Kd.C_drew ?_)|exact HR373_0.out)) hb);have HO376 := Aside0.mk (Kd.R_lower (Kd.R_new' ho0 (Kd.R_lt (by (with_reducible repeat (first|apply Kd.R_alloc|apply Kd.R_drewN|apply Kd.R_drew));exact HO_6.out))) (below_size b_));replace HO_6 := Aside0.mk (Kd.R_elder' (by (with_reducible repeat (first|apply Kd.R_alloc|apply Kd.R_drewN|apply Kd.R_drew));exact HO_6.out) (Kd.R_base ho0) hb);replace HB := Aside0.mk (below_step b_ hb);(try clear hb);(try clear hb2);(try clear hk);(try clear hi);(try clear ho0);obtain ⟨Ao92,co92,eo92⟩ := Kd.R_slice HO376.out;subst eo92))
                         go_meet
                         case rel => exact ⟨_,(((t374.length : Int) != (wrap64 (x21_82 - 1)))),rs_,H',⟨by have := HJ6.out;have := HJ27.out;have := HK3.out;have := HK4.out;have := HK5.out;have := HJ82.out;first|omega|exact Nat.le_refl _⟩,⟨by (with_reducible repeat (first|apply Kd.N_alloc|apply Kd.N_drewN|apply Kd.N_drew));exact Kd.N_mono HO_3.out (fun _ hk => ⟨hk.1.1,⟨hk.1.2.1,hk.1.2.2⟩⟩)⟩,⟨by (with_reducible repeat (first|apply Kd.R_alloc|apply Kd.R_drewN|apply Kd.R_drew));exact HO_4.out⟩,⟨by (with_reducible repeat (first|apply Kd.N_alloc|apply Kd.N_drewN|apply Kd.N_drew));exact Kd.N_mono HO_5.out (fun _ hk => ⟨hk.1.1,⟨hk.1.2.1,hk.1.2.2⟩⟩)⟩,⟨by (with_reducible repeat (first|apply Kd.R_alloc|apply Kd.R_drewN|apply Kd.R_drew));exact Kd.R_mono HO_6.out (fun _ hk => trivial)⟩,⟨b_⟩⟩
                        ·rw [if_neg c89] at H
                         have c89b0 : ((((rd_T84 t339 x18_4).f0).length : Int) == x21_82) = false := beq_eq_false_iff_ne.mpr c89
                         have c89b1 : ((((rd_T84 t339 x18_4).f0).length : Int) != x21_82) = true := bne_iff_ne.mpr c89
                         exact absurd H (by simp)
                       ·rw [if_neg c88] at H
                        exact absurd H (by simp)
                      ·rw [if_neg c87] at H
                       exact absurd H (by simp)
                     case rest =>
                      clear HC86
                      try clear c1
                      try clear c2
                      try clear p2
                      try clear c3
                      try clear p3
                      try clear q3
                      try clear hx3
                      try clear c5
                      try clear c6
                      try clear p6
                      try clear q6
                      try clear c7
                      try clear c8
                      try clear c13
                      try clear c14
                      try clear c24
                      try clear c26
                      try clear c32
                      try clear c32b0
                      try clear c32b1
                      try clear c32b2
                      try clear c34
                      try clear c35
                      try clear p36
                      try clear q36
                      try clear hx36
                      try clear c37
                      try clear p37
                      try clear q37
                      try clear hx37
                      try clear c51
                      try clear c52
                      try clear c53
                      try clear c54
                      try clear c55
                      try clear c55b0
                      try clear c55b1
                      try clear c55b2
                      try clear c56
                      try clear c57
                      try clear c58
                      try clear c59
                      try clear c63
                      try clear c63b0
                      try clear c64
                      try clear c64b0
                      try clear p64
                      try clear q65
                      try clear c66
                      try clear c67
                      try clear c67b0
                      try clear c68
                      try clear c68b0
                      try clear c69
                      try clear c71
                      try clear c71b0
                      try clear c73
                      try clear c74
                      try clear c74b0
                      try clear c75
                      try clear c75b0
                      try clear c76
                      try clear c76b0
                      try clear c78
                      try clear c85
                      try clear c85b0
                      try clear c87
                      try clear c87b0
                      try clear c88
                      try clear c88b0
                      try clear c89
                      try clear c89b0
                      try clear c89b1
                      try clear hx367_0
                      try clear hx369_0
                      try clear hx370_0
                      try clear hx371_0
                      try clear hx373_0
                      try clear p2
                      try clear p3
                      try clear p36
                      try clear p367
                      try clear p369
                      try clear p37
                      try clear p370
                      try clear p371
                      try clear p373
                      try clear p6
                      try clear p64
                      try clear q3
                      try clear q36
                      try clear q367
                      try clear q369
                      try clear q37
                      try clear q370
                      try clear q371
                      try clear q373
                      try clear q6
                      try clear q65
                      obtain ⟨kq,x170_85,rfl,HA,HJ85,HO_3,HO_4,HO_5,HO_6,HB⟩ := hcut
                      cases kq with
                      | zero => exact absurd HA.out (by simp [laws_FnPlaces.j6])
                      | succ kj85 =>
                       have H := HA.out
                       clear HA
                       simp only [laws_FnPlaces.j6] at H
                       by_cases c93 : x170_85 = true
                       ·subst c93
                        replace H := it_ H
                        first
                        | (cases H; done)
                        | obtain rfl := Option.some.inj H
                          go_wp2
                          go_ret
                          exact ⟨rf_,b_⟩
                       ·replace c93 := Bool.eq_false_iff.mpr c93
                        subst c93
                        replace H := ie_ H
                        have H' := Aside0.mk H
                        clear H
                        go_wp2
                        go_loopg [22] kj85 (fun kq v22 w' => ∃ (x22_8 : Int),v22 = .int .i64 x22_8 ∧ Aside0 (laws_FnPlaces.l3 kq t333 t336 t339 t340 x15_3 x17_4 x18_4 x22_8 = some r) ∧ Aside0 (kq ≤ kj85) ∧ Aside0 (Kd.N k84 84 w' w.heap.size (fun k_ => some k_ ≠ ((.slice Ao10 t336.length co10) : Value).ownBlock ∧ some k_ ≠ ((.slice Ao62 t339.length co62) : Value).ownBlock ∧ some k_ ≠ ((.slice Ao84 t340.length co84) : Value).ownBlock) (.slice Ao9 t333.length co9) t333) ∧ Aside0 (Kd.R Kd.bool 4 w' w.heap.size (fun _ => True) (.slice Ao10 t336.length co10) t336) ∧ Aside0 (Kd.N k84 84 w' w.heap.size (fun k_ => some k_ ≠ ((.slice Ao9 t333.length co9) : Value).ownBlock ∧ some k_ ≠ ((.slice Ao10 t336.length co10) : Value).ownBlock ∧ some k_ ≠ ((.slice Ao84 t340.length co84) : Value).ownBlock) (.slice Ao62 t339.length co62) t339) ∧ Aside0 (Kd.R (Kd.int .i64) 2 w' w.heap.size (fun _ => True) (.slice Ao84 t340.length co84) t340) ∧ Aside0 (Below w.heap.size w w'))
                        case atStart => exact ⟨(0),rs_,H',⟨Nat.le_refl _⟩,⟨by (with_reducible repeat (first|apply Kd.N_alloc|apply Kd.N_drewN|apply Kd.N_drew));exact HO_3.out⟩,⟨by (with_reducible repeat (first|apply Kd.R_alloc|apply Kd.R_drewN|apply Kd.R_drew));exact HO_4.out⟩,⟨by (with_reducible repeat (first|apply Kd.N_alloc|apply Kd.N_drewN|apply Kd.N_drew));exact HO_5.out⟩,⟨by (with_reducible repeat (first|apply Kd.R_alloc|apply Kd.R_drewN|apply Kd.R_drew));exact HO_6.out⟩,⟨b_⟩⟩
                        case round =>
                         clear H'
                         try clear c1
                         try clear c2
                         try clear p2
                         try clear c3
                         try clear p3
                         try clear q3
                         try clear hx3
                         try clear c5
                         try clear c6
                         try clear p6
                         try clear q6
                         try clear c7
                         try clear c8
                         try clear c9
                         try clear c13
                         try clear c14
                         try clear c24
                         try clear c26
                         try clear c32
                         try clear c32b0
                         try clear c32b1
                         try clear c32b2
                         try clear c34
                         try clear c35
                         try clear p36
                         try clear q36
                         try clear hx36
                         try clear c37
                         try clear p37
                         try clear q37
                         try clear hx37
                         try clear c51
                         try clear c52
                         try clear c53
                         try clear c54
                         try clear c55
                         try clear c55b0
                         try clear c55b1
                         try clear c55b2
                         try clear c56
                         try clear c57
                         try clear c58
                         try clear c59
                         try clear c63
                         try clear c63b0
                         try clear c64
                         try clear c64b0
                         try clear p64
                         try clear q65
                         try clear c66
                         try clear c67
                         try clear c67b0
                         try clear c68
                         try clear c68b0
                         try clear c69
                         try clear c71
                         try clear c71b0
                         try clear c73
                         try clear c74
                         try clear c74b0
                         try clear c75
                         try clear c75b0
                         try clear c76
                         try clear c76b0
                         try clear c78
                         try clear c85
                         try clear c85b0
                         try clear c87
                         try clear c87b0
                         try clear c88
                         try clear c88b0
                         try clear c89
                         try clear c89b0
                         try clear c89b1
                         try clear c93
                         try clear hx367_0
                         try clear hx369_0
                         try clear hx370_0
                         try clear hx371_0
                         try clear hx373_0
                         try clear p2
                         try clear p3
                         try clear p36
                         try clear p367
                         try clear p369
                         try clear p37
                         try clear p370
                         try clear p371
                         try clear p373
                         try clear p6
                         try clear p64
                         try clear q3
                         try clear q36
                         try clear q367
                         try clear q369
                         try clear q37
                         try clear q370
                         try clear q371
                         try clear q373
                         try clear q6
                         try clear q65
                         obtain ⟨x22_8,rfl,HA,HK8,HO_3,HO_4,HO_5,HO_6,HB⟩ := hrel
                         cases gk with
                         | zero => exact absurd HA.out (by simp [laws_FnPlaces.l3])
                         | succ k8 =>
                          have H := HA.out
                          clear HA
                          simp only [laws_FnPlaces.l3] at H
                          by_cases c94 : 0 ≤ x18_4
                          ·rw [if_pos c94] at H
                           have c94b0 : decide (0 ≤ x18_4) = true := decide_eq_true c94
                           clear c94
                           by_cases c95 : x18_4 < (t339.length : Int)
                           ·rw [if_pos c95] at H
                            have c95b0 : decide (x18_4 < (t339.length : Int)) = true := decide_eq_true c95
                            clear c95
                            by_cases c96 : x22_8 < (((rd_T84 t339 x18_4).f0).length : Int)
                            ·rw [if_pos c96] at H
                             have c96b0 : decide (x22_8 < (((rd_T84 t339 x18_4).f0).length : Int)) = true := decide_eq_true c96
                             clear c96
                             by_cases c97 : 0 ≤ x22_8
                             ·rw [if_pos c97] at H
                              have c97b0 : decide (0 ≤ x22_8) = true := decide_eq_true c97
                              clear c97
                              by_cases c98 : (rd ((rd_T84 t339 x18_4).f0) x22_8) ≥ (t336.length : Int)
                              ·rw [if_pos c98] at H
                               have c98b0 : decide ((t336.length : Int) ≤ (rd ((rd_T84 t339 x18_4).f0) x22_8)) = true := decide_eq_true c98
                               clear c98
                               first
                               | (cases H; done)
                               | obtain rfl := Option.some.inj H
                                 have p377 : 0 ≤ (x18_4 : Int) := od_
                                 have q377 : x18_4 < (t339.length : Int) := od_
                                 obtain ⟨ad377,A377_0,c377_0,e377,hx377_0,hl377_0,hi377_0⟩ := at_T84 (Kd.N_reads' HO_5.out).2.2 x18_4 p377 q377
                                 cases e377
                                 obtain ⟨ce377,hce377,hMe377,hcc377⟩ := Kd.N_get HO_5.out z84 x18_4 p377 (by first|exact q377|exact od_|(have e_ := (Kd.N_reads' HO_5.out).1;omega))
                                 obtain ⟨ua377_0,uc377_0,rfl,ul377_0,ge377_0⟩ := k84_openF hMe377
                                 have hv377_0 := hcc377 0 _ rfl
                                 rw [Nat.add_zero,show (k84).sz = 1 from rfl,Nat.mul_one] at hv377_0
                                 replace hv377_0 := Option.some.inj (hv377_0.symm.trans hx377_0)
                                 injection hv377_0 with hva_ hvn_ hvc_
                                 rw [hva_] at ge377_0
                                 rw [hvc_] at ul377_0
                                 have HL377_0 := Aside0.mk (show Kd.V (Kd.int .i64) 2 _ w.heap.size _ _ ((rd_T84 t339 x18_4).f0) from Kd.V_mk ul377_0 ge377_0)
                                 clear hva_ hvn_ hvc_ ge377_0 ul377_0
                                 clear hcc377 hce377
                                 have HR377_0 := Aside0.mk hi377_0
                                 have HC377_0 := Aside0.mk hl377_0
                                 clear hi377_0 hl377_0
                                 replace p377 := eq_true p377
                                 replace q377 := eq_true q377
                                 have p378 : 0 ≤ (x18_4 : Int) := od_
                                 have q378 : x18_4 < (t339.length : Int) := od_
                                 obtain ⟨ad378,A378_0,c378_0,e378,hx378_0,hl378_0,hi378_0⟩ := at_T84 (Kd.N_reads' HO_5.out).2.2 x18_4 p378 q378
                                 obtain rfl : ad377 = ad378 := (by injection e378)
                                 obtain ⟨ce378,hce378,hMe378,hcc378⟩ := Kd.N_get HO_5.out z84 x18_4 p378 (by first|exact q378|exact od_|(have e_ := (Kd.N_reads' HO_5.out).1;omega))
                                 obtain ⟨ua378_0,uc378_0,rfl,ul378_0,ge378_0⟩ := k84_openF hMe378
                                 have hv378_0 := hcc378 0 _ rfl
                                 rw [Nat.add_zero,show (k84).sz = 1 from rfl,Nat.mul_one] at hv378_0
                                 replace hv378_0 := Option.some.inj (hv378_0.symm.trans hx378_0)
                                 injection hv378_0 with hva_ hvn_ hvc_
                                 rw [hva_] at ge378_0
                                 rw [hvc_] at ul378_0
                                 have HL378_0 := Aside0.mk (show Kd.V (Kd.int .i64) 2 _ w.heap.size _ _ ((rd_T84 t339 x18_4).f0) from Kd.V_mk ul378_0 ge378_0)
                                 clear hva_ hvn_ hvc_ ge378_0 ul378_0
                                 clear hcc378 hce378
                                 have HR378_0 := Aside0.mk hi378_0
                                 have HC378_0 := Aside0.mk hl378_0
                                 clear hi378_0 hl378_0
                                 replace p378 := eq_true p378
                                 replace q378 := eq_true q378
                                 have ea_ := Option.some.inj (hx377_0.symm.trans hx378_0)
                                 injection ea_ with ea_ en_ ec_
                                 subst ea_
                                 subst ec_
                                 clear en_
                                 have p379 : 0 ≤ (x22_8 : Int) := od_
                                 have q379 : x22_8 < (((rd_T84 t339 x18_4).f0).length : Int) := od_
                                 obtain ⟨ad379,e379,hx379_0⟩ := Kd.at_int (by repeat (first|(with_reducible exact HR378_0.out)|(with_reducible refine Kd.C_alloc ?_ _)|(with_reducible refine Kd.C_drewN ?_ _)|(with_reducible refine Kd.C_drew ?_)|exact HR378_0.out)) x22_8 p379 q379
                                 cases e379
                                 replace p379 := eq_true p379
                                 replace q379 := eq_true q379
                                 go_wp2
                                 go_ret
                                 exact ⟨rf_,b_⟩
                              ·rw [if_neg c98] at H
                               have c98b0 : decide ((t336.length : Int) ≤ (rd ((rd_T84 t339 x18_4).f0) x22_8)) = false := decide_eq_false c98
                               clear c98
                               by_cases c99 : 0 ≤ (rd ((rd_T84 t339 x18_4).f0) x22_8)
                               ·rw [if_pos c99] at H
                                have c99b0 : decide (0 ≤ (rd ((rd_T84 t339 x18_4).f0) x22_8)) = true := decide_eq_true c99
                                clear c99
                                by_cases c100 : (rd ((rd_T84 t339 x18_4).f0) x22_8) < (t336.length : Int)
                                ·rw [if_pos c100] at H
                                 have c100b0 : decide ((rd ((rd_T84 t339 x18_4).f0) x22_8) < (t336.length : Int)) = true := decide_eq_true c100
                                 clear c100
                                 obtain ⟨bq101,hbq101⟩ : ∃ b_ : Bool,b_ = (rdOf false t336 (rd ((rd_T84 t339 x18_4).f0) x22_8)) := ⟨_,rfl⟩
                                 replace H : (if (bq101 = true) then (laws_FnPlaces.l3 k8 t333 t336 t339 t340 x15_3 x17_4 x18_4 (wrap64 (x22_8 + 1))) else (none)) = some r := by rw [← hbq101] at H;exact H
                                 have Nbq101 := Aside0.mk hbq101
                                 clear hbq101
                                 by_cases c102 : (bq101 = true)
                                 ·subst c102
                                  replace H := it_ H
                                  have H' := Aside0.mk H
                                  clear H
                                  have p377 : 0 ≤ (x18_4 : Int) := od_
                                  have q377 : x18_4 < (t339.length : Int) := od_
                                  obtain ⟨ad377,A377_0,c377_0,e377,hx377_0,hl377_0,hi377_0⟩ := at_T84 (Kd.N_reads' HO_5.out).2.2 x18_4 p377 q377
                                  cases e377
                                  obtain ⟨ce377,hce377,hMe377,hcc377⟩ := Kd.N_get HO_5.out z84 x18_4 p377 (by first|exact q377|exact od_|(have e_ := (Kd.N_reads' HO_5.out).1;omega))
                                  obtain ⟨ua377_0,uc377_0,rfl,ul377_0,ge377_0⟩ := k84_openF hMe377
                                  have hv377_0 := hcc377 0 _ rfl
                                  rw [Nat.add_zero,show (k84).sz = 1 from rfl,Nat.mul_one] at hv377_0
                                  replace hv377_0 := Option.some.inj (hv377_0.symm.trans hx377_0)
                                  injection hv377_0 with hva_ hvn_ hvc_
                                  rw [hva_] at ge377_0
                                  rw [hvc_] at ul377_0
                                  have HL377_0 := Aside0.mk (show Kd.V (Kd.int .i64) 2 _ w.heap.size _ _ ((rd_T84 t339 x18_4).f0) from Kd.V_mk ul377_0 ge377_0)
                                  clear hva_ hvn_ hvc_ ge377_0 ul377_0
                                  clear hcc377 hce377
                                  have HR377_0 := Aside0.mk hi377_0
                                  have HC377_0 := Aside0.mk hl377_0
                                  clear hi377_0 hl377_0
                                  replace p377 := eq_true p377
                                  replace q377 := eq_true q377
                                  have p378 : 0 ≤ (x18_4 : Int) := od_
                                  have q378 : x18_4 < (t339.length : Int) := od_
                                  obtain ⟨ad378,A378_0,c378_0,e378,hx378_0,hl378_0,hi378_0⟩ := at_T84 (Kd.N_reads' HO_5.out).2.2 x18_4 p378 q378
                                  obtain rfl : ad377 = ad378 := (by injection e378)
                                  obtain ⟨ce378,hce378,hMe378,hcc378⟩ := Kd.N_get HO_5.out z84 x18_4 p378 (by first|exact q378|exact od_|(have e_ := (Kd.N_reads' HO_5.out).1;omega))
                                  obtain ⟨ua378_0,uc378_0,rfl,ul378_0,ge378_0⟩ := k84_openF hMe378
                                  have hv378_0 := hcc378 0 _ rfl
                                  rw [Nat.add_zero,show (k84).sz = 1 from rfl,Nat.mul_one] at hv378_0
                                  replace hv378_0 := Option.some.inj (hv378_0.symm.trans hx378_0)
                                  injection hv378_0 with hva_ hvn_ hvc_
                                  rw [hva_] at ge378_0
                                  rw [hvc_] at ul378_0
                                  have HL378_0 := Aside0.mk (show Kd.V (Kd.int .i64) 2 _ w.heap.size _ _ ((rd_T84 t339 x18_4).f0) from Kd.V_mk ul378_0 ge378_0)
                                  clear hva_ hvn_ hvc_ ge378_0 ul378_0
                                  clear hcc378 hce378
                                  have HR378_0 := Aside0.mk hi378_0
                                  have HC378_0 := Aside0.mk hl378_0
                                  clear hi378_0 hl378_0
                                  replace p378 := eq_true p378
                                  replace q378 := eq_true q378
                                  have ea_ := Option.some.inj (hx377_0.symm.trans hx378_0)
                                  injection ea_ with ea_ en_ ec_
                                  subst ea_
                                  subst ec_
                                  clear en_
                                  have p379 : 0 ≤ (x22_8 : Int) := od_
                                  have q379 : x22_8 < (((rd_T84 t339 x18_4).f0).length : Int) := od_
                                  obtain ⟨ad379,e379,hx379_0⟩ := Kd.at_int (by repeat (first|(with_reducible exact HR378_0.out)|(with_reducible refine Kd.C_alloc ?_ _)|(with_reducible refine Kd.C_drewN ?_ _)|(with_reducible refine Kd.C_drew ?_)|exact HR378_0.out)) x22_8 p379 q379
                                  cases e379
                                  replace p379 := eq_true p379
                                  replace q379 := eq_true q379
                                  have p380 : 0 ≤ ((rd ((rd_T84 t339 x18_4).f0) x22_8) : Int) := od_
                                  have q380 : (rd ((rd_T84 t339 x18_4).f0) x22_8) < (t336.length : Int) := od_
                                  obtain ⟨ad380,e380,hx380_0⟩ := Kd.at_bool (Kd.R_reads' HO_4.out).2.2 (rd ((rd_T84 t339 x18_4).f0) x22_8) p380 q380
                                  (try rw [← Nbq101.out] at hx380_0)
                                  cases e380
                                  replace p380 := eq_true p380
                                  replace q380 := eq_true q380
                                  go_wp2
                                  go_roundg k8
                                  case measure => have := HJ6.out;have := HJ27.out;have := HK3.out;have := HK4.out;have := HK5.out;have := HJ82.out;have := HJ85.out;have := HK8.out;omega
                                  case rel => exact ⟨(wrap64 (x22_8 + 1)),rs_,H',⟨by have := HJ6.out;have := HJ27.out;have := HK3.out;have := HK4.out;have := HK5.out;have := HJ82.out;have := HJ85.out;have := HK8.out;omega⟩,⟨by (with_reducible repeat (first|apply Kd.N_alloc|apply Kd.N_drewN|apply Kd.N_drew));exact HO_3.out⟩,⟨by (with_reducible repeat (first|apply Kd.R_alloc|apply Kd.R_drewN|apply Kd.R_drew));exact HO_4.out⟩,⟨by (with_reducible repeat (first|apply Kd.N_alloc|apply Kd.N_drewN|apply Kd.N_drew));exact HO_5.out⟩,⟨by (with_reducible repeat (first|apply Kd.R_alloc|apply Kd.R_drewN|apply Kd.R_drew));exact HO_6.out⟩,⟨b_⟩⟩
                                 ·replace c102 := Bool.eq_false_iff.mpr c102
                                  subst c102
                                  replace H := ie_ H
                                  first
                                  | (cases H; done)
                                  | obtain rfl := Option.some.inj H
                                    have p377 : 0 ≤ (x18_4 : Int) := od_
                                    have q377 : x18_4 < (t339.length : Int) := od_
                                    obtain ⟨ad377,A377_0,c377_0,e377,hx377_0,hl377_0,hi377_0⟩ := at_T84 (Kd.N_reads' HO_5.out).2.2 x18_4 p377 q377
                                    cases e377
                                    obtain ⟨ce377,hce377,hMe377,hcc377⟩ := Kd.N_get HO_5.out z84 x18_4 p377 (by first|exact q377|exact od_|(have e_ := (Kd.N_reads' HO_5.out).1;omega))
                                    obtain ⟨ua377_0,uc377_0,rfl,ul377_0,ge377_0⟩ := k84_openF hMe377
                                    have hv377_0 := hcc377 0 _ rfl
                                    rw [Nat.add_zero,show (k84).sz = 1 from rfl,Nat.mul_one] at hv377_0
                                    replace hv377_0 := Option.some.inj (hv377_0.symm.trans hx377_0)
                                    injection hv377_0 with hva_ hvn_ hvc_
                                    rw [hva_] at ge377_0
                                    rw [hvc_] at ul377_0
                                    have HL377_0 := Aside0.mk (show Kd.V (Kd.int .i64) 2 _ w.heap.size _ _ ((rd_T84 t339 x18_4).f0) from Kd.V_mk ul377_0 ge377_0)
                                    clear hva_ hvn_ hvc_ ge377_0 ul377_0
                                    clear hcc377 hce377
                                    have HR377_0 := Aside0.mk hi377_0
                                    have HC377_0 := Aside0.mk hl377_0
                                    clear hi377_0 hl377_0
                                    replace p377 := eq_true p377
                                    replace q377 := eq_true q377
                                    have p378 : 0 ≤ (x18_4 : Int) := od_
                                    have q378 : x18_4 < (t339.length : Int) := od_
                                    obtain ⟨ad378,A378_0,c378_0,e378,hx378_0,hl378_0,hi378_0⟩ := at_T84 (Kd.N_reads' HO_5.out).2.2 x18_4 p378 q378
                                    obtain rfl : ad377 = ad378 := (by injection e378)
                                    obtain ⟨ce378,hce378,hMe378,hcc378⟩ := Kd.N_get HO_5.out z84 x18_4 p378 (by first|exact q378|exact od_|(have e_ := (Kd.N_reads' HO_5.out).1;omega))
                                    obtain ⟨ua378_0,uc378_0,rfl,ul378_0,ge378_0⟩ := k84_openF hMe378
                                    have hv378_0 := hcc378 0 _ rfl
                                    rw [Nat.add_zero,show (k84).sz = 1 from rfl,Nat.mul_one] at hv378_0
                                    replace hv378_0 := Option.some.inj (hv378_0.symm.trans hx378_0)
                                    injection hv378_0 with hva_ hvn_ hvc_
                                    rw [hva_] at ge378_0
                                    rw [hvc_] at ul378_0
                                    have HL378_0 := Aside0.mk (show Kd.V (Kd.int .i64) 2 _ w.heap.size _ _ ((rd_T84 t339 x18_4).f0) from Kd.V_mk ul378_0 ge378_0)
                                    clear hva_ hvn_ hvc_ ge378_0 ul378_0
                                    clear hcc378 hce378
                                    have HR378_0 := Aside0.mk hi378_0
                                    have HC378_0 := Aside0.mk hl378_0
                                    clear hi378_0 hl378_0
                                    replace p378 := eq_true p378
                                    replace q378 := eq_true q378
                                    have ea_ := Option.some.inj (hx377_0.symm.trans hx378_0)
                                    injection ea_ with ea_ en_ ec_
                                    subst ea_
                                    subst ec_
                                    clear en_
                                    have p379 : 0 ≤ (x22_8 : Int) := od_
                                    have q379 : x22_8 < (((rd_T84 t339 x18_4).f0).length : Int) := od_
                                    obtain ⟨ad379,e379,hx379_0⟩ := Kd.at_int (by repeat (first|(with_reducible exact HR378_0.out)|(with_reducible refine Kd.C_alloc ?_ _)|(with_reducible refine Kd.C_drewN ?_ _)|(with_reducible refine Kd.C_drew ?_)|exact HR378_0.out)) x22_8 p379 q379
                                    cases e379
                                    replace p379 := eq_true p379
                                    replace q379 := eq_true q379
                                    have p380 : 0 ≤ ((rd ((rd_T84 t339 x18_4).f0) x22_8) : Int) := od_
                                    have q380 : (rd ((rd_T84 t339 x18_4).f0) x22_8) < (t336.length : Int) := od_
                                    obtain ⟨ad380,e380,hx380_0⟩ := Kd.at_bool (Kd.R_reads' HO_4.out).2.2 (rd ((rd_T84 t339 x18_4).f0) x22_8) p380 q380
                                    (try rw [← Nbq101.out] at hx380_0)
                                    cases e380
                                    replace p380 := eq_true p380
                                    replace q380 := eq_true q380
                                    go_wp2
                                    go_ret
                                    exact ⟨rf_,b_⟩
                                ·rw [if_neg c100] at H
                                 exact absurd H (by simp)
                               ·rw [if_neg c99] at H
                                exact absurd H (by simp)
                             ·rw [if_neg c97] at H
                              exact absurd H (by simp)
                            ·rw [if_neg c96] at H
                             have c96b0 : decide (x22_8 < (((rd_T84 t339 x18_4).f0).length : Int)) = false := decide_eq_false c96
                             clear c96
                             have H' := Aside0.mk H
                             clear H
                             have p377 : 0 ≤ (x18_4 : Int) := od_
                             have q377 : x18_4 < (t339.length : Int) := od_
                             obtain ⟨ad377,A377_0,c377_0,e377,hx377_0,hl377_0,hi377_0⟩ := at_T84 (Kd.N_reads' HO_5.out).2.2 x18_4 p377 q377
                             cases e377
                             obtain ⟨ce377,hce377,hMe377,hcc377⟩ := Kd.N_get HO_5.out z84 x18_4 p377 (by first|exact q377|exact od_|(have e_ := (Kd.N_reads' HO_5.out).1;omega))
                             obtain ⟨ua377_0,uc377_0,rfl,ul377_0,ge377_0⟩ := k84_openF hMe377
                             have hv377_0 := hcc377 0 _ rfl
                             rw [Nat.add_zero,show (k84).sz = 1 from rfl,Nat.mul_one] at hv377_0
                             replace hv377_0 := Option.some.inj (hv377_0.symm.trans hx377_0)
                             injection hv377_0 with hva_ hvn_ hvc_
                             rw [hva_] at ge377_0
                             rw [hvc_] at ul377_0
                             have HL377_0 := Aside0.mk (show Kd.V (Kd.int .i64) 2 _ w.heap.size _ _ ((rd_T84 t339 x18_4).f0) from Kd.V_mk ul377_0 ge377_0)
                             clear hva_ hvn_ hvc_ ge377_0 ul377_0
                             clear hcc377 hce377
                             have HR377_0 := Aside0.mk hi377_0
                             have HC377_0 := Aside0.mk hl377_0
                             clear hi377_0 hl377_0
                             replace p377 := eq_true p377
                             replace q377 := eq_true q377
                             go_wp2
                             go_roundg k8
                             case measure => have := HJ6.out;have := HJ27.out;have := HK3.out;have := HK4.out;have := HK5.out;have := HJ82.out;have := HJ85.out;have := HK8.out;omega
                             case rel => exact ⟨(x17_4),(wrap64 (x18_4 + 1)),rs_,rs_,H',⟨by have := HJ6.out;have := HJ27.out;have := HK3.out;have := HK4.out;have := HK5.out;have := HJ82.out;have := HJ85.out;have := HK8.out;omega⟩,⟨by (with_reducible repeat (first|apply Kd.N_alloc|apply Kd.N_drewN|apply Kd.N_drew));exact HO_3.out⟩,⟨by (with_reducible repeat (first|apply Kd.R_alloc|apply Kd.R_drewN|apply Kd.R_drew));exact HO_4.out⟩,⟨by (with_reducible repeat (first|apply Kd.N_alloc|apply Kd.N_drewN|apply Kd.N_drew));exact HO_5.out⟩,⟨by (with_reducible repeat (first|apply Kd.R_alloc|apply Kd.R_drewN|apply Kd.R_drew));exact HO_6.out⟩,⟨b_⟩⟩
                           ·rw [if_neg c95] at H
                            exact absurd H (by simp)
                          ·rw [if_neg c94] at H
                           exact absurd H (by simp)
              ·rw [if_neg c67] at H
               have c67b0 : decide (x18_4 < (t333.length : Int)) = false := decide_eq_false c67
               clear c67
               by_cases c103 : x17_4 = (t340.length : Int)
               ·rw [if_pos c103] at H
                have c103b0 : (x17_4 == (t340.length : Int)) = true := beq_iff_eq.mpr c103
                have c103b1 : (x17_4 != (t340.length : Int)) = false := bne_eq_false_iff_eq.mpr c103
                clear c103
                replace H := bs_ H
                obtain ⟨t368,A104,H⟩ := H
                first
                | (cases H; done)
                | obtain rfl := Option.some.inj H
                  obtain ⟨Ao105,co105,eo105⟩ := Kd.R_slice HO_6.out
                  subst eo105
                  go_wp2_with (first|(go_at_call 59;(with_reducible refine (impl_PlacesOk.calls k4 _ _ t339 t368 _ ?side1 ?side2 A104.out).mono ?_);(case side1 => repeat (first|exact (Kd.N_reads' HO_5.out).2.2|(with_reducible refine Kd.C_alloc ?_ _)|(with_reducible refine Kd.C_drewN ?_ _)|(with_reducible refine Kd.C_drew ?_)));(case side2 => exact (Kd.N_reads' HO_5.out).2.1);rintro e w106 ⟨rfl,hb⟩;replace HO_3 := Aside0.mk (Kd.N_below (by (with_reducible repeat (first|apply Kd.N_alloc|apply Kd.N_drewN|apply Kd.N_drew));exact HO_3.out) hb);replace HO_4 := Aside0.mk (Kd.R_below (by (with_reducible repeat (first|apply Kd.R_alloc|apply Kd.R_drewN|apply Kd.R_drew));exact HO_4.out) hb);replace HO_5 := Aside0.mk (Kd.N_below (by (with_reducible repeat (first|apply Kd.N_alloc|apply Kd.N_drewN|apply Kd.N_drew));exact HO_5.out) hb);replace HO_6 := Aside0.mk (Kd.R_below (by (with_reducible repeat (first|apply Kd.R_alloc|apply Kd.R_drewN|apply Kd.R_drew));exact HO_6.out) hb);replace HB := Aside0.mk (below_step b_ hb);(try clear hb);(try clear hb2);(try clear hk);(try clear hi)))
                  go_ret
                  exact ⟨rf_,b_⟩
               ·rw [if_neg c103] at H
                have c103b0 : (x17_4 == (t340.length : Int)) = false := beq_eq_false_iff_ne.mpr c103
                have c103b1 : (x17_4 != (t340.length : Int)) = true := bne_iff_ne.mpr c103
                first
                | (cases H; done)
                | obtain rfl := Option.some.inj H
                  obtain ⟨Ao107,co107,eo107⟩ := Kd.R_slice HO_6.out
                  subst eo107
                  go_wp2
                  go_ret
                  exact ⟨rf_,b_⟩

end Go.Proofs.Ytgdfbjmjgegicaa.XPs
