/- Proved: of each Go function here that a call comes to what the Lean function of its name tells. Written by a program of this session over the translation. No conditions beyond each theorem's own. -/
import Derived.Test.YtgdfbjmjgegicaaXLs0
import Derived.Test.YtgdfbjmjgegicaaXLs4
import Derived.Test.YtgdfbjmjgegicaaXLs5
namespace Go.Proofs.Ytgdfbjmjgegicaa.XLs
open Go.RowKit Go.Proofs.Ytgdfbjmjgegicaa.Aid Go.Proofs.YtgdfbjmjgegicaaW.PrintWords Go.Proofs.YtgdfbjmjgegicaaW.PrintLast Go.Proofs.YtgdfbjmjgegicaaW.PrintMore
set_option linter.unusedVariables false
set_option linter.unusedSimpArgs false

/-! ### spec_l3Copy: function 77 -/
def spec_l3Copy.f (l0 : List (S30)) : Option ((List (S30))) := (some (([] : List (S30)) : List (S30))).bind fun y164 => (if y164.length + l0.length < 8796093022208 then (some (y164 ++ l0)) else (none))
set_option maxHeartbeats 8000000 in
set_option maxRecDepth 100000 in
theorem spec_l3Copy.calls (A0 : Option Addr) (c0 : Nat) (l0 : List (S30)) (r : List (S30)) (w : World) (hr0 : Kd.C k30 w A0 l0.length l0) (hc0 : l0.length ≤ c0) (h : spec_l3Copy.f l0 = some r) :
    Calls Try.prog 77 #[.slice A0 l0.length c0] w fun e w' => ∃ v0_ : Value, e = .returned (v0_) ∧ Kd.R k30 30 w' w.heap.size (fun _ => True) v0_ r ∧ Below w.heap.size w w' := by
 have HR0 := Aside0.mk hr0
 have HC0 := Aside0.mk hc0
 clear hr0 hc0
 have HB := Aside0.mk (Below.refl w.heap.size w)
 have H : ((some (([] : List (S30)) : List (S30))).bind fun y164 => (if y164.length + l0.length < 8796093022208 then (some (y164 ++ l0)) else (none))) = some r := h
 clear h
 obtain ⟨y164,hy164⟩ : ∃ y_ : List (S30),y_ = (([] : List (S30))) := ⟨_,rfl⟩
 replace H : (if y164.length + l0.length < 8796093022208 then (some (y164 ++ l0)) else (none)) = some r := by first|(rw [hy164];with_reducible exact H)|(have H2_ := (Option.bind_some _ _).symm.trans H;rw [hy164];with_reducible exact H2_)|(have H2_ := (Option.bind_some _ _).symm.trans H;with_reducible exact H2_)|with_reducible exact H|(rw [hy164];exact H)|exact H
 have Ny164 := Aside0.mk hy164
 clear hy164
 by_cases c2 : y164.length + l0.length < 8796093022208
 ·rw [if_pos c2] at H
  have LMc2 := Aside0.mk c2
  clear c2
  obtain ⟨y167,hy167⟩ : ∃ y_ : List (S30),y_ = (y164 ++ l0) := ⟨_,rfl⟩
  replace H : (some y167) = some r := by first|(rw [hy167];with_reducible exact H)|(have H2_ := (Option.bind_some _ _).symm.trans H;rw [hy167];with_reducible exact H2_)|(have H2_ := (Option.bind_some _ _).symm.trans H;with_reducible exact H2_)|with_reducible exact H|(rw [hy167];exact H)|exact H
  have Ny167 := Aside0.mk hy167
  clear hy167
  obtain rfl := Option.some.inj H
  go_enter Try.func77,Try.ntmps77
  go_wp2_with (first|((with_reducible refine gate_dst (N := 3) rfl ?_);refine Kd.R_lit k30 _ 30 ?hg (N := 3) ?hd (xs := ([] : List (S30))) (inner := []) (ok := fun _ => True) (okp := fun _ => True) ?hr ?hp (fun _ hk => hk) trivial (Below.refl _ _) (Nat.le_refl _) (by simp) ?_;(case hd => rfl);(case hg => rfl);(case hr => first|(go_simp;done)|(go_simp;rfl));(case hp => exact (Reps.none _ _));intro v165 w3 ho4 hb hg_ hnew_;clear hg_ hnew_;(first|rw [← Ny164.out] at ho4|(simp only [Int.reduceToNat] at ho4;rw [← Ny164.out] at ho4));have n0_ := Aside0.mk (Kd.R_lower ho4 (below_size (by repeat (first|(with_reducible first|exact HB.out|apply below_alloc|apply pw_below_drewN|apply below_drew1)|exact HB.out))));have n1_ := Aside0.mk (below_step (by repeat (first|(with_reducible first|exact HB.out|apply below_alloc|apply pw_below_drewN|apply below_drew1)|exact HB.out)) hb);clear HB;have HO166 := n0_;have HB := n1_;clear n0_ n1_;clear hb ho4)|((with_reducible refine gblt_ (b := .append) (xs := #[.tmp 3,.tmp 4]) rfl ?_);at_builtin;refine Kd.R_append_rows k30 (w0 := w) w.heap.size rfl (.tmp 3) (.tmp 4) 25 30 (.agg #[(.int .i64 0),(.int .i64 0)]) 16 rfl Try.underlying25 info30 rfl (by decide) (by omega) v165 y164 l0 _ _ _ (fun _ => True) (fun _ => False) rfl rfl ?aO ?aR (fun _ _ h => h) (fun _ h => h.elim) ?aF ?aB ?aS ?aL ?_;(case aR => repeat (first|exact (Kd.C_below HR0.out HB.out)|(with_reducible refine Kd.C_alloc ?_ _)|(with_reducible refine Kd.C_drewN ?_ _)|(with_reducible refine Kd.C_drew ?_)));(case aB => exact (by repeat (first|(with_reducible first|exact HB.out|apply below_alloc|apply pw_below_drewN|apply below_drew1)|exact HB.out)));(case aF => exact (fun _ _ => trivial));(case aO => exact (by (with_reducible repeat (first|apply Kd.R_alloc|apply Kd.R_drewN|apply Kd.R_drew));exact HO166.out));(case aS => exact (below_size (by repeat (first|(with_reducible first|exact HB.out|apply below_alloc|apply pw_below_drewN|apply below_drew1)|exact HB.out))));(case aL => have := LMc2.out;omega);intro v168 w5 ho hb hg hat;rw [← Ny167.out] at ho;have n0_ := Aside0.mk (hb);have n1_ := Aside0.mk (ho);clear HB;clear HO166;have HB := n0_;have HO169 := n1_;clear n0_ n1_;clear ho hb hg hat))
  go_ret
  exact ⟨_,by first|rfl|(simp [errW_none,errW_some] <;> rfl)|(simp [*,errW_none,errW_some] <;> rfl),by (with_reducible repeat (first|apply Kd.R_alloc|apply Kd.R_drewN|apply Kd.R_drew));exact HO169.out,by repeat (first|(with_reducible first|exact HB.out|apply below_alloc|apply pw_below_drewN|apply below_drew1)|exact HB.out)⟩
 ·rw [if_neg c2] at H
  exact absurd H (by simp)

/-! ### spec_Version: function 84 -/
def spec_Version.f (a0 : Int) : Option (Int) := (spec_HeadOk.f a0).bind fun t170 => (if t170 = true then (some (wrap64 (Int.tdiv a0 4))) else (some (-1)))
set_option maxHeartbeats 8000000 in
set_option maxRecDepth 100000 in
theorem spec_Version.calls (a0 : Int) (r : Int) (w : World) (h : spec_Version.f a0 = some r) :
    Calls Try.prog 84 #[.int .i64 a0] w fun e w' => e = .returned (.int .i64 r) ∧ Drawn0 w w' := by
 have H : ((spec_HeadOk.f a0).bind fun t170 => (if t170 = true then (some (wrap64 (Int.tdiv a0 4))) else (some (-1)))) = some r := h
 clear h
 replace H := Option.bind_eq_some_iff.mp H
 obtain ⟨t170,A20,H⟩ := H
 replace H : (if t170 = true then (some (wrap64 (Int.tdiv a0 4))) else (some (-1))) = some r := H
 have A2 := Aside0.mk A20
 clear A20
 by_cases c3 : t170 = true
 ·subst c3
  have H1 : (some (wrap64 (Int.tdiv a0 4))) = some r := by rw [if_pos rfl] at H;exact H
  clear H
  have H := H1
  clear H1
  obtain rfl := Option.some.inj H
  go_enter Try.func84,Try.ntmps84
  go_wp2_with (first|((with_reducible refine gcal_ (f := 62) rfl ?_);refine goesL_ (some 4) rfl rfl Try.func62 (by kernel_rfl) rfl #[.int .i64 a0] rfl (by (try simp only [List.map_toArray,List.map_cons,List.map_nil]);first|done|rfl|(simp only [List.length_drop,List.length_take];rfl)) ?_;(with_reducible refine (spec_HeadOk.calls a0 true _ A2.out).mono ?_);rintro e w' ⟨rfl,⟨nd,rfl⟩⟩;refine ⟨_,rfl,?_⟩))
  go_ret
  exact ⟨by first|rfl|(simp;done)|(simp [*];done),by repeat (first|exact Drawn0.refl _|apply Drawn0.step)⟩
 ·replace c3 := Bool.eq_false_iff.mpr c3
  subst c3
  have H1 : (some (-1)) = some r := by rw [if_neg (show ¬ (false = true) by decide)] at H;exact H
  clear H
  have H := H1
  clear H1
  obtain rfl := Option.some.inj H
  go_enter Try.func84,Try.ntmps84
  go_wp2_with (first|((with_reducible refine gcal_ (f := 62) rfl ?_);refine goesL_ (some 4) rfl rfl Try.func62 (by kernel_rfl) rfl #[.int .i64 a0] rfl (by (try simp only [List.map_toArray,List.map_cons,List.map_nil]);first|done|rfl|(simp only [List.length_drop,List.length_take];rfl)) ?_;(with_reducible refine (spec_HeadOk.calls a0 false _ A2.out).mono ?_);rintro e w' ⟨rfl,⟨nd,rfl⟩⟩;refine ⟨_,rfl,?_⟩))
  go_ret
  exact ⟨by first|rfl|(simp;done)|(simp [*];done),by repeat (first|exact Drawn0.refl _|apply Drawn0.step)⟩

/-! ### spec_Lock: function 38 -/
mutual
def spec_Lock.j0 : Nat → List (S30) → List (S59) → Bool → Option ((List (S30)) × Bool)
  | 0, _, _, _ => none
  | k + 1, x0, x1, x16 => if x16 = true then (some ((([] : List (S30))), false)) else ((spec_l3Copy.f x0).bind fun t176 => (spec_Lock.l0 k x0 x1 t176 0))
def spec_Lock.l0 : Nat → List (S30) → List (S59) → List (S30) → Int → Option ((List (S30)) × Bool)
  | 0, _, _, _, _ => none
  | k + 1, x0, x1, x6, x7 => if x7 < (x1.length : Int) then (if 0 ≤ x7 then (if 0 ≤ ((rd_T59 x1 x7).f1) then (if ((rd_T59 x1 x7).f1) < (x0.length : Int) then ((spec_Locked.f ((rd_T30 x0 ((rd_T59 x1 x7).f1)).f0)).bind fun t181 => (if t181 = true then ((spec_l3Copy.f x0).bind fun t182 => (some (t182, false))) else ((spec_Version.f ((rd_T30 x0 ((rd_T59 x1 x7).f1)).f0)).bind fun t185 => (if t185 = ((rd_T59 x1 x7).f4) then (if ((rd_T59 x1 x7).f1) < (x6.length : Int) then (spec_Lock.l0 k x0 x1 (x6.set (((rd_T59 x1 x7).f1) : Int).toNat (⟨wrap64 (((rd_T30 x0 ((rd_T59 x1 x7).f1)).f0) + 1), (rd_T30 x6 ((rd_T59 x1 x7).f1)).f1⟩ : S30)) (wrap64 (x7 + 1))) else (none)) else ((spec_l3Copy.f x0).bind fun t189 => (some (t189, false))))))) else (none)) else (none)) else (none)) else (some (x6, true))
end
def spec_Lock.f (k : Nat) (l0 : List (S30)) (l1 : List (S59)) : Option ((List (S30)) × Bool) := (spec_CellsOk.f k l0).bind fun t171 => (if t171 = true then ((spec_l2Sets.f k l1).bind fun t172 => (spec_Lock.j0 k l0 l1 (!t172))) else (spec_Lock.j0 k l0 l1 true))

def spec_Lock.T8 : Bool × List (List Nat × List Nat) := (true, [([], []), ([0], [0]), ([1, 1], [1]), ([2], [2]), ([3, 2, 2], [2, 3]), ([2], [2]), ([2], [2]), ([5, 6, 2], [2, 5, 6]), ([7, 2], [2, 7]), ([8, 2], [2, 8]), ([4, 9, 2], [2, 4, 9]), ([2, 10], [2, 10])])
def spec_Lock.B8 : List Nat := [0, 1, 3, 7, 15, 7, 7, 103, 231, 487, 1023, 2047]
theorem spec_Lock.tab8 : rtab .any (opsOf Try.f38 8) = spec_Lock.T8 := by kernel_rfl
theorem spec_Lock.bits8 : waitsOk spec_Lock.T8.2 spec_Lock.B8 = true := by kernel_rfl
set_option maxHeartbeats 8000000 in
set_option maxRecDepth 100000 in
theorem spec_Lock.calls (k : Nat) (A0 : Option Addr) (c0 : Nat) (l0 : List (S30)) (A1 : Option Addr) (c1 : Nat) (l1 : List (S59)) (r1 : List (S30)) (r2 : Bool) (w : World) (hr0 : Kd.C k30 w A0 l0.length l0) (hc0 : l0.length ≤ c0) (hr1 : Kd.C k59 w A1 l1.length l1) (hc1 : l1.length ≤ c1) (h : spec_Lock.f k l0 l1 = some (r1, r2)) :
    Calls Try.prog 38 #[.slice A0 l0.length c0, .slice A1 l1.length c1] w fun e w' => ∃ v0_ : Value, e = .returned (.tuple #[v0_, .bool r2]) ∧ Kd.R k30 30 w' w.heap.size (fun _ => True) v0_ r1 ∧ Below w.heap.size w w' := by
 have HR0 := Aside0.mk hr0
 have HC0 := Aside0.mk hc0
 clear hr0 hc0
 have HR1 := Aside0.mk hr1
 have HC1 := Aside0.mk hc1
 clear hr1 hc1
 have HB := Aside0.mk (Below.refl w.heap.size w)
 have H : ((spec_CellsOk.f k l0).bind fun t171 => (if t171 = true then ((spec_l2Sets.f k l1).bind fun t172 => (spec_Lock.j0 k l0 l1 (!t172))) else (spec_Lock.j0 k l0 l1 true))) = some (r1,r2) := h
 clear h
 have HC3 := Aside0.mk H
 clear H
 go_enter Try.func38,Try.ntmps38
 go_upto_region 1 with (fail)
 go_cut [16] (fun v16 wc => ∃ (kq : Nat) (x16_2 : Bool),v16 = .bool x16_2 ∧ Aside0 (spec_Lock.j0 kq l0 l1 x16_2 = some (r1,r2)) ∧ Aside0 (kq ≤ k) ∧ Aside0 (Below w.heap.size w wc))
 case first =>
  have H := HC3.out
  clear HC3
  replace H := Option.bind_eq_some_iff.mp H
  obtain ⟨t171,A40,H⟩ := H
  replace H : (if t171 = true then ((spec_l2Sets.f k l1).bind fun t172 => (spec_Lock.j0 k l0 l1 (!t172))) else (spec_Lock.j0 k l0 l1 true)) = some (r1,r2) := H
  have A4 := Aside0.mk A40
  clear A40
  by_cases c5 : t171 = true
  ·subst c5
   have H1 : ((spec_l2Sets.f k l1).bind fun t172 => (spec_Lock.j0 k l0 l1 (!t172))) = some (r1,r2) := by rw [if_pos rfl] at H;exact H
   clear H
   have H := H1
   clear H1
   replace H := Option.bind_eq_some_iff.mp H
   obtain ⟨t172,A60,H⟩ := H
   replace H : (spec_Lock.j0 k l0 l1 (!t172)) = some (r1,r2) := H
   have A6 := Aside0.mk A60
   clear A60
   have H' := Aside0.mk H
   clear H
   go_wp2_with (first|((with_reducible refine gcal_ (f := 15) rfl ?_);refine goesL_ (some 10) rfl rfl Try.func15 (by kernel_rfl) rfl #[.slice A0 l0.length c0] rfl (by (try simp only [List.map_toArray,List.map_cons,List.map_nil]);first|done|rfl|(simp only [List.length_drop,List.length_take];rfl)) ?_;(with_reducible refine (spec_CellsOk.calls k _ _ l0 true _ ?side1 ?side2 A4.out).mono ?_);(case side1 => repeat (first|exact (Kd.C_below HR0.out HB.out)|(with_reducible refine Kd.C_alloc ?_ _)|(with_reducible refine Kd.C_drewN ?_ _)|(with_reducible refine Kd.C_drew ?_)));(case side2 => exact HC0.out);rintro e w7 ⟨rfl,hb⟩;refine ⟨_,rfl,?_⟩;have n0_ := Aside0.mk (below_step (by repeat (first|(with_reducible first|exact HB.out|apply below_alloc|apply pw_below_drewN|apply below_drew1)|exact HB.out)) hb);clear HB;have HB := n0_;clear n0_;(try clear hb);(try clear hb2);(try clear hk);(try clear hi))|(go_at_call 76;(with_reducible refine (spec_l2Sets.calls k _ _ l1 t172 _ ?side1 ?side2 A6.out).mono ?_);(case side1 => repeat (first|exact (Kd.C_below HR1.out HB.out)|(with_reducible refine Kd.C_alloc ?_ _)|(with_reducible refine Kd.C_drewN ?_ _)|(with_reducible refine Kd.C_drew ?_)));(case side2 => exact HC1.out);rintro e w8 ⟨rfl,hb⟩;have n0_ := Aside0.mk (below_step (by repeat (first|(with_reducible first|exact HB.out|apply below_alloc|apply pw_below_drewN|apply below_drew1)|exact HB.out)) hb);clear HB;have HB := n0_;clear n0_;(try clear hb);(try clear hb2);(try clear hk);(try clear hi)))
   go_meet
   case rel => exact ⟨_,(!t172),(by first|rfl|(simp;done)|(simp [*];done)),H',⟨by first|omega|exact Nat.le_refl _⟩,⟨by repeat (first|(with_reducible first|exact HB.out|apply below_alloc|apply pw_below_drewN|apply below_drew1)|exact HB.out)⟩⟩
  ·replace c5 := Bool.eq_false_iff.mpr c5
   subst c5
   have H1 : (spec_Lock.j0 k l0 l1 true) = some (r1,r2) := by rw [if_neg (show ¬ (false = true) by decide)] at H;exact H
   clear H
   have H := H1
   clear H1
   have H' := Aside0.mk H
   clear H
   go_wp2_with (first|((with_reducible refine gcal_ (f := 15) rfl ?_);refine goesL_ (some 10) rfl rfl Try.func15 (by kernel_rfl) rfl #[.slice A0 l0.length c0] rfl (by (try simp only [List.map_toArray,List.map_cons,List.map_nil]);first|done|rfl|(simp only [List.length_drop,List.length_take];rfl)) ?_;(with_reducible refine (spec_CellsOk.calls k _ _ l0 false _ ?side1 ?side2 A4.out).mono ?_);(case side1 => repeat (first|exact (Kd.C_below HR0.out HB.out)|(with_reducible refine Kd.C_alloc ?_ _)|(with_reducible refine Kd.C_drewN ?_ _)|(with_reducible refine Kd.C_drew ?_)));(case side2 => exact HC0.out);rintro e w9 ⟨rfl,hb⟩;refine ⟨_,rfl,?_⟩;have n0_ := Aside0.mk (below_step (by repeat (first|(with_reducible first|exact HB.out|apply below_alloc|apply pw_below_drewN|apply below_drew1)|exact HB.out)) hb);clear HB;have HB := n0_;clear n0_;(try clear hb);(try clear hb2);(try clear hk);(try clear hi)))
   go_meet
   case rel => exact ⟨_,(true),(by first|rfl|(simp;done)|(simp [*];done)),H',⟨by first|omega|exact Nat.le_refl _⟩,⟨by repeat (first|(with_reducible first|exact HB.out|apply below_alloc|apply pw_below_drewN|apply below_drew1)|exact HB.out)⟩⟩
 case rest =>
  clear HC3
  try clear c1
  try clear p2
  try clear c3
  try clear c5
  obtain ⟨kq,x16_2,rfl,HA,HJ2,HB⟩ := hcut
  cases kq with
    | zero => exact absurd HA.out (by simp [spec_Lock.j0])
    | succ kj2 =>
   have H := HA.out
   clear HA
   simp only [spec_Lock.j0] at H
   by_cases c10 : x16_2 = true
   ·subst c10
    have H1 : (some ((([] : List (S30))),false)) = some (r1,r2) := by rw [if_pos rfl] at H;exact H
    clear H
    have H := H1
    clear H1
    obtain ⟨y173,hy173⟩ : ∃ y_ : List (S30),y_ = (([] : List (S30))) := ⟨_,rfl⟩
    replace H : (some (y173,false)) = some (r1,r2) := by first|(rw [hy173];with_reducible exact H)|(have H2_ := (Option.bind_some _ _).symm.trans H;rw [hy173];with_reducible exact H2_)|(have H2_ := (Option.bind_some _ _).symm.trans H;with_reducible exact H2_)|with_reducible exact H|(rw [hy173];exact H)|exact H
    have Ny173 := Aside0.mk hy173
    clear hy173
    simp only [Option.some.injEq,Prod.mk.injEq] at H
    obtain ⟨rfl,rfl⟩ := H
    go_wp2_with (first|((with_reducible refine gate_dst (N := 17) rfl ?_);refine Kd.R_lit k30 _ 30 ?hg (N := 17) ?hd (xs := ([] : List (S30))) (inner := []) (ok := fun _ => True) (okp := fun _ => True) ?hr ?hp (fun _ hk => hk) trivial (Below.refl _ _) (Nat.le_refl _) (by simp) ?_;(case hd => rfl);(case hg => rfl);(case hr => first|(go_simp;done)|(go_simp;rfl));(case hp => exact (Reps.none _ _));intro v174 w11 ho12 hb hg_ hnew_;clear hg_ hnew_;(first|rw [← Ny173.out] at ho12|(simp only [Int.reduceToNat] at ho12;rw [← Ny173.out] at ho12));have n0_ := Aside0.mk (Kd.R_lower ho12 (below_size (by repeat (first|(with_reducible first|exact HB.out|apply below_alloc|apply pw_below_drewN|apply below_drew1)|exact HB.out))));have n1_ := Aside0.mk (below_step (by repeat (first|(with_reducible first|exact HB.out|apply below_alloc|apply pw_below_drewN|apply below_drew1)|exact HB.out)) hb);clear HB;have HO175 := n0_;have HB := n1_;clear n0_ n1_;clear hb ho12))
    go_ret2
    exact ⟨_,by first|rfl|(simp [errW_none,errW_some] <;> rfl)|(simp [*,errW_none,errW_some] <;> rfl),by (with_reducible repeat (first|apply Kd.R_alloc|apply Kd.R_drewN|apply Kd.R_drew));exact HO175.out,by repeat (first|(with_reducible first|exact HB.out|apply below_alloc|apply pw_below_drewN|apply below_drew1)|exact HB.out)⟩
   ·replace c10 := Bool.eq_false_iff.mpr c10
    subst c10
    have H1 : ((spec_l3Copy.f l0).bind fun t176 => (spec_Lock.l0 kj2 l0 l1 t176 0)) = some (r1,r2) := by rw [if_neg (show ¬ (false = true) by decide)] at H;exact H
    clear H
    have H := H1
    clear H1
    replace H := Option.bind_eq_some_iff.mp H
    obtain ⟨t176,A130,H⟩ := H
    replace H : (spec_Lock.l0 kj2 l0 l1 t176 0) = some (r1,r2) := H
    have A13 := Aside0.mk A130
    clear A130
    have H' := Aside0.mk H
    clear H
    go_wp2_with (first|((with_reducible refine gcal_ (f := 77) rfl ?_);refine goesL_ (some 19) rfl rfl Try.func77 (by kernel_rfl) rfl #[.slice A0 l0.length c0] rfl (by (try simp only [List.map_toArray,List.map_cons,List.map_nil]);first|done|rfl|(simp only [List.length_drop,List.length_take];rfl)) ?_;(with_reducible refine (spec_l3Copy.calls _ _ l0 t176 _ ?side1 ?side2 A13.out).mono ?_);(case side1 => repeat (first|exact (Kd.C_below HR0.out HB.out)|(with_reducible refine Kd.C_alloc ?_ _)|(with_reducible refine Kd.C_drewN ?_ _)|(with_reducible refine Kd.C_drew ?_)));(case side2 => exact HC0.out);rintro e w14 ⟨v177,rfl,ho0,hb⟩;refine ⟨_,rfl,?_⟩;have n0_ := Aside0.mk (Kd.R_lower ho0 (below_size (by repeat (first|(with_reducible first|exact HB.out|apply below_alloc|apply pw_below_drewN|apply below_drew1)|exact HB.out))));have n1_ := Aside0.mk (below_step (by repeat (first|(with_reducible first|exact HB.out|apply below_alloc|apply pw_below_drewN|apply below_drew1)|exact HB.out)) hb);clear HB;have HO178 := n0_;have HB := n1_;clear n0_ n1_;(try clear hb);(try clear hb2);(try clear hk);(try clear hi);(try clear ho0)))
    go_loopg [7] kj2 (fun kq v7 w' => ∃ (x6_2 : List (S30)) (x7_2 : Int),v7 = .int .i64 x7_2 ∧ Aside0 (spec_Lock.l0 kq l0 l1 x6_2 x7_2 = some (r1,r2)) ∧ Aside0 (kq ≤ kj2) ∧ Aside0 (Kd.R k30 30 w' w.heap.size (fun _ => True) v177 x6_2) ∧ Aside0 (Below w.heap.size w w'))
    case atStart => exact ⟨(t176),(0),(by first|rfl|(simp;done)|(simp [*];done)),H',⟨Nat.le_refl _⟩,⟨by (with_reducible repeat (first|apply Kd.R_alloc|apply Kd.R_drewN|apply Kd.R_drew));exact HO178.out⟩,⟨by repeat (first|(with_reducible first|exact HB.out|apply below_alloc|apply pw_below_drewN|apply below_drew1)|exact HB.out)⟩⟩
    case round =>
     clear H'
     try clear c1
     try clear p2
     try clear c3
     try clear c5
     try clear c7
     try clear c10
     try clear p2
     obtain ⟨x6_2,x7_2,rfl,HA,HK2,HO_6,HB⟩ := hrel
     cases gk with
     | zero => exact absurd HA.out (by simp [spec_Lock.l0])
     | succ k2 =>
      have H := HA.out
      clear HA
      simp only [spec_Lock.l0] at H
      by_cases c15 : x7_2 < (l1.length : Int)
      ·rw [if_pos c15] at H
       have c15b0 : decide (x7_2 < (l1.length : Int)) = true := decide_eq_true c15
       clear c15
       by_cases c16 : 0 ≤ x7_2
       ·rw [if_pos c16] at H
        have c16b0 : decide (0 ≤ x7_2) = true := decide_eq_true c16
        clear c16
        by_cases c17 : 0 ≤ ((rd_T59 l1 x7_2).f1)
        ·rw [if_pos c17] at H
         have c17b0 : decide (0 ≤ ((rd_T59 l1 x7_2).f1)) = true := decide_eq_true c17
         clear c17
         by_cases c18 : ((rd_T59 l1 x7_2).f1) < (l0.length : Int)
         ·rw [if_pos c18] at H
          have c18b0 : decide (((rd_T59 l1 x7_2).f1) < (l0.length : Int)) = true := decide_eq_true c18
          clear c18
          replace H := Option.bind_eq_some_iff.mp H
          obtain ⟨t181,A190,H⟩ := H
          replace H : (if t181 = true then ((spec_l3Copy.f l0).bind fun t182 => (some (t182,false))) else ((spec_Version.f ((rd_T30 l0 ((rd_T59 l1 x7_2).f1)).f0)).bind fun t185 => (if t185 = ((rd_T59 l1 x7_2).f4) then (if ((rd_T59 l1 x7_2).f1) < (x6_2.length : Int) then (spec_Lock.l0 k2 l0 l1 (x6_2.set (((rd_T59 l1 x7_2).f1) : Int).toNat (⟨wrap64 (((rd_T30 l0 ((rd_T59 l1 x7_2).f1)).f0) + 1),(rd_T30 x6_2 ((rd_T59 l1 x7_2).f1)).f1⟩ : S30)) (wrap64 (x7_2 + 1))) else (none)) else ((spec_l3Copy.f l0).bind fun t189 => (some (t189,false)))))) = some (r1,r2) := H
          have A19 := Aside0.mk A190
          clear A190
          by_cases c20 : t181 = true
          ·subst c20
           have H1 : ((spec_l3Copy.f l0).bind fun t182 => (some (t182,false))) = some (r1,r2) := by rw [if_pos rfl] at H;exact H
           clear H
           have H := H1
           clear H1
           replace H := Option.bind_eq_some_iff.mp H
           obtain ⟨t182,A210,H⟩ := H
           replace H : (some (t182,false)) = some (r1,r2) := H
           have A21 := Aside0.mk A210
           clear A210
           simp only [Option.some.injEq,Prod.mk.injEq] at H
           obtain ⟨rfl,rfl⟩ := H
           have p179 : 0 ≤ (x7_2 : Int) := of_decide_eq_true (by first|(with_reducible assumption)|assumption)
           have q179 : x7_2 < (l1.length : Int) := of_decide_eq_true (by first|(with_reducible assumption)|assumption)
           obtain ⟨ad179,e179,hx179_0,hx179_1,hx179_2,hx179_3,hx179_4⟩ := at_T59 HR1.out x7_2 p179 q179
           cases e179
           replace hx179_0 := (HB.out.cell (World.block_lt_of_cell? w _ hx179_0)).trans hx179_0
           replace hx179_1 := (HB.out.cell (World.block_lt_of_cell? w _ hx179_1)).trans hx179_1
           replace hx179_2 := (HB.out.cell (World.block_lt_of_cell? w _ hx179_2)).trans hx179_2
           replace hx179_3 := (HB.out.cell (World.block_lt_of_cell? w _ hx179_3)).trans hx179_3
           replace hx179_4 := (HB.out.cell (World.block_lt_of_cell? w _ hx179_4)).trans hx179_4
           replace p179 := eq_true p179
           replace q179 := eq_true q179
           have p180 : 0 ≤ (((rd_T59 l1 x7_2).f1) : Int) := of_decide_eq_true (by first|(with_reducible assumption)|assumption)
           have q180 : ((rd_T59 l1 x7_2).f1) < (l0.length : Int) := of_decide_eq_true (by first|(with_reducible assumption)|assumption)
           obtain ⟨ad180,e180,hx180_0,hx180_1⟩ := at_T30 HR0.out ((rd_T59 l1 x7_2).f1) p180 q180
           cases e180
           replace hx180_0 := (HB.out.cell (World.block_lt_of_cell? w _ hx180_0)).trans hx180_0
           replace hx180_1 := (HB.out.cell (World.block_lt_of_cell? w _ hx180_1)).trans hx180_1
           replace p180 := eq_true p180
           replace q180 := eq_true q180
           try go_wp2
           have n0_ := Aside0.mk (Kd.R_drew HO_6.out)
           have n1_ := Aside0.mk (below_drew1 HB.out)
           clear HO_6
           clear HB
           have HO_6 := n0_
           have HB := n1_
           clear n0_ n1_
           refine start_ (n := 12) (S := fun w' => True) (ds := []) #[false,false,false,false,false,false,false,false,false,false,false,false] (by kernel_rfl) rfl rfl trivial (fun hHeld => ?_);refine with_tabW spec_Lock.tab8 spec_Lock.bits8 (fun HT_ HW_ => ?_)
           generalize wr.drew = w22 at HO_6 HB hHeld ⊢
           refine pw_ 0 (some 35) HT_.out ?_
           refine oz_ (i := 1) (N := some 36) HT_.out rfl rfl (by kernel_rfl) (by decide) (fun K hK => ?_)
           refine goes_ Try.func68 (by kernel_rfl) rfl #[.int .i64 ((rd_T30 l0 ((rd_T59 l1 x7_2).f1)).f0)] (by rfl) rfl rfl (by (try simp only [List.map_toArray,List.map_cons,List.map_nil]);first|done|rfl|(simp only [List.length_drop,List.length_take];rfl)) ?_
           with_reducible refine (spec_Locked.calls ((rd_T30 l0 ((rd_T59 l1 x7_2).f1)).f0) true _ A19.out).mono ?_
           rintro e w' ⟨rfl,⟨nd,rfl⟩⟩
           refine ⟨_,rfl,?_⟩
           refine hK.out _ _ trivial (fun hHeld => ?_)
           clear hK K
           refine norm_ (a' := ?_) ?_ ?_
           rotate_left
           ·show Act.put _ (some 36) _ = _
            simp only [Act.put,q1,q2,q3,i64_w,i32_w]
            rfl
           refine pw_ 2 (some 37) HT_.out ?_
           refine pu_ 3 (some 38) HT_.out ?_
           refine pu_ 4 (some 39) HT_.out ?_
           refine pu_ 5 (some 40) HT_.out ?_
           refine pu_ 6 (some 41) HT_.out ?_
           refine pu_ 7 (some 42) HT_.out ?_
           refine pu_ 8 (some 43) HT_.out ?_
           refine pu_ 9 (some 44) HT_.out ?_
           refine pu_ 10 (some 45) HT_.out ?_
           refine pw_ 11 (some 46) HT_.out ?_
           refine done_ (done_of HT_.out (by kernel_rfl)) ?_
           try go_wp2_with (first|((with_reducible refine gcal_ (f := 77) rfl ?_);refine goesL_ (some 48) rfl rfl Try.func77 (by kernel_rfl) rfl #[.slice (some ad180) l0.length c0] rfl (by (try simp only [List.map_toArray,List.map_cons,List.map_nil]);first|done|rfl|(simp only [List.length_drop,List.length_take];rfl)) ?_;(with_reducible refine (spec_l3Copy.calls _ _ l0 t182 _ ?side1 ?side2 A21.out).mono ?_);(case side1 => repeat (first|exact (Kd.C_below HR0.out (by repeat (first|(with_reducible first|exact HB.out|apply below_alloc|apply pw_below_drewN|apply below_drew1)|exact HB.out)))|(with_reducible refine Kd.C_alloc ?_ _)|(with_reducible refine Kd.C_drewN ?_ _)|(with_reducible refine Kd.C_drew ?_)));(case side2 => exact HC0.out);rintro e w23 ⟨v183,rfl,ho0,hb⟩;refine ⟨_,rfl,?_⟩;have n0_ := Aside0.mk (Kd.R_elder' (by (with_reducible repeat (first|apply Kd.R_alloc|apply Kd.R_drewN|apply Kd.R_drew));exact HO_6.out) (Kd.R_base ho0) hb);have n1_ := Aside0.mk (Kd.R_lower (Kd.R_new' ho0 (Kd.R_lt (by (with_reducible repeat (first|apply Kd.R_alloc|apply Kd.R_drewN|apply Kd.R_drew));exact HO_6.out))) (below_size (by repeat (first|(with_reducible first|exact HB.out|apply below_alloc|apply pw_below_drewN|apply below_drew1)|exact HB.out))));have n2_ := Aside0.mk (below_step (by repeat (first|(with_reducible first|exact HB.out|apply below_alloc|apply pw_below_drewN|apply below_drew1)|exact HB.out)) hb);clear HO_6;clear HB;have HO_6 := n0_;have HO184 := n1_;have HB := n2_;clear n0_ n1_ n2_;(try clear hb);(try clear hb2);(try clear hk);(try clear hi);(try clear ho0)))
           go_ret2
           exact ⟨_,by first|rfl|(simp [errW_none,errW_some] <;> rfl)|(simp [*,errW_none,errW_some] <;> rfl),by (with_reducible repeat (first|apply Kd.R_alloc|apply Kd.R_drewN|apply Kd.R_drew));exact Kd.R_mono HO184.out (fun _ hk => trivial),by repeat (first|(with_reducible first|exact HB.out|apply below_alloc|apply pw_below_drewN|apply below_drew1)|exact HB.out)⟩
          ·replace c20 := Bool.eq_false_iff.mpr c20
           subst c20
           have H1 : ((spec_Version.f ((rd_T30 l0 ((rd_T59 l1 x7_2).f1)).f0)).bind fun t185 => (if t185 = ((rd_T59 l1 x7_2).f4) then (if ((rd_T59 l1 x7_2).f1) < (x6_2.length : Int) then (spec_Lock.l0 k2 l0 l1 (x6_2.set (((rd_T59 l1 x7_2).f1) : Int).toNat (⟨wrap64 (((rd_T30 l0 ((rd_T59 l1 x7_2).f1)).f0) + 1),(rd_T30 x6_2 ((rd_T59 l1 x7_2).f1)).f1⟩ : S30)) (wrap64 (x7_2 + 1))) else (none)) else ((spec_l3Copy.f l0).bind fun t189 => (some (t189,false))))) = some (r1,r2) := by rw [if_neg (show ¬ (false = true) by decide)] at H;exact H
           clear H
           have H := H1
           clear H1
           replace H := Option.bind_eq_some_iff.mp H
           obtain ⟨t185,A240,H⟩ := H
           replace H : (if t185 = ((rd_T59 l1 x7_2).f4) then (if ((rd_T59 l1 x7_2).f1) < (x6_2.length : Int) then (spec_Lock.l0 k2 l0 l1 (x6_2.set (((rd_T59 l1 x7_2).f1) : Int).toNat (⟨wrap64 (((rd_T30 l0 ((rd_T59 l1 x7_2).f1)).f0) + 1),(rd_T30 x6_2 ((rd_T59 l1 x7_2).f1)).f1⟩ : S30)) (wrap64 (x7_2 + 1))) else (none)) else ((spec_l3Copy.f l0).bind fun t189 => (some (t189,false)))) = some (r1,r2) := H
           have A24 := Aside0.mk A240
           clear A240
           by_cases c25 : t185 = ((rd_T59 l1 x7_2).f4)
           ·rw [if_pos c25] at H
            have c25b0 : (t185 == ((rd_T59 l1 x7_2).f4)) = true := beq_iff_eq.mpr c25
            have c25b1 : (t185 != ((rd_T59 l1 x7_2).f4)) = false := bne_eq_false_iff_eq.mpr c25
            clear c25
            by_cases c26 : ((rd_T59 l1 x7_2).f1) < (x6_2.length : Int)
            ·rw [if_pos c26] at H
             have c26b0 : decide (((rd_T59 l1 x7_2).f1) < (x6_2.length : Int)) = true := decide_eq_true c26
             clear c26
             obtain ⟨y188,hy188⟩ : ∃ y_ : List (S30),y_ = (x6_2.set (((rd_T59 l1 x7_2).f1) : Int).toNat (⟨wrap64 (((rd_T30 l0 ((rd_T59 l1 x7_2).f1)).f0) + 1),(rd_T30 x6_2 ((rd_T59 l1 x7_2).f1)).f1⟩ : S30)) := ⟨_,rfl⟩
             replace H : (spec_Lock.l0 k2 l0 l1 y188 (wrap64 (x7_2 + 1))) = some (r1,r2) := by first|(rw [hy188];with_reducible exact H)|(have H2_ := (Option.bind_some _ _).symm.trans H;rw [hy188];with_reducible exact H2_)|(have H2_ := (Option.bind_some _ _).symm.trans H;with_reducible exact H2_)|with_reducible exact H|(rw [hy188];exact H)|exact H
             have Ny188 := Aside0.mk hy188
             clear hy188
             have H' := Aside0.mk H
             clear H
             have p179 : 0 ≤ (x7_2 : Int) := of_decide_eq_true (by first|(with_reducible assumption)|assumption)
             have q179 : x7_2 < (l1.length : Int) := of_decide_eq_true (by first|(with_reducible assumption)|assumption)
             obtain ⟨ad179,e179,hx179_0,hx179_1,hx179_2,hx179_3,hx179_4⟩ := at_T59 HR1.out x7_2 p179 q179
             cases e179
             replace hx179_0 := (HB.out.cell (World.block_lt_of_cell? w _ hx179_0)).trans hx179_0
             replace hx179_1 := (HB.out.cell (World.block_lt_of_cell? w _ hx179_1)).trans hx179_1
             replace hx179_2 := (HB.out.cell (World.block_lt_of_cell? w _ hx179_2)).trans hx179_2
             replace hx179_3 := (HB.out.cell (World.block_lt_of_cell? w _ hx179_3)).trans hx179_3
             replace hx179_4 := (HB.out.cell (World.block_lt_of_cell? w _ hx179_4)).trans hx179_4
             replace p179 := eq_true p179
             replace q179 := eq_true q179
             have p180 : 0 ≤ (((rd_T59 l1 x7_2).f1) : Int) := of_decide_eq_true (by first|(with_reducible assumption)|assumption)
             have q180 : ((rd_T59 l1 x7_2).f1) < (l0.length : Int) := of_decide_eq_true (by first|(with_reducible assumption)|assumption)
             obtain ⟨ad180,e180,hx180_0,hx180_1⟩ := at_T30 HR0.out ((rd_T59 l1 x7_2).f1) p180 q180
             cases e180
             replace hx180_0 := (HB.out.cell (World.block_lt_of_cell? w _ hx180_0)).trans hx180_0
             replace hx180_1 := (HB.out.cell (World.block_lt_of_cell? w _ hx180_1)).trans hx180_1
             replace p180 := eq_true p180
             replace q180 := eq_true q180
             try go_wp2
             have n0_ := Aside0.mk (Kd.R_drew HO_6.out)
             have n1_ := Aside0.mk (below_drew1 HB.out)
             clear HO_6
             clear HB
             have HO_6 := n0_
             have HB := n1_
             clear n0_ n1_
             have p186 : 0 ≤ (x7_2 : Int) := of_decide_eq_true (by first|(with_reducible assumption)|assumption)
             have q186 : x7_2 < (l1.length : Int) := of_decide_eq_true (by first|(with_reducible assumption)|assumption)
             obtain ⟨ad186,e186,hx186_0,hx186_1,hx186_2,hx186_3,hx186_4⟩ := at_T59 HR1.out x7_2 p186 q186
             have hw186_4 := hx186_4
             have hw186_3 := hx186_3
             have hw186_2 := hx186_2
             have hw186_1 := hx186_1
             have hw186_0 := hx186_0
             obtain rfl : ad179 = ad186 := (by injection e186)
             replace hx186_0 := (HB.out.cell (World.block_lt_of_cell? w _ hx186_0)).trans hx186_0
             replace hx186_1 := (HB.out.cell (World.block_lt_of_cell? w _ hx186_1)).trans hx186_1
             replace hx186_2 := (HB.out.cell (World.block_lt_of_cell? w _ hx186_2)).trans hx186_2
             replace hx186_3 := (HB.out.cell (World.block_lt_of_cell? w _ hx186_3)).trans hx186_3
             replace hx186_4 := (HB.out.cell (World.block_lt_of_cell? w _ hx186_4)).trans hx186_4
             replace p186 := eq_true p186
             replace q186 := eq_true q186
             refine start_ (n := 12) (S := fun w' => w'.cell? (ad179.add ((x7_2).toNat * 5)) = some (.int .i64 ((rd_T59 l1 x7_2).f0)) ∧ w'.cell? ⟨(ad179.add ((x7_2).toNat * 5)).block,(ad179.add ((x7_2).toNat * 5)).off + 1,none⟩ = some (.int .i64 ((rd_T59 l1 x7_2).f1)) ∧ w'.cell? ⟨(ad179.add ((x7_2).toNat * 5)).block,(ad179.add ((x7_2).toNat * 5)).off + 2,none⟩ = some (.int .i64 ((rd_T59 l1 x7_2).f2)) ∧ w'.cell? ⟨(ad179.add ((x7_2).toNat * 5)).block,(ad179.add ((x7_2).toNat * 5)).off + 3,none⟩ = some (.bool ((rd_T59 l1 x7_2).f3)) ∧ w'.cell? ⟨(ad179.add ((x7_2).toNat * 5)).block,(ad179.add ((x7_2).toNat * 5)).off + 4,none⟩ = some (.int .i64 ((rd_T59 l1 x7_2).f4))) (ds := []) #[false,false,false,false,false,false,false,false,false,false,false,false] (by kernel_rfl) rfl rfl ⟨((HB.out.cell (World.block_lt_of_cell? w _ hw186_0)).trans hw186_0),((HB.out.cell (World.block_lt_of_cell? w _ hw186_1)).trans hw186_1),((HB.out.cell (World.block_lt_of_cell? w _ hw186_2)).trans hw186_2),((HB.out.cell (World.block_lt_of_cell? w _ hw186_3)).trans hw186_3),((HB.out.cell (World.block_lt_of_cell? w _ hw186_4)).trans hw186_4)⟩ (fun hHeld => ?_);refine with_tabW spec_Lock.tab8 spec_Lock.bits8 (fun HT_ HW_ => ?_)
             generalize wr.drew = w28 at HO_6 HB hx186_0 hx186_1 hx186_2 hx186_3 hx186_4 hHeld ⊢
             refine pw_ 0 (some 35) HT_.out ?_
             refine oz_ (i := 1) (N := some 36) HT_.out rfl rfl (by kernel_rfl) (by decide) (fun K hK => ?_)
             refine goes_ Try.func68 (by kernel_rfl) rfl #[.int .i64 ((rd_T30 l0 ((rd_T59 l1 x7_2).f1)).f0)] (by rfl) rfl rfl (by (try simp only [List.map_toArray,List.map_cons,List.map_nil]);first|done|rfl|(simp only [List.length_drop,List.length_take];rfl)) ?_
             with_reducible refine (spec_Locked.calls ((rd_T30 l0 ((rd_T59 l1 x7_2).f1)).f0) false _ A19.out).mono ?_
             rintro e w' ⟨rfl,⟨nd,rfl⟩⟩
             refine ⟨_,rfl,?_⟩
             refine hK.out _ _ ⟨((HB.out.cell (World.block_lt_of_cell? w _ hw186_0)).trans hw186_0),((HB.out.cell (World.block_lt_of_cell? w _ hw186_1)).trans hw186_1),((HB.out.cell (World.block_lt_of_cell? w _ hw186_2)).trans hw186_2),((HB.out.cell (World.block_lt_of_cell? w _ hw186_3)).trans hw186_3),((HB.out.cell (World.block_lt_of_cell? w _ hw186_4)).trans hw186_4)⟩ (fun hHeld => ?_)
             clear hK K
             refine norm_ (a' := ?_) ?_ ?_
             rotate_left
             ·show Act.put _ (some 36) _ = _
              simp only [Act.put,q1,q2,q3,i64_w,i32_w]
              rfl
             refine pw_ 2 (some 37) HT_.out ?_
             refine pw_ 3 (some 38) HT_.out ?_
             refine pw_ 5 (some 40) HT_.out ?_
             refine pw_ 6 (some 41) HT_.out ?_
             refine pw_ 7 (some 42) HT_.out ?_
             refine pw_ 8 (some 43) HT_.out ?_
             refine tw_ 9 (some 44) HT_.out HW_.out hHeld rfl rfl (by rintro w' ⟨s0,s1,s2,s3,s4⟩;go_simp;with_reducible rfl) ?_
             refine oz_ (i := 4) (N := some 39) HT_.out rfl rfl (by kernel_rfl) (by decide) (fun K hK => ?_)
             refine goes_ Try.func84 (by kernel_rfl) rfl #[.int .i64 ((rd_T30 l0 ((rd_T59 l1 x7_2).f1)).f0)] (by rfl) rfl rfl (by (try simp only [List.map_toArray,List.map_cons,List.map_nil]);first|done|rfl|(simp only [List.length_drop,List.length_take];rfl)) ?_
             with_reducible refine (spec_Version.calls ((rd_T30 l0 ((rd_T59 l1 x7_2).f1)).f0) t185 _ A24.out).mono ?_
             rintro e w' ⟨rfl,⟨nd,rfl⟩⟩
             refine ⟨_,rfl,?_⟩
             refine hK.out _ _ ⟨((HB.out.cell (World.block_lt_of_cell? w _ hw186_0)).trans hw186_0),((HB.out.cell (World.block_lt_of_cell? w _ hw186_1)).trans hw186_1),((HB.out.cell (World.block_lt_of_cell? w _ hw186_2)).trans hw186_2),((HB.out.cell (World.block_lt_of_cell? w _ hw186_3)).trans hw186_3),((HB.out.cell (World.block_lt_of_cell? w _ hw186_4)).trans hw186_4)⟩ (fun hHeld => ?_)
             clear hK K
             refine norm_ (a' := ?_) ?_ ?_
             rotate_left
             ·show Act.put _ (some 39) _ = _
              simp only [Act.put,q1,q2,q3,i64_w,i32_w]
              rfl
             refine pw_ 10 (some 45) HT_.out ?_
             refine pw_ 11 (some 46) HT_.out ?_
             refine done_ (done_of HT_.out (by kernel_rfl)) ?_
             (repeat (rw [drewN_self w28];generalize hq_ : World.drewN w28 _ = w28;have n0_ : Aside0 (Kd.R k30 30 w28 w.heap.size (fun _ => True) v177 x6_2) := ⟨by rw [← hq_];exact (by (with_reducible repeat (first|apply Kd.R_alloc|apply Kd.R_drewN|apply Kd.R_drew));exact HO_6.out)⟩;have n1_ : Aside0 (Below w.heap.size w w28) := ⟨by rw [← hq_];exact (by repeat (first|(with_reducible first|exact HB.out|apply below_alloc|apply pw_below_drewN|apply below_drew1)|exact HB.out))⟩;clear HO_6 HB hq_;have HO_6 := n0_;have HB := n1_;clear n0_ n1_))
             have p187 : 0 ≤ (x7_2 : Int) := of_decide_eq_true (by first|(with_reducible assumption)|assumption)
             have q187 : x7_2 < (l1.length : Int) := of_decide_eq_true (by first|(with_reducible assumption)|assumption)
             obtain ⟨ad187,e187,hx187_0,hx187_1,hx187_2,hx187_3,hx187_4⟩ := at_T59 HR1.out x7_2 p187 q187
             obtain rfl : ad179 = ad187 := (by injection e187)
             replace hx187_0 := (HB.out.cell (World.block_lt_of_cell? w _ hx187_0)).trans hx187_0
             replace hx187_1 := (HB.out.cell (World.block_lt_of_cell? w _ hx187_1)).trans hx187_1
             replace hx187_2 := (HB.out.cell (World.block_lt_of_cell? w _ hx187_2)).trans hx187_2
             replace hx187_3 := (HB.out.cell (World.block_lt_of_cell? w _ hx187_3)).trans hx187_3
             replace hx187_4 := (HB.out.cell (World.block_lt_of_cell? w _ hx187_4)).trans hx187_4
             replace p187 := eq_true p187
             replace q187 := eq_true q187
             have p27 : 0 ≤ (((rd_T59 l1 x7_2).f1) : Int) := of_decide_eq_true (by first|(with_reducible assumption)|assumption)
             have q27 : (((rd_T59 l1 x7_2).f1) : Int) < ((x6_2.length : Int) : Int) := of_decide_eq_true (by first|(with_reducible assumption)|assumption)
             obtain ⟨go27,co27,eo27,gb27,gl27,cl27,HG27⟩ := Kd.R_form HO_6.out (by omega)
             (first|cases eo27|(injection eo27 with ea_ en_ ec_;(first|subst ea_|(injection ea_ with ea_;subst ea_));subst ec_;clear en_))
             have GB27 := Aside0.mk gb27
             have GG27 := Aside0.mk HG27
             clear gb27 gl27 HG27
             obtain ⟨ce27,hcl27,hM27,hcc27,hfr27⟩ := Kd.R_elem HO_6.out z30 (((rd_T59 l1 x7_2).f1) : Int) p27 q27
             obtain rfl := k30_openM hM27
             have hx27_0 : w28.cell? ⟨go27,(((rd_T59 l1 x7_2).f1) : Int).toNat * 2,none⟩ = some (.int .i64 ((rd_T30 x6_2 ((rd_T59 l1 x7_2).f1)).f0)) := hcc27 0 _ rfl
             have hx27_1 : w28.cell? ⟨go27,(((rd_T59 l1 x7_2).f1) : Int).toNat * 2 + 1,none⟩ = some (.int .i64 ((rd_T30 x6_2 ((rd_T59 l1 x7_2).f1)).f1)) := hcc27 1 _ rfl
             have hf27_0 : w28.frozen? ⟨go27,(((rd_T59 l1 x7_2).f1) : Int).toNat * 2,none⟩ = false := hfr27 0
             have hf27_1 : w28.frozen? ⟨go27,(((rd_T59 l1 x7_2).f1) : Int).toNat * 2 + 1,none⟩ = false := hfr27 1
             clear hcl27 hcc27 hfr27 hM27
             replace p27 := eq_true p27
             replace q27 := eq_true q27
             have HX29 := Aside0.mk (show Kd.R k30 30 w28 w.heap.size (fun _ => True) (.slice (some ⟨go27,0,none⟩) x6_2.length co27) x6_2 from (by (with_reducible repeat (first|apply Kd.R_alloc|apply Kd.R_drewN|apply Kd.R_drew));exact HO_6.out))
             obtain ⟨ce29,hcl29,hM29,hcc29,hfr29⟩ := Kd.R_elem HX29.out z30 (((rd_T59 l1 x7_2).f1) : Int) (of_decide_eq_true (by first|(with_reducible assumption)|assumption)) (by have h_ : (((rd_T59 l1 x7_2).f1) : Int) < ((x6_2.length : Int) : Int) := of_decide_eq_true (by first|(with_reducible assumption)|assumption);first|exact h_|(have e_ := (Kd.R_reads' HO_6.out).1;omega)|simpa using h_)
             obtain rfl := k30_openM hM29
             have HP29 := Kd.R_seg HX29.out (((rd_T59 l1 x7_2).f1) : Int) (of_decide_eq_true (by first|(with_reducible assumption)|assumption)) (by have h_ : (((rd_T59 l1 x7_2).f1) : Int) < ((x6_2.length : Int) : Int) := of_decide_eq_true (by first|(with_reducible assumption)|assumption);first|exact h_|(have e_ := (Kd.R_reads' HO_6.out).1;omega)|simpa using h_) (seg := [.int .i64 (wrap64 (((rd_T30 l0 ((rd_T59 l1 x7_2).f1)).f0) + 1))]) (j := 0) hcl29 hcc29 (show 1 ≤ 2 from by decide) (x' := (⟨wrap64 (((rd_T30 l0 ((rd_T59 l1 x7_2).f1)).f0) + 1),(rd_T30 x6_2 ((rd_T59 l1 x7_2).f1)).f1⟩ : S30)) (k30_mkM _ _ _ (⟨wrap64 (((rd_T30 l0 ((rd_T59 l1 x7_2).f1)).f0) + 1),(rd_T30 x6_2 ((rd_T59 l1 x7_2).f1)).f1⟩ : S30) ) (fun _ hk => hk)
             have hx29_0 := hcc29 0 _ rfl
             (try simp only [show (k30).sz = 2 from rfl,Nat.mul_one,Nat.add_zero] at hx29_0)
             have hf29_0 := hfr29 0
             (try simp only [show (k30).sz = 2 from rfl,Nat.mul_one,Nat.add_zero] at hf29_0)
             clear hcl29 hcc29 hfr29 hM29
             try go_wp2_with (first|((with_reducible refine gate_store (t := 2) (p := 58) rfl ?_);refine store_event (t := 2) (p := 58) (v := ?vo_w30) (w1 := (w28.setCell ⟨go27,(((rd_T59 l1 x7_2).f1) : Int).toNat * 2,none⟩ (.int .i64 (wrap64 (((rd_T30 l0 ((rd_T59 l1 x7_2).f1)).f0) + 1))))) ?hg ?ho ?hn ?hr ?_;(case ho => rfl);(case hg => rfl);(case hn => rfl);(case hr => first|(go_simp;done)|(go_simp;rfl)|(obtain ⟨_,_,e_⟩ := Kd.R_slice HO_6.out;subst e_;first|(go_simp;done)|(go_simp;rfl)));intro w30 hw;have hg : w28.grownBy w30 (some go27) := (by rw [hw];exact HP29.2);have hp_ : Kd.R k30 30 w30 w.heap.size (fun _ => True) (.slice (some ⟨go27,0,none⟩) x6_2.length co27) y188 := (by rw [hw,Ny188.out];exact HP29.1);clear HP29;have n0_ := Aside0.mk (hp_);have n1_ := Aside0.mk ((by rw [hw];exact below_set (HB.out) GB27.out : Below w.heap.size w w30));clear HO_6;clear HB;have HO_6 := n0_;have HB := n1_;clear n0_ n1_;clear hg hw hp_))
             go_roundg k2
             case measure => have := HJ2.out;have := HK2.out;omega
             case rel => exact ⟨(y188),(wrap64 (x7_2 + 1)),(by first|rfl|(simp;done)|(simp [*];done)),H',⟨by have := HJ2.out;have := HK2.out;omega⟩,⟨by (with_reducible repeat (first|apply Kd.R_alloc|apply Kd.R_drewN|apply Kd.R_drew));exact HO_6.out⟩,⟨by repeat (first|(with_reducible first|exact HB.out|apply below_alloc|apply pw_below_drewN|apply below_drew1)|exact HB.out)⟩⟩
            ·rw [if_neg c26] at H
             exact absurd H (by simp)
           ·rw [if_neg c25] at H
            have c25b0 : (t185 == ((rd_T59 l1 x7_2).f4)) = false := beq_eq_false_iff_ne.mpr c25
            have c25b1 : (t185 != ((rd_T59 l1 x7_2).f4)) = true := bne_iff_ne.mpr c25
            replace H := Option.bind_eq_some_iff.mp H
            obtain ⟨t189,A310,H⟩ := H
            replace H : (some (t189,false)) = some (r1,r2) := H
            have A31 := Aside0.mk A310
            clear A310
            simp only [Option.some.injEq,Prod.mk.injEq] at H
            obtain ⟨rfl,rfl⟩ := H
            have p179 : 0 ≤ (x7_2 : Int) := of_decide_eq_true (by first|(with_reducible assumption)|assumption)
            have q179 : x7_2 < (l1.length : Int) := of_decide_eq_true (by first|(with_reducible assumption)|assumption)
            obtain ⟨ad179,e179,hx179_0,hx179_1,hx179_2,hx179_3,hx179_4⟩ := at_T59 HR1.out x7_2 p179 q179
            cases e179
            replace hx179_0 := (HB.out.cell (World.block_lt_of_cell? w _ hx179_0)).trans hx179_0
            replace hx179_1 := (HB.out.cell (World.block_lt_of_cell? w _ hx179_1)).trans hx179_1
            replace hx179_2 := (HB.out.cell (World.block_lt_of_cell? w _ hx179_2)).trans hx179_2
            replace hx179_3 := (HB.out.cell (World.block_lt_of_cell? w _ hx179_3)).trans hx179_3
            replace hx179_4 := (HB.out.cell (World.block_lt_of_cell? w _ hx179_4)).trans hx179_4
            replace p179 := eq_true p179
            replace q179 := eq_true q179
            have p180 : 0 ≤ (((rd_T59 l1 x7_2).f1) : Int) := of_decide_eq_true (by first|(with_reducible assumption)|assumption)
            have q180 : ((rd_T59 l1 x7_2).f1) < (l0.length : Int) := of_decide_eq_true (by first|(with_reducible assumption)|assumption)
            obtain ⟨ad180,e180,hx180_0,hx180_1⟩ := at_T30 HR0.out ((rd_T59 l1 x7_2).f1) p180 q180
            cases e180
            replace hx180_0 := (HB.out.cell (World.block_lt_of_cell? w _ hx180_0)).trans hx180_0
            replace hx180_1 := (HB.out.cell (World.block_lt_of_cell? w _ hx180_1)).trans hx180_1
            replace p180 := eq_true p180
            replace q180 := eq_true q180
            try go_wp2
            have n0_ := Aside0.mk (Kd.R_drew HO_6.out)
            have n1_ := Aside0.mk (below_drew1 HB.out)
            clear HO_6
            clear HB
            have HO_6 := n0_
            have HB := n1_
            clear n0_ n1_
            have p186 : 0 ≤ (x7_2 : Int) := of_decide_eq_true (by first|(with_reducible assumption)|assumption)
            have q186 : x7_2 < (l1.length : Int) := of_decide_eq_true (by first|(with_reducible assumption)|assumption)
            obtain ⟨ad186,e186,hx186_0,hx186_1,hx186_2,hx186_3,hx186_4⟩ := at_T59 HR1.out x7_2 p186 q186
            have hw186_4 := hx186_4
            have hw186_3 := hx186_3
            have hw186_2 := hx186_2
            have hw186_1 := hx186_1
            have hw186_0 := hx186_0
            obtain rfl : ad179 = ad186 := (by injection e186)
            replace hx186_0 := (HB.out.cell (World.block_lt_of_cell? w _ hx186_0)).trans hx186_0
            replace hx186_1 := (HB.out.cell (World.block_lt_of_cell? w _ hx186_1)).trans hx186_1
            replace hx186_2 := (HB.out.cell (World.block_lt_of_cell? w _ hx186_2)).trans hx186_2
            replace hx186_3 := (HB.out.cell (World.block_lt_of_cell? w _ hx186_3)).trans hx186_3
            replace hx186_4 := (HB.out.cell (World.block_lt_of_cell? w _ hx186_4)).trans hx186_4
            replace p186 := eq_true p186
            replace q186 := eq_true q186
            refine start_ (n := 12) (S := fun w' => w'.cell? (ad179.add ((x7_2).toNat * 5)) = some (.int .i64 ((rd_T59 l1 x7_2).f0)) ∧ w'.cell? ⟨(ad179.add ((x7_2).toNat * 5)).block,(ad179.add ((x7_2).toNat * 5)).off + 1,none⟩ = some (.int .i64 ((rd_T59 l1 x7_2).f1)) ∧ w'.cell? ⟨(ad179.add ((x7_2).toNat * 5)).block,(ad179.add ((x7_2).toNat * 5)).off + 2,none⟩ = some (.int .i64 ((rd_T59 l1 x7_2).f2)) ∧ w'.cell? ⟨(ad179.add ((x7_2).toNat * 5)).block,(ad179.add ((x7_2).toNat * 5)).off + 3,none⟩ = some (.bool ((rd_T59 l1 x7_2).f3)) ∧ w'.cell? ⟨(ad179.add ((x7_2).toNat * 5)).block,(ad179.add ((x7_2).toNat * 5)).off + 4,none⟩ = some (.int .i64 ((rd_T59 l1 x7_2).f4))) (ds := []) #[false,false,false,false,false,false,false,false,false,false,false,false] (by kernel_rfl) rfl rfl ⟨((HB.out.cell (World.block_lt_of_cell? w _ hw186_0)).trans hw186_0),((HB.out.cell (World.block_lt_of_cell? w _ hw186_1)).trans hw186_1),((HB.out.cell (World.block_lt_of_cell? w _ hw186_2)).trans hw186_2),((HB.out.cell (World.block_lt_of_cell? w _ hw186_3)).trans hw186_3),((HB.out.cell (World.block_lt_of_cell? w _ hw186_4)).trans hw186_4)⟩ (fun hHeld => ?_);refine with_tabW spec_Lock.tab8 spec_Lock.bits8 (fun HT_ HW_ => ?_)
            generalize wr.drew = w32 at HO_6 HB hx186_0 hx186_1 hx186_2 hx186_3 hx186_4 hHeld ⊢
            refine pw_ 0 (some 35) HT_.out ?_
            refine oz_ (i := 1) (N := some 36) HT_.out rfl rfl (by kernel_rfl) (by decide) (fun K hK => ?_)
            refine goes_ Try.func68 (by kernel_rfl) rfl #[.int .i64 ((rd_T30 l0 ((rd_T59 l1 x7_2).f1)).f0)] (by rfl) rfl rfl (by (try simp only [List.map_toArray,List.map_cons,List.map_nil]);first|done|rfl|(simp only [List.length_drop,List.length_take];rfl)) ?_
            with_reducible refine (spec_Locked.calls ((rd_T30 l0 ((rd_T59 l1 x7_2).f1)).f0) false _ A19.out).mono ?_
            rintro e w' ⟨rfl,⟨nd,rfl⟩⟩
            refine ⟨_,rfl,?_⟩
            refine hK.out _ _ ⟨((HB.out.cell (World.block_lt_of_cell? w _ hw186_0)).trans hw186_0),((HB.out.cell (World.block_lt_of_cell? w _ hw186_1)).trans hw186_1),((HB.out.cell (World.block_lt_of_cell? w _ hw186_2)).trans hw186_2),((HB.out.cell (World.block_lt_of_cell? w _ hw186_3)).trans hw186_3),((HB.out.cell (World.block_lt_of_cell? w _ hw186_4)).trans hw186_4)⟩ (fun hHeld => ?_)
            clear hK K
            refine norm_ (a' := ?_) ?_ ?_
            rotate_left
            ·show Act.put _ (some 36) _ = _
             simp only [Act.put,q1,q2,q3,i64_w,i32_w]
             rfl
            refine pw_ 2 (some 37) HT_.out ?_
            refine pw_ 3 (some 38) HT_.out ?_
            refine pw_ 5 (some 40) HT_.out ?_
            refine pw_ 6 (some 41) HT_.out ?_
            refine pw_ 7 (some 42) HT_.out ?_
            refine pw_ 8 (some 43) HT_.out ?_
            refine tw_ 9 (some 44) HT_.out HW_.out hHeld rfl rfl (by rintro w' ⟨s0,s1,s2,s3,s4⟩;go_simp;with_reducible rfl) ?_
            refine oz_ (i := 4) (N := some 39) HT_.out rfl rfl (by kernel_rfl) (by decide) (fun K hK => ?_)
            refine goes_ Try.func84 (by kernel_rfl) rfl #[.int .i64 ((rd_T30 l0 ((rd_T59 l1 x7_2).f1)).f0)] (by rfl) rfl rfl (by (try simp only [List.map_toArray,List.map_cons,List.map_nil]);first|done|rfl|(simp only [List.length_drop,List.length_take];rfl)) ?_
            with_reducible refine (spec_Version.calls ((rd_T30 l0 ((rd_T59 l1 x7_2).f1)).f0) t185 _ A24.out).mono ?_
            rintro e w' ⟨rfl,⟨nd,rfl⟩⟩
            refine ⟨_,rfl,?_⟩
            refine hK.out _ _ ⟨((HB.out.cell (World.block_lt_of_cell? w _ hw186_0)).trans hw186_0),((HB.out.cell (World.block_lt_of_cell? w _ hw186_1)).trans hw186_1),((HB.out.cell (World.block_lt_of_cell? w _ hw186_2)).trans hw186_2),((HB.out.cell (World.block_lt_of_cell? w _ hw186_3)).trans hw186_3),((HB.out.cell (World.block_lt_of_cell? w _ hw186_4)).trans hw186_4)⟩ (fun hHeld => ?_)
            clear hK K
            refine norm_ (a' := ?_) ?_ ?_
            rotate_left
            ·show Act.put _ (some 39) _ = _
             simp only [Act.put,q1,q2,q3,i64_w,i32_w]
             rfl
            refine pw_ 10 (some 45) HT_.out ?_
            refine pw_ 11 (some 46) HT_.out ?_
            refine done_ (done_of HT_.out (by kernel_rfl)) ?_
            try go_wp2_with (first|((with_reducible refine gcal_ (f := 77) rfl ?_);refine goesL_ (some 48) rfl rfl Try.func77 (by kernel_rfl) rfl #[.slice (some ad180) l0.length c0] rfl (by (try simp only [List.map_toArray,List.map_cons,List.map_nil]);first|done|rfl|(simp only [List.length_drop,List.length_take];rfl)) ?_;(with_reducible refine (spec_l3Copy.calls _ _ l0 t189 _ ?side1 ?side2 A31.out).mono ?_);(case side1 => repeat (first|exact (Kd.C_below HR0.out (by repeat (first|(with_reducible first|exact HB.out|apply below_alloc|apply pw_below_drewN|apply below_drew1)|exact HB.out)))|(with_reducible refine Kd.C_alloc ?_ _)|(with_reducible refine Kd.C_drewN ?_ _)|(with_reducible refine Kd.C_drew ?_)));(case side2 => exact HC0.out);rintro e w33 ⟨v190,rfl,ho0,hb⟩;refine ⟨_,rfl,?_⟩;have n0_ := Aside0.mk (Kd.R_elder' (by (with_reducible repeat (first|apply Kd.R_alloc|apply Kd.R_drewN|apply Kd.R_drew));exact HO_6.out) (Kd.R_base ho0) hb);have n1_ := Aside0.mk (Kd.R_lower (Kd.R_new' ho0 (Kd.R_lt (by (with_reducible repeat (first|apply Kd.R_alloc|apply Kd.R_drewN|apply Kd.R_drew));exact HO_6.out))) (below_size (by repeat (first|(with_reducible first|exact HB.out|apply below_alloc|apply pw_below_drewN|apply below_drew1)|exact HB.out))));have n2_ := Aside0.mk (below_step (by repeat (first|(with_reducible first|exact HB.out|apply below_alloc|apply pw_below_drewN|apply below_drew1)|exact HB.out)) hb);clear HO_6;clear HB;have HO_6 := n0_;have HO191 := n1_;have HB := n2_;clear n0_ n1_ n2_;(try clear hb);(try clear hb2);(try clear hk);(try clear hi);(try clear ho0)))
            go_ret2
            exact ⟨_,by first|rfl|(simp [errW_none,errW_some] <;> rfl)|(simp [*,errW_none,errW_some] <;> rfl),by (with_reducible repeat (first|apply Kd.R_alloc|apply Kd.R_drewN|apply Kd.R_drew));exact Kd.R_mono HO191.out (fun _ hk => trivial),by repeat (first|(with_reducible first|exact HB.out|apply below_alloc|apply pw_below_drewN|apply below_drew1)|exact HB.out)⟩
         ·rw [if_neg c18] at H
          exact absurd H (by simp)
        ·rw [if_neg c17] at H
         exact absurd H (by simp)
       ·rw [if_neg c16] at H
        exact absurd H (by simp)
      ·rw [if_neg c15] at H
       have c15b0 : decide (x7_2 < (l1.length : Int)) = false := decide_eq_false c15
       clear c15
       simp only [Option.some.injEq,Prod.mk.injEq] at H
       obtain ⟨rfl,rfl⟩ := H
       go_wp2
       go_ret2
       exact ⟨_,by first|rfl|(simp [errW_none,errW_some] <;> rfl)|(simp [*,errW_none,errW_some] <;> rfl),by (with_reducible repeat (first|apply Kd.R_alloc|apply Kd.R_drewN|apply Kd.R_drew));exact HO_6.out,by repeat (first|(with_reducible first|exact HB.out|apply below_alloc|apply pw_below_drewN|apply below_drew1)|exact HB.out)⟩

end Go.Proofs.Ytgdfbjmjgegicaa.XLs
