/- Proved: of each Go function here that a call comes to what the Lean function of its name tells. Written by a program of this session over the translation. No conditions beyond each theorem's own. -/
import Derived.Test.YthplaakckfhaaaaXRp0
namespace Go.Proofs.Ythplaakckfhaaaa.XRp
open Go.RowKit Go.Proofs.Ythplaakckfhaaaa.Aid Go.Proofs.YthplaakckfhaaaaW.PrintWords Go.Proofs.YthplaakckfhaaaaW.PrintLast Go.Proofs.YthplaakckfhaaaaW.PrintMore
set_option linter.unusedVariables false
set_option linter.unusedSimpArgs false

/-! ### spec_l6At: function 57 -/
def spec_l6At.l0 : Nat → Int → Int → Bool → List (S79) → List (S45) → List Int → Option (Int)
  | 0, _, _, _, _, _, _ => none
  | k + 1, x1, x5, x326000, x326001, x326002, x326003 => if x5 < (x326001.length : Int) then (if 0 ≤ x5 then (if ((rd_T79 x326001 x5).f0) = x1 then (some x5) else (spec_l6At.l0 k x1 (wrap64 (x5 + 1)) x326000 x326001 x326002 x326003)) else (none)) else (some (-1))
def spec_l6At.f (k : Nat) (a0_0 : Bool) (l0_1 : List (S79)) (l0_2 : List (S45)) (l0_3 : List Int) (a1 : Int) : Option (Int) := spec_l6At.l0 k a1 0 a0_0 l0_1 l0_2 l0_3

set_option maxHeartbeats 8000000 in
set_option maxRecDepth 100000 in
theorem spec_l6At.calls (k : Nat) (a0_0 : Bool) (A0_1 : Option Addr) (c0_1 : Nat) (l0_1 : List (S79)) (A0_2 : Option Addr) (c0_2 : Nat) (l0_2 : List (S45)) (A0_3 : Option Addr) (c0_3 : Nat) (l0_3 : List Int) (a1 : Int) (r : Int) (w : World) (hr0_1 : Kd.C k79 w A0_1 l0_1.length l0_1) (hc0_1 : l0_1.length ≤ c0_1) (hr0_2 : Kd.C k45 w A0_2 l0_2.length l0_2) (hc0_2 : l0_2.length ≤ c0_2) (hr0_3 : Kd.C (Kd.int .i64) w A0_3 l0_3.length l0_3) (hc0_3 : l0_3.length ≤ c0_3) (h : spec_l6At.f k a0_0 l0_1 l0_2 l0_3 a1 = some r) :
    Calls Try.prog 57 #[.agg #[.bool a0_0, .slice A0_1 l0_1.length c0_1, .slice A0_2 l0_2.length c0_2, .slice A0_3 l0_3.length c0_3], .int .i64 a1] w fun e w' => e = .returned (.int .i64 r) ∧ Below w.heap.size w w' := by
 have hu32 := Try.underlying32
 have HR0_1 := Aside0.mk hr0_1
 have HC0_1 := Aside0.mk hc0_1
 clear hr0_1 hc0_1
 have HR0_2 := Aside0.mk hr0_2
 have HC0_2 := Aside0.mk hc0_2
 clear hr0_2 hc0_2
 have HR0_3 := Aside0.mk hr0_3
 have HC0_3 := Aside0.mk hc0_3
 clear hr0_3 hc0_3
 have HB := Aside0.mk (Below.refl w.heap.size w)
 have H : (spec_l6At.l0 k a1 0 a0_0 l0_1 l0_2 l0_3) = some r := h
 clear h
 have H' := Aside0.mk H
 clear H
 go_enter Try.func57,Try.ntmps57
 go_wp2_with (first|((with_reducible refine gate_dst (N := 2) rfl ?_);refine bx_ 2 #[.bool a0_0,.slice A0_1 l0_1.length c0_1,.slice A0_2 l0_2.length c0_2,.slice A0_3 l0_3.length c0_3] 32 ?_;intro gb325 hg w3 hbox hb;replace HB := nb_ hg hbox hb;obtain ⟨BK325,GW325,GE325,HB⟩ := HB;clear hb hbox hg))
 go_loopg [5] k (fun kq v5 w' => ∃ (x5_1 : Int),v5 = .int .i64 x5_1 ∧ Aside0 (spec_l6At.l0 kq a1 x5_1 a0_0 l0_1 l0_2 l0_3 = some r) ∧ Aside0 (kq ≤ k) ∧ Aside0 (w'.heap[gb325]? = some (.cells #[.bool a0_0,(.slice A0_1 l0_1.length c0_1),(.slice A0_2 l0_2.length c0_2),(.slice A0_3 l0_3.length c0_3)] 32 (0,0))) ∧ Aside0 (Below w.heap.size w w'))
 case atStart => exact ⟨(0),rs_,H',⟨Nat.le_refl _⟩,⟨kb_ BK325⟩,⟨b_⟩⟩
 case round =>
  clear H'
  try clear p2
  obtain ⟨x5_1,rfl,HA,HK1,BK325,HB⟩ := hrel
  cases gk with
    | zero => exact absurd HA.out (by simp [spec_l6At.l0])
    | succ k1 =>
   have H := HA.out
   clear HA
   simp only [spec_l6At.l0] at H
   by_cases c4 : x5_1 < (l0_1.length : Int)
   ·rw [if_pos c4] at H
    have c4b0 : decide (x5_1 < (l0_1.length : Int)) = true := decide_eq_true c4
    clear c4
    by_cases c5 : 0 ≤ x5_1
    ·rw [if_pos c5] at H
     have c5b0 : decide (0 ≤ x5_1) = true := decide_eq_true c5
     clear c5
     by_cases c6 : ((rd_T79 l0_1 x5_1).f0) = a1
     ·rw [if_pos c6] at H
      have c6b0 : (((rd_T79 l0_1 x5_1).f0) == a1) = true := beq_iff_eq.mpr c6
      have c6b1 : (((rd_T79 l0_1 x5_1).f0) != a1) = false := bne_eq_false_iff_eq.mpr c6
      clear c6
      obtain rfl := Option.some.inj H
      obtain ⟨⟨hcz7_0,hcz7_1,hcz7_2,hcz7_3⟩,hfz7_0,hfz7_1,hfz7_2,hfz7_3⟩ := cl4_ BK325.out
      have p326 : 0 ≤ (x5_1 : Int) := od_
      have q326 : x5_1 < (l0_1.length : Int) := od_
      obtain ⟨ad326,A326_1,c326_1,e326,hx326_0,hx326_1,hl326_1,hi326_1⟩ := at_T79 HR0_1.out x5_1 p326 q326
      cases e326
      replace hx326_0 := hx_ HB hx326_0
      replace hx326_1 := hx_ HB hx326_1
      have HR326_1 := Aside0.mk hi326_1
      have HC326_1 := Aside0.mk hl326_1
      clear hi326_1 hl326_1
      replace p326 := eq_true p326
      replace q326 := eq_true q326
      go_wp2
      go_ret
      exact ⟨rf_,b_⟩
     ·rw [if_neg c6] at H
      have c6b0 : (((rd_T79 l0_1 x5_1).f0) == a1) = false := beq_eq_false_iff_ne.mpr c6
      have c6b1 : (((rd_T79 l0_1 x5_1).f0) != a1) = true := bne_iff_ne.mpr c6
      have H' := Aside0.mk H
      clear H
      obtain ⟨⟨hcz8_0,hcz8_1,hcz8_2,hcz8_3⟩,hfz8_0,hfz8_1,hfz8_2,hfz8_3⟩ := cl4_ BK325.out
      have p326 : 0 ≤ (x5_1 : Int) := od_
      have q326 : x5_1 < (l0_1.length : Int) := od_
      obtain ⟨ad326,A326_1,c326_1,e326,hx326_0,hx326_1,hl326_1,hi326_1⟩ := at_T79 HR0_1.out x5_1 p326 q326
      cases e326
      replace hx326_0 := hx_ HB hx326_0
      replace hx326_1 := hx_ HB hx326_1
      have HR326_1 := Aside0.mk hi326_1
      have HC326_1 := Aside0.mk hl326_1
      clear hi326_1 hl326_1
      replace p326 := eq_true p326
      replace q326 := eq_true q326
      go_wp2
      go_roundg k1
      case measure => have := HK1.out;omega
      case rel => exact ⟨(wrap64 (x5_1 + 1)),rs_,H',⟨by have := HK1.out;omega⟩,⟨kb_ BK325⟩,⟨b_⟩⟩
    ·rw [if_neg c5] at H
     exact absurd H (by simp)
   ·rw [if_neg c4] at H
    have c4b0 : decide (x5_1 < (l0_1.length : Int)) = false := decide_eq_false c4
    clear c4
    obtain rfl := Option.some.inj H
    obtain ⟨⟨hcz9_0,hcz9_1,hcz9_2,hcz9_3⟩,hfz9_0,hfz9_1,hfz9_2,hfz9_3⟩ := cl4_ BK325.out
    go_wp2
    go_ret
    exact ⟨rf_,b_⟩

/-! ### impl_Cell_60: function 60 -/
def impl_Cell_60.f (l0 : List (S92)) : Option ((List (S92))) := (some (([] : List (S92)) : List (S92))).bind fun y327 => (if y327.length + l0.length < 8796093022208 then (some (y327 ++ l0)) else (none))
set_option maxHeartbeats 8000000 in
set_option maxRecDepth 100000 in
theorem impl_Cell_60.calls (A0 : Option Addr) (c0 : Nat) (l0 : List (S92)) (r : List (S92)) (w : World) (hr0 : Kd.C k92 w A0 l0.length l0) (hc0 : l0.length ≤ c0) (h : impl_Cell_60.f l0 = some r) :
    Calls Try.prog 60 #[.slice A0 l0.length c0] w fun e w' => ∃ v0_ : Value, e = .returned (v0_) ∧ Kd.R k92 92 w' w.heap.size (fun _ => True) v0_ r ∧ Below w.heap.size w w' := by
 cases A0 with
  | none =>
  have hnil := fun (W : World) => Go.Lib.run_eql_slice_nil (P := Try.prog) W 36 92 none l0.length c0 0 0 Try.underlying36
  simp only [Option.isNone_none] at hnil
  have hl : l0 = [] := by
   rcases Nat.eq_zero_or_pos l0.length with h1 | h1
   ·exact List.length_eq_zero_iff.1 h1
   ·obtain ⟨_,e,_⟩ := hr0.2.2 h1
    cases e
  have hr : r = [] := by
   subst hl
   have h2 : some ([] : List _) = some r := by rw [← h];simp [impl_Cell_60.f]
   exact (Option.some.inj h2).symm
  subst hr
  clear h hr0
  subst hl
  simp only [List.length_nil] at hnil
  go_enter Try.func60,Try.ntmps60
  go_wp2
  go_ret
  exact ⟨_,rfl,Kd.R_nil _ _ _ _ _,Below.refl _ _⟩
  | some ad0 =>
  have hnil := fun (W : World) => Go.Lib.run_eql_slice_nil (P := Try.prog) W 36 92 (some ad0) l0.length c0 0 0 Try.underlying36
  simp only [Option.isNone_some] at hnil
  have HR0 := Aside0.mk hr0
  have HC0 := Aside0.mk hc0
  clear hr0 hc0
  have HB := Aside0.mk (Below.refl w.heap.size w)
  have H : ((some (([] : List (S92)) : List (S92))).bind fun y327 => (if y327.length + l0.length < 8796093022208 then (some (y327 ++ l0)) else (none))) = some r := h
  clear h
  obtain ⟨y327,hy327⟩ : ∃ y_ : List (S92),y_ = (([] : List (S92))) := ⟨_,rfl⟩
  replace H : (if y327.length + l0.length < 8796093022208 then (some (y327 ++ l0)) else (none)) = some r := by first|(rw [hy327];with_reducible exact H)|(have H2_ := (Option.bind_some _ _).symm.trans H;rw [hy327];with_reducible exact H2_)|(have H2_ := (Option.bind_some _ _).symm.trans H;with_reducible exact H2_)|with_reducible exact H|(rw [hy327];exact H)|exact H
  have Ny327 := Aside0.mk hy327
  clear hy327
  by_cases c2 : y327.length + l0.length < 8796093022208
  ·rw [if_pos c2] at H
   have LMc2 := Aside0.mk c2
   clear c2
   obtain ⟨y330,hy330⟩ : ∃ y_ : List (S92),y_ = (y327 ++ l0) := ⟨_,rfl⟩
   replace H : (some y330) = some r := by first|(rw [hy330];with_reducible exact H)|(have H2_ := (Option.bind_some _ _).symm.trans H;rw [hy330];with_reducible exact H2_)|(have H2_ := (Option.bind_some _ _).symm.trans H;with_reducible exact H2_)|with_reducible exact H|(rw [hy330];exact H)|exact H
   have Ny330 := Aside0.mk hy330
   clear hy330
   obtain rfl := Option.some.inj H
   go_enter Try.func60,Try.ntmps60
   go_wp2_with (first|((with_reducible refine gate_dst (N := 5) rfl ?_);refine Kd.R_lit k92 _ 92 ?hg (N := 5) ?hd (xs := ([] : List (S92))) (inner := []) (ok := fun _ => True) (okp := fun _ => True) ?hr ?hp (fun _ hk => hk) trivial (Below.refl _ _) (Nat.le_refl _) (by simp) ?_;(case hd => rfl);(case hg => rfl);(case hr => first|(go_simp;done)|(go_simp;rfl));(case hp => exact (Reps.none _ _));intro v328 w3 ho4 hb hg_ hnew_;clear hg_ hnew_;(first|rw [← Ny327.out] at ho4|(simp only [Int.reduceToNat] at ho4;rw [← Ny327.out] at ho4));have HO329 := Aside0.mk (Kd.R_lower ho4 (below_size b_));replace HB := Aside0.mk (below_step b_ hb);clear hb ho4)|((with_reducible refine gblt_ (b := .append) (xs := #[.tmp 5,.tmp 6]) rfl ?_);at_builtin;refine Kd.R_append_rows k92 (w0 := w) w.heap.size rfl (.tmp 5) (.tmp 6) 36 92 (.agg #[(.int .i64 0),(.int .i64 0)]) 16 rfl Try.underlying36 info92 rfl (by decide) (by omega) v328 y327 l0 _ _ _ (fun _ => True) (fun _ => False) rfl rfl ?aO ?aR (fun _ _ h => h) (fun _ h => h.elim) ?aF ?aB ?aS ?aL ?_;(case aR => repeat (first|exact (Kd.C_below HR0.out HB.out)|(with_reducible refine Kd.C_alloc ?_ _)|(with_reducible refine Kd.C_drewN ?_ _)|(with_reducible refine Kd.C_drew ?_)));(case aB => exact b_);(case aF => exact (fun _ _ => trivial));(case aO => exact (by (with_reducible repeat (first|apply Kd.R_alloc|apply Kd.R_drewN|apply Kd.R_drew));exact HO329.out));(case aS => exact (below_size b_));(case aL => have := LMc2.out;omega);intro v331 w5 ho hb hg hat;rw [← Ny330.out] at ho;replace HB := Aside0.mk (hb);have HO332 := Aside0.mk (ho);clear HO329;clear ho hb hg hat))
   go_ret
   exact ⟨_,rf_,by (with_reducible repeat (first|apply Kd.R_alloc|apply Kd.R_drewN|apply Kd.R_drew));exact HO332.out,b_⟩
  ·rw [if_neg c2] at H
   exact absurd H (by simp)

/-! ### cmp_isNaN_int64: function 144 -/
def cmp_isNaN_int64.f (a0 : Int) : Option (Bool) := some (a0 != a0)
set_option maxHeartbeats 8000000 in
set_option maxRecDepth 100000 in
theorem cmp_isNaN_int64.calls (a0 : Int) (r : Bool) (w : World) (h : cmp_isNaN_int64.f a0 = some r) :
    Calls Try.prog 144 #[.int .i64 a0] w fun e w' => e = .returned (.bool r) ∧ Drawn0 w w' := by
 have H : (some (a0 != a0)) = some r := h
 clear h
 obtain rfl := Option.some.inj H
 go_enter Try.func144,Try.ntmps144
 go_wp2
 go_ret
 exact ⟨rs_,by repeat (first|exact Drawn0.refl _|apply Drawn0.step)⟩

/-! ### cmp_Compare_int64: function 128 -/
def cmp_Compare_int64.f (a0 : Int) (a1 : Int) : Option (Int) := (cmp_isNaN_int64.f a0).bind fun t333 => ((cmp_isNaN_int64.f a1).bind fun t334 => (if t333 = true then (if t334 = true then (some 0) else (some (-1))) else (if t334 = true then (some 1) else (if a0 < a1 then (some (-1)) else (if a0 > a1 then (some 1) else (some 0))))))
set_option maxHeartbeats 8000000 in
set_option maxRecDepth 100000 in
theorem cmp_Compare_int64.calls (a0 : Int) (a1 : Int) (r : Int) (w : World) (h : cmp_Compare_int64.f a0 a1 = some r) :
    Calls Try.prog 128 #[.int .i64 a0, .int .i64 a1] w fun e w' => e = .returned (.int .i64 r) ∧ Drawn0 w w' := by
 have H : ((cmp_isNaN_int64.f a0).bind fun t333 => ((cmp_isNaN_int64.f a1).bind fun t334 => (if t333 = true then (if t334 = true then (some 0) else (some (-1))) else (if t334 = true then (some 1) else (if a0 < a1 then (some (-1)) else (if a0 > a1 then (some 1) else (some 0))))))) = some r := h
 clear h
 replace H := bs_ H
 obtain ⟨t333,A3,H⟩ := H
 replace H := bs_ H
 obtain ⟨t334,A4,H⟩ := H
 by_cases c5 : t333 = true
 ·subst c5
  replace H := it_ H
  by_cases c6 : t334 = true
  ·subst c6
   replace H := it_ H
   obtain rfl := Option.some.inj H
   go_enter Try.func128,Try.ntmps128
   go_wp2_with (first|((with_reducible refine gcal_ (f := 144) rfl ?_);refine gl_ (some 8) Try.func144 #[.int .i64 a0] ?_;(with_reducible refine (cmp_isNaN_int64.calls a0 true _ A3.out).mono ?_);rintro e w' ⟨rfl,⟨nd,rfl⟩⟩;refine ⟨_,rfl,?_⟩)|((with_reducible refine gcal_ (f := 144) rfl ?_);refine gl_ (some 10) Try.func144 #[.int .i64 a1] ?_;(with_reducible refine (cmp_isNaN_int64.calls a1 true _ A4.out).mono ?_);rintro e w' ⟨rfl,⟨nd,rfl⟩⟩;refine ⟨_,rfl,?_⟩))
   go_ret
   exact ⟨rs_,by repeat (first|exact Drawn0.refl _|apply Drawn0.step)⟩
  ·replace c6 := Bool.eq_false_iff.mpr c6
   subst c6
   replace H := ie_ H
   obtain rfl := Option.some.inj H
   go_enter Try.func128,Try.ntmps128
   go_wp2_with (first|((with_reducible refine gcal_ (f := 144) rfl ?_);refine gl_ (some 8) Try.func144 #[.int .i64 a0] ?_;(with_reducible refine (cmp_isNaN_int64.calls a0 true _ A3.out).mono ?_);rintro e w' ⟨rfl,⟨nd,rfl⟩⟩;refine ⟨_,rfl,?_⟩)|((with_reducible refine gcal_ (f := 144) rfl ?_);refine gl_ (some 10) Try.func144 #[.int .i64 a1] ?_;(with_reducible refine (cmp_isNaN_int64.calls a1 false _ A4.out).mono ?_);rintro e w' ⟨rfl,⟨nd,rfl⟩⟩;refine ⟨_,rfl,?_⟩))
   go_ret
   exact ⟨rs_,by repeat (first|exact Drawn0.refl _|apply Drawn0.step)⟩
 ·replace c5 := Bool.eq_false_iff.mpr c5
  subst c5
  replace H := ie_ H
  by_cases c7 : t334 = true
  ·subst c7
   replace H := it_ H
   obtain rfl := Option.some.inj H
   go_enter Try.func128,Try.ntmps128
   go_wp2_with (first|((with_reducible refine gcal_ (f := 144) rfl ?_);refine gl_ (some 8) Try.func144 #[.int .i64 a0] ?_;(with_reducible refine (cmp_isNaN_int64.calls a0 false _ A3.out).mono ?_);rintro e w' ⟨rfl,⟨nd,rfl⟩⟩;refine ⟨_,rfl,?_⟩)|((with_reducible refine gcal_ (f := 144) rfl ?_);refine gl_ (some 10) Try.func144 #[.int .i64 a1] ?_;(with_reducible refine (cmp_isNaN_int64.calls a1 true _ A4.out).mono ?_);rintro e w' ⟨rfl,⟨nd,rfl⟩⟩;refine ⟨_,rfl,?_⟩))
   go_ret
   exact ⟨rs_,by repeat (first|exact Drawn0.refl _|apply Drawn0.step)⟩
  ·replace c7 := Bool.eq_false_iff.mpr c7
   subst c7
   replace H := ie_ H
   by_cases c8 : a0 < a1
   ·rw [if_pos c8] at H
    have c8b0 : decide (a0 < a1) = true := decide_eq_true c8
    clear c8
    obtain rfl := Option.some.inj H
    go_enter Try.func128,Try.ntmps128
    go_wp2_with (first|((with_reducible refine gcal_ (f := 144) rfl ?_);refine gl_ (some 8) Try.func144 #[.int .i64 a0] ?_;(with_reducible refine (cmp_isNaN_int64.calls a0 false _ A3.out).mono ?_);rintro e w' ⟨rfl,⟨nd,rfl⟩⟩;refine ⟨_,rfl,?_⟩)|((with_reducible refine gcal_ (f := 144) rfl ?_);refine gl_ (some 10) Try.func144 #[.int .i64 a1] ?_;(with_reducible refine (cmp_isNaN_int64.calls a1 false _ A4.out).mono ?_);rintro e w' ⟨rfl,⟨nd,rfl⟩⟩;refine ⟨_,rfl,?_⟩))
    go_ret
    exact ⟨rs_,by repeat (first|exact Drawn0.refl _|apply Drawn0.step)⟩
   ·rw [if_neg c8] at H
    have c8b0 : decide (a0 < a1) = false := decide_eq_false c8
    clear c8
    by_cases c9 : a0 > a1
    ·rw [if_pos c9] at H
     have c9b0 : decide (a1 < a0) = true := decide_eq_true c9
     clear c9
     obtain rfl := Option.some.inj H
     go_enter Try.func128,Try.ntmps128
     go_wp2_with (first|((with_reducible refine gcal_ (f := 144) rfl ?_);refine gl_ (some 8) Try.func144 #[.int .i64 a0] ?_;(with_reducible refine (cmp_isNaN_int64.calls a0 false _ A3.out).mono ?_);rintro e w' ⟨rfl,⟨nd,rfl⟩⟩;refine ⟨_,rfl,?_⟩)|((with_reducible refine gcal_ (f := 144) rfl ?_);refine gl_ (some 10) Try.func144 #[.int .i64 a1] ?_;(with_reducible refine (cmp_isNaN_int64.calls a1 false _ A4.out).mono ?_);rintro e w' ⟨rfl,⟨nd,rfl⟩⟩;refine ⟨_,rfl,?_⟩))
     go_ret
     exact ⟨rs_,by repeat (first|exact Drawn0.refl _|apply Drawn0.step)⟩
    ·rw [if_neg c9] at H
     have c9b0 : decide (a1 < a0) = false := decide_eq_false c9
     clear c9
     obtain rfl := Option.some.inj H
     go_enter Try.func128,Try.ntmps128
     go_wp2_with (first|((with_reducible refine gcal_ (f := 144) rfl ?_);refine gl_ (some 8) Try.func144 #[.int .i64 a0] ?_;(with_reducible refine (cmp_isNaN_int64.calls a0 false _ A3.out).mono ?_);rintro e w' ⟨rfl,⟨nd,rfl⟩⟩;refine ⟨_,rfl,?_⟩)|((with_reducible refine gcal_ (f := 144) rfl ?_);refine gl_ (some 10) Try.func144 #[.int .i64 a1] ?_;(with_reducible refine (cmp_isNaN_int64.calls a1 false _ A4.out).mono ?_);rintro e w' ⟨rfl,⟨nd,rfl⟩⟩;refine ⟨_,rfl,?_⟩))
     go_ret
     exact ⟨rs_,by repeat (first|exact Drawn0.refl _|apply Drawn0.step)⟩

/-! ### impl_Machine_replace_1: function 127 -/
def impl_Machine_replace_1.f (a0_0 : Int) (l0_1 : List (S92)) (a1 : Int) : Option (Int) := (cmp_Compare_int64.f a0_0 a1).bind fun t336 => (some t336)
set_option maxHeartbeats 8000000 in
set_option maxRecDepth 100000 in
theorem impl_Machine_replace_1.calls (a0_0 : Int) (A0_1 : Option Addr) (c0_1 : Nat) (l0_1 : List (S92)) (a1 : Int) (r : Int) (w : World) (hr0_1 : Kd.C k92 w A0_1 l0_1.length l0_1) (hc0_1 : l0_1.length ≤ c0_1) (h : impl_Machine_replace_1.f a0_0 l0_1 a1 = some r) :
    Calls Try.prog 127 #[.agg #[.int .i64 a0_0, .slice A0_1 l0_1.length c0_1], .int .i64 a1] w fun e w' => e = .returned (.int .i64 r) ∧ Below w.heap.size w w' := by
 have hu79 := Try.underlying79
 have HR0_1 := Aside0.mk hr0_1
 have HC0_1 := Aside0.mk hc0_1
 clear hr0_1 hc0_1
 have HB := Aside0.mk (Below.refl w.heap.size w)
 have H : ((cmp_Compare_int64.f a0_0 a1).bind fun t336 => (some t336)) = some r := h
 clear h
 replace H := bs_ H
 obtain ⟨t336,A3,H⟩ := H
 obtain rfl := Option.some.inj H
 go_enter Try.func127,Try.ntmps127
 go_wp2_with (first|((with_reducible refine gate_dst (N := 2) rfl ?_);refine bx_ 2 #[.int .i64 a0_0,.slice A0_1 l0_1.length c0_1] 79 ?_;intro gb335 hg w4 hbox hb;replace HB := nb_ hg hbox hb;obtain ⟨BK335,GW335,GE335,HB⟩ := HB;clear hb hbox hg;obtain ⟨⟨hcz5_0,hcz5_1⟩,hfz5_0,hfz5_1⟩ := cl2_ BK335.out)|((with_reducible refine gcal_ (f := 128) rfl ?_);refine gl_ (some 8) Try.func128 #[.int .i64 a0_0,.int .i64 a1] ?_;(with_reducible refine (cmp_Compare_int64.calls a0_0 a1 t336 _ A3.out).mono ?_);rintro e w' ⟨rfl,⟨nd,rfl⟩⟩;refine ⟨_,rfl,?_⟩))
 go_ret
 exact ⟨rf_,b_⟩

/-! ### slices_BinarySearchFunc_Copy: function 126 -/
theorem cmp_val_ (a : Int) (l : List S92) (b : Int) : impl_Machine_replace_1.f a l b = some (if a < b then -1 else if a > b then 1 else 0) := by
 simp only [impl_Machine_replace_1.f,cmp_Compare_int64.f,cmp_isNaN_int64.f,Option.bind_some,bne_self_eq_false,Bool.false_eq_true,if_false]
 by_cases h1 : a < b
 ·rw [if_pos h1,if_pos h1];rfl
 ·rw [if_neg h1,if_neg h1]
  by_cases h2 : a > b
  ·rw [if_pos h2,if_pos h2];rfl
  ·rw [if_neg h2,if_neg h2];rfl
theorem midz_ (i j : Nat) (h : i + j ≤ 4611686018427387904) : IntKind.i64.wrap ((IntKind.u64.wrap (wrap64 ((i : Int) + (j : Int)))) / 2) = (((i + j) / 2 : Nat) : Int) := by
 have e0 : wrap64 ((i : Int) + (j : Int)) = (i : Int) + (j : Int) := by rw [← i64_w,IntKind.wrap_i64];omega
 have e : IntKind.u64.wrap ((i : Int) + (j : Int)) = (i : Int) + (j : Int) := by
  simp only [IntKind.wrap,IntKind.bits,IntKind.signed,Bool.false_and,Bool.false_eq_true,if_false]
  omega
 rw [e0,e,IntKind.wrap_i64]
 omega
set_option maxHeartbeats 8000000 in
set_option maxRecDepth 100000 in
theorem slices_BinarySearchFunc_Copy.calls (A0 : Option Addr) (c0 : Nat) (l0 : List S79) (a1 : Int) (m : Nat) (hm : m ≤ l0.length) (h1 : ∀ t (ht : t < l0.length), t < m → l0[t].f0 < a1) (h2 : ∀ t (ht : t < l0.length), m ≤ t → ¬ l0[t].f0 < a1) (w : World) (hr0 : Kd.C k79 w A0 l0.length l0) (hc0 : l0.length ≤ c0) (hs : l0.length < 1152921504606846976) :
    Calls Try.prog 126 #[.slice A0 l0.length c0, .int .i64 a1, .func (.func 127) #[] #[]] w fun e w' => e = .returned (.tuple #[.int .i64 (m : Int), .bool (decide (∃ ht : m < l0.length, l0[m].f0 = a1))]) ∧ Below w.heap.size w w' := by
 have hu := Try.underlying79
 have HR := Aside0.mk hr0
 have HC := Aside0.mk hc0
 have H1 := Aside0.mk h1
 have H2 := Aside0.mk h2
 have HM := Aside0.mk hm
 have HS := Aside0.mk hs
 clear hr0 h1 h2 hm hs
 go_enter Try.func126,Try.ntmps126
 go_wp2
 go_loopg [9,10] l0.length (fun gg v9 v10 wr => ∃ (i j : Nat),v9 = .int .i64 i ∧ v10 = .int .i64 j ∧ i ≤ m ∧ m ≤ j ∧ j ≤ l0.length ∧ j - i ≤ gg ∧ Aside0 (Below w.heap.size w wr))
 case atStart => exact ⟨0,l0.length,rfl,rfl,Nat.zero_le _,HM.out,Nat.le_refl _,by omega,⟨Below.refl _ _⟩⟩
 case round =>
  obtain ⟨i,j,rfl,rfl,him,hmj,hjl,hgg,HB⟩ := hrel
  by_cases hlt : i < j
  ·have hltz : (i : Int) < (j : Int) := by omega
   obtain ⟨h,hh⟩ : ∃ h,h = (i + j) / 2 := ⟨_,rfl⟩
   have hmid := midz_ i j (by have := HS.out;omega)
   rw [← hh] at hmid
   have hhl : h < l0.length := by omega
   have hlo : i ≤ h := by omega
   have hhi : h < j := by omega
   clear hh
   have hci : (h : Int) < (l0.length : Int) := by omega
   have hj0 : (0 : Int) ≤ (h : Int) := by omega
   obtain ⟨ad,A1,c1,e1,hx0,hx1,hc1,hr1⟩ := at_T79 (Kd.C_below HR.out HB.out) (h : Int) hj0 hci
   subst e1
   rw [Int.toNat_natCast] at hx0 hx1
   have hrd : rd_T79 l0 (h : Int) = l0[h] := by
    unfold rd_T79
    rw [Int.toNat_natCast,List.getD_eq_getElem?_getD,List.getElem?_eq_getElem hhl];rfl
   rw [hrd] at hx0 hx1 hr1 hc1
   by_cases hv : l0[h].f0 < a1
   ·have hhm : h < m := by
     by_cases q : h < m
     ·exact q
     ·have := H2.out h hhl (by omega)
      exact absurd hv (by omega)
    have hcall : ∀ W,Kd.C k92 W A1 l0[h].f1.length l0[h].f1 → Calls Try.prog 127 #[.agg #[.int .i64 l0[h].f0,.slice A1 l0[h].f1.length c1],.int .i64 a1] W fun e w' => e = .returned (.int .i64 (-1)) ∧ Below W.heap.size W w' := fun W hW => impl_Machine_replace_1.calls _ A1 c1 _ a1 (-1) W hW hc1 (by rw [cmp_val_,if_pos hv])
    generalize l0[h] = x at *
    go_wp2_with (go_at_call 127;refine (hcall _ hr1).mono ?_;rintro e w4 ⟨rfl,hb4⟩;have B4 := Aside0.mk hb4;clear hb4)
    go_roundg (j - (h + 1))
    case measure => omega
    case rel => exact ⟨h + 1,j,by have hb_ := HS.out;have e_ : wrap64 ((h : Int) + 1) = ((h + 1 : Nat) : Int) := (by rw [← i64_w,IntKind.wrap_i64];omega);rw [e_],rfl,by omega,by omega,by omega,by omega,⟨below_step HB.out B4.out⟩⟩
   ·have hhm : m ≤ h := by
     by_cases q : m ≤ h
     ·exact q
     ·have := H1.out h hhl (by omega)
      exact absurd this hv
    obtain ⟨r,hr,hr0⟩ : ∃ r : Int,impl_Machine_replace_1.f l0[h].f0 l0[h].f1 a1 = some r ∧ ¬ r < 0 := by
     rw [cmp_val_,if_neg hv]
     by_cases q : l0[h].f0 > a1
     ·exact ⟨1,by rw [if_pos q],by omega⟩
     ·exact ⟨0,by rw [if_neg q],by omega⟩
    have hcall : ∀ W,Kd.C k92 W A1 l0[h].f1.length l0[h].f1 → Calls Try.prog 127 #[.agg #[.int .i64 l0[h].f0,.slice A1 l0[h].f1.length c1],.int .i64 a1] W fun e w' => e = .returned (.int .i64 r) ∧ Below W.heap.size W w' := fun W hW => impl_Machine_replace_1.calls _ A1 c1 _ a1 r W hW hc1 hr
    clear hr
    generalize l0[h] = x at *
    have hrb : decide (r < 0) = false := decide_eq_false hr0
    go_wp2_with (go_at_call 127;refine (hcall _ hr1).mono ?_;rintro e w4 ⟨rfl,hb4⟩;have B4 := Aside0.mk hb4;clear hb4)
    go_roundg (h - i)
    case measure => omega
    case rel => exact ⟨i,h,rfl,rfl,by omega,by omega,by omega,by omega,⟨below_step HB.out B4.out⟩⟩
  ·have hij : i = j := by omega
   subst hij
   have him2 : i = m := by omega
   subst him2
   have hltz : ¬ (i : Int) < (i : Int) := by omega
   by_cases hl : i < l0.length
   ·have hci : (i : Int) < (l0.length : Int) := by omega
    have hj0 : (0 : Int) ≤ (i : Int) := by omega
    obtain ⟨ad,A1,c1,e1,hx0,hx1,hc1,hr1⟩ := at_T79 (Kd.C_below HR.out HB.out) (i : Int) hj0 hci
    subst e1
    rw [Int.toNat_natCast] at hx0 hx1
    have hrd : rd_T79 l0 (i : Int) = l0[i] := by
     unfold rd_T79
     rw [Int.toNat_natCast,List.getD_eq_getElem?_getD,List.getElem?_eq_getElem hl];rfl
    rw [hrd] at hx0 hx1 hr1 hc1
    obtain ⟨r,hr,hr0⟩ : ∃ r : Int,impl_Machine_replace_1.f l0[i].f0 l0[i].f1 a1 = some r ∧ (r = 0 ↔ l0[i].f0 = a1) := by
     rw [cmp_val_,if_neg (by have := H2.out i hl (Nat.le_refl _);omega)]
     by_cases q : l0[i].f0 > a1
     ·exact ⟨1,by rw [if_pos q],by omega⟩
     ·have := H2.out i hl (Nat.le_refl _)
      exact ⟨0,by rw [if_neg q],by omega⟩
    have hcall : ∀ W,Kd.C k92 W A1 l0[i].f1.length l0[i].f1 → Calls Try.prog 127 #[.agg #[.int .i64 l0[i].f0,.slice A1 l0[i].f1.length c1],.int .i64 a1] W fun e w' => e = .returned (.int .i64 r) ∧ Below W.heap.size W w' := fun W hW => impl_Machine_replace_1.calls _ A1 c1 _ a1 r W hW hc1 hr
    have HE : Aside0 ((r == 0) = decide (∃ ht : i < l0.length,l0[i].f0 = a1)) := ⟨by
     by_cases q : r = 0
     ·rw [decide_eq_true (show ∃ ht : i < l0.length,l0[i].f0 = a1 from ⟨hl,hr0.1 q⟩)];simpa using q
     ·rw [decide_eq_false (show ¬ ∃ ht : i < l0.length,l0[i].f0 = a1 from fun ⟨_,h⟩ => q (hr0.2 h))];simpa using q⟩
    clear hr hr0 hrd
    obtain ⟨x,hx_⟩ : ∃ x,x = l0[i] := ⟨_,rfl⟩
    rw [← hx_] at hx0 hx1 hr1 hc1 hcall
    clear hx_
    go_wp2_with (go_at_call 127;refine (hcall _ hr1).mono ?_;rintro e w4 ⟨rfl,hb4⟩;have B4 := Aside0.mk hb4;clear hb4)
    go_ret2
    exact ⟨congrArg (fun b => Ending.returned (.tuple #[.int .i64 (i : Int),.bool b])) HE.out,below_step HB.out B4.out⟩
   ·have hci : ¬ (i : Int) < (l0.length : Int) := by omega
    have HE : Aside0 (decide (∃ ht : i < l0.length,l0[i].f0 = a1) = false) := ⟨decide_eq_false (fun ⟨h,_⟩ => hl h)⟩
    go_wp2
    go_ret2
    exact ⟨congrArg (fun b => Ending.returned (.tuple #[.int .i64 (i : Int),.bool b])) (by first|exact HE.out.symm|exact (decide_eq_false (fun ⟨h,_⟩ => h)).symm),HB.out⟩

-- NOT PRINTED: function 145 (impl_Copy_145)

-- NOT PRINTED: function 164 (impl_Copy_164)

-- NOT PRINTED: function 157 (impl_Copy_157)

-- NOT PRINTED: function 146 (impl_Copy_146)

end Go.Proofs.Ythplaakckfhaaaa.XRp
