/- Proved: a call of each Go function here comes to what its Lean function tells. -/
import Derived.Test.YthplaakckfhaaaaGreatXMs0
import Derived.Test.YthplaakckfhaaaaGreatXMs3
import Derived.Test.YthplaakckfhaaaaGreatXMs6
import Derived.Test.YthplaakckfhaaaaGreatXMs7
import Derived.Test.YthplaakckfhaaaaGreatXMs8
import Derived.Test.YthplaakckfhaaaaGreatXMs9
import Derived.Test.YthplaakckfhaaaaGreatXMs10
namespace Go.Proofs.YthplaakckfhaaaaGreat.XMs
open Go.RowKit Go.Proofs.YthplaakckfhaaaaGreat.Aid Go.Proofs.YthplaakckfhaaaaGreatW.PrintWords Go.Proofs.YthplaakckfhaaaaGreatW.PrintLast Go.Proofs.YthplaakckfhaaaaGreatW.PrintMore
set_option linter.unusedVariables false
set_option maxHeartbeats 8000000
set_option maxRecDepth 100000
set_option linter.unusedSimpArgs false

/-! ### cmp_Compare_int64: function 103 -/
def cmp_Compare_int64.f (a0 : Int) (a1 : Int) : Option (Int) := (cmp_isNaN_int64.f a0).bind fun t254 => ((cmp_isNaN_int64.f a1).bind fun t255 => (if t254 = true then (if t255 = true then (some 0) else (some (-1))) else (if t255 = true then (some 1) else (if a0 < a1 then (some (-1)) else (if a0 > a1 then (some 1) else (some 0))))))
theorem cmp_Compare_int64.calls (a0 : Int) (a1 : Int) (r : Int) (w : World) (h : cmp_Compare_int64.f a0 a1 = some r) :
    Calls Tryz.prog 103 #[.int .i64 a0, .int .i64 a1] w fun e w' => e = .returned (.int .i64 r) ∧ Drawn0 w w' := by
 have H : ((cmp_isNaN_int64.f a0).bind fun t254 => ((cmp_isNaN_int64.f a1).bind fun t255 => (if t254 = true then (if t255 = true then (some 0) else (some (-1))) else (if t255 = true then (some 1) else (if a0 < a1 then (some (-1)) else (if a0 > a1 then (some 1) else (some 0))))))) = some r := h
 clear h
 replace H := bs_ H
 obtain ⟨t254,A3,H⟩ := H
 replace H := bs_ H
 obtain ⟨t255,A4,H⟩ := H
 by_cases c5 : t254 = true
 ·subst c5
  replace H := it_ H
  by_cases c6 : t255 = true
  ·subst c6
   replace H := it_ H
   obtain rfl := Option.some.inj H
   go_enter Tryz.func103,Tryz.ntmps103
   go_wp2_with (first|((with_reducible refine gcal_ (f := 135) rfl ?_);refine gl_ (some 8) Tryz.func135 #[.int .i64 a0] ?_;(with_reducible refine (cmp_isNaN_int64.calls a0 true _ A3.out).mono ?_);rintro e w' ⟨rfl,⟨nd,rfl⟩⟩;refine ⟨_,rfl,?_⟩)|((with_reducible refine gcal_ (f := 135) rfl ?_);refine gl_ (some 10) Tryz.func135 #[.int .i64 a1] ?_;(with_reducible refine (cmp_isNaN_int64.calls a1 true _ A4.out).mono ?_);rintro e w' ⟨rfl,⟨nd,rfl⟩⟩;refine ⟨_,rfl,?_⟩))
   go_ret
   exact ⟨rs_,by repeat (first|exact Drawn0.refl _|apply Drawn0.step)⟩
  ·replace c6 := Bool.eq_false_iff.mpr c6
   subst c6
   replace H := ie_ H
   obtain rfl := Option.some.inj H
   go_enter Tryz.func103,Tryz.ntmps103
   go_wp2_with (first|((with_reducible refine gcal_ (f := 135) rfl ?_);refine gl_ (some 8) Tryz.func135 #[.int .i64 a0] ?_;(with_reducible refine (cmp_isNaN_int64.calls a0 true _ A3.out).mono ?_);rintro e w' ⟨rfl,⟨nd,rfl⟩⟩;refine ⟨_,rfl,?_⟩)|((with_reducible refine gcal_ (f := 135) rfl ?_);refine gl_ (some 10) Tryz.func135 #[.int .i64 a1] ?_;(with_reducible refine (cmp_isNaN_int64.calls a1 false _ A4.out).mono ?_);rintro e w' ⟨rfl,⟨nd,rfl⟩⟩;refine ⟨_,rfl,?_⟩))
   go_ret
   exact ⟨rs_,by repeat (first|exact Drawn0.refl _|apply Drawn0.step)⟩
 ·replace c5 := Bool.eq_false_iff.mpr c5
  subst c5
  replace H := ie_ H
  by_cases c7 : t255 = true
  ·subst c7
   replace H := it_ H
   obtain rfl := Option.some.inj H
   go_enter Tryz.func103,Tryz.ntmps103
   go_wp2_with (first|((with_reducible refine gcal_ (f := 135) rfl ?_);refine gl_ (some 8) Tryz.func135 #[.int .i64 a0] ?_;(with_reducible refine (cmp_isNaN_int64.calls a0 false _ A3.out).mono ?_);rintro e w' ⟨rfl,⟨nd,rfl⟩⟩;refine ⟨_,rfl,?_⟩)|((with_reducible refine gcal_ (f := 135) rfl ?_);refine gl_ (some 10) Tryz.func135 #[.int .i64 a1] ?_;(with_reducible refine (cmp_isNaN_int64.calls a1 true _ A4.out).mono ?_);rintro e w' ⟨rfl,⟨nd,rfl⟩⟩;refine ⟨_,rfl,?_⟩))
   go_ret
   exact ⟨rs_,by repeat (first|exact Drawn0.refl _|apply Drawn0.step)⟩
  ·replace c7 := Bool.eq_false_iff.mpr c7
   subst c7
   replace H := ie_ H
   by_cases c8 : a0 < a1
   ·rw [if_pos c8] at H
    have c8b0 : decide (a0 < a1) = true := decide_eq_true c8
    clear c8
    obtain rfl := Option.some.inj H
    go_enter Tryz.func103,Tryz.ntmps103
    go_wp2_with (first|((with_reducible refine gcal_ (f := 135) rfl ?_);refine gl_ (some 8) Tryz.func135 #[.int .i64 a0] ?_;(with_reducible refine (cmp_isNaN_int64.calls a0 false _ A3.out).mono ?_);rintro e w' ⟨rfl,⟨nd,rfl⟩⟩;refine ⟨_,rfl,?_⟩)|((with_reducible refine gcal_ (f := 135) rfl ?_);refine gl_ (some 10) Tryz.func135 #[.int .i64 a1] ?_;(with_reducible refine (cmp_isNaN_int64.calls a1 false _ A4.out).mono ?_);rintro e w' ⟨rfl,⟨nd,rfl⟩⟩;refine ⟨_,rfl,?_⟩))
    go_ret
    exact ⟨rs_,by repeat (first|exact Drawn0.refl _|apply Drawn0.step)⟩
   ·rw [if_neg c8] at H
    have c8b0 : decide (a0 < a1) = false := decide_eq_false c8
    clear c8
    by_cases c9 : a0 > a1
    ·rw [if_pos c9] at H
     have c9b0 : decide (a1 < a0) = true := decide_eq_true c9
     clear c9
     obtain rfl := Option.some.inj H
     go_enter Tryz.func103,Tryz.ntmps103
     go_wp2_with (first|((with_reducible refine gcal_ (f := 135) rfl ?_);refine gl_ (some 8) Tryz.func135 #[.int .i64 a0] ?_;(with_reducible refine (cmp_isNaN_int64.calls a0 false _ A3.out).mono ?_);rintro e w' ⟨rfl,⟨nd,rfl⟩⟩;refine ⟨_,rfl,?_⟩)|((with_reducible refine gcal_ (f := 135) rfl ?_);refine gl_ (some 10) Tryz.func135 #[.int .i64 a1] ?_;(with_reducible refine (cmp_isNaN_int64.calls a1 false _ A4.out).mono ?_);rintro e w' ⟨rfl,⟨nd,rfl⟩⟩;refine ⟨_,rfl,?_⟩))
     go_ret
     exact ⟨rs_,by repeat (first|exact Drawn0.refl _|apply Drawn0.step)⟩
    ·rw [if_neg c9] at H
     have c9b0 : decide (a1 < a0) = false := decide_eq_false c9
     clear c9
     obtain rfl := Option.some.inj H
     go_enter Tryz.func103,Tryz.ntmps103
     go_wp2_with (first|((with_reducible refine gcal_ (f := 135) rfl ?_);refine gl_ (some 8) Tryz.func135 #[.int .i64 a0] ?_;(with_reducible refine (cmp_isNaN_int64.calls a0 false _ A3.out).mono ?_);rintro e w' ⟨rfl,⟨nd,rfl⟩⟩;refine ⟨_,rfl,?_⟩)|((with_reducible refine gcal_ (f := 135) rfl ?_);refine gl_ (some 10) Tryz.func135 #[.int .i64 a1] ?_;(with_reducible refine (cmp_isNaN_int64.calls a1 false _ A4.out).mono ?_);rintro e w' ⟨rfl,⟨nd,rfl⟩⟩;refine ⟨_,rfl,?_⟩))
     go_ret
     exact ⟨rs_,by repeat (first|exact Drawn0.refl _|apply Drawn0.step)⟩

/-! ### impl_Machine_replace_1: function 102 -/
def impl_Machine_replace_1.f (a0_0 : Int) (l0_1 : List (S87)) (a1 : Int) : Option (Int) := (cmp_Compare_int64.f a0_0 a1).bind fun t257 => (some t257)
theorem impl_Machine_replace_1.calls (a0_0 : Int) (A0_1 : Option Addr) (c0_1 : Nat) (l0_1 : List (S87)) (a1 : Int) (r : Int) (w : World) (hr0_1 : Kd.C k87 w A0_1 l0_1.length l0_1) (hc0_1 : l0_1.length ≤ c0_1) (h : impl_Machine_replace_1.f a0_0 l0_1 a1 = some r) :
    Calls Tryz.prog 102 #[.agg #[.int .i64 a0_0, .slice A0_1 l0_1.length c0_1], .int .i64 a1] w fun e w' => e = .returned (.int .i64 r) ∧ Below w.heap.size w w' := by
 have hu83 := Tryz.underlying83
 have HR0_1 := ak hr0_1
 have HC0_1 := ak hc0_1
 clear hr0_1 hc0_1
 have HB := ak (Below.refl w.heap.size w)
 have H : ((cmp_Compare_int64.f a0_0 a1).bind fun t257 => (some t257)) = some r := h
 clear h
 replace H := bs_ H
 obtain ⟨t257,A3,H⟩ := H
 obtain rfl := Option.some.inj H
 go_enter Tryz.func102,Tryz.ntmps102
 go_wp2_with (first|((with_reducible refine gate_dst (N := 2) rfl ?_);refine bx_ 2 #[.int .i64 a0_0,.slice A0_1 l0_1.length c0_1] 83 ?_;intro gb256 hg w4 hbox hb;replace HB := nb_ hg hbox hb;obtain ⟨BK256,GW256,GE256,HB⟩ := HB;clear hb hbox hg;obtain ⟨⟨hcz5_0,hcz5_1⟩,hfz5_0,hfz5_1⟩ := cl2_ BK256.out)|((with_reducible refine gcal_ (f := 103) rfl ?_);refine gl_ (some 8) Tryz.func103 #[.int .i64 a0_0,.int .i64 a1] ?_;(with_reducible refine (cmp_Compare_int64.calls a0_0 a1 t257 _ A3.out).mono ?_);rintro e w' ⟨rfl,⟨nd,rfl⟩⟩;refine ⟨_,rfl,?_⟩))
 go_ret
 exact ⟨rf_,b_⟩

/-! ### slices_BinarySearchFunc_Copy: function 101 -/
theorem cmp_val_ (a : Int) (l : List S87) (b : Int) : impl_Machine_replace_1.f a l b = some (if a < b then -1 else if a > b then 1 else 0) := by
 simp only [impl_Machine_replace_1.f,cmp_Compare_int64.f,cmp_isNaN_int64.f,Option.bind_some,bne_self_eq_false,Bool.false_eq_true,if_false]
 by_cases h1 : a < b
 ·rw [if_pos h1,if_pos h1];rfl
 ·rw [if_neg h1,if_neg h1]
  by_cases h2 : a > b
  ·rw [if_pos h2,if_pos h2];rfl
  ·rw [if_neg h2,if_neg h2];rfl
theorem midz_ (i j : Nat) (h : i + j ≤ 4611686018427387904) : IntKind.i64.wrap ((IntKind.u64.wrap (wrap64 ((i : Int) + (j : Int)))) / 2) = (((i + j) / 2 : Nat) : Int) := by
 have e0 : wrap64 ((i : Int) + (j : Int)) = (i : Int) + (j : Int) := by rw [← i64_w,IntKind.wrap_i64];omega
 have e : IntKind.u64.wrap ((i : Int) + (j : Int)) = (i : Int) + (j : Int) := by
  simp only [IntKind.wrap,IntKind.bits,IntKind.signed,Bool.false_and,Bool.false_eq_true,if_false]
  omega
 rw [e0,e,IntKind.wrap_i64]
 omega
theorem slices_BinarySearchFunc_Copy.calls (A0 : Option Addr) (c0 : Nat) (l0 : List S83) (a1 : Int) (m : Nat) (hm : m ≤ l0.length) (h1 : ∀ t (ht : t < l0.length), t < m → l0[t].f0 < a1) (h2 : ∀ t (ht : t < l0.length), m ≤ t → ¬ l0[t].f0 < a1) (w : World) (hr0 : Kd.C k83 w A0 l0.length l0) (hc0 : l0.length ≤ c0) (hs : l0.length < 1152921504606846976) :
    Calls Tryz.prog 101 #[.slice A0 l0.length c0, .int .i64 a1, .func (.func 102) #[] #[]] w fun e w' => e = .returned (.tuple #[.int .i64 (m : Int), .bool (decide (∃ ht : m < l0.length, l0[m].f0 = a1))]) ∧ Below w.heap.size w w' := by
 have hu := Tryz.underlying83
 have HR := ak hr0
 have HC := ak hc0
 have H1 := ak h1
 have H2 := ak h2
 have HM := ak hm
 have HS := ak hs
 clear hr0 h1 h2 hm hs
 go_enter Tryz.func101,Tryz.ntmps101
 go_wp2
 go_loopg [9,10] l0.length (fun gg v9 v10 wr => ∃ (i j : Nat),v9 = .int .i64 i ∧ v10 = .int .i64 j ∧ i ≤ m ∧ m ≤ j ∧ j ≤ l0.length ∧ j - i ≤ gg ∧ Aside0 (Below w.heap.size w wr))
 case atStart => exact ⟨0,l0.length,rfl,rfl,Nat.zero_le _,HM.out,Nat.le_refl _,by omega,⟨Below.refl _ _⟩⟩
 case round =>
  obtain ⟨i,j,rfl,rfl,him,hmj,hjl,hgg,HB⟩ := hrel
  by_cases hlt : i < j
  ·have hltz : (i : Int) < (j : Int) := by omega
   obtain ⟨h,hh⟩ : ∃ h,h = (i + j) / 2 := ⟨_,rfl⟩
   have hmid := midz_ i j (by have := HS.out;omega)
   rw [← hh] at hmid
   have hhl : h < l0.length := by omega
   have hlo : i ≤ h := by omega
   have hhi : h < j := by omega
   clear hh
   have hci : (h : Int) < (l0.length : Int) := by omega
   have hj0 : (0 : Int) ≤ (h : Int) := by omega
   obtain ⟨ad,A1,c1,e1,hx0,hx1,hc1,hr1⟩ := at_T83 (Kd.C_below HR.out HB.out) (h : Int) hj0 hci
   subst e1
   rw [Int.toNat_natCast] at hx0 hx1
   have hrd : rd_T83 l0 (h : Int) = l0[h] := by
    unfold rd_T83
    rw [Int.toNat_natCast,List.getD_eq_getElem?_getD,List.getElem?_eq_getElem hhl];rfl
   rw [hrd] at hx0 hx1 hr1 hc1
   by_cases hv : l0[h].f0 < a1
   ·have hhm : h < m := by
     by_cases q : h < m
     ·exact q
     ·have := H2.out h hhl (by omega)
      exact absurd hv (by omega)
    have hcall : ∀ W,Kd.C k87 W A1 l0[h].f1.length l0[h].f1 → Calls Tryz.prog 102 #[.agg #[.int .i64 l0[h].f0,.slice A1 l0[h].f1.length c1],.int .i64 a1] W fun e w' => e = .returned (.int .i64 (-1)) ∧ Below W.heap.size W w' := fun W hW => impl_Machine_replace_1.calls _ A1 c1 _ a1 (-1) W hW hc1 (by rw [cmp_val_,if_pos hv])
    generalize l0[h] = x at *
    go_wp2_with (go_at_call 102;refine (hcall _ hr1).mono ?_;rintro e w4 ⟨rfl,hb4⟩;have B4 := ak hb4;clear hb4)
    go_roundg (j - (h + 1))
    case measure => omega
    case rel => exact ⟨h + 1,j,by have hb_ := HS.out;have e_ : wrap64 ((h : Int) + 1) = ((h + 1 : Nat) : Int) := (by rw [← i64_w,IntKind.wrap_i64];omega);rw [e_],rfl,by omega,by omega,by omega,by omega,⟨below_step HB.out B4.out⟩⟩
   ·have hhm : m ≤ h := by
     by_cases q : m ≤ h
     ·exact q
     ·have := H1.out h hhl (by omega)
      exact absurd this hv
    obtain ⟨r,hr,hr0⟩ : ∃ r : Int,impl_Machine_replace_1.f l0[h].f0 l0[h].f1 a1 = some r ∧ ¬ r < 0 := by
     rw [cmp_val_,if_neg hv]
     by_cases q : l0[h].f0 > a1
     ·exact ⟨1,by rw [if_pos q],by omega⟩
     ·exact ⟨0,by rw [if_neg q],by omega⟩
    have hcall : ∀ W,Kd.C k87 W A1 l0[h].f1.length l0[h].f1 → Calls Tryz.prog 102 #[.agg #[.int .i64 l0[h].f0,.slice A1 l0[h].f1.length c1],.int .i64 a1] W fun e w' => e = .returned (.int .i64 r) ∧ Below W.heap.size W w' := fun W hW => impl_Machine_replace_1.calls _ A1 c1 _ a1 r W hW hc1 hr
    clear hr
    generalize l0[h] = x at *
    have hrb : decide (r < 0) = false := decide_eq_false hr0
    go_wp2_with (go_at_call 102;refine (hcall _ hr1).mono ?_;rintro e w4 ⟨rfl,hb4⟩;have B4 := ak hb4;clear hb4)
    go_roundg (h - i)
    case measure => omega
    case rel => exact ⟨i,h,rfl,rfl,by omega,by omega,by omega,by omega,⟨below_step HB.out B4.out⟩⟩
  ·have hij : i = j := by omega
   subst hij
   have him2 : i = m := by omega
   subst him2
   have hltz : ¬ (i : Int) < (i : Int) := by omega
   by_cases hl : i < l0.length
   ·have hci : (i : Int) < (l0.length : Int) := by omega
    have hj0 : (0 : Int) ≤ (i : Int) := by omega
    obtain ⟨ad,A1,c1,e1,hx0,hx1,hc1,hr1⟩ := at_T83 (Kd.C_below HR.out HB.out) (i : Int) hj0 hci
    subst e1
    rw [Int.toNat_natCast] at hx0 hx1
    have hrd : rd_T83 l0 (i : Int) = l0[i] := by
     unfold rd_T83
     rw [Int.toNat_natCast,List.getD_eq_getElem?_getD,List.getElem?_eq_getElem hl];rfl
    rw [hrd] at hx0 hx1 hr1 hc1
    obtain ⟨r,hr,hr0⟩ : ∃ r : Int,impl_Machine_replace_1.f l0[i].f0 l0[i].f1 a1 = some r ∧ (r = 0 ↔ l0[i].f0 = a1) := by
     rw [cmp_val_,if_neg (by have := H2.out i hl (Nat.le_refl _);omega)]
     by_cases q : l0[i].f0 > a1
     ·exact ⟨1,by rw [if_pos q],by omega⟩
     ·have := H2.out i hl (Nat.le_refl _)
      exact ⟨0,by rw [if_neg q],by omega⟩
    have hcall : ∀ W,Kd.C k87 W A1 l0[i].f1.length l0[i].f1 → Calls Tryz.prog 102 #[.agg #[.int .i64 l0[i].f0,.slice A1 l0[i].f1.length c1],.int .i64 a1] W fun e w' => e = .returned (.int .i64 r) ∧ Below W.heap.size W w' := fun W hW => impl_Machine_replace_1.calls _ A1 c1 _ a1 r W hW hc1 hr
    have HE : Aside0 ((r == 0) = decide (∃ ht : i < l0.length,l0[i].f0 = a1)) := ⟨by
     by_cases q : r = 0
     ·rw [decide_eq_true (show ∃ ht : i < l0.length,l0[i].f0 = a1 from ⟨hl,hr0.1 q⟩)];simpa using q
     ·rw [decide_eq_false (show ¬ ∃ ht : i < l0.length,l0[i].f0 = a1 from fun ⟨_,h⟩ => q (hr0.2 h))];simpa using q⟩
    clear hr hr0 hrd
    obtain ⟨x,hx_⟩ : ∃ x,x = l0[i] := ⟨_,rfl⟩
    rw [← hx_] at hx0 hx1 hr1 hc1 hcall
    clear hx_
    go_wp2_with (go_at_call 102;refine (hcall _ hr1).mono ?_;rintro e w4 ⟨rfl,hb4⟩;have B4 := ak hb4;clear hb4)
    go_ret2
    exact ⟨congrArg (fun b => Ending.returned (.tuple #[.int .i64 (i : Int),.bool b])) HE.out,below_step HB.out B4.out⟩
   ·have hci : ¬ (i : Int) < (l0.length : Int) := by omega
    have HE : Aside0 (decide (∃ ht : i < l0.length,l0[i].f0 = a1) = false) := ⟨decide_eq_false (fun ⟨h,_⟩ => hl h)⟩
    go_wp2
    go_ret2
    exact ⟨congrArg (fun b => Ending.returned (.tuple #[.int .i64 (i : Int),.bool b])) (by first|exact HE.out.symm|exact (decide_eq_false (fun ⟨h,_⟩ => h)).symm),HB.out⟩

-- NOT PRINTED: function 136 (impl_Copy_136)

-- NOT PRINTED: function 151 (impl_Copy_151)

-- NOT PRINTED: function 148 (impl_Copy_148)

-- NOT PRINTED: function 137 (impl_Copy_137)

/-! ### words for slices.Insert at a struct: a row of rows of cells, laid flat -/
theorem flat_rows_ {s : Nat} : ∀ (rows : List (List Value)) (inner : List Value), inner.length = rows.length * s → (∀ j p, rows[j]? = some p → (inner.drop (j * s)).take s = p) → inner = rows.flatten
  | [], inner, hl, _ => by
    have : inner.length = 0 := by simpa using hl
    rw [List.length_eq_zero_iff.1 this];rfl
  | r :: rows, inner, hl, h => by
    have h0 := h 0 r rfl
    rw [Nat.zero_mul,List.drop_zero] at h0
    rw [List.length_cons,Nat.succ_mul] at hl
    have ih := flat_rows_ (s := s) rows (inner.drop s) (by rw [List.length_drop];omega) (fun j p hp => by
     have := h (j + 1) p (by simpa using hp)
     rwa [Nat.succ_mul,Nat.add_comm,← List.drop_drop] at this)
    rw [List.flatten_cons,← ih,← h0,List.take_append_drop]
theorem flat_at_ {s : Nat} : ∀ (rows : List (List Value)) (j : Nat) (p : List Value), (∀ r ∈ rows, r.length = s) → rows[j]? = some p → (rows.flatten.drop (j * s)).take s = p
  | [], j, p, _, h => by simp at h
  | r :: rows, j, p, hl, h => by
    have hr := hl r List.mem_cons_self
    cases j with
    | zero =>
     obtain rfl : r = p := by simpa using h
     rw [Nat.zero_mul,List.drop_zero,List.flatten_cons,List.take_append_of_le_length (by omega),List.take_of_length_le (by omega)]
    | succ j =>
     have ih := flat_at_ rows j p (fun r hr => hl r (List.mem_cons_of_mem _ hr)) (by simpa using h)
     rw [List.flatten_cons,Nat.succ_mul,Nat.add_comm,← List.drop_drop,List.drop_left' hr]
     exact ih
theorem flat_len_ {s : Nat} : ∀ (rows : List (List Value)), (∀ r ∈ rows, r.length = s) → rows.flatten.length = rows.length * s
  | [], _ => by simp
  | r :: rows, h => by
    rw [List.flatten_cons,List.length_append,flat_len_ rows (fun r hr => h r (List.mem_cons_of_mem _ hr)),h r List.mem_cons_self,List.length_cons,Nat.succ_mul,Nat.add_comm]
theorem flat_take_ {s : Nat} : ∀ (rows : List (List Value)) (i : Nat), (∀ r ∈ rows, r.length = s) → (rows.take i).flatten = rows.flatten.take (i * s)
  | [], i, _ => by simp
  | r :: rows, 0, _ => by simp
  | r :: rows, i + 1, h => by
    rw [List.take_succ_cons,List.flatten_cons,List.flatten_cons,flat_take_ rows i (fun r hr => h r (List.mem_cons_of_mem _ hr)),Nat.succ_mul,show i * s + s = r.length + i * s from by rw [h r List.mem_cons_self];omega,List.take_length_add_append]
theorem flat_drop_ {s : Nat} : ∀ (rows : List (List Value)) (i : Nat), (∀ r ∈ rows, r.length = s) → (rows.drop i).flatten = rows.flatten.drop (i * s)
  | [], i, _ => by simp
  | r :: rows, 0, _ => by simp
  | r :: rows, i + 1, h => by
    rw [List.drop_succ_cons,List.flatten_cons,flat_drop_ rows i (fun r hr => h r (List.mem_cons_of_mem _ hr)),Nat.succ_mul,show i * s + s = s + i * s from Nat.add_comm _ _,← List.drop_drop,List.drop_left' (h r List.mem_cons_self)]
/-- What a raw row's block holds. -/
theorem cells_of_rows_ {W : World} {e base s g n cap : Nat} {ok : Nat → Prop} {rows : List (List Value)} (h : (Kd.raw s).R e W base ok (.slice (some ⟨g, 0, none⟩) n cap) rows) : ∃ cur : Array Value, W.heap[g]? = some (.cells cur e (0, 0)) ∧ base ≤ g ∧ n ≤ cap ∧ cap ≤ maxLen ∧ cur.size = cap * s ∧ rows.length = n ∧ (∀ r ∈ rows, r.length = s ∧ ∀ u ∈ r, u.oneCell' = true) ∧ ∀ j (hj : j < rows.flatten.length), cur[j]? = some rows.flatten[j] := by
 have hn := (Kd.R_reads' h).1
 have hcap := (Kd.R_reads' h).2.1
 obtain ⟨_,inner,ho,hp⟩ := h
 have hrow : ∀ r ∈ rows,r.length = s ∧ ∀ u ∈ r,u.oneCell' = true := fun r hr => by
  obtain ⟨j,hj,rfl⟩ := List.getElem_of_mem hr
  have := hp.2 j _ (List.getElem?_eq_getElem hj)
  have h3 : (inner.drop (j * s)).take s = rows[j] ∧ ((inner.drop (j * s)).take s).length = s ∧ ∀ u ∈ (inner.drop (j * s)).take s,u.oneCell' = true := this
  rw [h3.1] at h3
  exact h3.2
 have hin : inner = rows.flatten := flat_rows_ (s := s) rows inner hp.1 (fun j p hj => (show (inner.drop (j * s)).take s = p ∧ _ from hp.2 j p hj).1)
 rcases ho.2 with ⟨hv,_⟩ | ⟨g',cap',cur,hv,hb,hh,hc1,hc2,hc3,hc4⟩
 ·cases hv
 ·injection hv with hv1 hv2 hv3
  injection hv1 with hv1
  injection hv1 with hv1
  subst hv1
  subst hv3
  refine ⟨cur,hh,hb,by omega,hc2,hc3,hn.symm,hrow,fun j hj => ?_⟩
  have e1 : cur.toList.take (rows.length * s) = inner := hc4
  have hl := flat_len_ rows (fun r hr => (hrow r hr).1)
  subst hin
  have e2 := congrArg (fun l => l[j]?) e1
  rw [List.getElem?_take_of_lt (by omega),List.getElem?_eq_getElem hj,Array.getElem?_toList] at e2
  exact e2
theorem rows_of_cells_ {W : World} {e base s g n cap : Nat} {ok : Nat → Prop} {rows : List (List Value)} {cur : Array Value} (hh : W.heap[g]? = some (.cells cur e (0, 0))) (hb : base ≤ g) (hg : ok g) (hn : n ≤ cap) (hc : cap ≤ maxLen) (hs : cur.size = cap * s) (hl : rows.length = n) (hr : ∀ r ∈ rows, r.length = s ∧ ∀ u ∈ r, u.oneCell' = true)
  (hx : ∀ j (hj : j < rows.flatten.length),cur[j]? = some rows.flatten[j]) : (Kd.raw s).R e W base ok (.slice (some ⟨g,0,none⟩) n cap) rows := by
 have hfl := flat_len_ rows (fun r h => (hr r h).1)
 have hcs : n * s ≤ cap * s := Nat.mul_le_mul_right _ hn
 have ht : cur.toList.take (rows.length * s) = rows.flatten := by
  apply List.ext_getElem
  ·have e1 : cur.toList.length = cap * s := by rw [← hs];simp
   rw [List.length_take,e1,hfl,hl];omega
  ·intro j h1 h2
   have := hx j h2
   rw [Array.getElem?_eq_getElem (by rw [hs];rw [hfl,hl] at h2;omega)] at this
   have e := Option.some.inj this
   rw [List.getElem_take,Array.getElem_toList]
   exact e
 refine ⟨fun k hk => ?_,rows.flatten,⟨by rw [hfl];rfl,.inr ⟨g,cap,cur,by rw [hl],hb,hh,by omega,hc,hs,ht⟩⟩,by rw [hfl];rfl,fun j p hj => ?_⟩
 ·have : g = k := by simpa [Value.ownBlock] using hk
  subst this;exact hg
 ·have hm := List.mem_of_getElem? hj
  have e := flat_at_ (s := s) rows j p (fun r h => (hr r h).1) hj
  show (rows.flatten.drop (j * s)).take s = p ∧ ((rows.flatten.drop (j * s)).take s).length = s ∧ ∀ u ∈ (rows.flatten.drop (j * s)).take s,u.oneCell' = true
  rw [e]
  exact ⟨rfl,hr p hm⟩
/-- The two copies of a row that takes cells in. -/
theorem insg_cells_ {W : World} {g e i : Nat} {cur : Array Value} {cs vs : List Value} (h : W.heap[g]? = some (.cells cur e (0, 0))) (hi : i ≤ cs.length) (hc : cs.length + vs.length ≤ cur.size) (hx : ∀ j (hj : j < cs.length), j < i → cur[j]? = some cs[j]) :
  ∃ cur' : Array Value,((W.setCells g (i + vs.length) (cs.drop i)).setCells g i vs).heap[g]? = some (.cells cur' e (0,0)) ∧ cur'.size = cur.size ∧ ∀ j (hj : j < (cs.take i ++ vs ++ cs.drop i).length),cur'[j]? = some (cs.take i ++ vs ++ cs.drop i)[j] := by
 obtain ⟨c1,a1,a2,a3,a4⟩ := heap_setCells_ g (cs.drop i) (i + vs.length) W cur e h (by rw [List.length_drop];omega)
 obtain ⟨c2,b1,b2,b3,b4⟩ := heap_setCells_ g vs i _ c1 e a1 (by rw [a2];omega)
 refine ⟨c2,b1,by rw [b2,a2],fun j hj => ?_⟩
 rw [← List.getElem?_eq_getElem hj,List.append_assoc]
 have hti : (cs.take i).length = i := by rw [List.length_take];omega
 by_cases h1 : j < i
 ·rw [b4 j (.inl h1),a4 j (.inl (by omega)),hx j (by omega) h1,List.getElem?_append_left (by omega),List.getElem?_take_of_lt h1,List.getElem?_eq_getElem]
 ·rw [List.getElem?_append_right (by omega),hti]
  obtain ⟨t,rfl⟩ : ∃ t,j = i + t := ⟨j - i,by omega⟩
  rw [show i + t - i = t from by omega]
  by_cases h2 : t < vs.length
  ·rw [b3 t h2,List.getElem?_append_left h2]
  ·obtain ⟨u,rfl⟩ : ∃ u,t = vs.length + u := ⟨t - vs.length,by omega⟩
   rw [b4 _ (.inr (by omega)),show i + (vs.length + u) = i + vs.length + u from by omega,a3 u (by rw [List.length_drop];rw [List.length_append,List.length_append,hti,List.length_drop] at hj;omega),List.getElem?_append_right (by omega),show vs.length + u - vs.length = u from by omega]
theorem insg_cells2_ {W : World} {g e i : Nat} {cur : Array Value} {cs vs : List Value} (h : W.heap[g]? = some (.cells cur e (0, 0))) (hi : i ≤ cs.length) (hc : cs.length + vs.length ≤ cur.size) (hx : ∀ j (hj : j < cs.length), j < i → cur[j]? = some cs[j]) :
  ∃ cur' : Array Value,(((W.setCells g i vs).drew).setCells g (i + vs.length) (cs.drop i)).heap[g]? = some (.cells cur' e (0,0)) ∧ cur'.size = cur.size ∧ ∀ j (hj : j < (cs.take i ++ vs ++ cs.drop i).length),cur'[j]? = some (cs.take i ++ vs ++ cs.drop i)[j] := by
 obtain ⟨c1,a1,a2,a3,a4⟩ := heap_setCells_ g vs i W cur e h (by omega)
 obtain ⟨c2,b1,b2,b3,b4⟩ := heap_setCells_ g (cs.drop i) (i + vs.length) ((W.setCells g i vs).drew) c1 e a1 (by rw [a2,List.length_drop];omega)
 refine ⟨c2,b1,by rw [b2,a2],fun j hj => ?_⟩
 rw [← List.getElem?_eq_getElem hj,List.append_assoc]
 have hti : (cs.take i).length = i := by rw [List.length_take];omega
 by_cases h1 : j < i
 ·rw [b4 j (.inl (by omega)),a4 j (.inl h1),hx j (by omega) h1,List.getElem?_append_left (by omega),List.getElem?_take_of_lt h1,List.getElem?_eq_getElem]
 ·rw [List.getElem?_append_right (by omega),hti]
  obtain ⟨t,rfl⟩ : ∃ t,j = i + t := ⟨j - i,by omega⟩
  rw [show i + t - i = t from by omega]
  by_cases h2 : t < vs.length
  ·rw [b4 _ (.inl (by omega)),a3 t h2,List.getElem?_append_left h2]
  ·obtain ⟨u,rfl⟩ : ∃ u,t = vs.length + u := ⟨t - vs.length,by omega⟩
   rw [show i + (vs.length + u) = i + vs.length + u from by omega,b3 u (by rw [List.length_drop];rw [List.length_append,List.length_append,hti,List.length_drop] at hj;omega),List.getElem?_append_right (by omega),show vs.length + u - vs.length = u from by omega]
theorem run_copy_rows_ {P : Program} (w : World) (dT sT ty elem : TypeId) (size b o dLen dCap : Nat) (a : Addr) (sLen sCap : Nat) (cs : List Value)
  (hu : P.underlying dT = some (.slice elem)) (hs : (P.info? elem).map (·.size) = some size) (hn : cs.length = Nat.min sLen dLen * size)
  (hsrc : ∀ j v,cs[j]? = some v → w.cell? (a.add j) = some v) (hc : ∀ j,j < cs.length → (w.cell? ⟨b,o + j,none⟩).isSome = true) (hf : ∀ j,j < cs.length → w.frozen? ⟨b,o + j,none⟩ = false) (h1 : ∀ v ∈ cs,v.oneCell' = true) :
  (Builtin.copy_ #[dT,sT] ty #[.slice (some ⟨b,o,none⟩) dLen dCap,.slice (some a) sLen sCap]).run P w = .ok (goInt (Nat.min sLen dLen : Nat)) (w.setCells b o cs) := by
 have hl := run_loadCells_list (P := P) w a cs hsrc
 have hst := run_storeCells_cells (P := P) b o cs 0 w (by simpa using hc) (by simpa using hf) h1
 cases hq : P.info? elem with
  | none => simp [hq] at hs
  | some i =>
  have hi : i.size = size := by simpa [hq] using hs
  simp only [Nat.add_zero] at hst
  simp [Builtin.copy_,run_underlying hu,Builtin.lenOf,Builtin.firstCells,sizeOf,typeInfo,hq,hi,← hn,hl,hst]
/-- The row with one element put in, out of its cells. -/
theorem ins_fin_ {α : Type} {d : Kd α} {e : Nat} {w w' : World} {base g' n cap' i : Nat} {okm okx ok' : Nat → Prop} {l0 : List α} {rows0 : List (List Value)} {f : Nat → Nat} {x : α} {cx : List Value} (hl : rows0.length = l0.length) (hi : i ≤ l0.length)
  (hM : ∀ j y c,l0[j]? = some y → rows0[j]? = some c → d.M w base (fun k => okm k ∧ f k = j) y c) (hx : d.M w base okx x cx) (hap : ∀ k,okx k → ¬ okm k)
  (hkm : ∀ k,okm k → k < w.heap.size → w'.heap[k]? = w.heap[k]?) (hkx : ∀ k,okx k → k < w.heap.size → w'.heap[k]? = w.heap[k]?)
  (hgm : ∀ k,okm k → ok' k ∧ k ≠ g') (hgx : ∀ k,okx k → ok' k ∧ k ≠ g') (hg : ok' g')
  (hR : (Kd.raw d.sz).R e w' base (fun _ => True) (.slice (some ⟨g',0,none⟩) n cap') (rows0.take i ++ [cx] ++ rows0.drop i)) : Kd.S d e w' base ok' (.slice (some ⟨g',0,none⟩) n cap') (l0.take i ++ [x] ++ l0.drop i) := by
 classical
 refine S_of_rows_ (fun k => if okx k then i else if f k < i then f k else f k + 1) (by simp [hl]) hg hR (fun j y c hy hc => ?_)
 have t1 : (l0.take i).length = i := by rw [List.length_take];omega
 have t2 : (rows0.take i).length = i := by rw [List.length_take];omega
 rw [List.append_assoc] at hy hc
 by_cases h1 : j < i
 ·rw [List.getElem?_append_left (by omega),List.getElem?_take_of_lt h1] at hy hc
  exact d.M_mono (fun k hk => ⟨hgm k hk.1,by
   show (if okx k then i else if f k < i then f k else f k + 1) = j
   rw [if_neg (fun h => hap k h hk.1),if_pos (by rw [hk.2];exact h1)];exact hk.2⟩) (Kd.M_step (hM j y c hy hc) (fun k hk hlt => hkm k hk.1 hlt))
 ·rw [List.getElem?_append_right (by omega),t1] at hy
  rw [List.getElem?_append_right (by omega),t2] at hc
  by_cases h2 : j = i
  ·subst h2
   rw [Nat.sub_self] at hy hc
   obtain rfl : x = y := by simpa using hy
   obtain rfl : cx = c := by simpa using hc
   exact d.M_mono (fun k hk => ⟨hgx k hk,if_pos hk⟩) (Kd.M_step hx (fun k hk hlt => hkx k hk hlt))
  ·obtain ⟨t,rfl⟩ : ∃ t,j = i + 1 + t := ⟨j - i - 1,by omega⟩
   rw [show i + 1 + t - i = t + 1 from by omega] at hy hc
   have hy2 : l0[i + t]? = some y := by simpa [List.getElem?_drop] using hy
   have hc2 : rows0[i + t]? = some c := by simpa [List.getElem?_drop] using hc
   exact d.M_mono (fun k hk => ⟨hgm k hk.1,by
    show (if okx k then i else if f k < i then f k else f k + 1) = i + 1 + t
    rw [if_neg (fun h => hap k h hk.1),hk.2,if_neg (by omega)];omega⟩) (Kd.M_step (hM (i + t) y c hy2 hc2) (fun k hk hlt => hkm k hk.1 hlt))
/-- The row with one element in another's place. -/
theorem set_fin_ {α : Type} {d : Kd α} {e : Nat} {w w' : World} {base g n cap i : Nat} {okm okx ok' : Nat → Prop} {l0 : List α} {rows0 : List (List Value)} {f : Nat → Nat} {x : α} {cx : List Value} (hl : rows0.length = l0.length) (hi : i < l0.length)
  (hM : ∀ j y c,l0[j]? = some y → rows0[j]? = some c → d.M w base (fun k => okm k ∧ f k = j) y c) (hx : d.M w base okx x cx) (hap : ∀ k,okx k → ¬ okm k)
  (hkm : ∀ k,okm k → k < w.heap.size → w'.heap[k]? = w.heap[k]?) (hkx : ∀ k,okx k → k < w.heap.size → w'.heap[k]? = w.heap[k]?)
  (hgm : ∀ k,okm k → ok' k ∧ k ≠ g) (hgx : ∀ k,okx k → ok' k ∧ k ≠ g) (hg : ok' g)
  (hR : (Kd.raw d.sz).R e w' base (fun _ => True) (.slice (some ⟨g,0,none⟩) n cap) (rows0.set i cx)) : Kd.S d e w' base ok' (.slice (some ⟨g,0,none⟩) n cap) (l0.set i x) := by
 classical
 refine S_of_rows_ (fun k => if okx k then i else f k) (by simp [hl]) hg hR (fun j y c hy hc => ?_)
 by_cases h2 : j = i
 ·subst h2
  rw [List.getElem?_set_self (by omega)] at hy hc
  obtain rfl := Option.some.inj hy
  obtain rfl := Option.some.inj hc
  exact d.M_mono (fun k hk => ⟨hgx k hk,if_pos hk⟩) (Kd.M_step hx (fun k hk hlt => hkx k hk hlt))
 ·rw [List.getElem?_set_ne (fun h => h2 h.symm)] at hy hc
  exact d.M_mono (fun k hk => ⟨hgm k hk.1,by
   show (if okx k then i else f k) = j
   rw [if_neg (fun h => hap k h hk.1)];exact hk.2⟩) (Kd.M_step (hM j y c hy hc) (fun k hk hlt => hkm k hk.1 hlt))
/-! ### slices_Insert_Copy: function 104: one element is put in -/
def repPost (P0_ okx : Nat → Prop) (l0 : List S83) (i : Nat) (x : S83) (w0 w : World) (e : Ending) (w' : World) : Prop := ∃ A' c', e = .returned (.slice A' (l0.length + 1) c') ∧ Kd.S k83 83 w' w0.heap.size (fun k_ => (P0_ k_ ∨ okx k_) ∨ w.heap.size ≤ k_) (.slice A' (l0.length + 1) c') (l0.take i ++ [x] ++ l0.drop i) ∧ Below w0.heap.size w0 w' ∧ Kept w w' P0_
theorem valC_ {w : World} {gv : Nat} {x0 x1 : Value} (hv : w.heap[gv]? = some (.cells #[x0, x1] 83 (0, 0))) (h1 : x0.oneCell' = true ∧ x1.oneCell' = true) : (Kd.raw 2).C w (some ⟨gv, 0, none⟩) 1 [[x0, x1]] :=
 (Kd.R_reads' (rows_of_cells_ (base := 0) (ok := fun _ => True) (s := 2) (cap := 1) (rows := [[x0,x1]]) hv (Nat.zero_le _) trivial (Nat.le_refl 1) (by decide) rfl rfl (fun r hr => by
  rw [List.mem_singleton.1 hr]
  exact ⟨rfl,fun u hu => by
   rcases List.mem_cons.1 hu with e | e
   ·rw [e];exact h1.1
   ·rw [List.mem_singleton.1 e];exact h1.2⟩) (by
  intro j hj
  match j,hj with
    | 0, _ => rfl
    | 1, _ => rfl))).2.2
theorem rep_end_ (P0_ okx : Nat → Prop) (A0 : Option Addr) (c0 : Nat) (l0 : List S83) (i : Nat) (x : S83) (x0 x1 : Value) (gv : Nat) (w0 w : World) (hB : Below w0.heap.size w0 w) (hP : ¬ P0_ gv) (hv : w.heap[gv]? = some (.cells #[x0, x1] 83 (0, 0))) (hx : k83.M w w0.heap.size okx x [x0, x1]) (h1x : x0.oneCell' = true ∧ x1.oneCell' = true) (hxP : ∀ k, okx k → ¬ P0_ k) (hxb : ∀ k, okx k → k < w.heap.size) (hPb : ∀ k, P0_ k → k < w.heap.size) (ho : Kd.S k83 83 w w0.heap.size P0_ (.slice A0 l0.length c0) l0) (hs : l0.length < 4398046511103) (hi : i = l0.length) :
    Calls Tryz.prog 104 #[.slice A0 l0.length c0, .int .i64 (i : Int), .slice (some ⟨gv, 0, none⟩) 1 1] w (repPost P0_ okx l0 i x w0 w) := by
 subst hi
 have HX := ak (valC_ hv h1x)
 have HM := ak hx
 have HB := ak hB
 have HO := ak ho
 have XP := ak hxP
 have XB := ak hxb
 have PB := ak hPb
 have hw0 := hB.size
 clear hx hB hxP hxb hPb h1x
 cases A0 with
  | none =>
  have hnil : l0.length = 0 ∧ c0 = 0 := by
   rcases (Kd.S_R HO.out).2 with ⟨inner,hown,_⟩
   rcases hown.2 with ⟨he,hn⟩ | ⟨g,cap,cur,he,_⟩
   ·injection he with _ h2 h3;exact ⟨h2,h3⟩
   ·cases he
  obtain ⟨h1,rfl⟩ := hnil
  have h0 : l0 = [] := List.length_eq_zero_iff.1 h1
  subst h0
  have hR : (Kd.raw 2).R 83 w w0.heap.size (fun _ => True) (.slice none 0 0) ([] : List (List Value)) := Kd.R_nil _ _ _ _ _
  clear ho
  go_enter Tryz.func104,Tryz.ntmps104
  go_wp2_with ((with_reducible refine gblt_ (b := .append) (xs := #[.tmp 23,.tmp 24]) rfl ?_);at_builtin;refine Kd.R_append_rows (Kd.raw 2) (w0 := w0) w0.heap.size rfl (.tmp 23) (.tmp 24) 28 83 (.agg #[.int .i64 0,.slice none 0 0]) 32 rfl Tryz.underlying28 info83 rfl (by decide) (by omega) (.slice none 0 0) [] [[x0,x1]] _ _ _ (fun _ => True) (fun _ => False) rfl rfl hR HX.out (fun _ _ h => h) (fun _ h => h.elim) (fun _ _ => trivial) HB.out hw0 (by simp) ?_;intro v1 w1 ho hb hg hat)
  obtain ⟨g',c',rfl,hgb,hgl,_⟩ := Kd.R_form ho (by simp)
  have hge : w.heap.size ≤ g' := by
   rcases hat with h | ⟨b_,h,h2⟩
   ·simp [Value.ownBlock] at h
   ·have : g' = b_ := by simpa [Value.ownBlock] using h
    omega
  go_ret
  have hk : ∀ k,k < w.heap.size → w1.heap[k]? = w.heap[k]? := fun k hk => hg.block k hk (by simp [Value.ownBlock])
  exact ⟨some ⟨g',0,none⟩,c',rfl,ins_fin_ (d := k83) (w := w) (l0 := []) (rows0 := []) (i := 0) (f := fun _ => 0) (okm := fun _ => False) (okx := okx) (cx := [x0,x1]) rfl (Nat.le_refl _) (fun j y c h _ => by simp at h) HM.out (fun _ _ h => h) (fun k h _ => h.elim) (fun k _ h => hk k h) (fun _ h => h.elim) (fun k h => ⟨.inl (.inr h),fun e_ => absurd (XB.out k h) (by omega)⟩) (.inr hge) ho,hb,⟨hg.size,fun k h _ => hk k h⟩⟩
  | some ad =>
  obtain ⟨b,rfl⟩ := row_head_ (Kd.S_R ho)
  obtain ⟨f,rows0,hl,hbok,hraw,hM⟩ := S_rows_ ho
  have hb0 : ∀ k,k ≠ b → (Value.slice (some ⟨b,0,none⟩) l0.length c0).ownBlock ≠ some k := fun k hk he => by
   have e_ : b = k := by simpa [Value.ownBlock] using he
   exact hk e_.symm
  have HMM := ak hM
  have hR : (Kd.raw 2).R 83 w w0.heap.size (fun _ => True) (.slice (some ⟨b,0,none⟩) l0.length c0) rows0 := hraw
  have hlr := ak hl
  clear ho hraw hM hl
  go_enter Tryz.func104,Tryz.ntmps104
  go_wp2_with ((with_reducible refine gblt_ (b := .append) (xs := #[.tmp 23,.tmp 24]) rfl ?_);at_builtin;refine Kd.R_append_rows (Kd.raw 2) (w0 := w0) w0.heap.size rfl (.tmp 23) (.tmp 24) 28 83 (.agg #[.int .i64 0,.slice none 0 0]) 32 rfl Tryz.underlying28 info83 rfl (by decide) (by omega) (.slice (some ⟨b,0,none⟩) l0.length c0) rows0 [[x0,x1]] _ _ _ (fun _ => True) (fun _ => False) rfl rfl hR HX.out (fun _ _ h => h) (fun _ h => h.elim) (fun _ _ => trivial) HB.out hw0 (by have := hlr.out;omega) ?_;intro v1 w1 ho hb hg hat)
  all_goals (
   obtain ⟨g',c',rfl,hgb,hgl,_⟩ := Kd.R_form ho (by simp)
   have hge : g' = b ∨ w.heap.size ≤ g' := by
    rcases hat with h | ⟨b_,h,h2⟩
    ·exact .inl (by simpa [Value.ownBlock] using h)
    ·have : g' = b_ := by simpa [Value.ownBlock] using h
     exact .inr (by omega)
   have e1 : (rows0 ++ [[x0,x1]]).length = l0.length + 1 := by rw [List.length_append,hlr.out];rfl
   rw [e1] at ho
   simp only [e1] at *
   go_ret
   have hk : ∀ k,k ≠ b → k < w.heap.size → w1.heap[k]? = w.heap[k]? := fun k hk1 hk2 => hg.block k hk2 (fun he => hb0 k hk1 he.symm)
   have hbx : ∀ k,okx k → k ≠ b := fun k h e_ => XP.out k h (e_ ▸ hbok)
   exact ⟨some ⟨g',0,none⟩,c',by first|rfl|simp,ins_fin_ (d := k83) (w := w) (f := f) (okm := fun k => P0_ k ∧ k ≠ b) (okx := okx) (cx := [x0,x1]) (rows0 := rows0) hlr.out (Nat.le_refl _) HMM.out HM.out (fun k h h2 => XP.out k h h2.1) (fun k h h2 => hk k h.2 h2) (fun k h h2 => hk k (hbx k h) h2) (fun k h => ⟨.inl (.inl h.1),fun e_ => hge.elim (fun e2 => h.2 (e_.trans e2)) (fun e2 => absurd (PB.out k h.1) (by omega))⟩) (fun k h => ⟨.inl (.inr h),fun e_ => hge.elim (fun e2 => hbx k h (e_.trans e2)) (fun e2 => absurd (XB.out k h) (by omega))⟩) (hge.elim (fun e2 => .inl (.inl (e2 ▸ hbok))) .inr) (by rw [List.take_of_length_le (Nat.le_of_eq hlr.out),List.drop_of_length_le (Nat.le_of_eq hlr.out),List.append_nil];exact ho),hb,⟨hg.size,fun k h h2 => hk k (fun e_ => h2 (e_ ▸ hbok)) h⟩⟩)
theorem rep_shift_ (P0_ okx : Nat → Prop) (b : Nat) (c0 : Nat) (l0 : List S83) (i : Nat) (x : S83) (x0 x1 : Value) (gv : Nat) (w0 w : World) (hB : Below w0.heap.size w0 w) (hP : ¬ P0_ gv) (hv : w.heap[gv]? = some (.cells #[x0, x1] 83 (0, 0))) (hx : k83.M w w0.heap.size okx x [x0, x1]) (h1x : x0.oneCell' = true ∧ x1.oneCell' = true) (hxP : ∀ k, okx k → ¬ P0_ k) (hxb : ∀ k, okx k → k < w.heap.size) (hPb : ∀ k, P0_ k → k < w.heap.size) (ho : Kd.S k83 83 w w0.heap.size P0_ (.slice (some ⟨b, 0, none⟩) l0.length c0) l0) (hs : l0.length < 4398046511103) (hi : i < l0.length) (hroom : l0.length + 1 ≤ c0) :
    Calls Tryz.prog 104 #[.slice (some ⟨b, 0, none⟩) l0.length c0, .int .i64 (i : Int), .slice (some ⟨gv, 0, none⟩) 1 1] w (repPost P0_ okx l0 i x w0 w) := by
 obtain ⟨f,rows0,hl,hbok,hraw,hM⟩ := S_rows_ ho
 have hgb : gv ≠ b := fun e_ => hP (e_ ▸ hbok)
 obtain ⟨cur,k1,k2,k3,k4,k5,k6,k7,k8⟩ := cells_of_rows_ (s := 2) hraw
 have hov : ∀ lb cb,(callFunc 136 #[.slice (some ⟨gv,0,none⟩) 1 1,.slice (some ⟨b,(i + 1) * 2,none⟩) lb cb]).run Tryz.prog w = .ok (.value (.bool false)) w := fun lb cb => by
  rw [run_callFunc_extern Tryz.func136 (by kernel_rfl) (by kernel_rfl) (by kernel_rfl) (e := Extern.SlicesOverlaps.overlaps #[28,28] #[4]) (by kernel_rfl),
   Lib.run_overlaps_apart w 28 4 83 Tryz.underlying28 2 (fun w => by rfl) ⟨gv,0,none⟩ ⟨b,(i + 1) * 2,none⟩ 1 1 lb cb hgb 83 83 2 cur.size (by simp [World.shape?,hv]) (by simp [World.shape?,k1]) (by omega) (blk_frozen hv 0) (blk_frozen hv 2)]
  rfl
 obtain ⟨cs,hcs0⟩ : ∃ cs,cs = rows0.flatten := ⟨_,rfl⟩
 rw [← hcs0] at k8
 have hcl : cs.length = l0.length * 2 := by rw [hcs0,flat_len_ rows0 (fun r h => (k7 r h).1),hl]
 have h1c : ∀ v ∈ cs,v.oneCell' = true := fun v hv => by
  rw [hcs0] at hv
  obtain ⟨r,hr,h2⟩ := List.mem_flatten.1 hv
  exact (k7 r hr).2 v h2
 have hcs : ∀ j v,cs[j]? = some v → w.cell? ⟨b,j,none⟩ = some v := fun j v hj => by
  rw [blk_cell k1]
  obtain ⟨h2,h3⟩ := List.getElem?_eq_some_iff.1 hj
  rw [k8 j h2,← h3]
 have hsp : ∀ j,j < (l0.length + 1) * 2 → (w.cell? ⟨b,j,none⟩).isSome = true := fun j hj => by rw [blk_cell k1,Array.getElem?_eq_getElem (by omega)];rfl
 have hsz : (Tryz.prog.info? 83).map (·.size) = some 2 := by kernel_rfl
 have hdl : (cs.drop (i * 2)).length = (l0.length - i) * 2 := by rw [List.length_drop,hcl];omega
 have hm1 : Nat.min (l0.length + 1 - i) (l0.length - i) = l0.length - i := by simp only [Nat.min_def];split <;> omega
 have hm2 : Nat.min 1 (l0.length + 1 - i) = 1 := by simp only [Nat.min_def];split <;> omega
 have hcp1 : ∀ ty dc sc,(Builtin.copy_ #[28,28] ty #[.slice (some ⟨b,(i + 1) * 2,none⟩) (l0.length - i) dc,.slice (some ⟨b,i * 2,none⟩) (l0.length + 1 - i) sc]).run Tryz.prog w.drew = .ok (goInt (l0.length - i : Nat)) (w.drew.setCells b ((i + 1) * 2) (cs.drop (i * 2))) := fun ty dc sc => by
  have h := run_copy_rows_ (P := Tryz.prog) w.drew 28 28 ty 83 2 b ((i + 1) * 2) (l0.length - i) dc ⟨b,i * 2,none⟩ (l0.length + 1 - i) sc (cs.drop (i * 2)) Tryz.underlying28 hsz (by rw [hm1,hdl])
   (fun j v hj => by rw [addr_off_];exact hcs (i * 2 + j) v (by rwa [List.getElem?_drop] at hj))
   (fun j hj => hsp _ (by omega)) (fun j hj => blk_frozen k1 _) (fun v hv => h1c v (List.mem_of_mem_drop hv))
  rwa [hm1] at h
 obtain ⟨W1,hW1⟩ : ∃ W1,W1 = w.drew.setCells b ((i + 1) * 2) (cs.drop (i * 2)) := ⟨_,rfl⟩
 have hK1 : KeepBut w W1 b none := by rw [hW1];exact keep_setCells_ b _ _ _ (KeepBut.of_below (below_drew1 (Below.refl _ _)) b none)
 obtain ⟨c1,m1,m2,_,_⟩ := heap_setCells_ b (cs.drop (i * 2)) ((i + 1) * 2) w.drew cur 83 k1 (by rw [hdl];omega)
 rw [← hW1] at m1
 have hv1 : W1.heap[gv]? = some (.cells #[x0,x1] 83 (0,0)) := (hK1.2 gv (blk_lt hv) hgb (by simp)).trans hv
 have hcp2 : ∀ (W : World),(∀ x,W.cell? x = W1.cell? x) → (∀ x,W.frozen? x = W1.frozen? x) → ∀ ty dc,(Builtin.copy_ #[28,28] ty #[.slice (some ⟨b,i * 2,none⟩) (l0.length + 1 - i) dc,.slice (some ⟨gv,0,none⟩) 1 1]).run Tryz.prog W = .ok (goInt 1) (W.setCells b (i * 2) [x0,x1]) := fun W hWc hWf ty dc => by
  have h := run_copy_rows_ (P := Tryz.prog) W 28 28 ty 83 2 b (i * 2) (l0.length + 1 - i) dc ⟨gv,0,none⟩ 1 1 [x0,x1] Tryz.underlying28 hsz (by rw [hm2];rfl)
   (fun j v hj => by
    rw [addr_at_,hWc,blk_cell hv1]
    match j,hj with
    | 0,hj => simpa using hj
    | 1,hj => simpa using hj
    | j + 2,hj => simp at hj)
   (fun j hj => by rw [hWc,blk_cell m1,Array.getElem?_eq_getElem (by rw [m2];simp at hj;omega)];rfl) (fun j hj => by rw [hWf];exact blk_frozen m1 _) (fun v hv => by
    rcases List.mem_cons.1 hv with e | e
    ·rw [e];exact h1x.1
    ·rw [List.mem_singleton.1 e];exact h1x.2)
  rw [hm2] at h
  exact h
 rw [← hW1] at hcp1
 have hz2 : ¬ ((i : Int) = (l0.length : Int)) := by omega
 have hw1 : IntKind.i64.wrap ((i : Int) + 1) = (i : Int) + 1 := by rw [IntKind.wrap_i64];omega
 have hb1 : (0 : Int) ≤ (i : Int) + 1 := by omega
 have hin : i ≤ l0.length := by omega
 have htn : ((i : Int) + 1).toNat = i + 1 := by omega
 have hb2 : ¬ (c0 = i + 1) := by omega
 have hb3 : (i : Int) ≤ (l0.length : Int) + 1 := by omega
 have hb4 : ¬ (c0 = i) := by omega
 have hc63 : c0 ≤ 9223372036854775807 := by unfold maxLen at k4;omega
 have mixed : Tryz.prog.follows .mixedOrders = true := by kernel_rfl
 have HB := ak hB
 have HV := ak k8
 have HZ := ak k5
 have K1 := ak k1
 have K7 := ak k7
 have GB := ak k2
 have HMX := ak k4
 have HMM := ak hM
 have HM := ak hx
 have XP := ak hxP
 have hlr := ak hl
 have HCS := ak hcs0
 clear hB hP hv ho k1 k2 k3 k4 k5 k6 k7 k8 hcs hsp h1c m1 m2 hv1 hK1 hM hx hxP hl hraw hcs0
 go_enter Tryz.func104,Tryz.ntmps104
 go_wp2_with (simp only [hov])
 go_region_law_o (refine step_copy_runI rfl _ _ 28 28 rfl _ _ (by simp [Act.eval,Act.put]) (by simp [Act.eval,Act.put]) (hcp1 _ _ _) ?_)
 go_wp2_with (at_builtin;refine wpList_copy_runI _ rfl _ _ 28 28 rfl _ _ rfl rfl (hcp2 _ (fun _ => rfl) (fun _ => rfl) _ _) ?_)
 go_ret
 have e2 : (i + 1) * 2 = i * 2 + [x0,x1].length := by simp only [List.length_cons,List.length_nil];omega
 obtain ⟨cur',f1,f2,f3⟩ := insg_cells_ (W := w.drew) (g := b) (e := 83) (i := i * 2) (cur := cur) (cs := cs) (vs := [x0,x1]) K1.out (by rw [hcl];omega) (by rw [hcl,HZ.out];simp;omega) (fun j hj _ => HV.out j hj)
 have hrl : (rows0.take i ++ [[x0,x1]] ++ rows0.drop i).length = l0.length + 1 := by have := hlr.out;simp;omega
 have hk : ∀ k,k ≠ b → k < w.heap.size → (((w.drew.setCells b ((i + 1) * 2) (cs.drop (i * 2))).drew).setCells b (i * 2) [x0,x1]).heap[k]? = w.heap[k]? := fun k h1 h2 => (keep_setCells_ b [x0,x1] (i * 2) _ (keep_setCells_ b (cs.drop (i * 2)) ((i + 1) * 2) w.drew (KeepBut.of_below (below_drew1 (Below.refl _ w)) b none))).2 k h2 h1 (by simp)
 refine ⟨some ⟨b,0,none⟩,c0,rfl,ins_fin_ (d := k83) (w := w) (f := f) (okm := fun k => P0_ k ∧ k ≠ b) (okx := okx) (cx := [x0,x1]) (rows0 := rows0) hlr.out (Nat.le_of_lt hi) HMM.out HM.out (fun k h h2 => XP.out k h h2.1) (fun k h h2 => hk k h.2 h2) (fun k h h2 => hk k (fun e_ => XP.out k h (e_ ▸ hbok)) h2) (fun k h => ⟨.inl (.inl h.1),h.2⟩) (fun k h => ⟨.inl (.inr h),fun e_ => XP.out k h (e_ ▸ hbok)⟩) (.inl (.inl hbok)) ?_,?_,?_⟩
 ·refine rows_of_cells_ (s := 2) (cur := cur') ?_ GB.out trivial hroom HMX.out (by rw [f2,HZ.out]) hrl (fun r hr => ?_) (fun j hj => ?_)
  ·rw [e2];exact f1
  ·rcases List.mem_append.1 hr with h | h
   ·rcases List.mem_append.1 h with h | h
    ·exact K7.out r (List.mem_of_mem_take h)
    ·rw [List.mem_singleton.1 h]
     exact ⟨rfl,fun u hu => by
      rcases List.mem_cons.1 hu with e | e
      ·rw [e];exact h1x.1
      ·rw [List.mem_singleton.1 e];exact h1x.2⟩
   ·exact K7.out r (List.mem_of_mem_drop h)
  ·have e3 : (rows0.take i ++ [[x0,x1]] ++ rows0.drop i).flatten = cs.take (i * 2) ++ [x0,x1] ++ cs.drop (i * 2) := by
    rw [HCS.out,List.flatten_append,List.flatten_append,flat_take_ rows0 i (fun r h => (K7.out r h).1),flat_drop_ rows0 i (fun r h => (K7.out r h).1)]
    simp
   have hj2 : j < (cs.take (i * 2) ++ [x0,x1] ++ cs.drop (i * 2)).length := by rw [← e3];exact hj
   rw [f3 j hj2]
   simp only [e3]
 ·exact below_setCells_ b _ _ _ (below_setCells_ b _ _ _ (below_drew1 HB.out) GB.out) GB.out
 ·exact ⟨(keep_setCells_ b [x0,x1] (i * 2) _ (keep_setCells_ b (cs.drop (i * 2)) ((i + 1) * 2) w.drew (KeepBut.of_below (below_drew1 (Below.refl _ w)) b none))).1,fun k h1 h2 => hk k (fun e_ => h2 (e_ ▸ hbok)) h1⟩
theorem rep_grow_ (P0_ okx : Nat → Prop) (b : Nat) (c0 : Nat) (l0 : List S83) (i : Nat) (x : S83) (x0 x1 : Value) (gv : Nat) (w0 w : World) (hB : Below w0.heap.size w0 w) (hP : ¬ P0_ gv) (hv : w.heap[gv]? = some (.cells #[x0, x1] 83 (0, 0))) (hx : k83.M w w0.heap.size okx x [x0, x1]) (h1x : x0.oneCell' = true ∧ x1.oneCell' = true) (hxP : ∀ k, okx k → ¬ P0_ k) (hxb : ∀ k, okx k → k < w.heap.size) (hPb : ∀ k, P0_ k → k < w.heap.size) (ho : Kd.S k83 83 w w0.heap.size P0_ (.slice (some ⟨b, 0, none⟩) l0.length c0) l0) (hs : l0.length < 4398046511103) (hi : i < l0.length) (hroom : c0 < l0.length + 1) :
    Calls Tryz.prog 104 #[.slice (some ⟨b, 0, none⟩) l0.length c0, .int .i64 (i : Int), .slice (some ⟨gv, 0, none⟩) 1 1] w (repPost P0_ okx l0 i x w0 w) := by
 obtain ⟨f,rows0,hl,hbok,hraw,hM⟩ := S_rows_ ho
 obtain ⟨cur,k1,k2,k3,k4,k5,k6,k7,k8⟩ := cells_of_rows_ (s := 2) hraw
 obtain ⟨i0,hi0,hz0,hzs,hzb⟩ := info_parts info83
 obtain ⟨cs,hcs0⟩ : ∃ cs,cs = rows0.flatten := ⟨_,rfl⟩
 rw [← hcs0] at k8
 have hcl : cs.length = l0.length * 2 := by rw [hcs0,flat_len_ rows0 (fun r h => (k7 r h).1),hl]
 have h1c : ∀ v ∈ cs,v.oneCell' = true := fun v hv => by
  rw [hcs0] at hv
  obtain ⟨r,hr,h2⟩ := List.mem_flatten.1 hv
  exact (k7 r hr).2 v h2
 have hcs : ∀ j v,cs[j]? = some v → w.cell? ⟨b,j,none⟩ = some v := fun j v hj => by
  rw [blk_cell k1]
  obtain ⟨h2,h3⟩ := List.getElem?_eq_some_iff.1 hj
  rw [k8 j h2,← h3]
 have hsz : (Tryz.prog.info? 83).map (·.size) = some 2 := by kernel_rfl
 have hbw : b < w.heap.size := blk_lt k1
 have hvw : gv < w.heap.size := blk_lt hv
 have hkk : (l0.length : Int) + 1 - (i : Int) = ((l0.length + 1 - i : Nat) : Int) := by omega
 have hik : i + (l0.length + 1 - i) = l0.length + 1 := by omega
 have hold : (Builtin.firstCells i0.size i (.slice (some ⟨b,0,none⟩) i c0)).run Tryz.prog w.drew = .ok (cs.take (i * 2)).toArray w.drew := by
  rw [hzs]
  exact run_firstCells_some w.drew 2 i ⟨b,0,none⟩ i c0 (cs.take (i * 2)) (by rw [List.length_take];omega) (fun j v hj => by
   rw [addr_at_]
   rw [List.getElem?_take] at hj
   split at hj
   ·exact hcs j v hj
   ·cases hj)
 obtain ⟨G,hG⟩ : ∃ G,G = grownCap w (l0.length + 1) c0 83 := ⟨_,rfl⟩
 obtain ⟨ROW,hROW⟩ : ∃ ROW : Array Value,ROW = (cs.take (i * 2)).toArray ++ Builtin.zeroCells (Value.agg #[.int .i64 0,.slice none 0 0]).cells (l0.length + 1 - i) ++ Builtin.zeroCells (Value.agg #[.int .i64 0,.slice none 0 0]).cells (G - (l0.length + 1)) := ⟨_,rfl⟩
 have hrz : ∀ ty,(Builtin.append_ #[28,3] ty #[.slice (some ⟨b,0,none⟩) i c0,.int .i64 ((l0.length : Int) + 1 - (i : Int))]).run Tryz.prog w = .ok (.slice (some ⟨w.heap.size,0,none⟩) (l0.length + 1) G) (w.drew.alloc (.cells ROW 83)) := fun ty => by
  have h := Lib.run_append_grow_zeros w 28 3 ty 83 i0 _ .i64 .i64 Tryz.underlying28 Tryz.underlying3 hi0 hz0 (some ⟨b,0,none⟩) i c0 (cs.take (i * 2)) hold (l0.length + 1 - i) (by omega) (by omega) (by omega) (by omega) (by rw [hzb];omega) (by rw [hzb,hik];exact growslice_fits hroom (by omega))
  rw [hik] at h
  rw [hkk,hROW,hG]
  exact h
 have hGn : l0.length + 1 ≤ G := by rw [hG];exact grownCap_ge w _ _ _
 have hGm : G ≤ maxLen := by rw [hG];exact grownCap_le_maxLen w (l0.length + 1) c0 83 (by unfold maxLen;omega)
 have hRs : ROW.size = G * 2 := by
  rw [hROW]
  simp [Builtin.zeroCells,Value.cells]
  omega
 have hRx : ∀ j (hj : j < cs.length),j < i * 2 → ROW[j]? = some cs[j] := fun j hj hji => by
  rw [hROW,Array.getElem?_append_left (by simp [Builtin.zeroCells];omega),Array.getElem?_append_left (by simp;omega)]
  rw [List.getElem?_toArray,List.getElem?_take_of_lt hji,List.getElem?_eq_getElem hj]
 obtain ⟨W1,hW1⟩ : ∃ W1,W1 = w.drew.alloc (.cells ROW 83) := ⟨_,rfl⟩
 have hN : W1.heap[w.heap.size]? = some (.cells ROW 83 (0,0)) := by rw [hW1];exact blk_new w.drew _
 have hO : ∀ k,k < w.heap.size → W1.heap[k]? = w.heap[k]? := fun k hk => by rw [hW1];exact (below_alloc (below_drew1 (Below.refl _ w)) _).block k hk
 have hb1 : W1.heap[b]? = some (.cells cur 83 (0,0)) := (hO b hbw).trans k1
 have hv1 : W1.heap[gv]? = some (.cells #[x0,x1] 83 (0,0)) := (hO gv hvw).trans hv
 have hm2 : Nat.min 1 (l0.length + 1 - i) = 1 := by simp only [Nat.min_def];split <;> omega
 have hcpA : ∀ (W : World),(∀ x,W.cell? x = W1.cell? x) → (∀ x,W.frozen? x = W1.frozen? x) → ∀ ty dc,(Builtin.copy_ #[28,28] ty #[.slice (some ⟨w.heap.size,i * 2,none⟩) (l0.length + 1 - i) dc,.slice (some ⟨gv,0,none⟩) 1 1]).run Tryz.prog W = .ok (goInt 1) (W.setCells w.heap.size (i * 2) [x0,x1]) := fun W hWc hWf ty dc => by
  have h := run_copy_rows_ (P := Tryz.prog) W 28 28 ty 83 2 w.heap.size (i * 2) (l0.length + 1 - i) dc ⟨gv,0,none⟩ 1 1 [x0,x1] Tryz.underlying28 hsz (by rw [hm2];rfl)
   (fun j v hj => by
    rw [addr_at_,hWc,blk_cell hv1]
    match j,hj with
    | 0,hj => simpa using hj
    | 1,hj => simpa using hj
    | j + 2,hj => simp at hj)
   (fun j hj => by rw [hWc,blk_cell hN,Array.getElem?_eq_getElem (by rw [hRs];simp at hj;omega)];rfl) (fun j hj => by rw [hWf];exact blk_frozen hN _) (fun v hv => by
    rcases List.mem_cons.1 hv with e | e
    ·rw [e];exact h1x.1
    ·rw [List.mem_singleton.1 e];exact h1x.2)
  rw [hm2] at h
  exact h
 have hbN : b ≠ w.heap.size := by omega
 have hdl : (cs.drop (i * 2)).length = (l0.length - i) * 2 := by rw [List.length_drop,hcl];omega
 have hm3 : Nat.min (l0.length - i) (l0.length - i) = l0.length - i := by simp only [Nat.min_def];split <;> omega
 obtain ⟨c1,m1,m2,_,_⟩ := heap_setCells_ w.heap.size [x0,x1] (i * 2) W1 ROW 83 hN (by rw [hRs];simp;omega)
 have hK1 : KeepBut W1 (W1.setCells w.heap.size (i * 2) [x0,x1]) w.heap.size none := keep_setCells_ _ _ _ _ (KeepBut.refl _ _ _)
 have hb2 : (W1.setCells w.heap.size (i * 2) [x0,x1]).heap[b]? = some (.cells cur 83 (0,0)) := (hK1.2 b (blk_lt hb1) hbN (by simp)).trans hb1
 have hcpB : ∀ (W : World),(∀ y,W.cell? y = (W1.setCells w.heap.size (i * 2) [x0,x1]).cell? y) → (∀ y,W.frozen? y = (W1.setCells w.heap.size (i * 2) [x0,x1]).frozen? y) → ∀ ty dc sc,(Builtin.copy_ #[28,28] ty #[.slice (some ⟨w.heap.size,(i + 1) * 2,none⟩) (l0.length - i) dc,.slice (some ⟨b,i * 2,none⟩) (l0.length - i) sc]).run Tryz.prog W = .ok (goInt (l0.length - i : Nat)) (W.setCells w.heap.size ((i + 1) * 2) (cs.drop (i * 2))) := fun W hWc hWf ty dc sc => by
  have h := run_copy_rows_ (P := Tryz.prog) W 28 28 ty 83 2 w.heap.size ((i + 1) * 2) (l0.length - i) dc ⟨b,i * 2,none⟩ (l0.length - i) sc (cs.drop (i * 2)) Tryz.underlying28 hsz (by rw [hm3,hdl])
   (fun j v hj => by
    rw [addr_off_,hWc,blk_cell hb2,← blk_cell k1]
    exact hcs (i * 2 + j) v (by rwa [List.getElem?_drop] at hj))
   (fun j hj => by rw [hWc,blk_cell m1,Array.getElem?_eq_getElem (by rw [m2,hRs];omega)];rfl) (fun j hj => by rw [hWf];exact blk_frozen m1 _) (fun v hv => h1c v (List.mem_of_mem_drop hv))
  rwa [hm3] at h
 subst hW1
 have hE1 : ∀ y,((w.alloc (.cells ROW 83)).drew).cell? y = (w.drew.alloc (.cells ROW 83)).cell? y := fun y => rfl
 have hE2 : ∀ y,((w.alloc (.cells ROW 83)).drew).frozen? y = (w.drew.alloc (.cells ROW 83)).frozen? y := fun y => rfl
 have hF1 : ∀ y,(((w.alloc (.cells ROW 83)).drew.setCells w.heap.size (i * 2) [x0,x1]).drew).cell? y = ((w.drew.alloc (.cells ROW 83)).setCells w.heap.size (i * 2) [x0,x1]).cell? y := fun y => rfl
 have hF2 : ∀ y,(((w.alloc (.cells ROW 83)).drew.setCells w.heap.size (i * 2) [x0,x1]).drew).frozen? y = ((w.drew.alloc (.cells ROW 83)).setCells w.heap.size (i * 2) [x0,x1]).frozen? y := fun y => rfl
 have hz2 : ¬ ((i : Int) = (l0.length : Int)) := by omega
 have hz3 : (c0 : Int) < (l0.length : Int) + 1 := by omega
 have hw1 : IntKind.i64.wrap ((i : Int) + 1) = (i : Int) + 1 := by rw [IntKind.wrap_i64];omega
 have hbb1 : (0 : Int) ≤ (i : Int) + 1 := by omega
 have hin : i ≤ l0.length := by omega
 have htn : ((i : Int) + 1).toNat = i + 1 := by omega
 have hb3 : (i : Int) ≤ (l0.length : Int) := by omega
 have hG63 : G ≤ 9223372036854775807 := by unfold maxLen at hGm;omega
 have hGi : ¬ (G = i) := by omega
 have hGim : ¬ (G = i + 1) := by omega
 have hci : ¬ (c0 = i) := by omega
 have hnc : l0.length ≤ c0 := k3
 have hic : (i : Int) ≤ (c0 : Int) := by omega
 have mixed : Tryz.prog.follows .mixedOrders = true := by kernel_rfl
 have HB := ak hB
 have HNN := ak hN
 have HRS := ak hRs
 have HRX := ak hRx
 have HGM := ak hGm
 have HGN := ak hGn
 have HCS := ak hcs0
 have K7 := ak k7
 have HMM := ak hM
 have HM := ak hx
 have XP := ak hxP
 have XB := ak hxb
 have PB := ak hPb
 have hlr := ak hl
 clear hB hP hv ho k1 k2 k3 k4 k5 k6 k7 k8 hcs h1c hkk hik hold hN hO hb1 hv1 hK1 hb2 m1 m2 hROW hG hRs hRx hbw hvw hM hx hxP hxb hPb hl hraw hcs0
 go_enter Tryz.func104,Tryz.ntmps104
 go_wp2_with (first
    | (at_builtin; refine Lib.wpList_append_run _ rfl _ _ _ _ rfl _ _ rfl rfl _ _ (hrz _) ?_)
    | (at_builtin; refine wpList_copy_runI _ rfl _ _ 28 28 rfl _ _ rfl rfl (hcpA _ hE1 hE2 _ _) ?_)
    | (at_builtin; refine wpList_copy_runI _ rfl _ _ 28 28 rfl _ _ rfl rfl (hcpB _ (fun _ => rfl) (fun _ => rfl) _ _ _) ?_))
 go_region_law_o (refine step_copy_runI rfl _ _ 28 28 rfl (.slice (some ⟨w.heap.size,(i + 1) * 2,none⟩) (l0.length - i) (G - (i + 1))) (.slice (some ⟨b,i * 2,none⟩) (l0.length - i) (c0 - i)) (by simp [Act.eval,Act.put]) (by simp [Act.eval,Act.put]) (hcpB _ hF1 hF2 3 (G - (i + 1)) (c0 - i)) ?_)
 go_wp2
 go_ret
 have e2 : (i + 1) * 2 = i * 2 + [x0,x1].length := by simp only [List.length_cons,List.length_nil];omega
 obtain ⟨cur',f1,f2,f3⟩ := insg_cells2_ (W := (w.alloc (.cells ROW 83)).drew) (g := w.heap.size) (e := 83) (i := i * 2) (cur := ROW) (cs := cs) (vs := [x0,x1]) HNN.out (by rw [hcl];omega) (by rw [hcl,HRS.out];simp;have := HGN.out;omega) HRX.out
 have hrl : (rows0.take i ++ [[x0,x1]] ++ rows0.drop i).length = l0.length + 1 := by have := hlr.out;simp;omega
 have hbase : w0.heap.size ≤ w.heap.size := HB.out.size
 have hkb : Below w.heap.size w ((((w.alloc (.cells ROW 83)).drew.setCells w.heap.size (i * 2) [x0,x1]).drew).setCells w.heap.size ((i + 1) * 2) (cs.drop (i * 2))) := below_setCells_ w.heap.size _ _ _ (below_drew1 (below_setCells_ w.heap.size _ _ _ (below_drew1 (below_alloc (Below.refl _ _) _)) (Nat.le_refl _))) (Nat.le_refl _)
 refine ⟨some ⟨w.heap.size,0,none⟩,G,rfl,ins_fin_ (d := k83) (w := w) (f := f) (okm := fun k => P0_ k ∧ k ≠ b) (okx := okx) (cx := [x0,x1]) (rows0 := rows0) hlr.out (Nat.le_of_lt hi) HMM.out HM.out (fun k h h2 => XP.out k h h2.1) (fun k _ h2 => hkb.block k h2) (fun k _ h2 => hkb.block k h2) (fun k h => ⟨.inl (.inl h.1),fun e_ => absurd (PB.out k h.1) (by omega)⟩) (fun k h => ⟨.inl (.inr h),fun e_ => absurd (XB.out k h) (by omega)⟩) (.inr (Nat.le_refl _)) ?_,?_,?_⟩
 ·refine rows_of_cells_ (s := 2) (cur := cur') ?_ hbase trivial HGN.out HGM.out (by rw [f2,HRS.out]) hrl (fun r hr => ?_) (fun j hj => ?_)
  ·rw [e2];exact f1
  ·rcases List.mem_append.1 hr with h | h
   ·rcases List.mem_append.1 h with h | h
    ·exact K7.out r (List.mem_of_mem_take h)
    ·rw [List.mem_singleton.1 h]
     exact ⟨rfl,fun u hu => by
      rcases List.mem_cons.1 hu with e | e
      ·rw [e];exact h1x.1
      ·rw [List.mem_singleton.1 e];exact h1x.2⟩
   ·exact K7.out r (List.mem_of_mem_drop h)
  ·have e3 : (rows0.take i ++ [[x0,x1]] ++ rows0.drop i).flatten = cs.take (i * 2) ++ [x0,x1] ++ cs.drop (i * 2) := by
    rw [HCS.out,List.flatten_append,List.flatten_append,flat_take_ rows0 i (fun r h => (K7.out r h).1),flat_drop_ rows0 i (fun r h => (K7.out r h).1)]
    simp
   have hj2 : j < (cs.take (i * 2) ++ [x0,x1] ++ cs.drop (i * 2)).length := by rw [← e3];exact hj
   rw [f3 j hj2]
   simp only [e3]
 ·exact below_setCells_ w.heap.size _ _ _ (below_drew1 (below_setCells_ w.heap.size _ _ _ (below_drew1 (below_alloc HB.out _)) hbase)) hbase
 ·exact ⟨hkb.size,fun k hk1 _ => hkb.block k hk1⟩
/-! ### slices_Insert_Copy: all roads -/
theorem slices_Insert_Copy.calls (P0_ okx : Nat → Prop) (A0 : Option Addr) (c0 : Nat) (l0 : List S83) (i : Nat) (x : S83) (x0 x1 : Value) (gv : Nat) (w0 w : World) (hB : Below w0.heap.size w0 w) (hP : ¬ P0_ gv) (hv : w.heap[gv]? = some (.cells #[x0, x1] 83 (0, 0))) (hx : k83.M w w0.heap.size okx x [x0, x1]) (h1x : x0.oneCell' = true ∧ x1.oneCell' = true) (hxP : ∀ k, okx k → ¬ P0_ k) (hxb : ∀ k, okx k → k < w.heap.size) (hPb : ∀ k, P0_ k → k < w.heap.size) (ho : Kd.S k83 83 w w0.heap.size P0_ (.slice A0 l0.length c0) l0) (hs : l0.length < 4398046511103) (hi : i ≤ l0.length) :
    Calls Tryz.prog 104 #[.slice A0 l0.length c0, .int .i64 (i : Int), .slice (some ⟨gv, 0, none⟩) 1 1] w (repPost P0_ okx l0 i x w0 w) := by
 by_cases h : i = l0.length
 ·exact rep_end_ P0_ okx A0 c0 l0 i x x0 x1 gv w0 w hB hP hv hx h1x hxP hxb hPb ho hs h
 ·obtain ⟨b,c,e,_⟩ := Kd.S_form ho (by omega)
  injection e with e1 e2 e3
  subst e1
  subst e3
  by_cases hr : l0.length + 1 ≤ c0
  ·exact rep_shift_ P0_ okx b c0 l0 i x x0 x1 gv w0 w hB hP hv hx h1x hxP hxb hPb ho hs (by omega) hr
  ·exact rep_grow_ P0_ okx b c0 l0 i x x0 x1 gv w0 w hB hP hv hx h1x hxP hxb hPb ho hs (by omega) (by omega)

/-! ### words for (*Machine).replace: the place of a region among the copies -/
def pos1 (a : Int) (l : List S83) : Nat := (l.takeWhile fun x => decide (x.f0 < a)).length
theorem pos1_le (a : Int) : ∀ l : List S83, pos1 a l ≤ l.length
  | [] => Nat.le_refl _
  | x :: l => by
    unfold pos1
    rw [List.takeWhile_cons]
    split
    ·rw [List.length_cons,List.length_cons];exact Nat.succ_le_succ (pos1_le a l)
    ·exact Nat.zero_le _
theorem pos1_lt (a : Int) : ∀ (l : List S83) (t : Nat) (ht : t < l.length), t < pos1 a l → l[t].f0 < a
  | [], t, ht, _ => by simp at ht
  | x :: l, t, ht, h => by
    unfold pos1 at h
    rw [List.takeWhile_cons] at h
    split at h
    ·rename_i hx
     cases t with
     | zero => simpa using hx
     | succ t => exact pos1_lt a l t (by simpa using ht) (by rw [List.length_cons] at h;exact Nat.lt_of_succ_lt_succ h)
    ·simp at h
theorem pos1_ge {a : Int} {l : List S83} (h : ((l.drop (pos1 a l)).all fun x => !decide (x.f0 < a)) = true) (t : Nat) (ht : t < l.length) (h2 : pos1 a l ≤ t) : ¬ l[t].f0 < a := by
 rw [List.all_eq_true] at h
 have hm : l[t] ∈ l.drop (pos1 a l) := by
  obtain ⟨d,rfl⟩ := Nat.exists_eq_add_of_le h2
  have : (l.drop (pos1 a l))[d]? = some l[pos1 a l + d] := by rw [List.getElem?_drop,List.getElem?_eq_getElem ht]
  exact List.mem_of_getElem? this
 have := h _ hm
 simpa using this
def foundAt (a : Int) (l : List S83) : Bool := decide (∃ ht : pos1 a l < l.length, l[pos1 a l].f0 = a)
def putC (a : Int) (c : List S87) (l : List S83) : List S83 := if foundAt a l = true then l.set (pos1 a l) ⟨a, c⟩ else l.take (pos1 a l) ++ [(⟨a, c⟩ : S83)] ++ l.drop (pos1 a l)
theorem rawc_at_ {w : World} {base g n cap : Nat} {rows : List (List Value)} (h : (Kd.raw 2).R 83 w base (fun _ => True) (.slice (some ⟨g, 0, none⟩) n cap) rows) (i : Nat) (hi : i < rows.length) :
  (∃ u,w.cell? ⟨g,i * 2,none⟩ = some u) ∧ (∃ u,w.cell? ⟨g,i * 2 + 1,none⟩ = some u) ∧ ∀ j,w.frozen? ⟨g,i * 2 + j,none⟩ = false := by
 obtain ⟨cur,k1,k2,k3,k4,k5,k6,k7,k8⟩ := cells_of_rows_ (s := 2) h
 have hl := flat_len_ rows (fun r h => (k7 r h).1)
 refine ⟨⟨_,by rw [blk_cell k1,Array.getElem?_eq_getElem (by omega)]⟩,⟨_,by rw [blk_cell k1,Array.getElem?_eq_getElem (by omega)]⟩,fun j => blk_frozen k1 _⟩
theorem rawc_put_ {w : World} {base g n cap : Nat} {rows : List (List Value)} (h : (Kd.raw 2).R 83 w base (fun _ => True) (.slice (some ⟨g, 0, none⟩) n cap) rows) (i : Nat) (hi : i < rows.length) (c' : List Value) (hl : c'.length = 2) (h1 : ∀ u ∈ c', u.oneCell' = true) :
  (Kd.raw 2).R 83 (w.setCells g (i * 2) c') base (fun _ => True) (.slice (some ⟨g,0,none⟩) n cap) (rows.set i c') ∧ w.grownBy (w.setCells g (i * 2) c') (some g) := by
 have hn := (Kd.R_reads' h).1
 obtain ⟨c,hcl,hM,hcc,hfr⟩ := Kd.R_elem h [] (i : Int) (by omega) (by omega)
 have hcl' : c.length = 2 := hcl
 have e : c.take 0 ++ c' ++ c.drop (0 + c'.length) = c' := by rw [List.take_zero,List.nil_append,List.drop_of_length_le (by omega),List.append_nil]
 have hp := Kd.R_seg h (i : Int) (by omega) (by omega) (c := c) (seg := c') (j := 0) (x' := c') (okp := fun _ => False) hcl hcc (by show 0 + c'.length ≤ 2;omega) ⟨e,by rw [e];exact hl,by rw [e];exact h1⟩ (fun _ hk => hk.elim)
 rw [Int.toNat_natCast] at hp
 exact hp
/-! ### impl_Machine_replace: function 56 -/
theorem hold_56 {p : Prop} (h : Aside0 p) : p := h.out
def impl_Machine_replace.f (p1 : List S83) (a1 : Int) (l2 : List S87) : Option (List S83) := (impl_Cell_63.f l2).bind fun c => if ((p1.drop (pos1 a1 p1)).all fun x => !decide (x.f0 < a1)) = true ∧ p1.length < 4398046511103 then some (putC a1 c p1) else none
theorem impl_Machine_replace.calls (P1_ : Nat → Prop) (gb : Nat) (b : Bool) (s2 s3 : Value) (A1 : Option Addr) (c1 : Nat) (p1 : List S83) (a1 : Int) (A2 : Option Addr) (c2 : Nat) (l2 : List S87) (r1 : List S83) (w0 w : World) (hB : Below w0.heap.size w0 w) (hg0 : w0.heap.size ≤ gb) (hx : w.heap[gb]? = some (.cells #[.bool b, .slice A1 p1.length c1, s2, s3] 31 (0, 0))) (hP : ¬ P1_ gb) (ho : Kd.S k83 83 w w0.heap.size P1_ (.slice A1 p1.length c1) p1) (hr : Kd.C k87 w A2 l2.length l2) (hc : l2.length ≤ c2) (h : impl_Machine_replace.f p1 a1 l2 = some r1) :
    Calls Tryz.prog 56 #[.pointer (some ⟨gb, 0, none⟩), .int .i64 a1, .slice A2 l2.length c2] w fun e w' => e = .returned (.tuple #[]) ∧ ∃ (A4 : Option Addr) (c4 : Nat), w'.heap[gb]? = some (.cells #[.bool b, .slice A4 r1.length c4, s2, s3] 31 (0, 0)) ∧ Kd.S k83 83 w' w0.heap.size (fun k_ => (P1_ k_ ∨ w.heap.size ≤ k_) ∧ k_ ≠ gb) (.slice A4 r1.length c4) r1 ∧ Below w0.heap.size w0 w' ∧ Kept w w' (fun k_ => P1_ k_ ∨ k_ = gb) := by
 have hu := Tryz.underlying31
 have hu2 := Tryz.underlying83
 obtain ⟨cc,E0,h1⟩ := Option.bind_eq_some_iff.1 h
 clear h
 have FC := ak E0
 clear E0
 by_cases hb : ((p1.drop (pos1 a1 p1)).all fun x => !decide (x.f0 < a1)) = true ∧ p1.length < 4398046511103
 rotate_left
 ·rw [if_neg hb] at h1;cases h1
 rw [if_pos hb] at h1
 obtain rfl := Option.some.inj h1
 clear h1
 obtain ⟨m,hmd⟩ : ∃ m,m = pos1 a1 p1 := ⟨_,rfl⟩
 have M1 : Aside0 (m ≤ p1.length) := ⟨hmd ▸ pos1_le a1 p1⟩
 have M2 : Aside0 (∀ t (ht : t < p1.length),t < m → p1[t].f0 < a1) := ⟨fun t ht h => pos1_lt a1 p1 t ht (hmd ▸ h)⟩
 have M3 : Aside0 (∀ t (ht : t < p1.length),m ≤ t → ¬ p1[t].f0 < a1) := ⟨fun t ht h => pos1_ge hb.1 t ht (hmd ▸ h)⟩
 have HS := ak hb.2
 clear hb
 have HFD : Aside0 (foundAt a1 p1 = decide (∃ ht : m < p1.length,p1[m].f0 = a1)) := ⟨by subst hmd;rfl⟩
 have HMD := ak hmd
 clear hmd
 have BG := ak hx
 have GG := ak hg0
 have HB := ak hB
 have P1 := ak hP
 have HRR := ak hr
 have HRC := ak hc
 have T1 := ak (Kd.S_mono (ok' := fun k_ => P1_ k_ ∧ k_ < w.heap.size) (Kd.S_bound ho) (fun _ h_ => ⟨h_.1,h_.2.2.1⟩))
 have HK := ak (Kept.refl w (fun k_ => P1_ k_ ∨ k_ = gb))
 have W0 := ak hB.size
 have LG := ak (blk_lt hx)
 clear hx hg0 hB hP hr hc ho
 go_enter Tryz.func56,Tryz.ntmps56
 have hcgb1_0 : w.cell? ⟨gb,0,none⟩ = some (.bool b) := (blk_cell BG.out 0).trans rfl
 have hcgb1_1 : w.cell? ⟨gb,1,none⟩ = some (.slice A1 p1.length c1) := (blk_cell BG.out 1).trans rfl
 have hcgb1_2 : w.cell? ⟨gb,2,none⟩ = some (s2) := (blk_cell BG.out 2).trans rfl
 have hcgb1_3 : w.cell? ⟨gb,3,none⟩ = some (s3) := (blk_cell BG.out 3).trans rfl
 go_wp2_with ((with_reducible refine gcal_ (f := 101) rfl ?_);refine gz_ (some 15) Tryz.func101 #[.slice A1 p1.length c1,.int .i64 a1,.func (.func 102) #[] #[]] ?_;refine (slices_BinarySearchFunc_Copy.calls A1 c1 p1 a1 m M1.out M2.out M3.out _ (Kd.S_reads' T1.out).2.2 (Kd.S_reads' T1.out).2.1 (by have := HS.out;omega)).mono ?_;rintro e w2 ⟨rfl,B⟩;refine ⟨_,rfl,?_⟩;refine hold_56 ?_)
 refine ⟨?_⟩
 have HRR := ak (Kd.C_below HRR.out B)
 have BG := ak (blk_below BG.out B)
 have T1 := ak (Kd.S_below T1.out B)
 have HB := ak (below_step HB.out B)
 have HK := ak (HK.out.below B)
 clear B hcgb1_0 hcgb1_1 hcgb1_2 hcgb1_3
 rw [← HFD.out]
 go_wp2_with ((with_reducible refine gcal_ (f := 63) rfl ?_);refine gz_ (some 20) Tryz.func63 #[.slice A2 l2.length c2] ?_;refine (impl_Cell_63.calls A2 c2 l2 cc _ HRR.out HRC.out FC.out).mono ?_;rintro e w3 ⟨vn,rfl,S,B⟩;refine ⟨_,rfl,?_⟩;refine hold_56 ?_)
 refine ⟨?_⟩
 obtain ⟨An,cn,rfl⟩ := Kd.R_slice S
 have NV := ak (Nat.le_trans HK.out.1 (Nat.le_refl _))
 have N := ak S
 have NB := ak B.size
 have BG := ak (blk_below BG.out B)
 have T1 := ak (Kd.S_below T1.out B)
 have HB := ak (below_step HB.out B)
 have HK := ak (HK.out.below B)
 clear S B HRR
 go_wp2_with ((with_reducible refine gate_dst (N := 8) rfl ?_);refine bx_ 8 #[.int .i64 0,.slice none 0 0] 83 ?_;intro gc hg w4 hbox hb;have hge := ak (Nat.le_of_eq hg.symm);clear hg;refine hold_56 ?_)
 refine ⟨?_⟩
 have BZ := ak hbox
 have Q0 := ak hb
 have HGE := hge
 clear hbox hb hge
 obtain ⟨⟨hcgcy_0,hcgcy_1⟩,hfy_0,hfy_1⟩ := cl2_ BZ.out
 go_upto_region 2 with (fail)
 have n0_ : Aside0 (Below w3.heap.size w3 ((w4.setCell ⟨gc,0,none⟩ (.int .i64 a1)).setCell ⟨gc,1,none⟩ (.slice An cc.length cn))) := ⟨below_set (below_set Q0.out HGE.out) HGE.out⟩
 have n1_ : Aside0 (((w4.setCell ⟨gc,0,none⟩ (.int .i64 a1)).setCell ⟨gc,1,none⟩ (.slice An cc.length cn)).heap[gc]? = some (.cells #[.int .i64 a1,.slice An cc.length cn] 83 (0,0))) := ⟨by refine blk_put (cs := #[.int .i64 a1,.slice none 0 0]) ?_ 1 _ rfl;refine blk_put (cs := #[.int .i64 0,.slice none 0 0]) ?_ 0 _ rfl;exact BZ.out⟩
 clear BZ Q0
 clear hcgcy_0 hfy_0 hcgcy_1 hfy_1
 generalize ((w4.setCell ⟨gc,0,none⟩ (.int .i64 a1)).setCell ⟨gc,1,none⟩ (.slice An cc.length cn)) = w5 at n0_ n1_ ⊢
 have B := n0_.out
 have BC := n1_
 clear n0_ n1_
 have BG := ak (blk_below BG.out B)
 have T1 := ak (Kd.S_below T1.out B)
 have HB := ak (below_step HB.out B)
 have HK := ak (HK.out.below B)
 have N := ak (Kd.R_mono (ok' := fun k_ => w2.heap.size ≤ k_ ∧ k_ < w3.heap.size) (Kd.R_below (Kd.R_bound N.out) B) (fun _ h_ => ⟨h_.2.1,h_.2.2.1⟩))
 have GC : Aside0 (w3.heap.size ≤ gc) := HGE
 clear B
 have NBW : Aside0 (w.heap.size ≤ w2.heap.size) := NV
 have OKX : Aside0 (∀ k_,(w2.heap.size ≤ k_ ∧ k_ < w3.heap.size) → w.heap.size ≤ k_) := ⟨fun k_ h_ => Nat.le_trans NBW.out h_.1⟩
 have N0 : Aside0 (Kd.R k87 87 w5 w0.heap.size (fun k_ => w2.heap.size ≤ k_ ∧ k_ < w3.heap.size) (.slice An cc.length cn) cc) := ⟨Kd.R_lower N.out (by have := HB.out.size;have := NBW.out;first|exact Nat.le_trans W0.out NBW.out|omega)⟩
 have MX : Aside0 (k83.M w5 w0.heap.size (fun k_ => w2.heap.size ≤ k_ ∧ k_ < w3.heap.size) (⟨a1,cc⟩ : S83) [.int .i64 a1,.slice An cc.length cn]) := ⟨k83_mkM _ _ _ (⟨a1,cc⟩ : S83) N0.out⟩
 have W3 := ak (Nat.le_trans (Nat.le_of_lt_succ (Nat.lt_succ_of_le GC.out)) (Nat.le_of_lt (blk_lt BC.out)))
 clear N N0 NV
 cases hf : foundAt a1 p1 with
  | true =>
  have HLT : Aside0 (m < p1.length) := ⟨by have h_ := HFD.out;rw [hf] at h_;exact (of_decide_eq_true h_.symm).1⟩
  obtain ⟨g,cg,eg,hgbase,_,_⟩ := Kd.S_form T1.out (by have := HLT.out;omega)
  obtain rfl : A1 = some ⟨g,0,none⟩ := (by injection eg)
  obtain rfl : c1 = cg := (by injection eg)
  have HGB : Aside0 (w0.heap.size ≤ g) := ⟨hgbase⟩
  clear eg
  have hci : (m : Int) < (p1.length : Int) := by have := HLT.out;omega
  have hj0 : (0 : Int) ≤ (m : Int) := by omega
  go_upto_region 3 with (fail)
  have B : Below w5.heap.size w5 w5.drew := below_drew1 (Below.refl _ _)
  have BG := ak (blk_below BG.out B)
  have T1 := ak (Kd.S_below T1.out B)
  have HB := ak (below_step HB.out B)
  have HK := ak (HK.out.below B)
  have BC := ak (blk_below BC.out B)
  have MX := ak (Kd.M_below MX.out B)
  clear B
  refine start_ (n := 8) (S := fun w' => w'.cell? ⟨gb,0,none⟩ = some (.bool b) ∧ w'.cell? ⟨gb,1,none⟩ = some (.slice (some ⟨g,0,none⟩) p1.length c1) ∧ w'.cell? ⟨gb,2,none⟩ = some (s2) ∧ w'.cell? ⟨gb,3,none⟩ = some (s3) ∧ w'.cell? ⟨gc,0,none⟩ = some (.int .i64 a1) ∧ w'.cell? ⟨gc,1,none⟩ = some (.slice An cc.length cn)) (ds := [7]) #[false,false,false,false,false,false,false,false] (by kernel_rfl) rfl rfl ⟨(blk_cell BG.out 0).trans rfl,(blk_cell BG.out 1).trans rfl,(blk_cell BG.out 2).trans rfl,(blk_cell BG.out 3).trans rfl,(blk_cell BC.out 0).trans rfl,(blk_cell BC.out 1).trans rfl⟩ (fun hHeld => ?_)
  generalize w5.drew = wc at BG BC T1 MX HB HK hHeld ⊢
  refine pure_ (i := 0) (N := some 23) (v := ?_) (a' := ?_) #[true,false,false,false,false,false,false,false] rfl rfl (by kernel_rfl) (fun _ _ _ h => h) (Or.inl ⟨by rfl,?_⟩) ?_ ?_
  rotate_left
  ·intro w'
   go_simp
   with_reducible rfl
  rotate_left
  ·simp only [Act.put,q1,q2,q3,i64_w,i32_w]
   rfl
  refine pure_ (i := 1) (N := some 24) (v := ?_) (a' := ?_) #[true,true,false,false,false,false,false,false] rfl rfl (by kernel_rfl) (fun _ _ _ h => h) (Or.inl ⟨by rfl,?_⟩) ?_ ?_
  rotate_left
  ·intro w'
   go_simp
   with_reducible rfl
  rotate_left
  ·simp only [Act.put,q1,q2,q3,i64_w,i32_w]
   rfl
  refine pure_ (i := 2) (N := some 25) (v := ?_) (a' := ?_) #[true,true,true,false,false,false,false,false] rfl rfl (by kernel_rfl) (fun _ _ _ h => h) (Or.inl ⟨by rfl,?_⟩) ?_ ?_
  rotate_left
  ·intro w'
   go_simp
   with_reducible rfl
  rotate_left
  ·simp only [Act.put,q1,q2,q3,i64_w,i32_w]
   rfl
  refine take_ (i := 3) (N := some 26) (v := ?_) (a' := ?_) #[true,true,true,true,false,false,false,false] rfl rfl (by kernel_rfl) (fun _ _ _ h => h) (Or.inl ⟨by rfl,?_⟩) hHeld ?_ ?_
  rotate_left
  ·rintro w' ⟨s0,s1,s2,s3,s4,s5⟩
   go_simp
   with_reducible rfl
  rotate_left
  ·simp only [Act.put,q1,q2,q3,i64_w,i32_w]
   rfl
  refine pure_ (i := 4) (N := some 27) (v := ?_) (a' := ?_) #[true,true,true,true,true,false,false,false] rfl rfl (by kernel_rfl) (fun _ _ _ h => h) (Or.inl ⟨by rfl,?_⟩) ?_ ?_
  rotate_left
  ·intro w'
   go_simp
   with_reducible rfl
  rotate_left
  ·simp only [Act.put,q1,q2,q3,i64_w,i32_w]
   rfl
  refine take_ (i := 5) (N := some 28) (v := ?_) (a' := ?_) #[true,true,true,true,true,true,false,false] rfl rfl (by kernel_rfl) (fun _ _ _ h => h) (Or.inl ⟨by rfl,?_⟩) hHeld ?_ ?_
  rotate_left
  ·rintro w' ⟨s0,s1,s2,s3,s4,s5⟩
   go_simp
   with_reducible rfl
  rotate_left
  ·simp only [Act.put,q1,q2,q3,i64_w,i32_w]
   rfl
  refine pure_ (i := 6) (N := some 29) (v := ?_) (a' := ?_) #[true,true,true,true,true,true,true,false] rfl rfl (by kernel_rfl) (fun _ _ _ h => h) (Or.inl ⟨by rfl,?_⟩) ?_ ?_
  rotate_left
  ·intro w'
   go_simp
   with_reducible rfl
  rotate_left
  ·simp only [Act.put,q1,q2,q3,i64_w,i32_w]
   rfl
  refine last_ (i := 7) (N := none) #[true,true,true,true,true,true,true,true] rfl rfl (by kernel_rfl) (by decide) (fun K hK => ?_)
  have LX : Aside0 (w3.heap.size ≤ wc.heap.size) := ⟨Nat.le_trans GC.out (Nat.le_of_lt (blk_lt BC.out))⟩
  obtain ⟨f,rows0,hl,hbok,hraw,hM⟩ := S_rows_ T1.out
  have hml : m < rows0.length := by rw [hl];exact HLT.out
  obtain ⟨⟨u0,hs0⟩,⟨u1,hs1⟩,hfr⟩ := rawc_at_ hraw m hml
  have hf0 := hfr 0
  have hf1 := hfr 1
  rw [Nat.add_zero] at hf0
  obtain ⟨hp1,hp2⟩ := rawc_put_ hraw m hml [.int .i64 a1,.slice An cc.length cn] rfl (by intro u hu;simp at hu;rcases hu with rfl|rfl <;> rfl)
  have E0 := ak hp1
  have E1 := ak hp2
  have E2 := ak hl
  have E3 := ak hM
  have E4 := ak hbok
  clear hp1 hp2 hl hM hbok hraw hml hfr
  refine skip_ (w1 := ((wc.setCell ⟨g,m * 2,none⟩ (.int .i64 a1)).setCell ⟨g,m * 2 + 1,none⟩ (.slice An cc.length cn))) (by rfl) rfl ?_ ?_
  ·first|(go_simp;done)|(go_simp;rfl)|(go_simp;simp)
  refine hK.out _ _ ?_
  clear hK K
  refine done_ (by kernel_rfl) ?_
  clear hs0 hs1 hf0 hf1 hHeld
  go_wp2
  go_end0
  have er : putC a1 cc p1 = p1.set m ⟨a1,cc⟩ := by unfold putC;rw [if_pos hf,HMD.out]
  have el : (p1.set m (⟨a1,cc⟩ : S83)).length = p1.length := List.length_set
  rw [er,el]
  have hng : gb ≠ g := fun e_ => P1.out (e_ ▸ E4.out.1)
  have hk : ∀ k,k ≠ g → k < wc.heap.size → (((wc.setCell ⟨g,m * 2,none⟩ (.int .i64 a1)).setCell ⟨g,m * 2 + 1,none⟩ (.slice An cc.length cn))).heap[k]? = wc.heap[k]? := fun k h1 h2 => E1.out.block k h2 (fun e_ => h1 (by injection e_))
  refine ⟨rfl,some ⟨g,0,none⟩,c1,(hk gb hng (blk_lt BG.out)).trans BG.out,Kd.S_mono (ok := fun k_ => (P1_ k_ ∨ w.heap.size ≤ k_) ∧ k_ ≠ gb) (set_fin_ (d := k83) (w := wc) (f := f) (okm := fun k => (P1_ k ∧ k < w.heap.size) ∧ k ≠ g) (okx := fun k_ => w2.heap.size ≤ k_ ∧ k_ < w3.heap.size) (cx := [.int .i64 a1,.slice An cc.length cn]) E2.out HLT.out E3.out MX.out (fun k h h2 => absurd h2.1.2 (Nat.not_lt.2 (OKX.out k h))) (fun k h h2 => hk k h.2 h2) (fun k h h2 => hk k (fun e_ => absurd E4.out.2 (Nat.not_lt.2 (e_ ▸ OKX.out k h))) h2) (fun k h => ⟨⟨.inl h.1.1,fun e_ => P1.out (e_ ▸ h.1.1)⟩,h.2⟩) (fun k h => ⟨⟨.inr (OKX.out k h),fun e_ => absurd LG.out (Nat.not_lt.2 (e_ ▸ OKX.out k h))⟩,fun e_ => absurd E4.out.2 (Nat.not_lt.2 (e_ ▸ OKX.out k h))⟩) ⟨.inl E4.out.1,fun e_ => P1.out (e_ ▸ E4.out.1)⟩ E0.out) (fun _ h_ => h_),?_,?_⟩
  ·exact below_set (below_set HB.out HGB.out) HGB.out
  ·exact (HK.out.setCell (p := ⟨g,m * 2,none⟩) (.inl (.inl E4.out.1)) _).setCell (p := ⟨g,m * 2 + 1,none⟩) (.inl (.inl E4.out.1)) _
  | false =>
  go_upto_region 4 with (fail)
  have B : Below w5.heap.size w5 w5.drew := below_drew1 (Below.refl _ _)
  have BG := ak (blk_below BG.out B)
  have T1 := ak (Kd.S_below T1.out B)
  have HB := ak (below_step HB.out B)
  have HK := ak (HK.out.below B)
  have BC := ak (blk_below BC.out B)
  have MX := ak (Kd.M_below MX.out B)
  clear B
  refine start_ (n := 12) (S := fun w' => w'.cell? ⟨gb,0,none⟩ = some (.bool b) ∧ w'.cell? ⟨gb,1,none⟩ = some (.slice A1 p1.length c1) ∧ w'.cell? ⟨gb,2,none⟩ = some (s2) ∧ w'.cell? ⟨gb,3,none⟩ = some (s3) ∧ w'.cell? ⟨gc,0,none⟩ = some (.int .i64 a1) ∧ w'.cell? ⟨gc,1,none⟩ = some (.slice An cc.length cn)) (ds := [11]) #[false,false,false,false,false,false,false,false,false,false,false,false] (by kernel_rfl) rfl rfl ⟨(blk_cell BG.out 0).trans rfl,(blk_cell BG.out 1).trans rfl,(blk_cell BG.out 2).trans rfl,(blk_cell BG.out 3).trans rfl,(blk_cell BC.out 0).trans rfl,(blk_cell BC.out 1).trans rfl⟩ (fun hHeld => ?_)
  generalize w5.drew = wd at BG BC T1 MX HB HK hHeld ⊢
  have LX : Aside0 (w3.heap.size ≤ wd.heap.size) := ⟨Nat.le_trans GC.out (Nat.le_of_lt (blk_lt BC.out))⟩
  refine pure_ (i := 0) (N := some 30) (v := ?_) (a' := ?_) #[true,false,false,false,false,false,false,false,false,false,false,false] rfl rfl (by kernel_rfl) (fun _ _ _ h => h) (Or.inl ⟨by rfl,?_⟩) ?_ ?_
  rotate_left
  ·intro w'
   go_simp
   with_reducible rfl
  rotate_left
  ·simp only [Act.put,q1,q2,q3,i64_w,i32_w]
   rfl
  refine pure_ (i := 1) (N := some 31) (v := ?_) (a' := ?_) #[true,true,false,false,false,false,false,false,false,false,false,false] rfl rfl (by kernel_rfl) (fun _ _ _ h => h) (Or.inl ⟨by rfl,?_⟩) ?_ ?_
  rotate_left
  ·intro w'
   go_simp
   with_reducible rfl
  rotate_left
  ·simp only [Act.put,q1,q2,q3,i64_w,i32_w]
   rfl
  refine pure_ (i := 2) (N := some 32) (v := ?_) (a' := ?_) #[true,true,true,false,false,false,false,false,false,false,false,false] rfl rfl (by kernel_rfl) (fun _ _ _ h => h) (Or.inl ⟨by rfl,?_⟩) ?_ ?_
  rotate_left
  ·intro w'
   go_simp
   with_reducible rfl
  rotate_left
  ·simp only [Act.put,q1,q2,q3,i64_w,i32_w]
   rfl
  refine pure_ (i := 3) (N := some 33) (v := ?_) (a' := ?_) #[true,true,true,true,false,false,false,false,false,false,false,false] rfl rfl (by kernel_rfl) (fun _ _ _ h => h) (Or.inl ⟨by rfl,?_⟩) ?_ ?_
  rotate_left
  ·intro w'
   go_simp
   with_reducible rfl
  rotate_left
  ·simp only [Act.put,q1,q2,q3,i64_w,i32_w]
   rfl
  refine take_ (i := 4) (N := some 34) (v := ?_) (a' := ?_) #[true,true,true,true,true,false,false,false,false,false,false,false] rfl rfl (by kernel_rfl) (fun _ _ _ h => h) (Or.inl ⟨by rfl,?_⟩) hHeld ?_ ?_
  rotate_left
  ·rintro w' ⟨s0,s1,s2,s3,s4,s5⟩
   go_simp
   with_reducible rfl
  rotate_left
  ·simp only [Act.put,q1,q2,q3,i64_w,i32_w]
   rfl
  refine pure_ (i := 5) (N := some 35) (v := ?_) (a' := ?_) #[true,true,true,true,true,true,false,false,false,false,false,false] rfl rfl (by kernel_rfl) (fun _ _ _ h => h) (Or.inl ⟨by rfl,?_⟩) ?_ ?_
  rotate_left
  ·intro w'
   go_simp
   with_reducible rfl
  rotate_left
  ·simp only [Act.put,q1,q2,q3,i64_w,i32_w]
   rfl
  refine take_ (i := 6) (N := some 36) (v := ?_) (a' := ?_) #[true,true,true,true,true,true,true,false,false,false,false,false] rfl rfl (by kernel_rfl) (fun _ _ _ h => h) (Or.inl ⟨by rfl,?_⟩) hHeld ?_ ?_
  rotate_left
  ·rintro w' ⟨s0,s1,s2,s3,s4,s5⟩
   go_simp
   with_reducible rfl
  rotate_left
  ·simp only [Act.put,q1,q2,q3,i64_w,i32_w]
   rfl
  refine one_ (i := 7) (N := some 37) #[true,true,true,true,true,true,true,true,false,false,false,false] rfl rfl (by kernel_rfl) (by decide) (fun K hK => ?_)
  refine value_ (w1 := ?_) (v := ?_) (by rfl) rfl ?_ ?_
  rotate_left 2
  ·go_simp
   constructor
   ·rfl
   ·rfl
  have BV := ak (blk_new wd (.cells #[.int .i64 a1,.slice An cc.length cn] 83))
  have B : Below wd.heap.size wd (wd.alloc (.cells #[.int .i64 a1,.slice An cc.length cn] 83)) := below_alloc (Below.refl _ _) _
  have NV := ak HK.out.1
  have BG := ak (blk_below BG.out B)
  have T1 := ak (Kd.S_below T1.out B)
  have HB := ak (below_step HB.out B)
  have HK := ak (HK.out.below B)
  have BC := ak (blk_below BC.out B)
  have MX := ak (Kd.M_below MX.out B)
  have LX := ak (Nat.le_trans LX.out B.size)
  clear B
  generalize wd.alloc (.cells #[.int .i64 a1,.slice An cc.length cn] 83) = we at BV BG BC T1 MX HB HK LX ⊢
  refine hK.out _ _ ⟨(blk_cell BG.out 0).trans rfl,(blk_cell BG.out 1).trans rfl,(blk_cell BG.out 2).trans rfl,(blk_cell BG.out 3).trans rfl,(blk_cell BC.out 0).trans rfl,(blk_cell BC.out 1).trans rfl⟩ (fun hHeld => ?_)
  clear hK K
  refine nr_ (some 37) _ ?_
  refine one_ (i := 8) (N := some 38) #[true,true,true,true,true,true,true,true,true,false,false,false] rfl rfl (by kernel_rfl) (by decide) (fun K hK => ?_)
  refine goes_ Tryz.func104 (by kernel_rfl) rfl #[.slice A1 p1.length c1,.int .i64 (m : Int),.slice (some ⟨wd.heap.size,0,none⟩) 1 1] (by rfl) rfl rfl (by (try simp only [List.map_toArray,List.map_cons,List.map_nil]);first|done|rfl) ?_
  refine (slices_Insert_Copy.calls (fun k_ => P1_ k_ ∧ k_ < w.heap.size) (fun k_ => w2.heap.size ≤ k_ ∧ k_ < w3.heap.size) A1 c1 p1 m (⟨a1,cc⟩ : S83) (.int .i64 a1) (.slice An cc.length cn) wd.heap.size w0 _ HB.out (fun h_ => absurd h_.2 (Nat.not_lt.2 NV.out)) BV.out MX.out ⟨rfl,rfl⟩ (fun k h h2 => absurd h2.2 (Nat.not_lt.2 (OKX.out k h))) (fun k h => Nat.lt_of_lt_of_le h.2 LX.out) (fun k h => Nat.lt_of_lt_of_le h.2 HK.out.1) T1.out HS.out M1.out).mono ?_
  rintro e w6 ⟨A5,c5,rfl,S,B,K⟩
  refine ⟨_,rfl,?_⟩
  have BG := ak (blk_kept BG.out K (fun h_ => P1.out h_.1))
  have BC := ak (blk_kept BC.out K (fun h_ => absurd h_.2 (Nat.not_lt.2 (Nat.le_trans NBW.out (Nat.le_trans NB.out GC.out)))))
  have T1 := ak (Kd.S_mono (ok' := fun k_ => (P1_ k_ ∨ w.heap.size ≤ k_) ∧ k_ ≠ gb) S (fun k_ h_ => h_.elim (fun h1_ => h1_.elim (fun h2_ => ⟨.inl h2_.1,fun e_ => P1.out (e_ ▸ h2_.1)⟩) (fun h2_ => ⟨.inr (OKX.out k_ h2_),fun e_ => absurd LG.out (Nat.not_lt.2 (e_ ▸ OKX.out k_ h2_))⟩)) (fun h1_ => ⟨.inr (Nat.le_trans HK.out.1 h1_),fun e_ => absurd LG.out (Nat.not_lt.2 (e_ ▸ Nat.le_trans HK.out.1 h1_))⟩)))
  have HB := ak B
  have HK := ak (HK.out.then_ K (fun _ h_ => .inl (.inl h_.1)))
  clear S B K BV
  refine hK.out _ _ ⟨(blk_cell BG.out 0).trans rfl,(blk_cell BG.out 1).trans rfl,(blk_cell BG.out 2).trans rfl,(blk_cell BG.out 3).trans rfl,(blk_cell BC.out 0).trans rfl,(blk_cell BC.out 1).trans rfl⟩ (fun hHeld => ?_)
  clear hK K
  refine nr_ (some 38) _ ?_
  refine pure_ (i := 9) (N := some 39) (v := ?_) (a' := ?_) #[true,true,true,true,true,true,true,true,true,true,false,false] rfl rfl (by kernel_rfl) (fun _ _ _ h => h) (Or.inl ⟨by rfl,?_⟩) ?_ ?_
  rotate_left
  ·intro w'
   go_simp
   with_reducible rfl
  rotate_left
  ·simp only [Act.put,q1,q2,q3,i64_w,i32_w]
   rfl
  refine pure_ (i := 10) (N := some 40) (v := ?_) (a' := ?_) #[true,true,true,true,true,true,true,true,true,true,true,false] rfl rfl (by kernel_rfl) (fun _ _ _ h => h) (Or.inl ⟨by rfl,?_⟩) ?_ ?_
  rotate_left
  ·intro w'
   go_simp
   with_reducible rfl
  rotate_left
  ·simp only [Act.put,q1,q2,q3,i64_w,i32_w]
   rfl
  refine last_ (i := 11) (N := none) #[true,true,true,true,true,true,true,true,true,true,true,true] rfl rfl (by kernel_rfl) (by decide) (fun K hK => ?_)
  have hs_ : w6.cell? ⟨gb,1,none⟩ = some (.slice A1 p1.length c1) := (blk_cell BG.out 1).trans rfl
  have hf_ := blk_frozen BG.out 1
  refine skip_ (w1 := (w6.setCell ⟨gb,1,none⟩ (.slice A5 (p1.length + 1) c5))) (by rfl) rfl ?_ ?_
  ·first|(go_simp;done)|(go_simp;rfl)|(go_simp;simp)
  refine hK.out _ _ ?_
  clear hK K
  refine done_ (by kernel_rfl) ?_
  clear hs_ hf_ hHeld
  go_wp2
  go_end0
  have er : putC a1 cc p1 = p1.take m ++ [(⟨a1,cc⟩ : S83)] ++ p1.drop m := by unfold putC;rw [if_neg (by rw [hf];simp),HMD.out]
  have el : (p1.take m ++ [(⟨a1,cc⟩ : S83)] ++ p1.drop m).length = p1.length + 1 := by have := M1.out;simp;omega
  rw [er,el]
  exact ⟨rfl,A5,c5,(by refine blk_put (cs := #[.bool b,.slice A1 p1.length c1,s2,s3]) ?_ 1 _ rfl;exact BG.out),Kd.S_far (p := ⟨gb,1,none⟩) T1.out (fun _ h_ => h_.2) _,below_set HB.out GG.out,HK.out.setCell (p := ⟨gb,1,none⟩) (.inl (.inr rfl)) _⟩

/-! ### impl_Replace: function 14 -/
theorem hold_14 {p : Prop} (h : Aside0 p) : p := h.out
theorem ty_14 {w : World} {k : Nat} {a b : List Nat} (h1 : ∃ q, q ∈ a ∧ ∃ cs, w.heap[k]? = some (.cells cs q (0, 0))) (h2 : ∃ q, q ∈ b ∧ ∃ cs, w.heap[k]? = some (.cells cs q (0, 0))) (hd : ∀ q, q ∈ a → ¬ q ∈ b) : False := by
 obtain ⟨q,hq,cs,h1⟩ := h1
 obtain ⟨q2,hq2,cs2,h2⟩ := h2
 rw [h1] at h2
 injection h2 with h2
 injection h2 with _ h2
 exact hd q hq (h2 ▸ hq2)
def impl_Replace.f (k : Nat) (a0_0 : Bool) (l0_1 : List (S83)) (l0_2 : List (S50)) (l0_3 : List Int) (a1 : Int) (l2 : List (S87)) : Option (Bool × (List (S83)) × (List (S50)) × List Int × Bool) := (impl_isMachineOk.f k a0_0 l0_1 l0_2 l0_3).bind fun t => if t = true then ((impl_isRegion.f a1).bind fun t2 => if t2 = true then ((impl_areCells.f l2).bind fun t3 => if t3 = true then ((impl_cloneMachine.f k a0_0 l0_1 l0_2 l0_3).bind fun c => (impl_Machine_replace.f c.2.1 a1 l2).bind fun q => some (c.1, q, c.2.2.1, c.2.2.2, true)) else some (false, [], [], [], false)) else some (false, [], [], [], false)) else some (false, [], [], [], false)
theorem impl_Replace.calls (k : Nat) (a0_0 : Bool) (A0_1 : Option Addr) (c0_1 : Nat) (l0_1 : List (S83)) (A0_2 : Option Addr) (c0_2 : Nat) (l0_2 : List (S50)) (A0_3 : Option Addr) (c0_3 : Nat) (l0_3 : List Int) (a1 : Int) (A2 : Option Addr) (c2 : Nat) (l2 : List (S87)) (r1 : Bool) (r2 : List (S83)) (r3 : List (S50)) (r4 : List Int) (r5 : Bool) (w : World) (hr0_1 : Kd.C k83 w A0_1 l0_1.length l0_1) (hc0_1 : l0_1.length ≤ c0_1) (hr0_2 : Kd.C k50 w A0_2 l0_2.length l0_2) (hc0_2 : l0_2.length ≤ c0_2) (hr0_3 : Kd.C (Kd.int .i64) w A0_3 l0_3.length l0_3) (hc0_3 : l0_3.length ≤ c0_3) (hr2 : Kd.C k87 w A2 l2.length l2) (hc2 : l2.length ≤ c2) (h : impl_Replace.f k a0_0 l0_1 l0_2 l0_3 a1 l2 = some (r1, r2, r3, r4, r5)) :
    Calls Tryz.prog 14 #[.agg #[.bool a0_0, .slice A0_1 l0_1.length c0_1, .slice A0_2 l0_2.length c0_2, .slice A0_3 l0_3.length c0_3], .int .i64 a1, .slice A2 l2.length c2] w fun e w' => ∃ v1_ v2_ v3_ : Value, e = .returned (.tuple #[.agg #[.bool r1, v1_, v2_, v3_], .bool r5]) ∧ Kd.S k83 83 w' w.heap.size (fun _ => True) v1_ r2 ∧ Kd.S k50 50 w' w.heap.size (fun _ => True) v2_ r3 ∧ Kd.R (Kd.int .i64) 2 w' w.heap.size (fun _ => True) v3_ r4 ∧ Below w.heap.size w w' := by
 have hu := Tryz.underlying31
 have HR1 := ak hr0_1
 have HC1 := ak hc0_1
 clear hr0_1 hc0_1
 have HR2 := ak hr0_2
 have HC2 := ak hc0_2
 clear hr0_2 hc0_2
 have HR3 := ak hr0_3
 have HC3 := ak hc0_3
 clear hr0_3 hc0_3
 have HRR := ak hr2
 have HRC := ak hc2
 clear hr2 hc2
 obtain ⟨t,E0,h1⟩ := Option.bind_eq_some_iff.1 h
 clear h
 have H1 := ak h1
 have F0 := ak E0
 clear h1 E0
 go_enter Tryz.func14,Tryz.ntmps14
 go_wp2_with ((with_reducible refine gate_dst (N := 3) rfl ?_);refine bx_ 3 #[.bool a0_0,.slice A0_1 l0_1.length c0_1,.slice A0_2 l0_2.length c0_2,.slice A0_3 l0_3.length c0_3] 31 ?_;intro ga hg w1 hbox hb;have hge := ak (Nat.le_of_eq hg.symm);clear hg;refine hold_14 ?_)
 refine ⟨?_⟩
 have D1 := ak hb
 have BM := ak hbox
 clear hb hbox hge
 go_wp2_with ((with_reducible refine gate_dst (N := 6) rfl ?_);refine bx_ 6 #[.bool false,.slice none 0 0,.slice none 0 0,.slice none 0 0] 31 ?_;intro gr hg w2 hbox hb;have hge := ak (Nat.le_of_eq hg.symm);clear hg;refine hold_14 ?_)
 refine ⟨?_⟩
 have GR : Aside0 (w.heap.size ≤ gr) := ⟨Nat.le_trans D1.out.size hge.out⟩
 have D2 := ak (below_step D1.out hb)
 have BM := ak (blk_below BM.out hb)
 have BR := ak hbox
 clear hb hbox hge
 have hcga2_0 : w2.cell? ⟨ga,0,none⟩ = some (.bool a0_0) := (blk_cell BM.out 0).trans rfl
 have hcga2_1 : w2.cell? ⟨ga,1,none⟩ = some (.slice A0_1 l0_1.length c0_1) := (blk_cell BM.out 1).trans rfl
 have hcga2_2 : w2.cell? ⟨ga,2,none⟩ = some (.slice A0_2 l0_2.length c0_2) := (blk_cell BM.out 2).trans rfl
 have hcga2_3 : w2.cell? ⟨ga,3,none⟩ = some (.slice A0_3 l0_3.length c0_3) := (blk_cell BM.out 3).trans rfl
 go_wp2_with ((with_reducible refine gcal_ (f := 36) rfl ?_);refine gz_ (some 10) Tryz.func36 #[.agg #[.bool a0_0,.slice A0_1 l0_1.length c0_1,.slice A0_2 l0_2.length c0_2,.slice A0_3 l0_3.length c0_3]] ?_;refine (impl_isMachineOk.calls k a0_0 A0_1 c0_1 l0_1 A0_2 c0_2 l0_2 A0_3 c0_3 l0_3 t _ (Kd.C_below HR1.out D2.out) HC1.out (Kd.C_below HR2.out D2.out) HC2.out (Kd.C_below HR3.out D2.out) HC3.out F0.out).mono ?_;rintro e w2b ⟨rfl,B⟩;refine ⟨_,rfl,?_⟩;refine hold_14 ?_)
 refine ⟨?_⟩
 have D3 := ak (below_step D2.out B)
 have BM := ak (blk_below BM.out B)
 have BR := ak (blk_below BR.out B)
 clear B
 obtain ⟨⟨hcgr3_0,hcgr3_1,hcgr3_2,hcgr3_3⟩,hfr3_0,hfr3_1,hfr3_2,hfr3_3⟩ := cl4_ BR.out
 cases t with
  | false =>
  have h1 := H1.out
  rw [if_neg (by simp)] at h1
  clear H1
  simp only [Option.some.injEq,Prod.mk.injEq] at h1
  obtain ⟨rfl,rfl,rfl,rfl,rfl⟩ := h1
  go_wp2
  refine bodyPost_ret (results_ct rfl _ _ gr 31 #[.bool false,.slice none 0 0,.slice none 0 0,.slice none 0 0] (0,0) _ rfl (pt4_ BR.out _ _ _ _) Tryz.underlying31 rfl (by kernel_rfl)) rfl ?_
  exact ⟨.slice none 0 0,.slice none 0 0,.slice none 0 0,by first|rfl|(simp;done),Kd.S_nil _ _ _ _ _,Kd.S_nil _ _ _ _ _,Kd.R_nil _ _ _ _ _,below_set (below_set (below_set (below_set D3.out GR.out) GR.out) GR.out) GR.out⟩
  | true =>
 have h1 := H1.out
 rw [if_pos rfl] at h1
 clear H1
 obtain ⟨t2,E9,h2⟩ := Option.bind_eq_some_iff.1 h1
 clear h1
 have H1 := ak h2
 have F9 := ak E9
 clear h2 E9
 go_wp2_with (go_at_call 54;refine (impl_isRegion.calls a1 t2 _ F9.out).mono ?_;rintro e w3a ⟨rfl,B0⟩;(try dsimp only);refine hold_14 ?_)
 refine ⟨?_⟩
 have B := B0.below
 have D3 := ak (below_step D3.out B)
 have BM := ak (blk_below BM.out B)
 have BR := ak (blk_below BR.out B)
 clear B B0
 clear hcgr3_0 hfr3_0 hcgr3_1 hfr3_1 hcgr3_2 hfr3_2 hcgr3_3 hfr3_3
 clear F9
 obtain ⟨⟨hcgr4_0,hcgr4_1,hcgr4_2,hcgr4_3⟩,hfr4_0,hfr4_1,hfr4_2,hfr4_3⟩ := cl4_ BR.out
 cases t2 with
  | false =>
  have h1 := H1.out
  rw [if_neg (by simp)] at h1
  clear H1
  simp only [Option.some.injEq,Prod.mk.injEq] at h1
  obtain ⟨rfl,rfl,rfl,rfl,rfl⟩ := h1
  go_wp2
  refine bodyPost_ret (results_ct rfl _ _ gr 31 #[.bool false,.slice none 0 0,.slice none 0 0,.slice none 0 0] (0,0) _ rfl (pt4_ BR.out _ _ _ _) Tryz.underlying31 rfl (by kernel_rfl)) rfl ?_
  exact ⟨.slice none 0 0,.slice none 0 0,.slice none 0 0,by first|rfl|(simp;done),Kd.S_nil _ _ _ _ _,Kd.S_nil _ _ _ _ _,Kd.R_nil _ _ _ _ _,below_set (below_set (below_set (below_set D3.out GR.out) GR.out) GR.out) GR.out⟩
  | true =>
 have h1 := H1.out
 rw [if_pos rfl] at h1
 clear H1
 obtain ⟨t3,E9,h2⟩ := Option.bind_eq_some_iff.1 h1
 clear h1
 have H1 := ak h2
 have F9 := ak E9
 clear h2 E9
 go_wp2_with (go_at_call 55;refine (impl_areCells.calls A2 c2 l2 t3 _ (Kd.C_below HRR.out D3.out) HRC.out F9.out).mono ?_;rintro e w3 ⟨rfl,B⟩;(try dsimp only);refine hold_14 ?_)
 refine ⟨?_⟩
 have D3 := ak (below_step D3.out B)
 have BM := ak (blk_below BM.out B)
 have BR := ak (blk_below BR.out B)
 clear B
 clear hcgr4_0 hfr4_0 hcgr4_1 hfr4_1 hcgr4_2 hfr4_2 hcgr4_3 hfr4_3
 clear F9
 obtain ⟨⟨hcgr5_0,hcgr5_1,hcgr5_2,hcgr5_3⟩,hfr5_0,hfr5_1,hfr5_2,hfr5_3⟩ := cl4_ BR.out
 have hcga5_0 : w3.cell? ⟨ga,0,none⟩ = some (.bool a0_0) := (blk_cell BM.out 0).trans rfl
 have hcga5_1 : w3.cell? ⟨ga,1,none⟩ = some (.slice A0_1 l0_1.length c0_1) := (blk_cell BM.out 1).trans rfl
 have hcga5_2 : w3.cell? ⟨ga,2,none⟩ = some (.slice A0_2 l0_2.length c0_2) := (blk_cell BM.out 2).trans rfl
 have hcga5_3 : w3.cell? ⟨ga,3,none⟩ = some (.slice A0_3 l0_3.length c0_3) := (blk_cell BM.out 3).trans rfl
 cases t3 with
  | false =>
  have h1 := H1.out
  rw [if_neg (by simp)] at h1
  clear H1
  simp only [Option.some.injEq,Prod.mk.injEq] at h1
  obtain ⟨rfl,rfl,rfl,rfl,rfl⟩ := h1
  go_wp2
  refine bodyPost_ret (results_ct rfl _ _ gr 31 #[.bool false,.slice none 0 0,.slice none 0 0,.slice none 0 0] (0,0) _ rfl (pt4_ BR.out _ _ _ _) Tryz.underlying31 rfl (by kernel_rfl)) rfl ?_
  exact ⟨.slice none 0 0,.slice none 0 0,.slice none 0 0,by first|rfl|(simp;done),Kd.S_nil _ _ _ _ _,Kd.S_nil _ _ _ _ _,Kd.R_nil _ _ _ _ _,below_set (below_set (below_set (below_set D3.out GR.out) GR.out) GR.out) GR.out⟩
  | true =>
 have h1 := H1.out
 rw [if_pos rfl] at h1
 clear H1
 obtain ⟨⟨b,p1,p2,p3⟩,E1,h2⟩ := Option.bind_eq_some_iff.1 h1
 clear h1
 obtain ⟨q1,E2,h3⟩ := Option.bind_eq_some_iff.1 h2
 clear h2
 simp only [Option.some.injEq,Prod.mk.injEq] at h3
 obtain ⟨rfl,rfl,rfl,rfl,rfl⟩ := h3
 have F1 := ak E1
 have F2 := ak E2
 clear E1 E2
 go_wp2_with ((with_reducible refine gcal_ (f := 39) rfl ?_);refine gz_ (some 24) Tryz.func39 #[.agg #[.bool a0_0,.slice A0_1 l0_1.length c0_1,.slice A0_2 l0_2.length c0_2,.slice A0_3 l0_3.length c0_3]] ?_;refine (impl_cloneMachine.calls k a0_0 A0_1 c0_1 l0_1 A0_2 c0_2 l0_2 A0_3 c0_3 l0_3 b p1 p2 p3 _ (Kd.C_below HR1.out D3.out) HC1.out (Kd.C_below HR2.out D3.out) HC2.out (Kd.C_below HR3.out D3.out) HC3.out F1.out).mono ?_;rintro e w4 ⟨v1,v2,v3,rfl,S1,S2,S3,B⟩;refine ⟨_,rfl,?_⟩;refine hold_14 ?_)
 refine ⟨?_⟩
 clear hcgr5_0 hfr5_0 hcgr5_1 hfr5_1 hcgr5_2 hfr5_2 hcgr5_3 hfr5_3 hcga5_0 hcga5_1 hcga5_2 hcga5_3
 have T1 := ak S1
 have T2 := ak S2
 have T3 := ak S3
 have LG := ak (blk_lt BR.out)
 have G := ak B
 have D4 := ak (below_step D3.out B)
 have BR := ak (blk_below BR.out B)
 clear S1 S2 S3 B BM
 obtain ⟨B1,d1,e1_⟩ := Kd.S_slice T1.out
 subst e1_
 obtain ⟨B2,d2,e2_⟩ := Kd.S_slice T2.out
 subst e2_
 obtain ⟨B3,d3,e3_⟩ := Kd.R_slice T3.out
 subst e3_
 go_wp2_with ((with_reducible refine gate_dst (N := 8) rfl ?_);refine bx_ 8 #[.bool false,.slice none 0 0,.slice none 0 0,.slice none 0 0] 31 ?_;intro go hg w5 hbox hb;have hge := ak (Nat.le_of_eq hg.symm);clear hg;refine hold_14 ?_)
 refine ⟨?_⟩
 have BZ := ak hbox
 have Q0 := ak hb
 have HGE := hge
 clear hbox hb hge
 obtain ⟨⟨hcgoy_0, hcgoy_1, hcgoy_2, hcgoy_3⟩, hfy_0, hfy_1, hfy_2, hfy_3⟩ := cl4_ BZ.out
 go_upto_region 4 with (fail)
 obtain ⟨n0_, n1_⟩ := fl4_ Q0.out HGE.out BZ.out (.bool b) (.slice B1 p1.length d1) (.slice B2 p2.length d2) (.slice B3 p3.length d3)
 clear BZ Q0
 clear hcgoy_0 hfy_0 hcgoy_1 hfy_1 hcgoy_2 hfy_2 hcgoy_3 hfy_3
 generalize ((((w5.setCell ⟨go,0,none⟩ (.bool b)).setCell ⟨go,1,none⟩ (.slice B1 p1.length d1)).setCell ⟨go,2,none⟩ (.slice B2 p2.length d2)).setCell ⟨go,3,none⟩ (.slice B3 p3.length d3)) = w6 at n0_ n1_ ⊢
 have B := n0_.out
 have BG := n1_
 clear n0_ n1_
 have T1 := ak (Kd.S_bound (Kd.S_below T1.out B))
 have T2 := ak (Kd.S_bound (Kd.S_below T2.out B))
 have T3 := ak (Kd.R_bound (Kd.R_below T3.out B))
 have GO : Aside0 (w3.heap.size ≤ go) := ⟨Nat.le_trans G.out.size HGE.out⟩
 have G := ak (below_step G.out B)
 have D6 := ak (below_step D4.out B)
 have BR := ak (blk_below BR.out B)
 clear B D4
 have NG : Aside0 (gr ≠ go) := ⟨Nat.ne_of_lt (Nat.lt_of_lt_of_le LG.out GO.out)⟩
 go_wp2_with ((with_reducible refine gcal_ (f := 56) rfl ?_);refine gz_ (some 27) Tryz.func56 #[.pointer (some ⟨go,0,none⟩),.int .i64 a1,.slice A2 l2.length c2] ?_;refine (impl_Machine_replace.calls (fun k_ => True ∧ w3.heap.size ≤ k_ ∧ k_ < w6.heap.size ∧ ∃ q,q ∈ 83 :: (k83).E ∧ ∃ cells,w6.heap[k_]? = some (.cells cells q (0,0))) go b (.slice B2 p2.length d2) (.slice B3 p3.length d3) B1 d1 p1 a1 A2 c2 l2 q1 w3 _ G.out GO.out BG.out (fun hs_ => ty_14 ⟨31,List.mem_singleton.2 rfl,_,BG.out⟩ hs_.2.2.2 (by decide)) T1.out (Kd.C_below HRR.out D6.out) HRC.out F2.out).mono ?_;rintro e w7 ⟨rfl,B4,d4,BG2,S,B,K⟩;refine ⟨_,rfl,?_⟩;refine hold_14 ?_)
 refine ⟨?_⟩
 have T2 := ak (Kd.S_kept T2.out K (fun k_ hk_ hs_ => hs_.elim (fun h_ => ty_14 hk_.2.2.2 h_.2.2.2 (by decide)) (fun e_ => ty_14 (e_ ▸ hk_.2.2.2) ⟨31,List.mem_singleton.2 rfl,_,BG.out⟩ (by decide))))
 have T3 := ak (Kd.R_kept T3.out K (fun k_ hk_ hs_ => hs_.elim (fun h_ => ty_14 hk_.2.2.2 h_.2.2.2 (by decide)) (fun e_ => ty_14 (e_ ▸ hk_.2.2.2) ⟨31,List.mem_singleton.2 rfl,_,BG.out⟩ (by decide))))
 have T1 := ak S
 have BR2 := ak (blk_kept BR.out K (fun hs_ => hs_.elim (fun hs_ => ty_14 ⟨31,List.mem_singleton.2 rfl,_,BR.out⟩ hs_.2.2.2 (by decide)) NG.out))
 have BG := ak BG2
 have D7 := ak (below_step D3.out B)
 clear S B K BG2 BR
 have BR := BR2
 clear BR2
 have hcgo7_0 : w7.cell? ⟨go,0,none⟩ = some (.bool b) := (blk_cell BG.out 0).trans rfl
 have hcgo7_1 : w7.cell? ⟨go,1,none⟩ = some (.slice B4 q1.length d4) := (blk_cell BG.out 1).trans rfl
 have hcgo7_2 : w7.cell? ⟨go,2,none⟩ = some (.slice B2 p2.length d2) := (blk_cell BG.out 2).trans rfl
 have hcgo7_3 : w7.cell? ⟨go,3,none⟩ = some (.slice B3 p3.length d3) := (blk_cell BG.out 3).trans rfl
 obtain ⟨⟨hcgr7_0,hcgr7_1,hcgr7_2,hcgr7_3⟩,hfr7_0,hfr7_1,hfr7_2,hfr7_3⟩ := cl4_ BR.out
 go_wp2
 refine bodyPost_ret (results_ct rfl _ _ gr 31 #[.bool b,.slice B4 q1.length d4,.slice B2 p2.length d2,.slice B3 p3.length d3] (0,0) _ rfl (pt4_ BR.out _ _ _ _) Tryz.underlying31 rfl (by kernel_rfl)) rfl ?_
 exact ⟨.slice B4 q1.length d4,.slice B2 p2.length d2,.slice B3 p3.length d3,by first|rfl|(simp;done),Kd.S_mono (Kd.S_far (p := ⟨gr,3,none⟩) (Kd.S_far (p := ⟨gr,2,none⟩) (Kd.S_far (p := ⟨gr,1,none⟩) (Kd.S_far (p := ⟨gr,0,none⟩) (Kd.S_types (Kd.S_lower T1.out D3.out.size) BR.out (by decide)) (fun _ h_ => h_.2) (.bool b)) (fun _ h_ => h_.2) (.slice B4 q1.length d4)) (fun _ h_ => h_.2) (.slice B2 p2.length d2)) (fun _ h_ => h_.2) (.slice B3 p3.length d3)) (fun _ _ => trivial),Kd.S_mono (Kd.S_far (p := ⟨gr,3,none⟩) (Kd.S_far (p := ⟨gr,2,none⟩) (Kd.S_far (p := ⟨gr,1,none⟩) (Kd.S_far (p := ⟨gr,0,none⟩) (Kd.S_types (Kd.S_lower T2.out D3.out.size) BR.out (by decide)) (fun _ h_ => h_.2) (.bool b)) (fun _ h_ => h_.2) (.slice B4 q1.length d4)) (fun _ h_ => h_.2) (.slice B2 p2.length d2)) (fun _ h_ => h_.2) (.slice B3 p3.length d3)) (fun _ _ => trivial),Kd.R_mono (Kd.R_far (p := ⟨gr,3,none⟩) (Kd.R_far (p := ⟨gr,2,none⟩) (Kd.R_far (p := ⟨gr,1,none⟩) (Kd.R_far (p := ⟨gr,0,none⟩) (Kd.R_types (Kd.R_lower T3.out D3.out.size) BR.out (by decide)) (fun _ h_ => h_.2) (.bool b)) (fun _ h_ => h_.2) (.slice B4 q1.length d4)) (fun _ h_ => h_.2) (.slice B2 p2.length d2)) (fun _ h_ => h_.2) (.slice B3 p3.length d3)) (fun _ _ => trivial),below_set (below_set (below_set (below_set D7.out GR.out) GR.out) GR.out) GR.out⟩

/-! ### spec_HeadOk: function 105 -/
def spec_HeadOk.f (a0 : Int) : Option (Bool) := (spec_l1In.f a0 0 4000003).bind fun t264 => (some t264)
theorem spec_HeadOk.calls (a0 : Int) (r : Bool) (w : World) (h : spec_HeadOk.f a0 = some r) :
    Calls Tryz.prog 105 #[.int .i64 a0] w fun e w' => e = .returned (.bool r) ∧ Drawn0 w w' := by
 have H : ((spec_l1In.f a0 0 4000003).bind fun t264 => (some t264)) = some r := h
 clear h
 replace H := bs_ H
 obtain ⟨t264,A2,H⟩ := H
 obtain rfl := Option.some.inj H
 go_enter Tryz.func105,Tryz.ntmps105
 go_wp2_with (first|((with_reducible refine gcal_ (f := 74) rfl ?_);refine gl_ (some 4) Tryz.func74 #[.int .i64 a0,.int .i64 0,.int .i64 4000003] ?_;(with_reducible refine (spec_l1In.calls a0 0 4000003 t264 _ A2.out).mono ?_);rintro e w' ⟨rfl,⟨nd,rfl⟩⟩;refine ⟨_,rfl,?_⟩))
 go_ret
 exact ⟨rs_,by repeat (first|exact Drawn0.refl _|apply Drawn0.step)⟩

/-! ### spec_Used: function 107 -/
def spec_Used.f (a0 : Int) : Option (Bool) := (spec_HeadOk.f a0).bind fun t265 => (if t265 = true then (some ((Int.tmod (wrap64 (Int.tdiv a0 2)) 2) == 1)) else (some false))
theorem spec_Used.calls (a0 : Int) (r : Bool) (w : World) (h : spec_Used.f a0 = some r) :
    Calls Tryz.prog 107 #[.int .i64 a0] w fun e w' => e = .returned (.bool r) ∧ Drawn0 w w' := by
 have H : ((spec_HeadOk.f a0).bind fun t265 => (if t265 = true then (some ((Int.tmod (wrap64 (Int.tdiv a0 2)) 2) == 1)) else (some false))) = some r := h
 clear h
 replace H := bs_ H
 obtain ⟨t265,A2,H⟩ := H
 by_cases c3 : t265 = true
 ·subst c3
  replace H := it_ H
  obtain rfl := Option.some.inj H
  go_enter Tryz.func107,Tryz.ntmps107
  go_wp2_with (first|((with_reducible refine gcal_ (f := 105) rfl ?_);refine gl_ (some 4) Tryz.func105 #[.int .i64 a0] ?_;(with_reducible refine (spec_HeadOk.calls a0 true _ A2.out).mono ?_);rintro e w' ⟨rfl,⟨nd,rfl⟩⟩;refine ⟨_,rfl,?_⟩))
  go_ret
  exact ⟨rs_,by repeat (first|exact Drawn0.refl _|apply Drawn0.step)⟩
 ·replace c3 := Bool.eq_false_iff.mpr c3
  subst c3
  replace H := ie_ H
  obtain rfl := Option.some.inj H
  go_enter Tryz.func107,Tryz.ntmps107
  go_wp2_with (first|((with_reducible refine gcal_ (f := 105) rfl ?_);refine gl_ (some 4) Tryz.func105 #[.int .i64 a0] ?_;(with_reducible refine (spec_HeadOk.calls a0 false _ A2.out).mono ?_);rintro e w' ⟨rfl,⟨nd,rfl⟩⟩;refine ⟨_,rfl,?_⟩))
  go_ret
  exact ⟨rs_,by repeat (first|exact Drawn0.refl _|apply Drawn0.step)⟩

end Go.Proofs.YthplaakckfhaaaaGreat.XMs
