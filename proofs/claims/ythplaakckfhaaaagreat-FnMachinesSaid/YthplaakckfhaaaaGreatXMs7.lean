/- Proved: a call of each Go function here comes to what its Lean function tells. -/
import Derived.Test.YthplaakckfhaaaaGreatXMs0
namespace Go.Proofs.YthplaakckfhaaaaGreat.XMs
open Go.RowKit Go.Proofs.YthplaakckfhaaaaGreat.Aid Go.Proofs.YthplaakckfhaaaaGreatW.PrintWords Go.Proofs.YthplaakckfhaaaaGreatW.PrintLast Go.Proofs.YthplaakckfhaaaaGreatW.PrintMore
set_option linter.unusedVariables false
set_option maxHeartbeats 8000000
set_option maxRecDepth 100000
set_option linter.unusedSimpArgs false

/-! ### slices_Index_int64_int64: function 123 -/
def slices_Index_int64_int64.l0 : Nat → List Int → Int → Int → Int → Option (Int)
  | 0, _, _, _, _ => none
  | k + 1, x0, x1, x7, x8 => if x8 < x7 then (if 0 ≤ x8 then (if x8 < (x0.length : Int) then (if x1 = (rd x0 x8) then (some x8) else (slices_Index_int64_int64.l0 k x0 x1 x7 (wrap64 (x8 + 1)))) else (none)) else (none)) else (some (-1))
def slices_Index_int64_int64.f (k : Nat) (l0 : List Int) (a1 : Int) : Option (Int) := slices_Index_int64_int64.l0 k l0 a1 (l0.length : Int) 0

theorem slices_Index_int64_int64.calls (k : Nat) (A0 : Option Addr) (c0 : Nat) (l0 : List Int) (a1 : Int) (r : Int) (w : World) (hr0 : Kd.C (Kd.int .i64) w A0 l0.length l0) (hc0 : l0.length ≤ c0) (h : slices_Index_int64_int64.f k l0 a1 = some r) :
    Calls Tryz.prog 123 #[.slice A0 l0.length c0, .int .i64 a1] w fun e w' => e = .returned (.int .i64 r) ∧ Drawn0 w w' := by
 have HR0 := ak hr0
 have HC0 := ak hc0
 clear hr0 hc0
 have H : (slices_Index_int64_int64.l0 k l0 a1 (l0.length : Int) 0) = some r := h
 clear h
 have H' := ak H
 clear H
 go_enter Tryz.func123,Tryz.ntmps123
 go_wp2
 go_loopg [8] k (fun kq v8 w' => ∃ (x8_1 : Int),v8 = .int .i64 x8_1 ∧ Aside0 (slices_Index_int64_int64.l0 kq l0 a1 (l0.length : Int) x8_1 = some r) ∧ Aside0 (kq ≤ k) ∧ Drawn0 w w')
 case atStart => exact ⟨(0),rs_,H',⟨Nat.le_refl _⟩,by repeat (first|exact Drawn0.refl _|apply Drawn0.step)⟩
 case round =>
  clear H'
  try clear c1
  try clear p2
  obtain ⟨x8_1,rfl,HA,HK1,⟨m1,rfl⟩⟩ := hrel
  cases gk with
    | zero => exact absurd HA.out (by simp [slices_Index_int64_int64.l0])
    | succ k1 =>
   have H := HA.out
   clear HA
   simp only [slices_Index_int64_int64.l0] at H
   by_cases c3 : x8_1 < (l0.length : Int)
   ·rw [if_pos c3] at H
    have c3b0 : decide (x8_1 < (l0.length : Int)) = true := decide_eq_true c3
    clear c3
    by_cases c4 : 0 ≤ x8_1
    ·rw [if_pos c4] at H
     have c4b0 : decide (0 ≤ x8_1) = true := decide_eq_true c4
     clear c4
     by_cases c5 : x8_1 < (l0.length : Int)
     ·rw [if_pos c5] at H
      have c5b0 : decide (x8_1 < (l0.length : Int)) = true := decide_eq_true c5
      clear c5
      by_cases c6 : a1 = (rd l0 x8_1)
      ·rw [if_pos c6] at H
       have c6b0 : (a1 == (rd l0 x8_1)) = true := beq_iff_eq.mpr c6
       have c6b1 : (a1 != (rd l0 x8_1)) = false := bne_eq_false_iff_eq.mpr c6
       clear c6
       obtain rfl := Option.some.inj H
       have p140 : 0 ≤ (x8_1 : Int) := od_
       have q140 : x8_1 < (l0.length : Int) := od_
       obtain ⟨ad140,e140,hx140_0⟩ := Kd.at_int HR0.out x8_1 p140 q140
       cases e140
       replace p140 := eq_true p140
       replace q140 := eq_true q140
       go_wp2
       go_ret
       exact ⟨rs_,by repeat (first|exact Drawn0.refl _|apply Drawn0.step)⟩
      ·rw [if_neg c6] at H
       have c6b0 : (a1 == (rd l0 x8_1)) = false := beq_eq_false_iff_ne.mpr c6
       have c6b1 : (a1 != (rd l0 x8_1)) = true := bne_iff_ne.mpr c6
       have H' := ak H
       clear H
       have p140 : 0 ≤ (x8_1 : Int) := od_
       have q140 : x8_1 < (l0.length : Int) := od_
       obtain ⟨ad140,e140,hx140_0⟩ := Kd.at_int HR0.out x8_1 p140 q140
       cases e140
       replace p140 := eq_true p140
       replace q140 := eq_true q140
       go_wp2
       go_roundg k1
       case measure => have := HK1.out;omega
       case rel => exact ⟨(wrap64 (x8_1 + 1)),rs_,H',⟨by have := HK1.out;omega⟩,by repeat (first|exact Drawn0.refl _|apply Drawn0.step)⟩
     ·rw [if_neg c5] at H
      exact absurd H (by simp)
    ·rw [if_neg c4] at H
     exact absurd H (by simp)
   ·rw [if_neg c3] at H
    have c3b0 : decide (x8_1 < (l0.length : Int)) = false := decide_eq_false c3
    clear c3
    obtain rfl := Option.some.inj H
    go_wp2
    go_ret
    exact ⟨rs_,by repeat (first|exact Drawn0.refl _|apply Drawn0.step)⟩

/-! ### slices_Contains_int64_int64: function 81 -/
def slices_Contains_int64_int64.f (k : Nat) (l0 : List Int) (a1 : Int) : Option (Bool) := (slices_Index_int64_int64.f k l0 a1).bind fun t141 => (some (decide (t141 ≥ 0)))

theorem slices_Contains_int64_int64.calls (k : Nat) (A0 : Option Addr) (c0 : Nat) (l0 : List Int) (a1 : Int) (r : Bool) (w : World) (hr0 : Kd.C (Kd.int .i64) w A0 l0.length l0) (hc0 : l0.length ≤ c0) (h : slices_Contains_int64_int64.f k l0 a1 = some r) :
    Calls Tryz.prog 81 #[.slice A0 l0.length c0, .int .i64 a1] w fun e w' => e = .returned (.bool r) ∧ Drawn0 w w' := by
 have HR0 := ak hr0
 have HC0 := ak hc0
 clear hr0 hc0
 have H : ((slices_Index_int64_int64.f k l0 a1).bind fun t141 => (some (decide (t141 ≥ 0)))) = some r := h
 clear h
 replace H := bs_ H
 obtain ⟨t141,A3,H⟩ := H
 obtain rfl := Option.some.inj H
 go_enter Tryz.func81,Tryz.ntmps81
 go_wp2_with (first|((with_reducible refine gcal_ (f := 123) rfl ?_);refine gl_ (some 7) Tryz.func123 #[.slice A0 l0.length c0,.int .i64 a1] ?_;(with_reducible refine (slices_Index_int64_int64.calls k _ _ l0 a1 t141 _ ?side1 ?side2 A3.out).mono ?_);(case side1 => repeat (first|exact HR0.out|(with_reducible refine Kd.C_alloc ?_ _)|(with_reducible refine Kd.C_drewN ?_ _)|(with_reducible refine Kd.C_drew ?_)));(case side2 => exact HC0.out);rintro e w' ⟨rfl,⟨nd,rfl⟩⟩;refine ⟨_,rfl,?_⟩))
 go_ret
 exact ⟨rs_,by repeat (first|exact Drawn0.refl _|apply Drawn0.step)⟩

/-! ### impl_Machine_canClear: function 38 -/
theorem hold_38 {p : Prop} (h : Aside0 p) : p := h.out
def impl_Machine_canClear.f (k : Nat) (l3 : List Int) (a1 : Int) : Option Bool := if (l3.length : Int) < 60 then some true else slices_Contains_int64_int64.f k l3 a1
theorem impl_Machine_canClear.calls (k : Nat) (gb : Nat) (s0 s1 s2 : Value) (A3 : Option Addr) (c3 : Nat) (l3 : List Int) (a1 : Int) (r : Bool) (w : World) (hx : w.heap[gb]? = some (.cells #[s0, s1, s2, .slice A3 l3.length c3] 31 (0, 0))) (hr : Kd.C (Kd.int .i64) w A3 l3.length l3) (hc : l3.length ≤ c3) (h : impl_Machine_canClear.f k l3 a1 = some r) :
    Calls Tryz.prog 38 #[.pointer (some ⟨gb, 0, none⟩), .int .i64 a1] w fun e w' => e = .returned (.bool r) ∧ Below w.heap.size w w' := by
 have hu := Tryz.underlying31
 have hcy_3 : w.cell? ⟨gb,3,none⟩ = some (.slice A3 l3.length c3) := (blk_cell hx 3).trans rfl
 have HR := ak hr
 have HC := ak hc
 clear hr hc hx
 by_cases c0 : (l3.length : Int) < 60
 ·have h1 : some true = some r := by rw [← h];unfold impl_Machine_canClear.f;rw [if_pos c0]
  obtain rfl := Option.some.inj h1
  have c0b : decide ((l3.length : Int) < 60) = true := decide_eq_true c0
  clear h c0 h1
  go_enter Tryz.func38,Tryz.ntmps38
  go_wp2
  go_ret
  exact ⟨rfl,Below.refl _ _⟩
 ·have h1 : slices_Contains_int64_int64.f k l3 a1 = some r := by rw [← h];unfold impl_Machine_canClear.f;rw [if_neg c0]
  have c0b : decide ((l3.length : Int) < 60) = false := decide_eq_false c0
  have F0 := ak h1
  clear h c0 h1
  go_enter Tryz.func38,Tryz.ntmps38
  go_wp2_with (go_at_call 81;refine (slices_Contains_int64_int64.calls k A3 c3 l3 a1 r _ HR.out HC.out F0.out).mono ?_;rintro e w2 ⟨rfl,B⟩;(try dsimp only);refine hold_38 ?_)
  refine ⟨?_⟩
  go_wp2
  go_ret
  exact ⟨rfl,B.below⟩

/-! ### impl_Cell_63: function 63 -/
def impl_Cell_63.f (l0 : List (S87)) : Option ((List (S87))) := (some (([] : List (S87)) : List (S87))).bind fun y142 => (if y142.length + l0.length < 8796093022208 then (some (y142 ++ l0)) else (none))
theorem impl_Cell_63.calls (A0 : Option Addr) (c0 : Nat) (l0 : List (S87)) (r : List (S87)) (w : World) (hr0 : Kd.C k87 w A0 l0.length l0) (hc0 : l0.length ≤ c0) (h : impl_Cell_63.f l0 = some r) :
    Calls Tryz.prog 63 #[.slice A0 l0.length c0] w fun e w' => ∃ v0_ : Value, e = .returned (v0_) ∧ Kd.R k87 87 w' w.heap.size (fun _ => True) v0_ r ∧ Below w.heap.size w w' := by
 cases A0 with
  | none =>
  have hnil := fun (W : World) => Go.Lib.run_eql_slice_nil (P := Tryz.prog) W 40 87 none l0.length c0 0 0 Tryz.underlying40
  simp only [Option.isNone_none] at hnil
  have hl : l0 = [] := by
   rcases Nat.eq_zero_or_pos l0.length with h1 | h1
   ·exact List.length_eq_zero_iff.1 h1
   ·obtain ⟨_,e,_⟩ := hr0.2.2 h1
    cases e
  have hr : r = [] := by
   subst hl
   have h2 : some ([] : List _) = some r := by rw [← h];simp [impl_Cell_63.f]
   exact (Option.some.inj h2).symm
  subst hr
  clear h hr0
  subst hl
  simp only [List.length_nil] at hnil
  go_enter Tryz.func63,Tryz.ntmps63
  go_wp2
  go_ret
  exact ⟨_,rfl,Kd.R_nil _ _ _ _ _,Below.refl _ _⟩
  | some ad0 =>
  have hnil := fun (W : World) => Go.Lib.run_eql_slice_nil (P := Tryz.prog) W 40 87 (some ad0) l0.length c0 0 0 Tryz.underlying40
  simp only [Option.isNone_some] at hnil
  have HR0 := ak hr0
  have HC0 := ak hc0
  clear hr0 hc0
  have HB := ak (Below.refl w.heap.size w)
  have H : ((some (([] : List (S87)) : List (S87))).bind fun y142 => (if y142.length + l0.length < 8796093022208 then (some (y142 ++ l0)) else (none))) = some r := h
  clear h
  obtain ⟨y142,hy142⟩ : ∃ y_ : List (S87),y_ = (([] : List (S87))) := ⟨_,rfl⟩
  replace H : (if y142.length + l0.length < 8796093022208 then (some (y142 ++ l0)) else (none)) = some r := by first|(rw [hy142];with_reducible exact H)|(have H2_ := (Option.bind_some _ _).symm.trans H;rw [hy142];with_reducible exact H2_)|(have H2_ := (Option.bind_some _ _).symm.trans H;with_reducible exact H2_)|with_reducible exact H|(rw [hy142];exact H)|exact H
  have Ny142 := ak hy142
  clear hy142
  by_cases c2 : y142.length + l0.length < 8796093022208
  ·rw [if_pos c2] at H
   have LMc2 := ak c2
   clear c2
   obtain ⟨y145,hy145⟩ : ∃ y_ : List (S87),y_ = (y142 ++ l0) := ⟨_,rfl⟩
   replace H : (some y145) = some r := by first|(rw [hy145];with_reducible exact H)|(have H2_ := (Option.bind_some _ _).symm.trans H;rw [hy145];with_reducible exact H2_)|(have H2_ := (Option.bind_some _ _).symm.trans H;with_reducible exact H2_)|with_reducible exact H|(rw [hy145];exact H)|exact H
   have Ny145 := ak hy145
   clear hy145
   obtain rfl := Option.some.inj H
   go_enter Tryz.func63,Tryz.ntmps63
   go_wp2_with (first|((with_reducible refine gate_dst (N := 5) rfl ?_);refine Kd.R_lit k87 _ 87 ?hg (N := 5) ?hd (xs := ([] : List (S87))) (inner := []) (ok := fun _ => True) (okp := fun _ => True) ?hr ?hp (fun _ hk => hk) trivial (Below.refl _ _) (Nat.le_refl _) (by simp) ?_;(case hd => rfl);(case hg => rfl);(case hr => first|(go_simp;done)|(go_simp;rfl));(case hp => exact (Reps.none _ _));intro v143 w3 ho4 hb hg_ hnew_;clear hg_ hnew_;(first|rw [← Ny142.out] at ho4|(simp only [Int.reduceToNat] at ho4;rw [← Ny142.out] at ho4));have HO144 := ak (Kd.R_lower ho4 (below_size b_));replace HB := ak (below_step b_ hb);clear hb ho4)|((with_reducible refine gblt_ (b := .append) (xs := #[.tmp 5,.tmp 6]) rfl ?_);at_builtin;refine Kd.R_append_rows k87 (w0 := w) w.heap.size rfl (.tmp 5) (.tmp 6) 40 87 (.agg #[(.int .i64 0),(.int .i64 0)]) 16 rfl Tryz.underlying40 info87 rfl (by decide) (by omega) v143 y142 l0 _ _ _ (fun _ => True) (fun _ => False) rfl rfl ?aO ?aR (fun _ _ h => h) (fun _ h => h.elim) ?aF ?aB ?aS ?aL ?_;(case aR => repeat (first|exact (Kd.C_below HR0.out HB.out)|(with_reducible refine Kd.C_alloc ?_ _)|(with_reducible refine Kd.C_drewN ?_ _)|(with_reducible refine Kd.C_drew ?_)));(case aB => exact b_);(case aF => exact (fun _ _ => trivial));(case aO => exact (by (with_reducible repeat (first|apply Kd.R_alloc|apply Kd.R_drewN|apply Kd.R_drew));exact HO144.out));(case aS => exact (below_size b_));(case aL => have := LMc2.out;omega);intro v146 w5 ho hb hg hat;rw [← Ny145.out] at ho;replace HB := ak (hb);have HO147 := ak (ho);clear HO144;clear ho hb hg hat))
   go_ret
   exact ⟨_,rf_,by (with_reducible repeat (first|apply Kd.R_alloc|apply Kd.R_drewN|apply Kd.R_drew));exact HO147.out,b_⟩
  ·rw [if_neg c2] at H
   exact absurd H (by simp)

/-! ### impl_Set_118: function 118 -/
def impl_Set_118.f (l0 : List (S119)) : Option ((List (S119))) := (some (([] : List (S119)) : List (S119))).bind fun y148 => (if y148.length + l0.length < 3518437208883 then (some (y148 ++ l0)) else (none))
theorem impl_Set_118.calls (A0 : Option Addr) (c0 : Nat) (l0 : List (S119)) (r : List (S119)) (w : World) (hr0 : Kd.C k119 w A0 l0.length l0) (hc0 : l0.length ≤ c0) (h : impl_Set_118.f l0 = some r) :
    Calls Tryz.prog 118 #[.slice A0 l0.length c0] w fun e w' => ∃ v0_ : Value, e = .returned (v0_) ∧ Kd.R k119 119 w' w.heap.size (fun _ => True) v0_ r ∧ Below w.heap.size w w' := by
 cases A0 with
  | none =>
  have hnil := fun (W : World) => Go.Lib.run_eql_slice_nil (P := Tryz.prog) W 48 119 none l0.length c0 0 0 Tryz.underlying48
  simp only [Option.isNone_none] at hnil
  have hl : l0 = [] := by
   rcases Nat.eq_zero_or_pos l0.length with h1 | h1
   ·exact List.length_eq_zero_iff.1 h1
   ·obtain ⟨_,e,_⟩ := hr0.2.2 h1
    cases e
  have hr : r = [] := by
   subst hl
   have h2 : some ([] : List _) = some r := by rw [← h];simp [impl_Set_118.f]
   exact (Option.some.inj h2).symm
  subst hr
  clear h hr0
  subst hl
  simp only [List.length_nil] at hnil
  go_enter Tryz.func118,Tryz.ntmps118
  go_wp2
  go_ret
  exact ⟨_,rfl,Kd.R_nil _ _ _ _ _,Below.refl _ _⟩
  | some ad0 =>
  have hnil := fun (W : World) => Go.Lib.run_eql_slice_nil (P := Tryz.prog) W 48 119 (some ad0) l0.length c0 0 0 Tryz.underlying48
  simp only [Option.isNone_some] at hnil
  have HR0 := ak hr0
  have HC0 := ak hc0
  clear hr0 hc0
  have HB := ak (Below.refl w.heap.size w)
  have H : ((some (([] : List (S119)) : List (S119))).bind fun y148 => (if y148.length + l0.length < 3518437208883 then (some (y148 ++ l0)) else (none))) = some r := h
  clear h
  obtain ⟨y148,hy148⟩ : ∃ y_ : List (S119),y_ = (([] : List (S119))) := ⟨_,rfl⟩
  replace H : (if y148.length + l0.length < 3518437208883 then (some (y148 ++ l0)) else (none)) = some r := by first|(rw [hy148];with_reducible exact H)|(have H2_ := (Option.bind_some _ _).symm.trans H;rw [hy148];with_reducible exact H2_)|(have H2_ := (Option.bind_some _ _).symm.trans H;with_reducible exact H2_)|with_reducible exact H|(rw [hy148];exact H)|exact H
  have Ny148 := ak hy148
  clear hy148
  by_cases c2 : y148.length + l0.length < 3518437208883
  ·rw [if_pos c2] at H
   have LMc2 := ak c2
   clear c2
   obtain ⟨y151,hy151⟩ : ∃ y_ : List (S119),y_ = (y148 ++ l0) := ⟨_,rfl⟩
   replace H : (some y151) = some r := by first|(rw [hy151];with_reducible exact H)|(have H2_ := (Option.bind_some _ _).symm.trans H;rw [hy151];with_reducible exact H2_)|(have H2_ := (Option.bind_some _ _).symm.trans H;with_reducible exact H2_)|with_reducible exact H|(rw [hy151];exact H)|exact H
   have Ny151 := ak hy151
   clear hy151
   obtain rfl := Option.some.inj H
   go_enter Tryz.func118,Tryz.ntmps118
   go_wp2_with (first|((with_reducible refine gate_dst (N := 5) rfl ?_);refine Kd.R_lit k119 _ 119 ?hg (N := 5) ?hd (xs := ([] : List (S119))) (inner := []) (ok := fun _ => True) (okp := fun _ => True) ?hr ?hp (fun _ hk => hk) trivial (Below.refl _ _) (Nat.le_refl _) (by simp) ?_;(case hd => rfl);(case hg => rfl);(case hr => first|(go_simp;done)|(go_simp;rfl));(case hp => exact (Reps.none _ _));intro v149 w3 ho4 hb hg_ hnew_;clear hg_ hnew_;(first|rw [← Ny148.out] at ho4|(simp only [Int.reduceToNat] at ho4;rw [← Ny148.out] at ho4));have HO150 := ak (Kd.R_lower ho4 (below_size b_));replace HB := ak (below_step b_ hb);clear hb ho4)|((with_reducible refine gblt_ (b := .append) (xs := #[.tmp 5,.tmp 6]) rfl ?_);at_builtin;refine Kd.R_append_rows k119 (w0 := w) w.heap.size rfl (.tmp 5) (.tmp 6) 48 119 (.agg #[(.int .i64 0),(.int .i64 0),(.int .i64 0),(.bool false),(.int .i64 0)]) 40 rfl Tryz.underlying48 info119 rfl (by decide) (by omega) v149 y148 l0 _ _ _ (fun _ => True) (fun _ => False) rfl rfl ?aO ?aR (fun _ _ h => h) (fun _ h => h.elim) ?aF ?aB ?aS ?aL ?_;(case aR => repeat (first|exact (Kd.C_below HR0.out HB.out)|(with_reducible refine Kd.C_alloc ?_ _)|(with_reducible refine Kd.C_drewN ?_ _)|(with_reducible refine Kd.C_drew ?_)));(case aB => exact b_);(case aF => exact (fun _ _ => trivial));(case aO => exact (by (with_reducible repeat (first|apply Kd.R_alloc|apply Kd.R_drewN|apply Kd.R_drew));exact HO150.out));(case aS => exact (below_size b_));(case aL => have := LMc2.out;omega);intro v152 w5 ho hb hg hat;rw [← Ny151.out] at ho;replace HB := ak (hb);have HO153 := ak (ho);clear HO150;clear ho hb hg hat))
   go_ret
   exact ⟨_,rf_,by (with_reducible repeat (first|apply Kd.R_alloc|apply Kd.R_drewN|apply Kd.R_drew));exact HO153.out,b_⟩
  ·rw [if_neg c2] at H
   exact absurd H (by simp)

/-! ### impl_cloneRecord: function 70 -/
def impl_cloneRecord.f (a0_0 : Int) (a0_1 : Int) (a0_2 : Int) (l0_3 : List (S119)) : Option (Int × Int × Int × (List (S119))) := (impl_Set_118.f l0_3).bind fun t156 => (some (a0_0, a0_1, a0_2, t156))
theorem impl_cloneRecord.calls (a0_0 : Int) (a0_1 : Int) (a0_2 : Int) (A0_3 : Option Addr) (c0_3 : Nat) (l0_3 : List (S119)) (r1 : Int) (r2 : Int) (r3 : Int) (r4 : List (S119)) (w : World) (hr0_3 : Kd.C k119 w A0_3 l0_3.length l0_3) (hc0_3 : l0_3.length ≤ c0_3) (h : impl_cloneRecord.f a0_0 a0_1 a0_2 l0_3 = some (r1, r2, r3, r4)) :
    Calls Tryz.prog 70 #[.agg #[.int .i64 a0_0, .int .i64 a0_1, .int .i64 a0_2, .slice A0_3 l0_3.length c0_3]] w fun e w' => ∃ v3_ : Value, e = .returned (.agg #[.int .i64 r1, .int .i64 r2, .int .i64 r3, v3_]) ∧ Kd.R k119 119 w' w.heap.size (fun _ => True) v3_ r4 ∧ Below w.heap.size w w' := by
 have hu50 := Tryz.underlying50
 have HR0_3 := ak hr0_3
 have HC0_3 := ak hc0_3
 clear hr0_3 hc0_3
 have HB := ak (Below.refl w.heap.size w)
 have H : ((impl_Set_118.f l0_3).bind fun t156 => (some (a0_0,a0_1,a0_2,t156))) = some (r1,r2,r3,r4) := h
 clear h
 replace H := bs_ H
 obtain ⟨t156,A2,H⟩ := H
 simp only [Option.some.injEq,Prod.mk.injEq] at H
 obtain ⟨rfl,rfl,rfl,rfl⟩ := H
 go_enter Tryz.func70,Tryz.ntmps70
 go_wp2_with (first|((with_reducible refine gate_dst (N := 1) rfl ?_);refine bx_ 1 #[.int .i64 a0_0,.int .i64 a0_1,.int .i64 a0_2,.slice A0_3 l0_3.length c0_3] 50 ?_;intro gb154 hg w3 hbox hb;replace HB := nb_ hg hbox hb;obtain ⟨BK154,GW154,GE154,HB⟩ := HB;clear hb hbox hg)|((with_reducible refine gate_dst (N := 2) rfl ?_);refine bx_ 2 #[.int .i64 0,.int .i64 0,.int .i64 0,.slice none 0 0] 50 ?_;intro gb155 hg w4 hbox hb;replace HB := nb_ hg hbox hb;obtain ⟨BK155,GW155,GE155,HB⟩ := HB;have NB154_155 := ak ((nl_ BK154 hg));have NB155_154 := ak ((ng_ BK154 hg));replace BK154 := ak (blk_below (kb_ BK154) hb);clear hb hbox hg;have hnb5 := NB154_155.out;have hnc5 := NB155_154.out;obtain ⟨⟨hcz6_0,hcz6_1,hcz6_2,hcz6_3⟩,hfz6_0,hfz6_1,hfz6_2,hfz6_3⟩ := cl4_ BK154.out)|((with_reducible refine gcal_ (f := 118) rfl ?_);refine gl_ (some 5) Tryz.func118 #[.slice A0_3 l0_3.length c0_3] ?_;(with_reducible refine (impl_Set_118.calls _ _ l0_3 t156 _ ?side1 ?side2 A2.out).mono ?_);(case side1 => exact cb_ HR0_3);(case side2 => exact HC0_3.out);rintro e w7 ⟨v157,rfl,ho0,hb⟩;refine ⟨_,rfl,?_⟩;replace BK154 := ak (blk_below (kb_ BK154) hb);replace BK155 := ak (blk_below (kb_ BK155) hb);have HO158 := ak (Kd.R_lower ho0 (below_size b_));replace HB := ak (below_step b_ hb);(try clear hb);(try clear hb2);(try clear hk);(try clear hi);(try clear ho0);obtain ⟨Ao8,co8,eo8⟩ := Kd.R_slice HO158.out;subst eo8;obtain ⟨⟨hcz9_0,hcz9_1,hcz9_2,hcz9_3⟩,hfz9_0,hfz9_1,hfz9_2,hfz9_3⟩ := cl4_ BK154.out;obtain ⟨⟨hcz10_0,hcz10_1,hcz10_2,hcz10_3⟩,hfz10_0,hfz10_1,hfz10_2,hfz10_3⟩ := cl4_ BK155.out))
 refine bodyPost_ret (results_cell_row rfl _ _ gb155 50 #[.int .i64 a0_0,.int .i64 a0_1,.int .i64 a0_2,.slice Ao8 t156.length co8] (0,0) _ rfl (by (with_reducible repeat (first|refine blk_drewN ?_ _|refine blk_drew ?_|refine blk_alloc ?_ _));refine blk_put (cs := #[.int .i64 a0_0,.int .i64 a0_1,.int .i64 a0_2,.slice none 0 0]) ?_ 3 _ rfl;(with_reducible repeat (first|refine blk_drewN ?_ _|refine blk_drew ?_|refine blk_alloc ?_ _));refine blk_put (cs := #[.int .i64 a0_0,.int .i64 a0_1,.int .i64 0,.slice none 0 0]) ?_ 2 _ rfl;(with_reducible repeat (first|refine blk_drewN ?_ _|refine blk_drew ?_|refine blk_alloc ?_ _));refine blk_put (cs := #[.int .i64 a0_0,.int .i64 0,.int .i64 0,.slice none 0 0]) ?_ 1 _ rfl;(with_reducible repeat (first|refine blk_drewN ?_ _|refine blk_drew ?_|refine blk_alloc ?_ _));refine blk_put (cs := #[.int .i64 0,.int .i64 0,.int .i64 0,.slice none 0 0]) ?_ 0 _ rfl;(with_reducible repeat (first|refine blk_drewN ?_ _|refine blk_drew ?_|refine blk_alloc ?_ _));refine blk_far ?_ NB155_154.out _;(with_reducible repeat (first|refine blk_drewN ?_ _|refine blk_drew ?_|refine blk_alloc ?_ _));exact BK155.out) Tryz.underlying50 rfl (by kernel_rfl)) rfl ?_
 exact ⟨_,rf_,by (with_reducible repeat (first|apply Kd.R_alloc|apply Kd.R_drewN|apply Kd.R_drew));exact Kd.R_mono (Kd.R_far (p := ⟨gb155,3,none⟩) (Kd.R_far (p := ⟨gb155,2,none⟩) (Kd.R_far (p := ⟨gb155,1,none⟩) (Kd.R_far (p := ⟨gb155,0,none⟩) (Kd.R_far (p := ⟨gb154,3,none⟩) (Kd.R_types (Kd.R_types HO158.out BK154.out (by decide)) BK155.out (by decide)) (fun _ hk => hk.1.2) (.slice Ao8 t156.length co8)) (fun _ hk => hk.2) (.int .i64 a0_0)) (fun _ hk => hk.2) (.int .i64 a0_1)) (fun _ hk => hk.2) (.int .i64 a0_2)) (fun _ hk => hk.2) (.slice Ao8 t156.length co8)) (fun _ hk => trivial),b_⟩

/-! ### slices_Clone_int64_int64: function 82 -/
def slices_Clone_int64_int64.f (l0 : List Int) : Option (List Int) := (some (([] : List Int) : List Int)).bind fun y159 => (if y159.length + l0.length < 17592186044416 then (some (y159 ++ l0)) else (none))
theorem slices_Clone_int64_int64.calls (A0 : Option Addr) (c0 : Nat) (l0 : List Int) (r : List Int) (w : World) (hr0 : Kd.C (Kd.int .i64) w A0 l0.length l0) (hc0 : l0.length ≤ c0) (h : slices_Clone_int64_int64.f l0 = some r) :
    Calls Tryz.prog 82 #[.slice A0 l0.length c0] w fun e w' => ∃ v0_ : Value, e = .returned (v0_) ∧ Kd.R (Kd.int .i64) 2 w' w.heap.size (fun _ => True) v0_ r ∧ Below w.heap.size w w' := by
 cases A0 with
  | none =>
  have hnil := fun (W : World) => Go.Lib.run_eql_slice_nil (P := Tryz.prog) W 24 2 none l0.length c0 0 0 Tryz.underlying24
  simp only [Option.isNone_none] at hnil
  have hl : l0 = [] := by
   rcases Nat.eq_zero_or_pos l0.length with h1 | h1
   ·exact List.length_eq_zero_iff.1 h1
   ·obtain ⟨_,e,_⟩ := hr0.2.2 h1
    cases e
  have hr : r = [] := by
   subst hl
   have h2 : some ([] : List _) = some r := by rw [← h];simp [slices_Clone_int64_int64.f]
   exact (Option.some.inj h2).symm
  subst hr
  clear h hr0
  subst hl
  simp only [List.length_nil] at hnil
  go_enter Tryz.func82,Tryz.ntmps82
  go_wp2
  go_ret
  exact ⟨_,rfl,Kd.R_nil _ _ _ _ _,Below.refl _ _⟩
  | some ad0 =>
  have hnil := fun (W : World) => Go.Lib.run_eql_slice_nil (P := Tryz.prog) W 24 2 (some ad0) l0.length c0 0 0 Tryz.underlying24
  simp only [Option.isNone_some] at hnil
  have HR0 := ak hr0
  have HC0 := ak hc0
  clear hr0 hc0
  have HB := ak (Below.refl w.heap.size w)
  have H : ((some (([] : List Int) : List Int)).bind fun y159 => (if y159.length + l0.length < 17592186044416 then (some (y159 ++ l0)) else (none))) = some r := h
  clear h
  obtain ⟨y159,hy159⟩ : ∃ y_ : List Int,y_ = (([] : List Int)) := ⟨_,rfl⟩
  replace H : (if y159.length + l0.length < 17592186044416 then (some (y159 ++ l0)) else (none)) = some r := by first|(rw [hy159];with_reducible exact H)|(have H2_ := (Option.bind_some _ _).symm.trans H;rw [hy159];with_reducible exact H2_)|(have H2_ := (Option.bind_some _ _).symm.trans H;with_reducible exact H2_)|with_reducible exact H|(rw [hy159];exact H)|exact H
  have Ny159 := ak hy159
  clear hy159
  by_cases c2 : y159.length + l0.length < 17592186044416
  ·rw [if_pos c2] at H
   have LMc2 := ak c2
   clear c2
   obtain ⟨y162,hy162⟩ : ∃ y_ : List Int,y_ = (y159 ++ l0) := ⟨_,rfl⟩
   replace H : (some y162) = some r := by first|(rw [hy162];with_reducible exact H)|(have H2_ := (Option.bind_some _ _).symm.trans H;rw [hy162];with_reducible exact H2_)|(have H2_ := (Option.bind_some _ _).symm.trans H;with_reducible exact H2_)|with_reducible exact H|(rw [hy162];exact H)|exact H
   have Ny162 := ak hy162
   clear hy162
   obtain rfl := Option.some.inj H
   go_enter Tryz.func82,Tryz.ntmps82
   go_wp2_with (first|((with_reducible refine gate_dst (N := 5) rfl ?_);refine Kd.R_lit (Kd.int .i64) _ 2 ?hg (N := 5) ?hd (xs := ([] : List Int)) (inner := []) (ok := fun _ => True) (okp := fun _ => True) ?hr ?hp (fun _ hk => hk) trivial (Below.refl _ _) (Nat.le_refl _) (by simp) ?_;(case hd => rfl);(case hg => rfl);(case hr => first|(go_simp;done)|(go_simp;rfl));(case hp => exact (Reps.none _ _));intro v160 w3 ho4 hb hg_ hnew_;clear hg_ hnew_;(first|rw [← Ny159.out] at ho4|(simp only [Int.reduceToNat] at ho4;rw [← Ny159.out] at ho4));have HO161 := ak (Kd.R_lower ho4 (below_size b_));replace HB := ak (below_step b_ hb);clear hb ho4)|((with_reducible refine gblt_ (b := .append) (xs := #[.tmp 5,.tmp 6]) rfl ?_);at_builtin;refine Kd.R_append_rows (Kd.int .i64) (w0 := w) w.heap.size rfl (.tmp 5) (.tmp 6) 24 2 (.int .i64 0) 8 rfl Tryz.underlying24 info2 rfl (by decide) (by omega) v160 y159 l0 _ _ _ (fun _ => True) (fun _ => False) rfl rfl ?aO ?aR (fun _ _ h => h) (fun _ h => h.elim) ?aF ?aB ?aS ?aL ?_;(case aR => repeat (first|exact (Kd.C_below HR0.out HB.out)|(with_reducible refine Kd.C_alloc ?_ _)|(with_reducible refine Kd.C_drewN ?_ _)|(with_reducible refine Kd.C_drew ?_)));(case aB => exact b_);(case aF => exact (fun _ _ => trivial));(case aO => exact (by (with_reducible repeat (first|apply Kd.R_alloc|apply Kd.R_drewN|apply Kd.R_drew));exact HO161.out));(case aS => exact (below_size b_));(case aL => have := LMc2.out;omega);intro v163 w5 ho hb hg hat;rw [← Ny162.out] at ho;replace HB := ak (hb);have HO164 := ak (ho);clear HO161;clear ho hb hg hat))
   go_ret
   exact ⟨_,rf_,by (with_reducible repeat (first|apply Kd.R_alloc|apply Kd.R_drewN|apply Kd.R_drew));exact HO164.out,b_⟩
  ·rw [if_neg c2] at H
   exact absurd H (by simp)

end Go.Proofs.YthplaakckfhaaaaGreat.XMs
