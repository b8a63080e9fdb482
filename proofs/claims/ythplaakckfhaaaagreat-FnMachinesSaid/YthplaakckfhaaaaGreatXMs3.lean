/- Proved: a call of each Go function here comes to what its Lean function tells. -/
import Derived.Test.YthplaakckfhaaaaGreatXMs0
namespace Go.Proofs.YthplaakckfhaaaaGreat.XMs
open Go.RowKit Go.Proofs.YthplaakckfhaaaaGreat.Aid Go.Proofs.YthplaakckfhaaaaGreatW.PrintWords Go.Proofs.YthplaakckfhaaaaGreatW.PrintLast Go.Proofs.YthplaakckfhaaaaGreatW.PrintMore
set_option linter.unusedVariables false
set_option maxHeartbeats 8000000
set_option maxRecDepth 100000
set_option linter.unusedSimpArgs false

/-! ### impl_within: function 80 -/
def impl_within.f (a0 : Int) (a1 : Int) (a2 : Int) : Option (Bool) := if a0 ≥ a1 then (some (decide (a0 ≤ a2))) else (some false)
theorem impl_within.calls (a0 : Int) (a1 : Int) (a2 : Int) (r : Bool) (w : World) (h : impl_within.f a0 a1 a2 = some r) :
    Calls Tryz.prog 80 #[.int .i64 a0, .int .i64 a1, .int .i64 a2] w fun e w' => e = .returned (.bool r) ∧ Drawn0 w w' := by
 have H : (if a0 ≥ a1 then (some (decide (a0 ≤ a2))) else (some false)) = some r := h
 clear h
 by_cases c4 : a0 ≥ a1
 ·rw [if_pos c4] at H
  have c4b0 : decide (a1 ≤ a0) = true := decide_eq_true c4
  clear c4
  obtain rfl := Option.some.inj H
  go_enter Tryz.func80,Tryz.ntmps80
  go_wp2
  go_ret
  exact ⟨rs_,by repeat (first|exact Drawn0.refl _|apply Drawn0.step)⟩
 ·rw [if_neg c4] at H
  have c4b0 : decide (a1 ≤ a0) = false := decide_eq_false c4
  clear c4
  obtain rfl := Option.some.inj H
  go_enter Tryz.func80,Tryz.ntmps80
  go_wp2
  go_ret
  exact ⟨rs_,by repeat (first|exact Drawn0.refl _|apply Drawn0.step)⟩

/-! ### impl_isId: function 37 -/
def impl_isId.f (a0 : Int) : Option (Bool) := (impl_within.f a0 1 1000000).bind fun t101 => (some t101)
theorem impl_isId.calls (a0 : Int) (r : Bool) (w : World) (h : impl_isId.f a0 = some r) :
    Calls Tryz.prog 37 #[.int .i64 a0] w fun e w' => e = .returned (.bool r) ∧ Drawn0 w w' := by
 have H : ((impl_within.f a0 1 1000000).bind fun t101 => (some t101)) = some r := h
 clear h
 replace H := bs_ H
 obtain ⟨t101,A2,H⟩ := H
 obtain rfl := Option.some.inj H
 go_enter Tryz.func37,Tryz.ntmps37
 go_wp2_with (first|((with_reducible refine gcal_ (f := 80) rfl ?_);refine gl_ (some 4) Tryz.func80 #[.int .i64 a0,.int .i64 1,.int .i64 1000000] ?_;(with_reducible refine (impl_within.calls a0 1 1000000 t101 _ A2.out).mono ?_);rintro e w' ⟨rfl,⟨nd,rfl⟩⟩;refine ⟨_,rfl,?_⟩))
 go_ret
 exact ⟨rs_,by repeat (first|exact Drawn0.refl _|apply Drawn0.step)⟩

/-! ### impl_isRegion: function 54 -/
def impl_isRegion.f (a0 : Int) : Option (Bool) := (impl_within.f a0 0 5).bind fun t102 => (some t102)
theorem impl_isRegion.calls (a0 : Int) (r : Bool) (w : World) (h : impl_isRegion.f a0 = some r) :
    Calls Tryz.prog 54 #[.int .i64 a0] w fun e w' => e = .returned (.bool r) ∧ Drawn0 w w' := by
 have H : ((impl_within.f a0 0 5).bind fun t102 => (some t102)) = some r := h
 clear h
 replace H := bs_ H
 obtain ⟨t102,A2,H⟩ := H
 obtain rfl := Option.some.inj H
 go_enter Tryz.func54,Tryz.ntmps54
 go_wp2_with (first|((with_reducible refine gcal_ (f := 80) rfl ?_);refine gl_ (some 4) Tryz.func80 #[.int .i64 a0,.int .i64 0,.int .i64 5] ?_;(with_reducible refine (impl_within.calls a0 0 5 t102 _ A2.out).mono ?_);rintro e w' ⟨rfl,⟨nd,rfl⟩⟩;refine ⟨_,rfl,?_⟩))
 go_ret
 exact ⟨rs_,by repeat (first|exact Drawn0.refl _|apply Drawn0.step)⟩

/-! ### impl_isHead: function 99 -/
def impl_isHead.f (a0 : Int) : Option (Bool) := (impl_within.f a0 0 4000003).bind fun t103 => (some t103)
theorem impl_isHead.calls (a0 : Int) (r : Bool) (w : World) (h : impl_isHead.f a0 = some r) :
    Calls Tryz.prog 99 #[.int .i64 a0] w fun e w' => e = .returned (.bool r) ∧ Drawn0 w w' := by
 have H : ((impl_within.f a0 0 4000003).bind fun t103 => (some t103)) = some r := h
 clear h
 replace H := bs_ H
 obtain ⟨t103,A2,H⟩ := H
 obtain rfl := Option.some.inj H
 go_enter Tryz.func99,Tryz.ntmps99
 go_wp2_with (first|((with_reducible refine gcal_ (f := 80) rfl ?_);refine gl_ (some 4) Tryz.func80 #[.int .i64 a0,.int .i64 0,.int .i64 4000003] ?_;(with_reducible refine (impl_within.calls a0 0 4000003 t103 _ A2.out).mono ?_);rintro e w' ⟨rfl,⟨nd,rfl⟩⟩;refine ⟨_,rfl,?_⟩))
 go_ret
 exact ⟨rs_,by repeat (first|exact Drawn0.refl _|apply Drawn0.step)⟩

/-! ### impl_isValue: function 100 -/
def impl_isValue.f (a0 : Int) : Option (Bool) := (impl_within.f a0 (-1000000000) 1000000000).bind fun t104 => (some t104)
theorem impl_isValue.calls (a0 : Int) (r : Bool) (w : World) (h : impl_isValue.f a0 = some r) :
    Calls Tryz.prog 100 #[.int .i64 a0] w fun e w' => e = .returned (.bool r) ∧ Drawn0 w w' := by
 have H : ((impl_within.f a0 (-1000000000) 1000000000).bind fun t104 => (some t104)) = some r := h
 clear h
 replace H := bs_ H
 obtain ⟨t104,A2,H⟩ := H
 obtain rfl := Option.some.inj H
 go_enter Tryz.func100,Tryz.ntmps100
 go_wp2_with (first|((with_reducible refine gcal_ (f := 80) rfl ?_);refine gl_ (some 4) Tryz.func80 #[.int .i64 a0,.int .i64 (-1000000000),.int .i64 1000000000] ?_;(with_reducible refine (impl_within.calls a0 (-1000000000) 1000000000 t104 _ A2.out).mono ?_);rintro e w' ⟨rfl,⟨nd,rfl⟩⟩;refine ⟨_,rfl,?_⟩))
 go_ret
 exact ⟨rs_,by repeat (first|exact Drawn0.refl _|apply Drawn0.step)⟩

/-! ### impl_areCells_1: function 98 -/
def impl_areCells_1.f (a0_0 : Int) (a0_1 : Int) : Option (Bool) := (impl_isHead.f a0_0).bind fun t106 => (if t106 = true then ((impl_isValue.f a0_1).bind fun t107 => (if t107 = true then (if (Go.bits .and .i64 a0_0 2) = 0 then (some (a0_1 != 0)) else (some false)) else (some true))) else (some true))
theorem impl_areCells_1.calls (a0_0 : Int) (a0_1 : Int) (r : Bool) (w : World) (h : impl_areCells_1.f a0_0 a0_1 = some r) :
    Calls Tryz.prog 98 #[.agg #[.int .i64 a0_0, .int .i64 a0_1]] w fun e w' => e = .returned (.bool r) ∧ Below w.heap.size w w' := by
 have hu87 := Tryz.underlying87
 have HB := ak (Below.refl w.heap.size w)
 have H : ((impl_isHead.f a0_0).bind fun t106 => (if t106 = true then ((impl_isValue.f a0_1).bind fun t107 => (if t107 = true then (if (Go.bits .and .i64 a0_0 2) = 0 then (some (a0_1 != 0)) else (some false)) else (some true))) else (some true))) = some r := h
 clear h
 replace H := bs_ H
 obtain ⟨t106,A2,H⟩ := H
 by_cases c3 : t106 = true
 ·subst c3
  replace H := it_ H
  replace H := bs_ H
  obtain ⟨t107,A4,H⟩ := H
  by_cases c5 : t107 = true
  ·subst c5
   replace H := it_ H
   by_cases c6 : (Go.bits .and .i64 a0_0 2) = 0
   ·rw [if_pos c6] at H
    have c6b0 : ((Go.bits .and .i64 a0_0 2) == 0) = true := beq_iff_eq.mpr c6
    have c6b1 : ((Go.bits .and .i64 a0_0 2) != 0) = false := bne_eq_false_iff_eq.mpr c6
    clear c6
    obtain rfl := Option.some.inj H
    go_enter Tryz.func98,Tryz.ntmps98
    go_wp2_with (first|((with_reducible refine gate_dst (N := 1) rfl ?_);refine bx_ 1 #[.int .i64 a0_0,.int .i64 a0_1] 87 ?_;intro gb105 hg w7 hbox hb;replace HB := nb_ hg hbox hb;obtain ⟨BK105,GW105,GE105,HB⟩ := HB;clear hb hbox hg;obtain ⟨⟨hcz8_0,hcz8_1⟩,hfz8_0,hfz8_1⟩ := cl2_ BK105.out)|((with_reducible refine gcal_ (f := 99) rfl ?_);refine gl_ (some 5) Tryz.func99 #[.int .i64 a0_0] ?_;(with_reducible refine (impl_isHead.calls a0_0 true _ A2.out).mono ?_);rintro e w' ⟨rfl,⟨nd,rfl⟩⟩;refine ⟨_,rfl,?_⟩)|(go_at_call 100;(with_reducible refine (impl_isValue.calls a0_1 true _ A4.out).mono ?_);rintro e w' ⟨rfl,⟨nd,rfl⟩⟩))
    go_ret
    exact ⟨rf_,b_⟩
   ·rw [if_neg c6] at H
    have c6b0 : ((Go.bits .and .i64 a0_0 2) == 0) = false := beq_eq_false_iff_ne.mpr c6
    have c6b1 : ((Go.bits .and .i64 a0_0 2) != 0) = true := bne_iff_ne.mpr c6
    obtain rfl := Option.some.inj H
    go_enter Tryz.func98,Tryz.ntmps98
    go_wp2_with (first|((with_reducible refine gate_dst (N := 1) rfl ?_);refine bx_ 1 #[.int .i64 a0_0,.int .i64 a0_1] 87 ?_;intro gb105 hg w9 hbox hb;replace HB := nb_ hg hbox hb;obtain ⟨BK105,GW105,GE105,HB⟩ := HB;clear hb hbox hg;obtain ⟨⟨hcz10_0,hcz10_1⟩,hfz10_0,hfz10_1⟩ := cl2_ BK105.out)|((with_reducible refine gcal_ (f := 99) rfl ?_);refine gl_ (some 5) Tryz.func99 #[.int .i64 a0_0] ?_;(with_reducible refine (impl_isHead.calls a0_0 true _ A2.out).mono ?_);rintro e w' ⟨rfl,⟨nd,rfl⟩⟩;refine ⟨_,rfl,?_⟩)|(go_at_call 100;(with_reducible refine (impl_isValue.calls a0_1 true _ A4.out).mono ?_);rintro e w' ⟨rfl,⟨nd,rfl⟩⟩))
    go_ret
    exact ⟨rf_,b_⟩
  ·replace c5 := Bool.eq_false_iff.mpr c5
   subst c5
   replace H := ie_ H
   obtain rfl := Option.some.inj H
   go_enter Tryz.func98,Tryz.ntmps98
   go_wp2_with (first|((with_reducible refine gate_dst (N := 1) rfl ?_);refine bx_ 1 #[.int .i64 a0_0,.int .i64 a0_1] 87 ?_;intro gb105 hg w11 hbox hb;replace HB := nb_ hg hbox hb;obtain ⟨BK105,GW105,GE105,HB⟩ := HB;clear hb hbox hg;obtain ⟨⟨hcz12_0,hcz12_1⟩,hfz12_0,hfz12_1⟩ := cl2_ BK105.out)|((with_reducible refine gcal_ (f := 99) rfl ?_);refine gl_ (some 5) Tryz.func99 #[.int .i64 a0_0] ?_;(with_reducible refine (impl_isHead.calls a0_0 true _ A2.out).mono ?_);rintro e w' ⟨rfl,⟨nd,rfl⟩⟩;refine ⟨_,rfl,?_⟩)|(go_at_call 100;(with_reducible refine (impl_isValue.calls a0_1 false _ A4.out).mono ?_);rintro e w' ⟨rfl,⟨nd,rfl⟩⟩))
   go_ret
   exact ⟨rf_,b_⟩
 ·replace c3 := Bool.eq_false_iff.mpr c3
  subst c3
  replace H := ie_ H
  obtain rfl := Option.some.inj H
  go_enter Tryz.func98,Tryz.ntmps98
  go_wp2_with (first|((with_reducible refine gate_dst (N := 1) rfl ?_);refine bx_ 1 #[.int .i64 a0_0,.int .i64 a0_1] 87 ?_;intro gb105 hg w13 hbox hb;replace HB := nb_ hg hbox hb;obtain ⟨BK105,GW105,GE105,HB⟩ := HB;clear hb hbox hg;obtain ⟨⟨hcz14_0,hcz14_1⟩,hfz14_0,hfz14_1⟩ := cl2_ BK105.out)|((with_reducible refine gcal_ (f := 99) rfl ?_);refine gl_ (some 5) Tryz.func99 #[.int .i64 a0_0] ?_;(with_reducible refine (impl_isHead.calls a0_0 false _ A2.out).mono ?_);rintro e w' ⟨rfl,⟨nd,rfl⟩⟩;refine ⟨_,rfl,?_⟩))
  go_ret
  exact ⟨rf_,b_⟩

/-! ### impl_Cell_134: function 134 -/
theorem impl_Cell_134.idx (pf : S87 → Option Bool) (g : Nat) (lb : Array Value) (eg : ∀ args w, (callFunc g args).run Tryz.prog w = .ok (.enter g args) w) (A : Option Addr) (c : Nat) (l : List S87) (w : World)
  (hp : ∀ (x : S87) (b : Bool) (W : World),pf x = some b → Below w.heap.size w W → Calls Tryz.prog g (#[.agg #[.int .i64 x.f0,.int .i64 x.f1]] ++ lb) W fun e w' => e = .returned (.bool b) ∧ Below w.heap.size w w')
  (hr : Kd.C k87 w A l.length l) (hc : l.length ≤ c) (r : Int) (h : idxFrom pf l 0 = some r) :
    Calls Tryz.prog 134 #[.slice A l.length c, .func (.func g) #[] lb] w fun e w' => e = .returned (.int .i64 r) ∧ Below w.heap.size w w' := by
 have hu87 := Tryz.underlying87
 have hlen := hr.2.1
 have HR := ak hr
 clear hr
 go_enter Tryz.func134,Tryz.ntmps134
 go_wp2
 go_loopg [5,8] l.length (fun gg s5 s8 wr => ∃ kk : Nat,kk ≤ l.length ∧ l.length - kk ≤ gg ∧ s8 = .int .i64 kk ∧ Aside0 (Below w.heap.size w wr) ∧ Aside0 (idxFrom pf (l.drop kk) kk = some r))
 case atStart => exact ⟨0,Nat.zero_le _,by omega,rfl,⟨Below.refl _ w⟩,⟨by simpa using h⟩⟩
 case round =>
  obtain ⟨kk,hkk,hg,rfl,BW,A1⟩ := hrel
  by_cases hlt : kk < l.length
  ·have hltz : (kk : Int) < (l.length : Int) := by omega
   obtain ⟨ad,e0,hx0,hx1⟩ := at_T87 HR.out (kk : Int) (by omega) (by omega)
   cases e0
   replace hx0 := (BW.out.cell (World.block_lt_of_cell? w _ hx0)).trans hx0
   rw [Int.toNat_natCast] at hx0
   replace hx1 := (BW.out.cell (World.block_lt_of_cell? w _ hx1)).trans hx1
   rw [Int.toNat_natCast] at hx1
   have ex : rd_T87 l (kk : Int) = l[kk] := by
    unfold rd_T87
    rw [Int.toNat_natCast,List.getD_eq_getElem?_getD,List.getElem?_eq_getElem hlt];rfl
   have H := A1.out
   rw [List.drop_eq_getElem_cons hlt,← ex] at H
   obtain ⟨b,hb,H2⟩ := Option.bind_eq_some_iff.1 H
   have hcall := hp _ b wr hb BW.out
   have HH := ak H2
   have EX := ak ex
   clear H H2 ex hb A1 h
   cases b with
   | true =>
    go_wp2_with (go_at_fn g;refine hcall.mono ?_;rintro e w' ⟨rfl,hb'⟩)
    go_ret
    have e1 := HH.out
    simp only [if_true] at e1
    exact ⟨by rw [← Option.some.inj e1];rfl,hb'⟩
   | false =>
    go_wp2_with (go_at_fn g;refine hcall.mono ?_;rintro e w' ⟨rfl,hb'⟩)
    go_roundg (l.length - (kk + 1))
    case measure => omega
    case rel => exact ⟨kk + 1,by omega,by omega,by go_num,⟨hb'⟩,⟨by have e1 := HH.out;simpa using e1⟩⟩
  ·have hltz : ¬ (kk : Int) < (l.length : Int) := by omega
   have : kk = l.length := by omega
   subst this
   go_wp2
   go_ret
   have e1 := A1.out
   rw [List.drop_of_length_le (Nat.le_refl _)] at e1
   have e2 := Option.some.inj e1
   exact ⟨by rw [← e2];rfl,BW.out⟩

/-! ### impl_Cell_97: function 97 -/
def impl_Cell_97.f (l0 : List S87) : Option Bool := (idxFrom (fun x : S87 => impl_areCells_1.f x.f0 x.f1) l0 0).bind fun t => (some (decide (t ≥ 0)))
theorem impl_Cell_97.calls (A0 : Option Addr) (c0 : Nat) (l0 : List S87) (r : Bool) (w : World) (hr0 : Kd.C k87 w A0 l0.length l0) (hc0 : l0.length ≤ c0) (h : impl_Cell_97.f  l0  = some r) :
    Calls Tryz.prog 97 #[.slice A0 l0.length c0, .func (.func 98) #[] #[]] w fun e w' => e = .returned (.bool r) ∧ Below w.heap.size w w' := by
 obtain ⟨t,ht,H⟩ := Option.bind_eq_some_iff.1 h
 obtain rfl := Option.some.inj H
 have hi := impl_Cell_134.idx (fun x : S87 => impl_areCells_1.f x.f0 x.f1) 98 #[] (enters_of Tryz.func98 (by kernel_rfl) rfl) A0 c0 l0 w (fun x b W hb hB => (impl_areCells_1.calls x.f0 x.f1 b W hb).mono fun e w' hh => ⟨hh.1,below_step hB hh.2⟩) hr0 hc0 t ht
 clear hr0 ht H h
 go_enter Tryz.func97,Tryz.ntmps97
 go_wp2_with (go_at_call 134;refine hi.mono ?_;rintro e w' ⟨rfl,hb⟩)
 go_ret
 exact ⟨rfl,hb⟩

/-! ### impl_areCells: function 55 -/
def impl_areCells.f (l0 : List (S87)) : Option (Bool) := if (l0.length : Int) = 6 then ((impl_Cell_97.f l0).bind fun t108 => (some (!t108))) else (some false)
theorem impl_areCells.calls (A0 : Option Addr) (c0 : Nat) (l0 : List (S87)) (r : Bool) (w : World) (hr0 : Kd.C k87 w A0 l0.length l0) (hc0 : l0.length ≤ c0) (h : impl_areCells.f l0 = some r) :
    Calls Tryz.prog 55 #[.slice A0 l0.length c0] w fun e w' => e = .returned (.bool r) ∧ Below w.heap.size w w' := by
 have HR0 := ak hr0
 have HC0 := ak hc0
 clear hr0 hc0
 have HB := ak (Below.refl w.heap.size w)
 have H : (if (l0.length : Int) = 6 then ((impl_Cell_97.f l0).bind fun t108 => (some (!t108))) else (some false)) = some r := h
 clear h
 by_cases c2 : (l0.length : Int) = 6
 ·rw [if_pos c2] at H
  have c2b0 : ((l0.length : Int) == 6) = true := beq_iff_eq.mpr c2
  have c2b1 : ((l0.length : Int) != 6) = false := bne_eq_false_iff_eq.mpr c2
  clear c2
  replace H := bs_ H
  obtain ⟨t108,A3,H⟩ := H
  obtain rfl := Option.some.inj H
  go_enter Tryz.func55,Tryz.ntmps55
  go_wp2_with (first|(go_at_call 97;(with_reducible refine (impl_Cell_97.calls _ _ l0  t108 _ ?side1 ?side2 A3.out).mono ?_);(case side1 => repeat (first|exact HR0.out|(with_reducible refine Kd.C_alloc ?_ _)|(with_reducible refine Kd.C_drewN ?_ _)|(with_reducible refine Kd.C_drew ?_)));(case side2 => exact HC0.out);rintro e w4 ⟨rfl,hb⟩;replace HB := ak (below_step b_ hb);(try clear hb);(try clear hb2);(try clear hk);(try clear hi)))
  go_ret
  exact ⟨rf_,b_⟩
 ·rw [if_neg c2] at H
  have c2b0 : ((l0.length : Int) == 6) = false := beq_eq_false_iff_ne.mpr c2
  have c2b1 : ((l0.length : Int) != 6) = true := bne_iff_ne.mpr c2
  obtain rfl := Option.some.inj H
  go_enter Tryz.func55,Tryz.ntmps55
  go_wp2
  go_ret
  exact ⟨rf_,b_⟩

/-! ### impl_Set_111: function 111 -/
def impl_Set_111.f (l0 : List (S119)) : Option (Int) := some (l0.length : Int)
theorem impl_Set_111.calls (A0 : Option Addr) (c0 : Nat) (l0 : List (S119)) (r : Int) (w : World) (hr0 : Kd.C k119 w A0 l0.length l0) (hc0 : l0.length ≤ c0) (h : impl_Set_111.f l0 = some r) :
    Calls Tryz.prog 111 #[.slice A0 l0.length c0] w fun e w' => e = .returned (.int .i64 r) ∧ Drawn0 w w' := by
 have HR0 := ak hr0
 have HC0 := ak hc0
 clear hr0 hc0
 have H : (some (l0.length : Int)) = some r := h
 clear h
 obtain rfl := Option.some.inj H
 go_enter Tryz.func111,Tryz.ntmps111
 go_wp2
 go_ret
 exact ⟨rs_,by repeat (first|exact Drawn0.refl _|apply Drawn0.step)⟩

/-! ### impl_isSlot: function 149 -/
def impl_isSlot.f (a0 : Int) : Option (Bool) := (impl_within.f a0 0 5).bind fun t109 => (some t109)
theorem impl_isSlot.calls (a0 : Int) (r : Bool) (w : World) (h : impl_isSlot.f a0 = some r) :
    Calls Tryz.prog 149 #[.int .i64 a0] w fun e w' => e = .returned (.bool r) ∧ Drawn0 w w' := by
 have H : ((impl_within.f a0 0 5).bind fun t109 => (some t109)) = some r := h
 clear h
 replace H := bs_ H
 obtain ⟨t109,A2,H⟩ := H
 obtain rfl := Option.some.inj H
 go_enter Tryz.func149,Tryz.ntmps149
 go_wp2_with (first|((with_reducible refine gcal_ (f := 80) rfl ?_);refine gl_ (some 4) Tryz.func80 #[.int .i64 a0,.int .i64 0,.int .i64 5] ?_;(with_reducible refine (impl_within.calls a0 0 5 t109 _ A2.out).mono ?_);rintro e w' ⟨rfl,⟨nd,rfl⟩⟩;refine ⟨_,rfl,?_⟩))
 go_ret
 exact ⟨rs_,by repeat (first|exact Drawn0.refl _|apply Drawn0.step)⟩

/-! ### impl_isSet: function 140 -/
def impl_isSet.f (a0_0 : Int) (a0_1 : Int) (a0_2 : Int) (a0_3 : Bool) (a0_4 : Int) : Option (Bool) := (impl_isRegion.f a0_0).bind fun t111 => (if t111 = true then ((impl_isSlot.f a0_1).bind fun t112 => (if t112 = true then ((impl_isValue.f a0_2).bind fun t113 => (if t113 = true then ((impl_within.f a0_4 0 999999).bind fun t114 => (some t114)) else (some false))) else (some false))) else (some false))
theorem impl_isSet.calls (a0_0 : Int) (a0_1 : Int) (a0_2 : Int) (a0_3 : Bool) (a0_4 : Int) (r : Bool) (w : World) (h : impl_isSet.f a0_0 a0_1 a0_2 a0_3 a0_4 = some r) :
    Calls Tryz.prog 140 #[.agg #[.int .i64 a0_0, .int .i64 a0_1, .int .i64 a0_2, .bool a0_3, .int .i64 a0_4]] w fun e w' => e = .returned (.bool r) ∧ Below w.heap.size w w' := by
 have hu119 := Tryz.underlying119
 have HB := ak (Below.refl w.heap.size w)
 have H : ((impl_isRegion.f a0_0).bind fun t111 => (if t111 = true then ((impl_isSlot.f a0_1).bind fun t112 => (if t112 = true then ((impl_isValue.f a0_2).bind fun t113 => (if t113 = true then ((impl_within.f a0_4 0 999999).bind fun t114 => (some t114)) else (some false))) else (some false))) else (some false))) = some r := h
 clear h
 replace H := bs_ H
 obtain ⟨t111,A2,H⟩ := H
 by_cases c3 : t111 = true
 ·subst c3
  replace H := it_ H
  replace H := bs_ H
  obtain ⟨t112,A4,H⟩ := H
  by_cases c5 : t112 = true
  ·subst c5
   replace H := it_ H
   replace H := bs_ H
   obtain ⟨t113,A6,H⟩ := H
   by_cases c7 : t113 = true
   ·subst c7
    replace H := it_ H
    replace H := bs_ H
    obtain ⟨t114,A8,H⟩ := H
    obtain rfl := Option.some.inj H
    go_enter Tryz.func140,Tryz.ntmps140
    go_wp2_with (first|((with_reducible refine gate_dst (N := 1) rfl ?_);refine bx_ 1 #[.int .i64 a0_0,.int .i64 a0_1,.int .i64 a0_2,.bool a0_3,.int .i64 a0_4] 119 ?_;intro gb110 hg w9 hbox hb;replace HB := nb_ hg hbox hb;obtain ⟨BK110,GW110,GE110,HB⟩ := HB;clear hb hbox hg;obtain ⟨⟨hcz10_0,hcz10_1,hcz10_2,hcz10_3,hcz10_4⟩,hfz10_0,hfz10_1,hfz10_2,hfz10_3,hfz10_4⟩ := cl5_ BK110.out)|((with_reducible refine gcal_ (f := 54) rfl ?_);refine gl_ (some 5) Tryz.func54 #[.int .i64 a0_0] ?_;(with_reducible refine (impl_isRegion.calls a0_0 true _ A2.out).mono ?_);rintro e w' ⟨rfl,⟨nd,rfl⟩⟩;refine ⟨_,rfl,?_⟩)|(go_at_call 149;(with_reducible refine (impl_isSlot.calls a0_1 true _ A4.out).mono ?_);rintro e w' ⟨rfl,⟨nd,rfl⟩⟩)|(go_at_call 100;(with_reducible refine (impl_isValue.calls a0_2 true _ A6.out).mono ?_);rintro e w' ⟨rfl,⟨nd,rfl⟩⟩)|(go_at_call 80;(with_reducible refine (impl_within.calls a0_4 0 999999 t114 _ A8.out).mono ?_);rintro e w' ⟨rfl,⟨nd,rfl⟩⟩))
    go_ret
    exact ⟨rf_,b_⟩
   ·replace c7 := Bool.eq_false_iff.mpr c7
    subst c7
    replace H := ie_ H
    obtain rfl := Option.some.inj H
    go_enter Tryz.func140,Tryz.ntmps140
    go_wp2_with (first|((with_reducible refine gate_dst (N := 1) rfl ?_);refine bx_ 1 #[.int .i64 a0_0,.int .i64 a0_1,.int .i64 a0_2,.bool a0_3,.int .i64 a0_4] 119 ?_;intro gb110 hg w11 hbox hb;replace HB := nb_ hg hbox hb;obtain ⟨BK110,GW110,GE110,HB⟩ := HB;clear hb hbox hg;obtain ⟨⟨hcz12_0,hcz12_1,hcz12_2,hcz12_3,hcz12_4⟩,hfz12_0,hfz12_1,hfz12_2,hfz12_3,hfz12_4⟩ := cl5_ BK110.out)|((with_reducible refine gcal_ (f := 54) rfl ?_);refine gl_ (some 5) Tryz.func54 #[.int .i64 a0_0] ?_;(with_reducible refine (impl_isRegion.calls a0_0 true _ A2.out).mono ?_);rintro e w' ⟨rfl,⟨nd,rfl⟩⟩;refine ⟨_,rfl,?_⟩)|(go_at_call 149;(with_reducible refine (impl_isSlot.calls a0_1 true _ A4.out).mono ?_);rintro e w' ⟨rfl,⟨nd,rfl⟩⟩)|(go_at_call 100;(with_reducible refine (impl_isValue.calls a0_2 false _ A6.out).mono ?_);rintro e w' ⟨rfl,⟨nd,rfl⟩⟩))
    go_ret
    exact ⟨rf_,b_⟩
  ·replace c5 := Bool.eq_false_iff.mpr c5
   subst c5
   replace H := ie_ H
   obtain rfl := Option.some.inj H
   go_enter Tryz.func140,Tryz.ntmps140
   go_wp2_with (first|((with_reducible refine gate_dst (N := 1) rfl ?_);refine bx_ 1 #[.int .i64 a0_0,.int .i64 a0_1,.int .i64 a0_2,.bool a0_3,.int .i64 a0_4] 119 ?_;intro gb110 hg w13 hbox hb;replace HB := nb_ hg hbox hb;obtain ⟨BK110,GW110,GE110,HB⟩ := HB;clear hb hbox hg;obtain ⟨⟨hcz14_0,hcz14_1,hcz14_2,hcz14_3,hcz14_4⟩,hfz14_0,hfz14_1,hfz14_2,hfz14_3,hfz14_4⟩ := cl5_ BK110.out)|((with_reducible refine gcal_ (f := 54) rfl ?_);refine gl_ (some 5) Tryz.func54 #[.int .i64 a0_0] ?_;(with_reducible refine (impl_isRegion.calls a0_0 true _ A2.out).mono ?_);rintro e w' ⟨rfl,⟨nd,rfl⟩⟩;refine ⟨_,rfl,?_⟩)|(go_at_call 149;(with_reducible refine (impl_isSlot.calls a0_1 false _ A4.out).mono ?_);rintro e w' ⟨rfl,⟨nd,rfl⟩⟩))
   go_ret
   exact ⟨rf_,b_⟩
 ·replace c3 := Bool.eq_false_iff.mpr c3
  subst c3
  replace H := ie_ H
  obtain rfl := Option.some.inj H
  go_enter Tryz.func140,Tryz.ntmps140
  go_wp2_with (first|((with_reducible refine gate_dst (N := 1) rfl ?_);refine bx_ 1 #[.int .i64 a0_0,.int .i64 a0_1,.int .i64 a0_2,.bool a0_3,.int .i64 a0_4] 119 ?_;intro gb110 hg w15 hbox hb;replace HB := nb_ hg hbox hb;obtain ⟨BK110,GW110,GE110,HB⟩ := HB;clear hb hbox hg;obtain ⟨⟨hcz16_0,hcz16_1,hcz16_2,hcz16_3,hcz16_4⟩,hfz16_0,hfz16_1,hfz16_2,hfz16_3,hfz16_4⟩ := cl5_ BK110.out)|((with_reducible refine gcal_ (f := 54) rfl ?_);refine gl_ (some 5) Tryz.func54 #[.int .i64 a0_0] ?_;(with_reducible refine (impl_isRegion.calls a0_0 false _ A2.out).mono ?_);rintro e w' ⟨rfl,⟨nd,rfl⟩⟩;refine ⟨_,rfl,?_⟩))
  go_ret
  exact ⟨rf_,b_⟩

end Go.Proofs.YthplaakckfhaaaaGreat.XMs
