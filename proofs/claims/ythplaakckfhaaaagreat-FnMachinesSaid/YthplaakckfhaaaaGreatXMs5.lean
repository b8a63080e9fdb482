/- Proved: a call of each Go function here comes to what its Lean function tells. -/
import Derived.Test.YthplaakckfhaaaaGreatXMs0
import Derived.Test.YthplaakckfhaaaaGreatXMs3
import Derived.Test.YthplaakckfhaaaaGreatXMs4
namespace Go.Proofs.YthplaakckfhaaaaGreat.XMs
open Go.RowKit Go.Proofs.YthplaakckfhaaaaGreat.Aid Go.Proofs.YthplaakckfhaaaaGreatW.PrintWords Go.Proofs.YthplaakckfhaaaaGreatW.PrintLast Go.Proofs.YthplaakckfhaaaaGreatW.PrintMore
set_option linter.unusedVariables false
set_option maxHeartbeats 8000000
set_option maxRecDepth 100000
set_option linter.unusedSimpArgs false

/-! ### impl_isRecord_1: function 114 -/
def impl_isRecord_1.f (a0_0 a0_1 a0_2 : Int) (a0_3 : Bool) (a0_4 : Int) (q2 : Int) : Option Bool := some (a0_0 != q2)
theorem impl_isRecord_1.calls (a0_0 a0_1 a0_2 : Int) (a0_3 : Bool) (a0_4 : Int) (g : Nat) (q2 : Int) (r : Bool) (w : World) (hg2 : w.cell? ⟨g, 2, none⟩ = some (.int .i64 q2)) (h : impl_isRecord_1.f a0_0 a0_1 a0_2 a0_3 a0_4 q2 = some r) :
    Calls Tryz.prog 114 (#[.agg #[.int .i64 a0_0, .int .i64 a0_1, .int .i64 a0_2, .bool a0_3, .int .i64 a0_4]] ++ #[.pointer (some ⟨g, 0, none⟩)]) w fun e w' => e = .returned (.bool r) ∧ Below w.heap.size w w' := by
 have hu := Tryz.underlying119
 obtain rfl := Option.some.inj h
 have hlt : g < w.heap.size := World.block_lt_of_cell? w _ hg2
 have hne : g ≠ w.heap.size := Nat.ne_of_lt hlt
 show Calls Tryz.prog 114 #[.agg #[.int .i64 a0_0,.int .i64 a0_1,.int .i64 a0_2,.bool a0_3,.int .i64 a0_4],.pointer (some ⟨g,0,none⟩)] w _
 go_enter Tryz.func114,Tryz.ntmps114
 go_wp2
 go_ret
 exact ⟨rfl,(Below.refl _ _).alloc (Nat.le_refl _) _⟩

/-! ### impl_Set_141: function 141 -/
theorem impl_Set_141.idx (pf : S119 → Option Bool) (g : Nat) (lb : Array Value) (eg : ∀ args w, (callFunc g args).run Tryz.prog w = .ok (.enter g args) w) (A : Option Addr) (c : Nat) (l : List S119) (w : World)
  (hp : ∀ (x : S119) (b : Bool) (W : World),pf x = some b → Below w.heap.size w W → Calls Tryz.prog g (#[.agg #[.int .i64 x.f0,.int .i64 x.f1,.int .i64 x.f2,.bool x.f3,.int .i64 x.f4]] ++ lb) W fun e w' => e = .returned (.bool b) ∧ Below w.heap.size w w')
  (hr : Kd.C k119 w A l.length l) (hc : l.length ≤ c) (r : Int) (h : idxFrom pf l 0 = some r) :
    Calls Tryz.prog 141 #[.slice A l.length c, .func (.func g) #[] lb] w fun e w' => e = .returned (.int .i64 r) ∧ Below w.heap.size w w' := by
 have hu119 := Tryz.underlying119
 have hlen := hr.2.1
 have HR := ak hr
 clear hr
 go_enter Tryz.func141,Tryz.ntmps141
 go_wp2
 go_loopg [5,8] l.length (fun gg s5 s8 wr => ∃ kk : Nat,kk ≤ l.length ∧ l.length - kk ≤ gg ∧ s8 = .int .i64 kk ∧ Aside0 (Below w.heap.size w wr) ∧ Aside0 (idxFrom pf (l.drop kk) kk = some r))
 case atStart => exact ⟨0,Nat.zero_le _,by omega,rfl,⟨Below.refl _ w⟩,⟨by simpa using h⟩⟩
 case round =>
  obtain ⟨kk,hkk,hg,rfl,BW,A1⟩ := hrel
  by_cases hlt : kk < l.length
  ·have hltz : (kk : Int) < (l.length : Int) := by omega
   obtain ⟨ad,e0,hx0,hx1,hx2,hx3,hx4⟩ := at_T119 HR.out (kk : Int) (by omega) (by omega)
   cases e0
   replace hx0 := (BW.out.cell (World.block_lt_of_cell? w _ hx0)).trans hx0
   rw [Int.toNat_natCast] at hx0
   replace hx1 := (BW.out.cell (World.block_lt_of_cell? w _ hx1)).trans hx1
   rw [Int.toNat_natCast] at hx1
   replace hx2 := (BW.out.cell (World.block_lt_of_cell? w _ hx2)).trans hx2
   rw [Int.toNat_natCast] at hx2
   replace hx3 := (BW.out.cell (World.block_lt_of_cell? w _ hx3)).trans hx3
   rw [Int.toNat_natCast] at hx3
   replace hx4 := (BW.out.cell (World.block_lt_of_cell? w _ hx4)).trans hx4
   rw [Int.toNat_natCast] at hx4
   have ex : rd_T119 l (kk : Int) = l[kk] := by
    unfold rd_T119
    rw [Int.toNat_natCast,List.getD_eq_getElem?_getD,List.getElem?_eq_getElem hlt];rfl
   have H := A1.out
   rw [List.drop_eq_getElem_cons hlt,← ex] at H
   obtain ⟨b,hb,H2⟩ := Option.bind_eq_some_iff.1 H
   have hcall := hp _ b wr hb BW.out
   have HH := ak H2
   have EX := ak ex
   clear H H2 ex hb A1 h
   cases b with
   | true =>
    go_wp2_with (go_at_fn g;refine hcall.mono ?_;rintro e w' ⟨rfl,hb'⟩)
    go_ret
    have e1 := HH.out
    simp only [if_true] at e1
    exact ⟨by rw [← Option.some.inj e1];rfl,hb'⟩
   | false =>
    go_wp2_with (go_at_fn g;refine hcall.mono ?_;rintro e w' ⟨rfl,hb'⟩)
    go_roundg (l.length - (kk + 1))
    case measure => omega
    case rel => exact ⟨kk + 1,by omega,by omega,by go_num,⟨hb'⟩,⟨by have e1 := HH.out;simpa using e1⟩⟩
  ·have hltz : ¬ (kk : Int) < (l.length : Int) := by omega
   have : kk = l.length := by omega
   subst this
   go_wp2
   go_ret
   have e1 := A1.out
   rw [List.drop_of_length_le (Nat.le_refl _)] at e1
   have e2 := Option.some.inj e1
   exact ⟨by rw [← e2];rfl,BW.out⟩

/-! ### impl_Set_113: function 113 -/
def impl_Set_113.f (l0 : List S119) (q2 : Int) : Option Bool := (idxFrom (fun x : S119 => impl_isRecord_1.f x.f0 x.f1 x.f2 x.f3 x.f4 q2) l0 0).bind fun t => (some (decide (t ≥ 0)))
theorem impl_Set_113.calls (A0 : Option Addr) (c0 : Nat) (l0 : List S119) (g : Nat) (q2 : Int) (r : Bool) (w : World) (hr0 : Kd.C k119 w A0 l0.length l0) (hc0 : l0.length ≤ c0) (hg2 : w.cell? ⟨g, 2, none⟩ = some (.int .i64 q2)) (h : impl_Set_113.f  l0 q2 = some r) :
    Calls Tryz.prog 113 #[.slice A0 l0.length c0, .func (.func 114) #[] #[.pointer (some ⟨g, 0, none⟩)]] w fun e w' => e = .returned (.bool r) ∧ Below w.heap.size w w' := by
 obtain ⟨t,ht,H⟩ := Option.bind_eq_some_iff.1 h
 obtain rfl := Option.some.inj H
 have hi := impl_Set_141.idx (fun x : S119 => impl_isRecord_1.f x.f0 x.f1 x.f2 x.f3 x.f4 q2) 114 #[.pointer (some ⟨g,0,none⟩)] (enters_of Tryz.func114 (by kernel_rfl) rfl) A0 c0 l0 w (fun x b W hb hB => (impl_isRecord_1.calls x.f0 x.f1 x.f2 x.f3 x.f4 g q2 b W ((hB.cell (World.block_lt_of_cell? w _ hg2)).trans hg2) hb).mono fun e w' hh => ⟨hh.1,below_step hB hh.2⟩) hr0 hc0 t ht
 clear hr0 ht H h
 go_enter Tryz.func113,Tryz.ntmps113
 go_wp2_with (go_at_call 141;refine hi.mono ?_;rintro e w' ⟨rfl,hb⟩)
 go_ret
 exact ⟨rfl,hb⟩

/-! ### impl_isRecord: function 65 -/
def impl_isRecord.f (k : Nat) (a0_0 : Int) (a0_1 : Int) (a0_2 : Int) (l0_3 : List (S119)) : Option (Bool) := (impl_within.f a0_0 1 3).bind fun t121 => (if t121 = true then ((impl_isId.f a0_1).bind fun t122 => (if t122 = true then ((impl_isRegion.f a0_2).bind fun t123 => (if t123 = true then ((impl_Set_111.f l0_3).bind fun t124 => ((impl_within.f t124 1 12).bind fun t125 => (if t125 = true then ((impl_areSets.f k l0_3).bind fun t126 => (if t126 = true then ((impl_Set_113.f l0_3 a0_2).bind fun t127 => (some (!t127))) else (some false))) else (some false)))) else (some false))) else (some false))) else (some false))

theorem impl_isRecord.calls (k : Nat) (a0_0 : Int) (a0_1 : Int) (a0_2 : Int) (A0_3 : Option Addr) (c0_3 : Nat) (l0_3 : List (S119)) (r : Bool) (w : World) (hr0_3 : Kd.C k119 w A0_3 l0_3.length l0_3) (hc0_3 : l0_3.length ≤ c0_3) (h : impl_isRecord.f k a0_0 a0_1 a0_2 l0_3 = some r) :
    Calls Tryz.prog 65 #[.agg #[.int .i64 a0_0, .int .i64 a0_1, .int .i64 a0_2, .slice A0_3 l0_3.length c0_3]] w fun e w' => e = .returned (.bool r) ∧ Below w.heap.size w w' := by
 have hu50 := Tryz.underlying50
 have HR0_3 := ak hr0_3
 have HC0_3 := ak hc0_3
 clear hr0_3 hc0_3
 have HB := ak (Below.refl w.heap.size w)
 have H : ((impl_within.f a0_0 1 3).bind fun t121 => (if t121 = true then ((impl_isId.f a0_1).bind fun t122 => (if t122 = true then ((impl_isRegion.f a0_2).bind fun t123 => (if t123 = true then ((impl_Set_111.f l0_3).bind fun t124 => ((impl_within.f t124 1 12).bind fun t125 => (if t125 = true then ((impl_areSets.f k l0_3).bind fun t126 => (if t126 = true then ((impl_Set_113.f l0_3 a0_2).bind fun t127 => (some (!t127))) else (some false))) else (some false)))) else (some false))) else (some false))) else (some false))) = some r := h
 clear h
 replace H := bs_ H
 obtain ⟨t121,A2,H⟩ := H
 by_cases c3 : t121 = true
 ·subst c3
  replace H := it_ H
  replace H := bs_ H
  obtain ⟨t122,A4,H⟩ := H
  by_cases c5 : t122 = true
  ·subst c5
   replace H := it_ H
   replace H := bs_ H
   obtain ⟨t123,A6,H⟩ := H
   by_cases c7 : t123 = true
   ·subst c7
    replace H := it_ H
    replace H := bs_ H
    obtain ⟨t124,A8,H⟩ := H
    replace H := bs_ H
    obtain ⟨t125,A9,H⟩ := H
    by_cases c10 : t125 = true
    ·subst c10
     replace H := it_ H
     replace H := bs_ H
     obtain ⟨t126,A11,H⟩ := H
     by_cases c12 : t126 = true
     ·subst c12
      replace H := it_ H
      replace H := bs_ H
      obtain ⟨t127,A13,H⟩ := H
      obtain rfl := Option.some.inj H
      go_enter Tryz.func65,Tryz.ntmps65
      go_wp2_with (first|((with_reducible refine gate_dst (N := 1) rfl ?_);refine bx_ 1 #[.int .i64 a0_0,.int .i64 a0_1,.int .i64 a0_2,.slice A0_3 l0_3.length c0_3] 50 ?_;intro gb120 hg w14 hbox hb;replace HB := nb_ hg hbox hb;obtain ⟨BK120,GW120,GE120,HB⟩ := HB;clear hb hbox hg;obtain ⟨⟨hcz15_0,hcz15_1,hcz15_2,hcz15_3⟩,hfz15_0,hfz15_1,hfz15_2,hfz15_3⟩ := cl4_ BK120.out)|((with_reducible refine gcal_ (f := 80) rfl ?_);refine gl_ (some 5) Tryz.func80 #[.int .i64 a0_0,.int .i64 1,.int .i64 3] ?_;(with_reducible refine (impl_within.calls a0_0 1 3 true _ A2.out).mono ?_);rintro e w' ⟨rfl,⟨nd,rfl⟩⟩;refine ⟨_,rfl,?_⟩)|(go_at_call 37;(with_reducible refine (impl_isId.calls a0_1 true _ A4.out).mono ?_);rintro e w' ⟨rfl,⟨nd,rfl⟩⟩)|(go_at_call 54;(with_reducible refine (impl_isRegion.calls a0_2 true _ A6.out).mono ?_);rintro e w' ⟨rfl,⟨nd,rfl⟩⟩)|(go_at_call 111;(with_reducible refine (impl_Set_111.calls _ _ l0_3 t124 _ ?side1 ?side2 A8.out).mono ?_);(case side1 => exact cb_ HR0_3);(case side2 => exact HC0_3.out);rintro e w' ⟨rfl,⟨nd,rfl⟩⟩)|(go_at_call 80;(with_reducible refine (impl_within.calls t124 1 12 true _ A9.out).mono ?_);rintro e w' ⟨rfl,⟨nd,rfl⟩⟩)|(go_at_call 112;(with_reducible refine (impl_areSets.calls k _ _ l0_3 true _ ?side1 ?side2 A11.out).mono ?_);(case side1 => exact cb_ HR0_3);(case side2 => exact HC0_3.out);rintro e w16 ⟨rfl,hb⟩;replace BK120 := ak (blk_below (kb_ BK120) hb);replace HB := ak (below_step b_ hb);(try clear hb);(try clear hb2);(try clear hk);(try clear hi);obtain ⟨⟨hcz17_0,hcz17_1,hcz17_2,hcz17_3⟩,hfz17_0,hfz17_1,hfz17_2,hfz17_3⟩ := cl4_ BK120.out)|(go_at_call 113;(with_reducible refine (impl_Set_113.calls _ _ l0_3 gb120 (a0_2) t127 _ ?side1 ?side2 ?side3 A13.out).mono ?_);(case side1 => exact cb_ HR0_3);(case side2 => exact HC0_3.out);(case side3 => exact (blk_cell kk_ 2).trans rfl);rintro e w18 ⟨rfl,hb⟩;replace BK120 := ak (blk_below (kb_ BK120) hb);replace HB := ak (below_step b_ hb);(try clear hb);(try clear hb2);(try clear hk);(try clear hi)))
      go_ret
      exact ⟨rf_,b_⟩
     ·replace c12 := Bool.eq_false_iff.mpr c12
      subst c12
      replace H := ie_ H
      obtain rfl := Option.some.inj H
      go_enter Tryz.func65,Tryz.ntmps65
      go_wp2_with (first|((with_reducible refine gate_dst (N := 1) rfl ?_);refine bx_ 1 #[.int .i64 a0_0,.int .i64 a0_1,.int .i64 a0_2,.slice A0_3 l0_3.length c0_3] 50 ?_;intro gb120 hg w19 hbox hb;replace HB := nb_ hg hbox hb;obtain ⟨BK120,GW120,GE120,HB⟩ := HB;clear hb hbox hg;obtain ⟨⟨hcz20_0,hcz20_1,hcz20_2,hcz20_3⟩,hfz20_0,hfz20_1,hfz20_2,hfz20_3⟩ := cl4_ BK120.out)|((with_reducible refine gcal_ (f := 80) rfl ?_);refine gl_ (some 5) Tryz.func80 #[.int .i64 a0_0,.int .i64 1,.int .i64 3] ?_;(with_reducible refine (impl_within.calls a0_0 1 3 true _ A2.out).mono ?_);rintro e w' ⟨rfl,⟨nd,rfl⟩⟩;refine ⟨_,rfl,?_⟩)|(go_at_call 37;(with_reducible refine (impl_isId.calls a0_1 true _ A4.out).mono ?_);rintro e w' ⟨rfl,⟨nd,rfl⟩⟩)|(go_at_call 54;(with_reducible refine (impl_isRegion.calls a0_2 true _ A6.out).mono ?_);rintro e w' ⟨rfl,⟨nd,rfl⟩⟩)|(go_at_call 111;(with_reducible refine (impl_Set_111.calls _ _ l0_3 t124 _ ?side1 ?side2 A8.out).mono ?_);(case side1 => exact cb_ HR0_3);(case side2 => exact HC0_3.out);rintro e w' ⟨rfl,⟨nd,rfl⟩⟩)|(go_at_call 80;(with_reducible refine (impl_within.calls t124 1 12 true _ A9.out).mono ?_);rintro e w' ⟨rfl,⟨nd,rfl⟩⟩)|(go_at_call 112;(with_reducible refine (impl_areSets.calls k _ _ l0_3 false _ ?side1 ?side2 A11.out).mono ?_);(case side1 => exact cb_ HR0_3);(case side2 => exact HC0_3.out);rintro e w21 ⟨rfl,hb⟩;replace BK120 := ak (blk_below (kb_ BK120) hb);replace HB := ak (below_step b_ hb);(try clear hb);(try clear hb2);(try clear hk);(try clear hi)))
      go_ret
      exact ⟨rf_,b_⟩
    ·replace c10 := Bool.eq_false_iff.mpr c10
     subst c10
     replace H := ie_ H
     obtain rfl := Option.some.inj H
     go_enter Tryz.func65,Tryz.ntmps65
     go_wp2_with (first|((with_reducible refine gate_dst (N := 1) rfl ?_);refine bx_ 1 #[.int .i64 a0_0,.int .i64 a0_1,.int .i64 a0_2,.slice A0_3 l0_3.length c0_3] 50 ?_;intro gb120 hg w22 hbox hb;replace HB := nb_ hg hbox hb;obtain ⟨BK120,GW120,GE120,HB⟩ := HB;clear hb hbox hg;obtain ⟨⟨hcz23_0,hcz23_1,hcz23_2,hcz23_3⟩,hfz23_0,hfz23_1,hfz23_2,hfz23_3⟩ := cl4_ BK120.out)|((with_reducible refine gcal_ (f := 80) rfl ?_);refine gl_ (some 5) Tryz.func80 #[.int .i64 a0_0,.int .i64 1,.int .i64 3] ?_;(with_reducible refine (impl_within.calls a0_0 1 3 true _ A2.out).mono ?_);rintro e w' ⟨rfl,⟨nd,rfl⟩⟩;refine ⟨_,rfl,?_⟩)|(go_at_call 37;(with_reducible refine (impl_isId.calls a0_1 true _ A4.out).mono ?_);rintro e w' ⟨rfl,⟨nd,rfl⟩⟩)|(go_at_call 54;(with_reducible refine (impl_isRegion.calls a0_2 true _ A6.out).mono ?_);rintro e w' ⟨rfl,⟨nd,rfl⟩⟩)|(go_at_call 111;(with_reducible refine (impl_Set_111.calls _ _ l0_3 t124 _ ?side1 ?side2 A8.out).mono ?_);(case side1 => exact cb_ HR0_3);(case side2 => exact HC0_3.out);rintro e w' ⟨rfl,⟨nd,rfl⟩⟩)|(go_at_call 80;(with_reducible refine (impl_within.calls t124 1 12 false _ A9.out).mono ?_);rintro e w' ⟨rfl,⟨nd,rfl⟩⟩))
     go_ret
     exact ⟨rf_,b_⟩
   ·replace c7 := Bool.eq_false_iff.mpr c7
    subst c7
    replace H := ie_ H
    obtain rfl := Option.some.inj H
    go_enter Tryz.func65,Tryz.ntmps65
    go_wp2_with (first|((with_reducible refine gate_dst (N := 1) rfl ?_);refine bx_ 1 #[.int .i64 a0_0,.int .i64 a0_1,.int .i64 a0_2,.slice A0_3 l0_3.length c0_3] 50 ?_;intro gb120 hg w24 hbox hb;replace HB := nb_ hg hbox hb;obtain ⟨BK120,GW120,GE120,HB⟩ := HB;clear hb hbox hg;obtain ⟨⟨hcz25_0,hcz25_1,hcz25_2,hcz25_3⟩,hfz25_0,hfz25_1,hfz25_2,hfz25_3⟩ := cl4_ BK120.out)|((with_reducible refine gcal_ (f := 80) rfl ?_);refine gl_ (some 5) Tryz.func80 #[.int .i64 a0_0,.int .i64 1,.int .i64 3] ?_;(with_reducible refine (impl_within.calls a0_0 1 3 true _ A2.out).mono ?_);rintro e w' ⟨rfl,⟨nd,rfl⟩⟩;refine ⟨_,rfl,?_⟩)|(go_at_call 37;(with_reducible refine (impl_isId.calls a0_1 true _ A4.out).mono ?_);rintro e w' ⟨rfl,⟨nd,rfl⟩⟩)|(go_at_call 54;(with_reducible refine (impl_isRegion.calls a0_2 false _ A6.out).mono ?_);rintro e w' ⟨rfl,⟨nd,rfl⟩⟩))
    go_ret
    exact ⟨rf_,b_⟩
  ·replace c5 := Bool.eq_false_iff.mpr c5
   subst c5
   replace H := ie_ H
   obtain rfl := Option.some.inj H
   go_enter Tryz.func65,Tryz.ntmps65
   go_wp2_with (first|((with_reducible refine gate_dst (N := 1) rfl ?_);refine bx_ 1 #[.int .i64 a0_0,.int .i64 a0_1,.int .i64 a0_2,.slice A0_3 l0_3.length c0_3] 50 ?_;intro gb120 hg w26 hbox hb;replace HB := nb_ hg hbox hb;obtain ⟨BK120,GW120,GE120,HB⟩ := HB;clear hb hbox hg;obtain ⟨⟨hcz27_0,hcz27_1,hcz27_2,hcz27_3⟩,hfz27_0,hfz27_1,hfz27_2,hfz27_3⟩ := cl4_ BK120.out)|((with_reducible refine gcal_ (f := 80) rfl ?_);refine gl_ (some 5) Tryz.func80 #[.int .i64 a0_0,.int .i64 1,.int .i64 3] ?_;(with_reducible refine (impl_within.calls a0_0 1 3 true _ A2.out).mono ?_);rintro e w' ⟨rfl,⟨nd,rfl⟩⟩;refine ⟨_,rfl,?_⟩)|(go_at_call 37;(with_reducible refine (impl_isId.calls a0_1 false _ A4.out).mono ?_);rintro e w' ⟨rfl,⟨nd,rfl⟩⟩))
   go_ret
   exact ⟨rf_,b_⟩
 ·replace c3 := Bool.eq_false_iff.mpr c3
  subst c3
  replace H := ie_ H
  obtain rfl := Option.some.inj H
  go_enter Tryz.func65,Tryz.ntmps65
  go_wp2_with (first|((with_reducible refine gate_dst (N := 1) rfl ?_);refine bx_ 1 #[.int .i64 a0_0,.int .i64 a0_1,.int .i64 a0_2,.slice A0_3 l0_3.length c0_3] 50 ?_;intro gb120 hg w28 hbox hb;replace HB := nb_ hg hbox hb;obtain ⟨BK120,GW120,GE120,HB⟩ := HB;clear hb hbox hg;obtain ⟨⟨hcz29_0,hcz29_1,hcz29_2,hcz29_3⟩,hfz29_0,hfz29_1,hfz29_2,hfz29_3⟩ := cl4_ BK120.out)|((with_reducible refine gcal_ (f := 80) rfl ?_);refine gl_ (some 5) Tryz.func80 #[.int .i64 a0_0,.int .i64 1,.int .i64 3] ?_;(with_reducible refine (impl_within.calls a0_0 1 3 false _ A2.out).mono ?_);rintro e w' ⟨rfl,⟨nd,rfl⟩⟩;refine ⟨_,rfl,?_⟩))
  go_ret
  exact ⟨rf_,b_⟩

/-! ### impl_isMachineOk_1: function 79 -/
def impl_isMachineOk_1.f (k : Nat) (a0_0 : Int) (a0_1 : Int) (a0_2 : Int) (l0_3 : List (S119)) : Option (Bool) := (impl_isRecord.f k a0_0 a0_1 a0_2 l0_3).bind fun t129 => (some (!t129))

theorem impl_isMachineOk_1.calls (k : Nat) (a0_0 : Int) (a0_1 : Int) (a0_2 : Int) (A0_3 : Option Addr) (c0_3 : Nat) (l0_3 : List (S119)) (r : Bool) (w : World) (hr0_3 : Kd.C k119 w A0_3 l0_3.length l0_3) (hc0_3 : l0_3.length ≤ c0_3) (h : impl_isMachineOk_1.f k a0_0 a0_1 a0_2 l0_3 = some r) :
    Calls Tryz.prog 79 #[.agg #[.int .i64 a0_0, .int .i64 a0_1, .int .i64 a0_2, .slice A0_3 l0_3.length c0_3]] w fun e w' => e = .returned (.bool r) ∧ Below w.heap.size w w' := by
 have hu50 := Tryz.underlying50
 have HR0_3 := ak hr0_3
 have HC0_3 := ak hc0_3
 clear hr0_3 hc0_3
 have HB := ak (Below.refl w.heap.size w)
 have H : ((impl_isRecord.f k a0_0 a0_1 a0_2 l0_3).bind fun t129 => (some (!t129))) = some r := h
 clear h
 replace H := bs_ H
 obtain ⟨t129,A2,H⟩ := H
 obtain rfl := Option.some.inj H
 go_enter Tryz.func79,Tryz.ntmps79
 go_wp2_with (first|((with_reducible refine gate_dst (N := 1) rfl ?_);refine bx_ 1 #[.int .i64 a0_0,.int .i64 a0_1,.int .i64 a0_2,.slice A0_3 l0_3.length c0_3] 50 ?_;intro gb128 hg w3 hbox hb;replace HB := nb_ hg hbox hb;obtain ⟨BK128,GW128,GE128,HB⟩ := HB;clear hb hbox hg;obtain ⟨⟨hcz4_0,hcz4_1,hcz4_2,hcz4_3⟩,hfz4_0,hfz4_1,hfz4_2,hfz4_3⟩ := cl4_ BK128.out)|((with_reducible refine gcal_ (f := 65) rfl ?_);refine gl_ (some 4) Tryz.func65 #[.agg #[.int .i64 a0_0,.int .i64 a0_1,.int .i64 a0_2,.slice A0_3 l0_3.length c0_3]] ?_;(with_reducible refine (impl_isRecord.calls k a0_0 a0_1 a0_2 _ _ l0_3 t129 _ ?side1 ?side2 A2.out).mono ?_);(case side1 => exact cb_ HR0_3);(case side2 => exact HC0_3.out);rintro e w5 ⟨rfl,hb⟩;refine ⟨_,rfl,?_⟩;replace BK128 := ak (blk_below (kb_ BK128) hb);replace HB := ak (below_step b_ hb);(try clear hb);(try clear hb2);(try clear hk);(try clear hi)))
 go_ret
 exact ⟨rf_,b_⟩

/-! ### impl_Record_116: function 116 -/
theorem impl_Record_116.idx (pf : S50 → Option Bool) (g : Nat) (lb : Array Value) (eg : ∀ args w, (callFunc g args).run Tryz.prog w = .ok (.enter g args) w) (A : Option Addr) (c : Nat) (l : List S50) (w : World)
  (hp : ∀ (x : S50) (A3 : Option Addr) (c3 : Nat) (b : Bool) (W : World),pf x = some b → Below w.heap.size w W → x.f3.length ≤ c3 → k119.C W A3 x.f3.length x.f3 → Calls Tryz.prog g (#[.agg #[.int .i64 x.f0,.int .i64 x.f1,.int .i64 x.f2,.slice A3 x.f3.length c3]] ++ lb) W fun e w' => e = .returned (.bool b) ∧ Below w.heap.size w w')
  (hr : Kd.C k50 w A l.length l) (hc : l.length ≤ c) (r : Int) (h : idxFrom pf l 0 = some r) :
    Calls Tryz.prog 116 #[.slice A l.length c, .func (.func g) #[] lb] w fun e w' => e = .returned (.int .i64 r) ∧ Below w.heap.size w w' := by
 have hu50 := Tryz.underlying50
 have hlen := hr.2.1
 have HR := ak hr
 clear hr
 go_enter Tryz.func116,Tryz.ntmps116
 go_wp2
 go_loopg [5,8] l.length (fun gg s5 s8 wr => ∃ kk : Nat,kk ≤ l.length ∧ l.length - kk ≤ gg ∧ s8 = .int .i64 kk ∧ Aside0 (Below w.heap.size w wr) ∧ Aside0 (idxFrom pf (l.drop kk) kk = some r))
 case atStart => exact ⟨0,Nat.zero_le _,by omega,rfl,⟨Below.refl _ w⟩,⟨by simpa using h⟩⟩
 case round =>
  obtain ⟨kk,hkk,hg,rfl,BW,A1⟩ := hrel
  by_cases hlt : kk < l.length
  ·have hltz : (kk : Int) < (l.length : Int) := by omega
   obtain ⟨ad,A3,c3,e0,hx0,hx1,hx2,hx3,hl3,hi3⟩ := at_T50 HR.out (kk : Int) (by omega) (by omega)
   cases e0
   replace hx0 := (BW.out.cell (World.block_lt_of_cell? w _ hx0)).trans hx0
   rw [Int.toNat_natCast] at hx0
   replace hx1 := (BW.out.cell (World.block_lt_of_cell? w _ hx1)).trans hx1
   rw [Int.toNat_natCast] at hx1
   replace hx2 := (BW.out.cell (World.block_lt_of_cell? w _ hx2)).trans hx2
   rw [Int.toNat_natCast] at hx2
   replace hx3 := (BW.out.cell (World.block_lt_of_cell? w _ hx3)).trans hx3
   rw [Int.toNat_natCast] at hx3
   have ex : rd_T50 l (kk : Int) = l[kk] := by
    unfold rd_T50
    rw [Int.toNat_natCast,List.getD_eq_getElem?_getD,List.getElem?_eq_getElem hlt];rfl
   have H := A1.out
   rw [List.drop_eq_getElem_cons hlt,← ex] at H
   obtain ⟨b,hb,H2⟩ := Option.bind_eq_some_iff.1 H
   have hcall := hp _ A3 c3 b wr hb BW.out hl3 (Kd.C_below hi3 BW.out)
   have HH := ak H2
   have EX := ak ex
   clear H H2 ex hb A1 h
   cases b with
   | true =>
    go_wp2_with (go_at_fn g;refine hcall.mono ?_;rintro e w' ⟨rfl,hb'⟩)
    go_ret
    have e1 := HH.out
    simp only [if_true] at e1
    exact ⟨by rw [← Option.some.inj e1];rfl,hb'⟩
   | false =>
    go_wp2_with (go_at_fn g;refine hcall.mono ?_;rintro e w' ⟨rfl,hb'⟩)
    go_roundg (l.length - (kk + 1))
    case measure => omega
    case rel => exact ⟨kk + 1,by omega,by omega,by go_num,⟨hb'⟩,⟨by have e1 := HH.out;simpa using e1⟩⟩
  ·have hltz : ¬ (kk : Int) < (l.length : Int) := by omega
   have : kk = l.length := by omega
   subst this
   go_wp2
   go_ret
   have e1 := A1.out
   rw [List.drop_of_length_le (Nat.le_refl _)] at e1
   have e2 := Option.some.inj e1
   exact ⟨by rw [← e2];rfl,BW.out⟩

/-! ### impl_Record_78: function 78 -/
def impl_Record_78.f (k : Nat) (l0 : List S50) : Option Bool := (idxFrom (fun x : S50 => impl_isMachineOk_1.f k x.f0 x.f1 x.f2 x.f3) l0 0).bind fun t => (some (decide (t ≥ 0)))
theorem impl_Record_78.calls (k : Nat) (A0 : Option Addr) (c0 : Nat) (l0 : List S50) (r : Bool) (w : World) (hr0 : Kd.C k50 w A0 l0.length l0) (hc0 : l0.length ≤ c0) (h : impl_Record_78.f k l0  = some r) :
    Calls Tryz.prog 78 #[.slice A0 l0.length c0, .func (.func 79) #[] #[]] w fun e w' => e = .returned (.bool r) ∧ Below w.heap.size w w' := by
 obtain ⟨t,ht,H⟩ := Option.bind_eq_some_iff.1 h
 obtain rfl := Option.some.inj H
 have hi := impl_Record_116.idx (fun x : S50 => impl_isMachineOk_1.f k x.f0 x.f1 x.f2 x.f3) 79 #[] (enters_of Tryz.func79 (by kernel_rfl) rfl) A0 c0 l0 w (fun x A3 c3 b W hb hB hL3 hC3 => (impl_isMachineOk_1.calls k x.f0 x.f1 x.f2 A3 c3 x.f3 b W hC3 hL3 hb).mono fun e w' hh => ⟨hh.1,below_step hB hh.2⟩) hr0 hc0 t ht
 clear hr0 ht H h
 go_enter Tryz.func78,Tryz.ntmps78
 go_wp2_with (go_at_call 116;refine hi.mono ?_;rintro e w' ⟨rfl,hb⟩)
 go_ret
 exact ⟨rfl,hb⟩

end Go.Proofs.YthplaakckfhaaaaGreat.XMs
