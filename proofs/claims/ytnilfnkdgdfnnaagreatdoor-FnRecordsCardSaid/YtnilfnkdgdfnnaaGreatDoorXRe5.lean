/- Proved: of each Go function here that a call comes to what the Lean function of its name tells. Written by a program of this session over the translation. No conditions beyond each theorem's own. -/
import Derived.Test.YtnilfnkdgdfnnaaGreatDoorXRe0
import Derived.Test.YtnilfnkdgdfnnaaGreatDoorXRe3
import Derived.Test.YtnilfnkdgdfnnaaGreatDoorXRe4
namespace Go.Proofs.YtnilfnkdgdfnnaaGreatDoor.XRe
open Go.RowKit Go.Proofs.YtnilfnkdgdfnnaaGreatDoor.Aid Go.Proofs.YtnilfnkdgdfnnaaGreatDoorW.PrintWords Go.Proofs.YtnilfnkdgdfnnaaGreatDoorW.PrintLast Go.Proofs.YtnilfnkdgdfnnaaGreatDoorW.PrintMore
set_option linter.unusedVariables false
set_option linter.unusedSimpArgs false

/-! ### impl_isRecord_1: function 32 -/
def impl_isRecord_1.f (a0_0 a0_1 a0_2 : Int) (a0_3 : Bool) (a0_4 : Int) (q2 : Int) : Option Bool := some (a0_0 != q2)
set_option maxHeartbeats 8000000 in
set_option maxRecDepth 100000 in
theorem impl_isRecord_1.calls (a0_0 a0_1 a0_2 : Int) (a0_3 : Bool) (a0_4 : Int) (g : Nat) (q2 : Int) (r : Bool) (w : World) (hg2 : w.cell? ⟨g, 2, none⟩ = some (.int .i64 q2)) (h : impl_isRecord_1.f a0_0 a0_1 a0_2 a0_3 a0_4 q2 = some r) :
    Calls Tryz.prog 32 (#[.agg #[.int .i64 a0_0, .int .i64 a0_1, .int .i64 a0_2, .bool a0_3, .int .i64 a0_4]] ++ #[.pointer (some ⟨g, 0, none⟩)]) w fun e w' => e = .returned (.bool r) ∧ Below w.heap.size w w' := by
 have hu := Tryz.underlying47
 obtain rfl := Option.some.inj h
 have hlt : g < w.heap.size := World.block_lt_of_cell? w _ hg2
 have hne : g ≠ w.heap.size := Nat.ne_of_lt hlt
 show Calls Tryz.prog 32 #[.agg #[.int .i64 a0_0,.int .i64 a0_1,.int .i64 a0_2,.bool a0_3,.int .i64 a0_4],.pointer (some ⟨g,0,none⟩)] w _
 go_enter Tryz.func32,Tryz.ntmps32
 go_wp2
 go_ret
 exact ⟨rfl,(Below.refl _ _).alloc (Nat.le_refl _) _⟩

/-! ### impl_Set_46: function 46 -/
set_option maxHeartbeats 8000000 in
set_option maxRecDepth 100000 in
theorem impl_Set_46.idx (pf : S47 → Option Bool) (g : Nat) (lb : Array Value) (eg : ∀ args w, (callFunc g args).run Tryz.prog w = .ok (.enter g args) w) (A : Option Addr) (c : Nat) (l : List S47) (w : World)
  (hp : ∀ (x : S47) (b : Bool) (W : World),pf x = some b → Below w.heap.size w W → Calls Tryz.prog g (#[.agg #[.int .i64 x.f0,.int .i64 x.f1,.int .i64 x.f2,.bool x.f3,.int .i64 x.f4]] ++ lb) W fun e w' => e = .returned (.bool b) ∧ Below w.heap.size w w')
  (hr : Kd.C k47 w A l.length l) (hc : l.length ≤ c) (r : Int) (h : idxFrom pf l 0 = some r) :
    Calls Tryz.prog 46 #[.slice A l.length c, .func (.func g) #[] lb] w fun e w' => e = .returned (.int .i64 r) ∧ Below w.heap.size w w' := by
 have hu47 := Tryz.underlying47
 have hlen := hr.2.1
 have HR := Aside0.mk hr
 clear hr
 go_enter Tryz.func46,Tryz.ntmps46
 go_wp2
 go_loopg [5,8] l.length (fun gg s5 s8 wr => ∃ kk : Nat,kk ≤ l.length ∧ l.length - kk ≤ gg ∧ s8 = .int .i64 kk ∧ Aside0 (Below w.heap.size w wr) ∧ Aside0 (idxFrom pf (l.drop kk) kk = some r))
 case atStart => exact ⟨0,Nat.zero_le _,by omega,rfl,⟨Below.refl _ w⟩,⟨by simpa using h⟩⟩
 case round =>
  obtain ⟨kk,hkk,hg,rfl,BW,A1⟩ := hrel
  by_cases hlt : kk < l.length
  ·have hltz : (kk : Int) < (l.length : Int) := by omega
   obtain ⟨ad,e0,hx0,hx1,hx2,hx3,hx4⟩ := at_T47 HR.out (kk : Int) (by omega) (by omega)
   cases e0
   replace hx0 := (BW.out.cell (World.block_lt_of_cell? w _ hx0)).trans hx0
   rw [Int.toNat_natCast] at hx0
   replace hx1 := (BW.out.cell (World.block_lt_of_cell? w _ hx1)).trans hx1
   rw [Int.toNat_natCast] at hx1
   replace hx2 := (BW.out.cell (World.block_lt_of_cell? w _ hx2)).trans hx2
   rw [Int.toNat_natCast] at hx2
   replace hx3 := (BW.out.cell (World.block_lt_of_cell? w _ hx3)).trans hx3
   rw [Int.toNat_natCast] at hx3
   replace hx4 := (BW.out.cell (World.block_lt_of_cell? w _ hx4)).trans hx4
   rw [Int.toNat_natCast] at hx4
   have ex : rd_T47 l (kk : Int) = l[kk] := by
    unfold rd_T47
    rw [Int.toNat_natCast,List.getD_eq_getElem?_getD,List.getElem?_eq_getElem hlt];rfl
   have H := A1.out
   rw [List.drop_eq_getElem_cons hlt,← ex] at H
   obtain ⟨b,hb,H2⟩ := Option.bind_eq_some_iff.1 H
   have hcall := hp _ b wr hb BW.out
   have HH := Aside0.mk H2
   have EX := Aside0.mk ex
   clear H H2 ex hb A1 h
   cases b with
   | true =>
    go_wp2_with (go_at_fn g;refine hcall.mono ?_;rintro e w' ⟨rfl,hb'⟩)
    go_ret
    have e1 := HH.out
    simp only [if_true] at e1
    exact ⟨by rw [← Option.some.inj e1];rfl,hb'⟩
   | false =>
    go_wp2_with (go_at_fn g;refine hcall.mono ?_;rintro e w' ⟨rfl,hb'⟩)
    go_roundg (l.length - (kk + 1))
    case measure => omega
    case rel => exact ⟨kk + 1,by omega,by omega,by go_num,⟨hb'⟩,⟨by have e1 := HH.out;simpa using e1⟩⟩
  ·have hltz : ¬ (kk : Int) < (l.length : Int) := by omega
   have : kk = l.length := by omega
   subst this
   go_wp2
   go_ret
   have e1 := A1.out
   rw [List.drop_of_length_le (Nat.le_refl _)] at e1
   have e2 := Option.some.inj e1
   exact ⟨by rw [← e2];rfl,BW.out⟩

/-! ### impl_Set_31: function 31 -/
def impl_Set_31.f (l0 : List S47) (q2 : Int) : Option Bool := (idxFrom (fun x : S47 => impl_isRecord_1.f x.f0 x.f1 x.f2 x.f3 x.f4 q2) l0 0).bind fun t => (some (decide (t ≥ 0)))
set_option maxHeartbeats 8000000 in
set_option maxRecDepth 100000 in
theorem impl_Set_31.calls (A0 : Option Addr) (c0 : Nat) (l0 : List S47) (g : Nat) (q2 : Int) (r : Bool) (w : World) (hr0 : Kd.C k47 w A0 l0.length l0) (hc0 : l0.length ≤ c0) (hg2 : w.cell? ⟨g, 2, none⟩ = some (.int .i64 q2)) (h : impl_Set_31.f  l0 q2 = some r) :
    Calls Tryz.prog 31 #[.slice A0 l0.length c0, .func (.func 32) #[] #[.pointer (some ⟨g, 0, none⟩)]] w fun e w' => e = .returned (.bool r) ∧ Below w.heap.size w w' := by
 obtain ⟨t,ht,H⟩ := Option.bind_eq_some_iff.1 h
 obtain rfl := Option.some.inj H
 have hi := impl_Set_46.idx (fun x : S47 => impl_isRecord_1.f x.f0 x.f1 x.f2 x.f3 x.f4 q2) 32 #[.pointer (some ⟨g,0,none⟩)] (enters_of Tryz.func32 (by kernel_rfl) rfl) A0 c0 l0 w (fun x b W hb hB => (impl_isRecord_1.calls x.f0 x.f1 x.f2 x.f3 x.f4 g q2 b W ((hB.cell (World.block_lt_of_cell? w _ hg2)).trans hg2) hb).mono fun e w' hh => ⟨hh.1,below_step hB hh.2⟩) hr0 hc0 t ht
 clear hr0 ht H h
 go_enter Tryz.func31,Tryz.ntmps31
 go_wp2_with (go_at_call 46;refine hi.mono ?_;rintro e w' ⟨rfl,hb⟩)
 go_ret
 exact ⟨rfl,hb⟩

/-! ### impl_isRecord: function 14 -/
def impl_isRecord.f (k : Nat) (a0_0 : Int) (a0_1 : Int) (a0_2 : Int) (l0_3 : List (S47)) : Option (Bool) := (impl_within.f a0_0 1 3).bind fun t286 => (if t286 = true then ((impl_isId.f a0_1).bind fun t287 => (if t287 = true then ((impl_isRegion.f a0_2).bind fun t288 => (if t288 = true then ((impl_Set_29.f l0_3).bind fun t289 => ((impl_within.f t289 1 12).bind fun t290 => (if t290 = true then ((impl_areSets.f k l0_3).bind fun t291 => (if t291 = true then ((impl_Set_31.f l0_3 a0_2).bind fun t292 => (some (!t292))) else (some false))) else (some false)))) else (some false))) else (some false))) else (some false))

set_option maxHeartbeats 8000000 in
set_option maxRecDepth 100000 in
theorem impl_isRecord.calls (k : Nat) (a0_0 : Int) (a0_1 : Int) (a0_2 : Int) (A0_3 : Option Addr) (c0_3 : Nat) (l0_3 : List (S47)) (r : Bool) (w : World) (hr0_3 : Kd.C k47 w A0_3 l0_3.length l0_3) (hc0_3 : l0_3.length ≤ c0_3) (h : impl_isRecord.f k a0_0 a0_1 a0_2 l0_3 = some r) :
    Calls Tryz.prog 14 #[.agg #[.int .i64 a0_0, .int .i64 a0_1, .int .i64 a0_2, .slice A0_3 l0_3.length c0_3]] w fun e w' => e = .returned (.bool r) ∧ Below w.heap.size w w' := by
 have hu26 := Tryz.underlying26
 have HR0_3 := Aside0.mk hr0_3
 have HC0_3 := Aside0.mk hc0_3
 clear hr0_3 hc0_3
 have HB := Aside0.mk (Below.refl w.heap.size w)
 have H : ((impl_within.f a0_0 1 3).bind fun t286 => (if t286 = true then ((impl_isId.f a0_1).bind fun t287 => (if t287 = true then ((impl_isRegion.f a0_2).bind fun t288 => (if t288 = true then ((impl_Set_29.f l0_3).bind fun t289 => ((impl_within.f t289 1 12).bind fun t290 => (if t290 = true then ((impl_areSets.f k l0_3).bind fun t291 => (if t291 = true then ((impl_Set_31.f l0_3 a0_2).bind fun t292 => (some (!t292))) else (some false))) else (some false)))) else (some false))) else (some false))) else (some false))) = some r := h
 clear h
 replace H := bs_ H
 obtain ⟨t286,A2,H⟩ := H
 by_cases c3 : t286 = true
 ·subst c3
  replace H := it_ H
  replace H := bs_ H
  obtain ⟨t287,A4,H⟩ := H
  by_cases c5 : t287 = true
  ·subst c5
   replace H := it_ H
   replace H := bs_ H
   obtain ⟨t288,A6,H⟩ := H
   by_cases c7 : t288 = true
   ·subst c7
    replace H := it_ H
    replace H := bs_ H
    obtain ⟨t289,A8,H⟩ := H
    replace H := bs_ H
    obtain ⟨t290,A9,H⟩ := H
    by_cases c10 : t290 = true
    ·subst c10
     replace H := it_ H
     replace H := bs_ H
     obtain ⟨t291,A11,H⟩ := H
     by_cases c12 : t291 = true
     ·subst c12
      replace H := it_ H
      replace H := bs_ H
      obtain ⟨t292,A13,H⟩ := H
      obtain rfl := Option.some.inj H
      go_enter Tryz.func14,Tryz.ntmps14
      go_wp2_with (first|((with_reducible refine gate_dst (N := 1) rfl ?_);refine bx_ 1 #[.int .i64 a0_0,.int .i64 a0_1,.int .i64 a0_2,.slice A0_3 l0_3.length c0_3] 26 ?_;intro gb285 hg w14 hbox hb;replace HB := nb_ hg hbox hb;obtain ⟨BK285,GW285,GE285,HB⟩ := HB;clear hb hbox hg;obtain ⟨⟨hcz15_0,hcz15_1,hcz15_2,hcz15_3⟩,hfz15_0,hfz15_1,hfz15_2,hfz15_3⟩ := cl4_ BK285.out)|((with_reducible refine gcal_ (f := 26) rfl ?_);refine gl_ (some 5) Tryz.func26 #[.int .i64 a0_0,.int .i64 1,.int .i64 3] ?_;(with_reducible refine (impl_within.calls a0_0 1 3 true _ A2.out).mono ?_);rintro e w' ⟨rfl,⟨nd,rfl⟩⟩;refine ⟨_,rfl,?_⟩)|(go_at_call 27;(with_reducible refine (impl_isId.calls a0_1 true _ A4.out).mono ?_);rintro e w' ⟨rfl,⟨nd,rfl⟩⟩)|(go_at_call 28;(with_reducible refine (impl_isRegion.calls a0_2 true _ A6.out).mono ?_);rintro e w' ⟨rfl,⟨nd,rfl⟩⟩)|(go_at_call 29;(with_reducible refine (impl_Set_29.calls _ _ l0_3 t289 _ ?side1 ?side2 A8.out).mono ?_);(case side1 => exact cb_ HR0_3);(case side2 => exact HC0_3.out);rintro e w' ⟨rfl,⟨nd,rfl⟩⟩)|(go_at_call 26;(with_reducible refine (impl_within.calls t289 1 12 true _ A9.out).mono ?_);rintro e w' ⟨rfl,⟨nd,rfl⟩⟩)|(go_at_call 30;(with_reducible refine (impl_areSets.calls k _ _ l0_3 true _ ?side1 ?side2 A11.out).mono ?_);(case side1 => exact cb_ HR0_3);(case side2 => exact HC0_3.out);rintro e w16 ⟨rfl,hb⟩;replace BK285 := Aside0.mk (blk_below (kb_ BK285) hb);replace HB := Aside0.mk (below_step b_ hb);(try clear hb);(try clear hb2);(try clear hk);(try clear hi);obtain ⟨⟨hcz17_0,hcz17_1,hcz17_2,hcz17_3⟩,hfz17_0,hfz17_1,hfz17_2,hfz17_3⟩ := cl4_ BK285.out)|(go_at_call 31;(with_reducible refine (impl_Set_31.calls _ _ l0_3 gb285 (a0_2) t292 _ ?side1 ?side2 ?side3 A13.out).mono ?_);(case side1 => exact cb_ HR0_3);(case side2 => exact HC0_3.out);(case side3 => exact (blk_cell kk_ 2).trans rfl);rintro e w18 ⟨rfl,hb⟩;replace BK285 := Aside0.mk (blk_below (kb_ BK285) hb);replace HB := Aside0.mk (below_step b_ hb);(try clear hb);(try clear hb2);(try clear hk);(try clear hi)))
      go_ret
      exact ⟨rf_,b_⟩
     ·replace c12 := Bool.eq_false_iff.mpr c12
      subst c12
      replace H := ie_ H
      obtain rfl := Option.some.inj H
      go_enter Tryz.func14,Tryz.ntmps14
      go_wp2_with (first|((with_reducible refine gate_dst (N := 1) rfl ?_);refine bx_ 1 #[.int .i64 a0_0,.int .i64 a0_1,.int .i64 a0_2,.slice A0_3 l0_3.length c0_3] 26 ?_;intro gb285 hg w19 hbox hb;replace HB := nb_ hg hbox hb;obtain ⟨BK285,GW285,GE285,HB⟩ := HB;clear hb hbox hg;obtain ⟨⟨hcz20_0,hcz20_1,hcz20_2,hcz20_3⟩,hfz20_0,hfz20_1,hfz20_2,hfz20_3⟩ := cl4_ BK285.out)|((with_reducible refine gcal_ (f := 26) rfl ?_);refine gl_ (some 5) Tryz.func26 #[.int .i64 a0_0,.int .i64 1,.int .i64 3] ?_;(with_reducible refine (impl_within.calls a0_0 1 3 true _ A2.out).mono ?_);rintro e w' ⟨rfl,⟨nd,rfl⟩⟩;refine ⟨_,rfl,?_⟩)|(go_at_call 27;(with_reducible refine (impl_isId.calls a0_1 true _ A4.out).mono ?_);rintro e w' ⟨rfl,⟨nd,rfl⟩⟩)|(go_at_call 28;(with_reducible refine (impl_isRegion.calls a0_2 true _ A6.out).mono ?_);rintro e w' ⟨rfl,⟨nd,rfl⟩⟩)|(go_at_call 29;(with_reducible refine (impl_Set_29.calls _ _ l0_3 t289 _ ?side1 ?side2 A8.out).mono ?_);(case side1 => exact cb_ HR0_3);(case side2 => exact HC0_3.out);rintro e w' ⟨rfl,⟨nd,rfl⟩⟩)|(go_at_call 26;(with_reducible refine (impl_within.calls t289 1 12 true _ A9.out).mono ?_);rintro e w' ⟨rfl,⟨nd,rfl⟩⟩)|(go_at_call 30;(with_reducible refine (impl_areSets.calls k _ _ l0_3 false _ ?side1 ?side2 A11.out).mono ?_);(case side1 => exact cb_ HR0_3);(case side2 => exact HC0_3.out);rintro e w21 ⟨rfl,hb⟩;replace BK285 := Aside0.mk (blk_below (kb_ BK285) hb);replace HB := Aside0.mk (below_step b_ hb);(try clear hb);(try clear hb2);(try clear hk);(try clear hi)))
      go_ret
      exact ⟨rf_,b_⟩
    ·replace c10 := Bool.eq_false_iff.mpr c10
     subst c10
     replace H := ie_ H
     obtain rfl := Option.some.inj H
     go_enter Tryz.func14,Tryz.ntmps14
     go_wp2_with (first|((with_reducible refine gate_dst (N := 1) rfl ?_);refine bx_ 1 #[.int .i64 a0_0,.int .i64 a0_1,.int .i64 a0_2,.slice A0_3 l0_3.length c0_3] 26 ?_;intro gb285 hg w22 hbox hb;replace HB := nb_ hg hbox hb;obtain ⟨BK285,GW285,GE285,HB⟩ := HB;clear hb hbox hg;obtain ⟨⟨hcz23_0,hcz23_1,hcz23_2,hcz23_3⟩,hfz23_0,hfz23_1,hfz23_2,hfz23_3⟩ := cl4_ BK285.out)|((with_reducible refine gcal_ (f := 26) rfl ?_);refine gl_ (some 5) Tryz.func26 #[.int .i64 a0_0,.int .i64 1,.int .i64 3] ?_;(with_reducible refine (impl_within.calls a0_0 1 3 true _ A2.out).mono ?_);rintro e w' ⟨rfl,⟨nd,rfl⟩⟩;refine ⟨_,rfl,?_⟩)|(go_at_call 27;(with_reducible refine (impl_isId.calls a0_1 true _ A4.out).mono ?_);rintro e w' ⟨rfl,⟨nd,rfl⟩⟩)|(go_at_call 28;(with_reducible refine (impl_isRegion.calls a0_2 true _ A6.out).mono ?_);rintro e w' ⟨rfl,⟨nd,rfl⟩⟩)|(go_at_call 29;(with_reducible refine (impl_Set_29.calls _ _ l0_3 t289 _ ?side1 ?side2 A8.out).mono ?_);(case side1 => exact cb_ HR0_3);(case side2 => exact HC0_3.out);rintro e w' ⟨rfl,⟨nd,rfl⟩⟩)|(go_at_call 26;(with_reducible refine (impl_within.calls t289 1 12 false _ A9.out).mono ?_);rintro e w' ⟨rfl,⟨nd,rfl⟩⟩))
     go_ret
     exact ⟨rf_,b_⟩
   ·replace c7 := Bool.eq_false_iff.mpr c7
    subst c7
    replace H := ie_ H
    obtain rfl := Option.some.inj H
    go_enter Tryz.func14,Tryz.ntmps14
    go_wp2_with (first|((with_reducible refine gate_dst (N := 1) rfl ?_);refine bx_ 1 #[.int .i64 a0_0,.int .i64 a0_1,.int .i64 a0_2,.slice A0_3 l0_3.length c0_3] 26 ?_;intro gb285 hg w24 hbox hb;replace HB := nb_ hg hbox hb;obtain ⟨BK285,GW285,GE285,HB⟩ := HB;clear hb hbox hg;obtain ⟨⟨hcz25_0,hcz25_1,hcz25_2,hcz25_3⟩,hfz25_0,hfz25_1,hfz25_2,hfz25_3⟩ := cl4_ BK285.out)|((with_reducible refine gcal_ (f := 26) rfl ?_);refine gl_ (some 5) Tryz.func26 #[.int .i64 a0_0,.int .i64 1,.int .i64 3] ?_;(with_reducible refine (impl_within.calls a0_0 1 3 true _ A2.out).mono ?_);rintro e w' ⟨rfl,⟨nd,rfl⟩⟩;refine ⟨_,rfl,?_⟩)|(go_at_call 27;(with_reducible refine (impl_isId.calls a0_1 true _ A4.out).mono ?_);rintro e w' ⟨rfl,⟨nd,rfl⟩⟩)|(go_at_call 28;(with_reducible refine (impl_isRegion.calls a0_2 false _ A6.out).mono ?_);rintro e w' ⟨rfl,⟨nd,rfl⟩⟩))
    go_ret
    exact ⟨rf_,b_⟩
  ·replace c5 := Bool.eq_false_iff.mpr c5
   subst c5
   replace H := ie_ H
   obtain rfl := Option.some.inj H
   go_enter Tryz.func14,Tryz.ntmps14
   go_wp2_with (first|((with_reducible refine gate_dst (N := 1) rfl ?_);refine bx_ 1 #[.int .i64 a0_0,.int .i64 a0_1,.int .i64 a0_2,.slice A0_3 l0_3.length c0_3] 26 ?_;intro gb285 hg w26 hbox hb;replace HB := nb_ hg hbox hb;obtain ⟨BK285,GW285,GE285,HB⟩ := HB;clear hb hbox hg;obtain ⟨⟨hcz27_0,hcz27_1,hcz27_2,hcz27_3⟩,hfz27_0,hfz27_1,hfz27_2,hfz27_3⟩ := cl4_ BK285.out)|((with_reducible refine gcal_ (f := 26) rfl ?_);refine gl_ (some 5) Tryz.func26 #[.int .i64 a0_0,.int .i64 1,.int .i64 3] ?_;(with_reducible refine (impl_within.calls a0_0 1 3 true _ A2.out).mono ?_);rintro e w' ⟨rfl,⟨nd,rfl⟩⟩;refine ⟨_,rfl,?_⟩)|(go_at_call 27;(with_reducible refine (impl_isId.calls a0_1 false _ A4.out).mono ?_);rintro e w' ⟨rfl,⟨nd,rfl⟩⟩))
   go_ret
   exact ⟨rf_,b_⟩
 ·replace c3 := Bool.eq_false_iff.mpr c3
  subst c3
  replace H := ie_ H
  obtain rfl := Option.some.inj H
  go_enter Tryz.func14,Tryz.ntmps14
  go_wp2_with (first|((with_reducible refine gate_dst (N := 1) rfl ?_);refine bx_ 1 #[.int .i64 a0_0,.int .i64 a0_1,.int .i64 a0_2,.slice A0_3 l0_3.length c0_3] 26 ?_;intro gb285 hg w28 hbox hb;replace HB := nb_ hg hbox hb;obtain ⟨BK285,GW285,GE285,HB⟩ := HB;clear hb hbox hg;obtain ⟨⟨hcz29_0,hcz29_1,hcz29_2,hcz29_3⟩,hfz29_0,hfz29_1,hfz29_2,hfz29_3⟩ := cl4_ BK285.out)|((with_reducible refine gcal_ (f := 26) rfl ?_);refine gl_ (some 5) Tryz.func26 #[.int .i64 a0_0,.int .i64 1,.int .i64 3] ?_;(with_reducible refine (impl_within.calls a0_0 1 3 false _ A2.out).mono ?_);rintro e w' ⟨rfl,⟨nd,rfl⟩⟩;refine ⟨_,rfl,?_⟩))
  go_ret
  exact ⟨rf_,b_⟩

-- NOT PRINTED: function 73 (strconv_small)

-- NOT PRINTED: function 90 (strconv_log10Pow2)

-- NOT PRINTED: function 91 (bits_Len64)

-- NOT PRINTED: function 92 (strconv_bool2_int)

-- NOT PRINTED: function 74 (strconv_numDigits)

-- NOT PRINTED: function 75 (strconv_formatBase10)

-- NOT PRINTED: function 93 (strconv_isPowerOfTwo)

-- NOT PRINTED: function 102 (bits_TrailingZeros32)

-- NOT PRINTED: function 103 (bits_TrailingZeros64)

-- NOT PRINTED: function 94 (bits_TrailingZeros)

-- NOT PRINTED: function 76 (strconv_formatBits)

-- NOT PRINTED: function 61 (strconv_FormatInt_61)

-- NOT PRINTED: function 47 (strconv_FormatInt_47)

/-! ### impl_decimal: function 33 -/
/-- The library's table of powers and its three variables lie in this world, and in every world that comes of it. -/
structure Tb (w : World) : Prop where
 tab : Go.Lib.TabBelow Tryz.prog w.heap.size w "internal/strconv.uint64pow10" .u64 Go.Lib.pow10Tab
 syn : ∃ tp p,∀ w',Below w.heap.size w w' → w'.var? Tryz.prog "strconv.ErrSyntax" = some #[.iface tp p]
 ran : ∃ tp p,∀ w',Below w.heap.size w w' → w'.var? Tryz.prog "strconv.ErrRange" = some #[.iface tp p]
 cut : ∃ m,∀ w',Below w.heap.size w w' → w'.cell? ⟨0,0,none⟩ = some (.int .i64 m)
theorem Tb.here {w : World} (h : Tb w) : Go.Lib.TabIs Tryz.prog w "internal/strconv.uint64pow10" .u64 Go.Lib.pow10Tab := h.tab.here
theorem tb_on {w W : World} (h : Tb w) (b : Below w.heap.size w W) : Tb W :=
 ⟨fun w' h' => h.tab w' (below_step b h'),by obtain ⟨tp,p,h2⟩ := h.syn;exact ⟨tp,p,fun w' h' => h2 w' (below_step b h')⟩,by obtain ⟨tp,p,h2⟩ := h.ran;exact ⟨tp,p,fun w' h' => h2 w' (below_step b h')⟩,by obtain ⟨m,h2⟩ := h.cut;exact ⟨m,fun w' h' => h2 w' (below_step b h')⟩⟩
theorem tb_ {w W : World} (h : Aside0 (Tb w)) (b : Below w.heap.size w W := by exact b_) : Aside0 (Tb W) := ⟨tb_on h.out b⟩
def impl_decimal.f (a0 : Int) : Option (ByteArray) := if -9223372036854775808 ≤ a0 then (if a0 ≤ 9223372036854775807 then some ⟨(Go.Lib.itoa a0).toArray⟩ else none) else none
set_option maxHeartbeats 8000000 in
set_option maxRecDepth 100000 in
theorem impl_decimal.calls (a0 : Int) (r : ByteArray) (w : World) (htb : Aside0 (Tb w)) (h : impl_decimal.f a0 = some r) :
    Calls Tryz.prog 33 #[.int .i64 a0] w fun e w' => e = .returned (.string r) ∧ Below w.heap.size w w' := by
 unfold impl_decimal.f at h
 by_cases h0 : -9223372036854775808 ≤ a0
 ·rw [if_pos h0] at h
  by_cases h1 : a0 ≤ 9223372036854775807
  ·rw [if_pos h1] at h
   obtain rfl := Option.some.inj h
   clear h
   have hc := Go.Proofs.YtnilfnkdgdfnnaaGreatDoor.Shelf.strconv_FormatInt_10 a0 h0 h1 w htb.out.here
   clear h0 h1
   go_enter Tryz.func33,Tryz.ntmps33
   go_wp2_with (go_at_call 47;refine hc.mono ?_;rintro e w1 ⟨rfl,k,os,hw⟩;have B : Below w.heap.size w w1 := hw ▸ Go.Lib.below_grow w.heap.size w (Nat.le_refl _) k os;clear hw hc)
   go_ret
   exact ⟨rfl,B⟩
  ·rw [if_neg h1] at h;cases h
 ·rw [if_neg h0] at h;cases h

-- NOT PRINTED: function 77 (abi_NoEscape)

-- NOT PRINTED: function 62 (strings_Builder_copyCheck)

-- NOT PRINTED: function 78 (bytealg_MakeNoZero)

-- NOT PRINTED: function 63 (strings_Builder_grow)

-- NOT PRINTED: function 48 (strings_Builder_Grow)

-- NOT PRINTED: function 49 (strings_Builder_WriteString)

-- NOT PRINTED: function 50 (strings_Builder_String)

/-! ### strings_Join: function 34 -/
def strings_Join.f (l0 : List (ByteArray)) (a1 : ByteArray) : Option (ByteArray) := if l0.length ≤ 140737488355328 then (if (Go.Lib.join (l0.map (·.data.toList)) a1.data.toList).length ≤ 140737488355328 then some ⟨(Go.Lib.join (l0.map (·.data.toList)) a1.data.toList).toArray⟩ else none) else none
set_option maxHeartbeats 8000000 in
theorem strings_Join.calls (A0 : Option Addr) (c0 : Nat) (l0 : List (ByteArray)) (a1 : ByteArray) (r : ByteArray) (w : World) (hr0 : Kd.C Kd.string w A0 l0.length l0) (hc0 : l0.length ≤ c0) (h : strings_Join.f l0 a1 = some r) :
    Calls Tryz.prog 34 #[.slice A0 l0.length c0, .string a1] w fun e w' => e = .returned (.string r) ∧ Below w.heap.size w w' := by
 unfold strings_Join.f at h
 by_cases h0 : l0.length ≤ 140737488355328
 ·rw [if_pos h0] at h
  by_cases h1 : (Go.Lib.join (l0.map (·.data.toList)) a1.data.toList).length ≤ 140737488355328
  ·rw [if_pos h1] at h
   obtain rfl := Option.some.inj h
   clear h
   by_cases hl : l0 = []
   ·subst hl
    exact (Go.Proofs.YtnilfnkdgdfnnaaGreatDoor.Shelf.strings_Join_none A0 c0 a1 w).mono fun e w' hh => ⟨hh.1,hh.2 ▸ Below.refl _ _⟩
   ·have hp : 0 < l0.length := List.length_pos_iff.2 hl
    obtain ⟨ad,e0,h2⟩ := Kd.at_string hr0 0 (Int.le_refl _) (by omega)
    obtain ⟨bk,o,sp⟩ := ad
    have hs : sp = none := by
     cases sp with
     | none => rfl
     | some s =>
      rw [show (0 : Int).toNat = 0 from rfl,Addr.add_zero'] at h2
      simp only [World.cell?] at h2
      split at h2 <;> simp at h2
    subst hs
    subst e0
    refine Go.Proofs.YtnilfnkdgdfnnaaGreatDoor.Shelf.strings_Join bk o c0 l0 a1 w (fun j x hx => ?_) (World.block_lt_of_cell? w _ h2) h0 hc0 h1
    have hj : j < l0.length := (List.getElem?_eq_some_iff.1 hx).1
    obtain ⟨ad,e1,h3⟩ := Kd.at_string hr0 (j : Int) (by omega) (by omega)
    cases e1
    rw [Int.toNat_natCast] at h3
    have e2 : rdOf ByteArray.empty l0 (j : Int) = x := by
     unfold rdOf
     rw [Int.toNat_natCast,List.getD_eq_getElem?_getD,hx];rfl
    rw [e2] at h3
    rw [← Addr.add_lit];exact h3
  ·rw [if_neg h1] at h;cases h
 ·rw [if_neg h0] at h;cases h

end Go.Proofs.YtnilfnkdgdfnnaaGreatDoor.XRe
