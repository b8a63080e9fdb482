/- Proved: of each Go function here that a call comes to what the Lean function of its name tells. Written by a program of this session over the translation. No conditions beyond each theorem's own. -/
import Derived.Test.YtodgacnioeoogaaXBk0
import Derived.Test.YtodgacnioeoogaaXBk1
import Derived.Test.YtodgacnioeoogaaXBk2
import Derived.Test.YtodgacnioeoogaaXBk3
namespace Go.Proofs.Ytodgacnioeoogaa.XBk
open Go.RowKit Go.Proofs.Ytodgacnioeoogaa.Aid Go.Proofs.YtodgacnioeoogaaW.PrintWords Go.Proofs.YtodgacnioeoogaaW.PrintLast Go.Proofs.YtodgacnioeoogaaW.PrintMore
set_option linter.unusedVariables false
set_option linter.unusedSimpArgs false

/-! ### impl_within: function 76 -/
def impl_within.f (a0 : Int) (a1 : Int) (a2 : Int) : Option (Bool) := if a0 ≥ a1 then (some (decide (a0 ≤ a2))) else (some false)
set_option maxHeartbeats 8000000 in
set_option maxRecDepth 100000 in
theorem impl_within.calls (a0 : Int) (a1 : Int) (a2 : Int) (r : Bool) (w : World) (h : impl_within.f a0 a1 a2 = some r) :
    Calls Try.prog 76 #[.int .i64 a0, .int .i64 a1, .int .i64 a2] w fun e w' => e = .returned (.bool r) ∧ Drawn0 w w' := by
 have H : (if a0 ≥ a1 then (some (decide (a0 ≤ a2))) else (some false)) = some r := h
 clear h
 by_cases c4 : a0 ≥ a1
 ·rw [if_pos c4] at H
  have c4b0 : decide (a1 ≤ a0) = true := decide_eq_true c4
  clear c4
  obtain rfl := Option.some.inj H
  go_enter Try.func76,Try.ntmps76
  go_wp2
  go_ret
  exact ⟨by first|rfl|(simp;done)|(simp [*];done),by repeat (first|exact Drawn0.refl _|apply Drawn0.step)⟩
 ·rw [if_neg c4] at H
  have c4b0 : decide (a1 ≤ a0) = false := decide_eq_false c4
  clear c4
  obtain rfl := Option.some.inj H
  go_enter Try.func76,Try.ntmps76
  go_wp2
  go_ret
  exact ⟨by first|rfl|(simp;done)|(simp [*];done),by repeat (first|exact Drawn0.refl _|apply Drawn0.step)⟩

/-! ### impl_Place: function 100 -/
def impl_Place.f (l0 : List (S97)) : Option (Int) := some (l0.length : Int)
set_option maxHeartbeats 8000000 in
set_option maxRecDepth 100000 in
theorem impl_Place.calls (A0 : Option Addr) (c0 : Nat) (l0 : List (S97)) (r : Int) (w : World) (hr0 : Kd.C k97 w A0 l0.length l0) (hc0 : l0.length ≤ c0) (h : impl_Place.f l0 = some r) :
    Calls Try.prog 100 #[.slice A0 l0.length c0] w fun e w' => e = .returned (.int .i64 r) ∧ Drawn0 w w' := by
 have HR0 := Aside0.mk hr0
 have HC0 := Aside0.mk hc0
 clear hr0 hc0
 have H : (some (l0.length : Int)) = some r := h
 clear h
 obtain rfl := Option.some.inj H
 go_enter Try.func100,Try.ntmps100
 go_wp2
 go_ret
 exact ⟨by first|rfl|(simp;done)|(simp [*];done),by repeat (first|exact Drawn0.refl _|apply Drawn0.step)⟩

/-! ### impl_isMachine: function 104 -/
def impl_isMachine.f (a0 : Int) : Option (Bool) := (impl_within.f a0 0 7).bind fun t155 => (some t155)
set_option maxHeartbeats 8000000 in
set_option maxRecDepth 100000 in
theorem impl_isMachine.calls (a0 : Int) (r : Bool) (w : World) (h : impl_isMachine.f a0 = some r) :
    Calls Try.prog 104 #[.int .i64 a0] w fun e w' => e = .returned (.bool r) ∧ Drawn0 w w' := by
 have H : ((impl_within.f a0 0 7).bind fun t155 => (some t155)) = some r := h
 clear h
 replace H := Option.bind_eq_some_iff.mp H
 obtain ⟨t155,A20,H⟩ := H
 replace H : (some t155) = some r := H
 have A2 := Aside0.mk A20
 clear A20
 obtain rfl := Option.some.inj H
 go_enter Try.func104,Try.ntmps104
 go_wp2_with (first|((with_reducible refine gcal_ (f := 76) rfl ?_);refine goesL_ (some 4) rfl rfl Try.func76 (by kernel_rfl) rfl #[.int .i64 a0,.int .i64 0,.int .i64 7] rfl (by (try simp only [List.map_toArray,List.map_cons,List.map_nil]);first|done|rfl|(simp only [List.length_drop,List.length_take];rfl)) ?_;(with_reducible refine (impl_within.calls a0 0 7 t155 _ A2.out).mono ?_);rintro e w' ⟨rfl,⟨nd,rfl⟩⟩;refine ⟨_,rfl,?_⟩))
 go_ret
 exact ⟨by first|rfl|(simp;done)|(simp [*];done),by repeat (first|exact Drawn0.refl _|apply Drawn0.step)⟩

/-! ### impl_size_int64: function 126 -/
def impl_size_int64.f (l0 : List Int) : Option (Int) := some (l0.length : Int)
set_option maxHeartbeats 8000000 in
set_option maxRecDepth 100000 in
theorem impl_size_int64.calls (A0 : Option Addr) (c0 : Nat) (l0 : List Int) (r : Int) (w : World) (hr0 : Kd.C (Kd.int .i64) w A0 l0.length l0) (hc0 : l0.length ≤ c0) (h : impl_size_int64.f l0 = some r) :
    Calls Try.prog 126 #[.slice A0 l0.length c0] w fun e w' => e = .returned (.int .i64 r) ∧ Drawn0 w w' := by
 have HR0 := Aside0.mk hr0
 have HC0 := Aside0.mk hc0
 clear hr0 hc0
 have H : (some (l0.length : Int)) = some r := h
 clear h
 obtain rfl := Option.some.inj H
 go_enter Try.func126,Try.ntmps126
 go_wp2
 go_ret
 exact ⟨by first|rfl|(simp;done)|(simp [*];done),by repeat (first|exact Drawn0.refl _|apply Drawn0.step)⟩

/-! ### slices_Index_int64_int64: function 140 -/
def slices_Index_int64_int64.l0 : Nat → List Int → Int → Int → Int → Option (Int)
  | 0, _, _, _, _ => none
  | k + 1, x0, x1, x7, x8 => if x8 < x7 then (if 0 ≤ x8 then (if x8 < (x0.length : Int) then (if x1 = (rd x0 x8) then (some x8) else (slices_Index_int64_int64.l0 k x0 x1 x7 (wrap64 (x8 + 1)))) else (none)) else (none)) else (some (-1))
def slices_Index_int64_int64.f (k : Nat) (l0 : List Int) (a1 : Int) : Option (Int) := slices_Index_int64_int64.l0 k l0 a1 (l0.length : Int) 0

set_option maxHeartbeats 8000000 in
set_option maxRecDepth 100000 in
theorem slices_Index_int64_int64.calls (k : Nat) (A0 : Option Addr) (c0 : Nat) (l0 : List Int) (a1 : Int) (r : Int) (w : World) (hr0 : Kd.C (Kd.int .i64) w A0 l0.length l0) (hc0 : l0.length ≤ c0) (h : slices_Index_int64_int64.f k l0 a1 = some r) :
    Calls Try.prog 140 #[.slice A0 l0.length c0, .int .i64 a1] w fun e w' => e = .returned (.int .i64 r) ∧ Drawn0 w w' := by
 have HR0 := Aside0.mk hr0
 have HC0 := Aside0.mk hc0
 clear hr0 hc0
 have H : (slices_Index_int64_int64.l0 k l0 a1 (l0.length : Int) 0) = some r := h
 clear h
 have H' := Aside0.mk H
 clear H
 go_enter Try.func140,Try.ntmps140
 go_wp2
 go_loopg [8] k (fun kq v8 w' => ∃ (x8_1 : Int),v8 = .int .i64 x8_1 ∧ Aside0 (slices_Index_int64_int64.l0 kq l0 a1 (l0.length : Int) x8_1 = some r) ∧ Aside0 (kq ≤ k) ∧ Drawn0 w w')
 case atStart => exact ⟨(0),(by first|rfl|(simp;done)|(simp [*];done)),H',⟨Nat.le_refl _⟩,by repeat (first|exact Drawn0.refl _|apply Drawn0.step)⟩
 case round =>
  clear H'
  try clear c1
  try clear p2
  obtain ⟨x8_1,rfl,HA,HK1,⟨m1,rfl⟩⟩ := hrel
  cases gk with
    | zero => exact absurd HA.out (by simp [slices_Index_int64_int64.l0])
    | succ k1 =>
   have H := HA.out
   clear HA
   simp only [slices_Index_int64_int64.l0] at H
   by_cases c3 : x8_1 < (l0.length : Int)
   ·rw [if_pos c3] at H
    have c3b0 : decide (x8_1 < (l0.length : Int)) = true := decide_eq_true c3
    clear c3
    by_cases c4 : 0 ≤ x8_1
    ·rw [if_pos c4] at H
     have c4b0 : decide (0 ≤ x8_1) = true := decide_eq_true c4
     clear c4
     by_cases c5 : x8_1 < (l0.length : Int)
     ·rw [if_pos c5] at H
      have c5b0 : decide (x8_1 < (l0.length : Int)) = true := decide_eq_true c5
      clear c5
      by_cases c6 : a1 = (rd l0 x8_1)
      ·rw [if_pos c6] at H
       have c6b0 : (a1 == (rd l0 x8_1)) = true := beq_iff_eq.mpr c6
       have c6b1 : (a1 != (rd l0 x8_1)) = false := bne_eq_false_iff_eq.mpr c6
       clear c6
       obtain rfl := Option.some.inj H
       have p156 : 0 ≤ (x8_1 : Int) := of_decide_eq_true (by first|(with_reducible assumption)|assumption)
       have q156 : x8_1 < (l0.length : Int) := of_decide_eq_true (by first|(with_reducible assumption)|assumption)
       obtain ⟨ad156,e156,hx156_0⟩ := Kd.at_int HR0.out x8_1 p156 q156
       cases e156
       replace p156 := eq_true p156
       replace q156 := eq_true q156
       go_wp2
       go_ret
       exact ⟨by first|rfl|(simp;done)|(simp [*];done),by repeat (first|exact Drawn0.refl _|apply Drawn0.step)⟩
      ·rw [if_neg c6] at H
       have c6b0 : (a1 == (rd l0 x8_1)) = false := beq_eq_false_iff_ne.mpr c6
       have c6b1 : (a1 != (rd l0 x8_1)) = true := bne_iff_ne.mpr c6
       have H' := Aside0.mk H
       clear H
       have p156 : 0 ≤ (x8_1 : Int) := of_decide_eq_true (by first|(with_reducible assumption)|assumption)
       have q156 : x8_1 < (l0.length : Int) := of_decide_eq_true (by first|(with_reducible assumption)|assumption)
       obtain ⟨ad156,e156,hx156_0⟩ := Kd.at_int HR0.out x8_1 p156 q156
       cases e156
       replace p156 := eq_true p156
       replace q156 := eq_true q156
       go_wp2
       go_roundg k1
       case measure => have := HK1.out;omega
       case rel => exact ⟨(wrap64 (x8_1 + 1)),(by first|rfl|(simp;done)|(simp [*];done)),H',⟨by have := HK1.out;omega⟩,by repeat (first|exact Drawn0.refl _|apply Drawn0.step)⟩
     ·rw [if_neg c5] at H
      exact absurd H (by simp)
    ·rw [if_neg c4] at H
     exact absurd H (by simp)
   ·rw [if_neg c3] at H
    have c3b0 : decide (x8_1 < (l0.length : Int)) = false := decide_eq_false c3
    clear c3
    obtain rfl := Option.some.inj H
    go_wp2
    go_ret
    exact ⟨by first|rfl|(simp;done)|(simp [*];done),by repeat (first|exact Drawn0.refl _|apply Drawn0.step)⟩

/-! ### slices_Contains_int64_int64: function 127 -/
def slices_Contains_int64_int64.f (k : Nat) (l0 : List Int) (a1 : Int) : Option (Bool) := (slices_Index_int64_int64.f k l0 a1).bind fun t157 => (some (decide (t157 ≥ 0)))

set_option maxHeartbeats 8000000 in
set_option maxRecDepth 100000 in
theorem slices_Contains_int64_int64.calls (k : Nat) (A0 : Option Addr) (c0 : Nat) (l0 : List Int) (a1 : Int) (r : Bool) (w : World) (hr0 : Kd.C (Kd.int .i64) w A0 l0.length l0) (hc0 : l0.length ≤ c0) (h : slices_Contains_int64_int64.f k l0 a1 = some r) :
    Calls Try.prog 127 #[.slice A0 l0.length c0, .int .i64 a1] w fun e w' => e = .returned (.bool r) ∧ Drawn0 w w' := by
 have HR0 := Aside0.mk hr0
 have HC0 := Aside0.mk hc0
 clear hr0 hc0
 have H : ((slices_Index_int64_int64.f k l0 a1).bind fun t157 => (some (decide (t157 ≥ 0)))) = some r := h
 clear h
 replace H := Option.bind_eq_some_iff.mp H
 obtain ⟨t157,A30,H⟩ := H
 replace H : (some (decide (t157 ≥ 0))) = some r := H
 have A3 := Aside0.mk A30
 clear A30
 obtain rfl := Option.some.inj H
 go_enter Try.func127,Try.ntmps127
 go_wp2_with (first|((with_reducible refine gcal_ (f := 140) rfl ?_);refine goesL_ (some 7) rfl rfl Try.func140 (by kernel_rfl) rfl #[.slice A0 l0.length c0,.int .i64 a1] rfl (by (try simp only [List.map_toArray,List.map_cons,List.map_nil]);first|done|rfl|(simp only [List.length_drop,List.length_take];rfl)) ?_;(with_reducible refine (slices_Index_int64_int64.calls k _ _ l0 a1 t157 _ ?side1 ?side2 A3.out).mono ?_);(case side1 => repeat (first|exact HR0.out|(with_reducible refine Kd.C_alloc ?_ _)|(with_reducible refine Kd.C_drewN ?_ _)|(with_reducible refine Kd.C_drew ?_)));(case side2 => exact HC0.out);rintro e w' ⟨rfl,⟨nd,rfl⟩⟩;refine ⟨_,rfl,?_⟩))
 go_ret
 exact ⟨by first|rfl|(simp;done)|(simp [*];done),by repeat (first|exact Drawn0.refl _|apply Drawn0.step)⟩

/-! ### impl_arePlaces: function 98 -/
mutual
def impl_arePlaces.l0 : Nat → List (S97) → List (S97) → Int → Int → Option (Bool)
  | 0, _, _, _, _ => none
  | k + 1, x0, x7, x8, x9 => if x9 < x8 then (if 0 ≤ x9 then (if x9 < (x7.length : Int) then ((impl_size_int64.f ((rd_T97 x7 x9).f0)).bind fun t162 => ((impl_within.f t162 1 3).bind fun t163 => (if t163 = true then (impl_arePlaces.l1 k x0 x7 x8 x9 ((rd_T97 x7 x9).f0) (((rd_T97 x7 x9).f0).length : Int) 0 ((rd_T97 x7 x9).f0)) else (some false)))) else (none)) else (none)) else ((impl_Place.f x0).bind fun t158 => ((impl_within.f t158 1 6).bind fun t159 => (some t159)))
def impl_arePlaces.l1 : Nat → List (S97) → List (S97) → Int → Int → List Int → Int → Int → List Int → Option (Bool)
  | 0, _, _, _, _, _, _, _, _ => none
  | k + 1, x0, x7, x8, x9, x19, x20, x21, x162000 => if x21 < x20 then (if 0 ≤ x21 then (if x21 < (x19.length : Int) then ((impl_isMachine.f (rd x19 x21)).bind fun t165 => (if t165 = true then (if x21 ≤ (x162000.length : Int) then ((slices_Contains_int64_int64.f k (x162000.take (x21 : Int).toNat) (rd x19 x21)).bind fun t167 => (if t167 = true then (some false) else (impl_arePlaces.l1 k x0 x7 x8 x9 x19 x20 (wrap64 (x21 + 1)) x162000))) else (none)) else (some false))) else (none)) else (none)) else (impl_arePlaces.l0 k x0 x7 x8 (wrap64 (x9 + 1)))
end
def impl_arePlaces.f (k : Nat) (l0 : List (S97)) : Option (Bool) := impl_arePlaces.l0 k l0 l0 (l0.length : Int) 0

set_option maxHeartbeats 8000000 in
set_option maxRecDepth 100000 in
theorem impl_arePlaces.calls (k : Nat) (A0 : Option Addr) (c0 : Nat) (l0 : List (S97)) (r : Bool) (w : World) (hr0 : Kd.C k97 w A0 l0.length l0) (hc0 : l0.length ≤ c0) (h : impl_arePlaces.f k l0 = some r) :
    Calls Try.prog 98 #[.slice A0 l0.length c0] w fun e w' => e = .returned (.bool r) ∧ Below w.heap.size w w' := by
 have hu97 := Try.underlying97
 have HR0 := Aside0.mk hr0
 have HC0 := Aside0.mk hc0
 clear hr0 hc0
 have HB := Aside0.mk (Below.refl w.heap.size w)
 have H : (impl_arePlaces.l0 k l0 l0 (l0.length : Int) 0) = some r := h
 clear h
 have H' := Aside0.mk H
 clear H
 go_enter Try.func98,Try.ntmps98
 go_wp2
 go_loopg [9] k (fun kq v9 w' => ∃ (x9_1 : Int),v9 = .int .i64 x9_1 ∧ Aside0 (impl_arePlaces.l0 kq l0 l0 (l0.length : Int) x9_1 = some r) ∧ Aside0 (kq ≤ k) ∧ Aside0 (Below w.heap.size w w'))
 case atStart => exact ⟨(0),(by first|rfl|(simp;done)|(simp [*];done)),H',⟨Nat.le_refl _⟩,⟨by repeat (first|(with_reducible first|exact HB.out|apply below_alloc|apply pw_below_drewN|apply below_drew1)|exact HB.out)⟩⟩
 case round =>
  clear H'
  obtain ⟨x9_1,rfl,HA,HK1,HB⟩ := hrel
  cases gk with
    | zero => exact absurd HA.out (by simp [impl_arePlaces.l0])
    | succ k1 =>
   have H := HA.out
   clear HA
   simp only [impl_arePlaces.l0] at H
   by_cases c2 : x9_1 < (l0.length : Int)
   ·rw [if_pos c2] at H
    have c2b0 : decide (x9_1 < (l0.length : Int)) = true := decide_eq_true c2
    clear c2
    by_cases c3 : 0 ≤ x9_1
    ·rw [if_pos c3] at H
     have c3b0 : decide (0 ≤ x9_1) = true := decide_eq_true c3
     clear c3
     by_cases c4 : x9_1 < (l0.length : Int)
     ·rw [if_pos c4] at H
      have c4b0 : decide (x9_1 < (l0.length : Int)) = true := decide_eq_true c4
      clear c4
      replace H := Option.bind_eq_some_iff.mp H
      obtain ⟨t162,A50,H⟩ := H
      replace H : ((impl_within.f t162 1 3).bind fun t163 => (if t163 = true then (impl_arePlaces.l1 k1 l0 l0 (l0.length : Int) x9_1 ((rd_T97 l0 x9_1).f0) (((rd_T97 l0 x9_1).f0).length : Int) 0 ((rd_T97 l0 x9_1).f0)) else (some false))) = some r := H
      have A5 := Aside0.mk A50
      clear A50
      replace H := Option.bind_eq_some_iff.mp H
      obtain ⟨t163,A60,H⟩ := H
      replace H : (if t163 = true then (impl_arePlaces.l1 k1 l0 l0 (l0.length : Int) x9_1 ((rd_T97 l0 x9_1).f0) (((rd_T97 l0 x9_1).f0).length : Int) 0 ((rd_T97 l0 x9_1).f0)) else (some false)) = some r := H
      have A6 := Aside0.mk A60
      clear A60
      by_cases c7 : t163 = true
      ·subst c7
       have H1 : (impl_arePlaces.l1 k1 l0 l0 (l0.length : Int) x9_1 ((rd_T97 l0 x9_1).f0) (((rd_T97 l0 x9_1).f0).length : Int) 0 ((rd_T97 l0 x9_1).f0)) = some r := by rw [if_pos rfl] at H;exact H
       clear H
       have H := H1
       clear H1
       have H' := Aside0.mk H
       clear H
       have p160 : 0 ≤ (x9_1 : Int) := of_decide_eq_true (by first|(with_reducible assumption)|assumption)
       have q160 : x9_1 < (l0.length : Int) := of_decide_eq_true (by first|(with_reducible assumption)|assumption)
       obtain ⟨ad160,A160_0,c160_0,e160,hx160_0,hl160_0,hi160_0⟩ := at_T97 HR0.out x9_1 p160 q160
       cases e160
       replace hx160_0 := (HB.out.cell (World.block_lt_of_cell? w _ hx160_0)).trans hx160_0
       have HR160_0 := Aside0.mk hi160_0
       have HC160_0 := Aside0.mk hl160_0
       clear hi160_0 hl160_0
       replace p160 := eq_true p160
       replace q160 := eq_true q160
       go_wp2_with (first|((with_reducible refine gate_dst (N := 4) rfl ?_);refine box_event ?hg (N := 4) ?hd (cs := #[.slice none 0 0]) (t := 97) ?hr ?_;(case hd => rfl);(case hg => rfl);(case hr => first|(go_simp;done)|(go_simp;rfl));intro gb161 hg w8 hbox hb;have n0_ := Aside0.mk (below_step (by repeat (first|(with_reducible first|exact HB.out|apply below_alloc|apply pw_below_drewN|apply below_drew1)|exact HB.out)) hb);have n1_ := Aside0.mk (hbox);have n2_ := Aside0.mk ((by rw [hg];exact (below_size (by repeat (first|(with_reducible first|exact HB.out|apply below_alloc|apply pw_below_drewN|apply below_drew1)|exact HB.out))) : w.heap.size ≤ gb161));have n3_ := Aside0.mk ((by rw [hg];exact (below_size (by repeat (first|(with_reducible first|exact HB.out|apply below_alloc|apply pw_below_drewN|apply below_drew1)|exact HB.out))) : w.heap.size ≤ gb161));clear HB;have HB := n0_;have BK161 := n1_;have GW161 := n2_;have GE161 := n3_;clear n0_ n1_ n2_ n3_;clear hb hbox hg;have hcz9_0 : w8.cell? ⟨gb161,0,none⟩ = some (.slice none 0 0) := (blk_cell BK161.out 0).trans rfl;have hfz9_0 := blk_frozen BK161.out 0)|((with_reducible refine gcal_ (f := 126) rfl ?_);refine goesL_ (some 15) rfl rfl Try.func126 (by kernel_rfl) rfl #[.slice A160_0 ((rd_T97 l0 x9_1).f0).length c160_0] rfl (by (try simp only [List.map_toArray,List.map_cons,List.map_nil]);first|done|rfl|(simp only [List.length_drop,List.length_take];rfl)) ?_;(with_reducible refine (impl_size_int64.calls _ _ ((rd_T97 l0 x9_1).f0) t162 _ ?side1 ?side2 A5.out).mono ?_);(case side1 => exact Kd.C_below HR160_0.out (by repeat (first|(with_reducible first|exact HB.out|apply below_alloc|apply pw_below_drewN|apply below_drew1|refine below_set ?_ GE161.out)|exact HB.out)));(case side2 => exact HC160_0.out);rintro e w' ⟨rfl,⟨nd,rfl⟩⟩;refine ⟨_,rfl,?_⟩)|((with_reducible refine gcal_ (f := 76) rfl ?_);refine goesL_ (some 16) rfl rfl Try.func76 (by kernel_rfl) rfl #[.int .i64 t162,.int .i64 1,.int .i64 3] rfl (by (try simp only [List.map_toArray,List.map_cons,List.map_nil]);first|done|rfl|(simp only [List.length_drop,List.length_take];rfl)) ?_;(with_reducible refine (impl_within.calls t162 1 3 true _ A6.out).mono ?_);rintro e w' ⟨rfl,⟨nd,rfl⟩⟩;refine ⟨_,rfl,?_⟩))
       go_loopg [21] k1 (fun kq v21 w' => ∃ (x21_2 : Int),v21 = .int .i64 x21_2 ∧ Aside0 (impl_arePlaces.l1 kq l0 l0 (l0.length : Int) x9_1 ((rd_T97 l0 x9_1).f0) (((rd_T97 l0 x9_1).f0).length : Int) x21_2 ((rd_T97 l0 x9_1).f0) = some r) ∧ Aside0 (kq ≤ k1) ∧ Aside0 (w'.heap[gb161]? = some (.cells #[(.slice A160_0 ((rd_T97 l0 x9_1).f0).length c160_0)] 97 (0,0))) ∧ Aside0 (Below w.heap.size w w'))
       case atStart => exact ⟨(0),(by first|rfl|(simp;done)|(simp [*];done)),H',⟨Nat.le_refl _⟩,⟨by (with_reducible repeat (first|refine blk_drewN ?_ _|refine blk_drew ?_|refine blk_alloc ?_ _));refine blk_put (cs := #[.slice none 0 0]) ?_ 0 _ rfl;(with_reducible repeat (first|refine blk_drewN ?_ _|refine blk_drew ?_|refine blk_alloc ?_ _));exact BK161.out⟩,⟨by repeat (first|(with_reducible first|exact HB.out|apply below_alloc|apply pw_below_drewN|apply below_drew1|refine below_set ?_ GE161.out)|exact HB.out)⟩⟩
       case round =>
        clear H'
        try clear c1
        try clear p1
        try clear q1
        try clear hx1
        try clear c2
        try clear c2b0
        try clear p2
        try clear c3
        try clear c3b0
        try clear c4
        try clear c4b0
        try clear c7
        try clear c9
        try clear hcz9_0
        try clear hfz9_0
        try clear hx160_0
        try clear p160
        try clear q160
        obtain ⟨x21_2,rfl,HA,HK2,BK161,HB⟩ := hrel
        cases gk with
        | zero => exact absurd HA.out (by simp [impl_arePlaces.l1])
        | succ k2 =>
         have H := HA.out
         clear HA
         simp only [impl_arePlaces.l1] at H
         by_cases c10 : x21_2 < (((rd_T97 l0 x9_1).f0).length : Int)
         ·rw [if_pos c10] at H
          have c10b0 : decide (x21_2 < (((rd_T97 l0 x9_1).f0).length : Int)) = true := decide_eq_true c10
          clear c10
          by_cases c11 : 0 ≤ x21_2
          ·rw [if_pos c11] at H
           have c11b0 : decide (0 ≤ x21_2) = true := decide_eq_true c11
           clear c11
           by_cases c12 : x21_2 < (((rd_T97 l0 x9_1).f0).length : Int)
           ·rw [if_pos c12] at H
            have c12b0 : decide (x21_2 < (((rd_T97 l0 x9_1).f0).length : Int)) = true := decide_eq_true c12
            clear c12
            replace H := Option.bind_eq_some_iff.mp H
            obtain ⟨t165,A130,H⟩ := H
            replace H : (if t165 = true then (if x21_2 ≤ (((rd_T97 l0 x9_1).f0).length : Int) then ((slices_Contains_int64_int64.f k2 (((rd_T97 l0 x9_1).f0).take (x21_2 : Int).toNat) (rd ((rd_T97 l0 x9_1).f0) x21_2)).bind fun t167 => (if t167 = true then (some false) else (impl_arePlaces.l1 k2 l0 l0 (l0.length : Int) x9_1 ((rd_T97 l0 x9_1).f0) (((rd_T97 l0 x9_1).f0).length : Int) (wrap64 (x21_2 + 1)) ((rd_T97 l0 x9_1).f0)))) else (none)) else (some false)) = some r := H
            have A13 := Aside0.mk A130
            clear A130
            by_cases c14 : t165 = true
            ·subst c14
             have H1 : (if x21_2 ≤ (((rd_T97 l0 x9_1).f0).length : Int) then ((slices_Contains_int64_int64.f k2 (((rd_T97 l0 x9_1).f0).take (x21_2 : Int).toNat) (rd ((rd_T97 l0 x9_1).f0) x21_2)).bind fun t167 => (if t167 = true then (some false) else (impl_arePlaces.l1 k2 l0 l0 (l0.length : Int) x9_1 ((rd_T97 l0 x9_1).f0) (((rd_T97 l0 x9_1).f0).length : Int) (wrap64 (x21_2 + 1)) ((rd_T97 l0 x9_1).f0)))) else (none)) = some r := by rw [if_pos rfl] at H;exact H
             clear H
             have H := H1
             clear H1
             have c15b0 := eq_true (of_decide_eq_true (by first|(with_reducible assumption)|assumption) : 0 ≤ x21_2)
             by_cases c16 : x21_2 ≤ (((rd_T97 l0 x9_1).f0).length : Int)
             ·rw [if_pos c16] at H
              have c16b0 := eq_true c16
              have c16b1 : decide (x21_2 ≤ (((rd_T97 l0 x9_1).f0).length : Int)) = true := decide_eq_true c16
              clear c16
              replace H := Option.bind_eq_some_iff.mp H
              obtain ⟨t167,A170,H⟩ := H
              replace H : (if t167 = true then (some false) else (impl_arePlaces.l1 k2 l0 l0 (l0.length : Int) x9_1 ((rd_T97 l0 x9_1).f0) (((rd_T97 l0 x9_1).f0).length : Int) (wrap64 (x21_2 + 1)) ((rd_T97 l0 x9_1).f0))) = some r := H
              have A17 := Aside0.mk A170
              clear A170
              by_cases c18 : t167 = true
              ·subst c18
               have H1 : (some false) = some r := by rw [if_pos rfl] at H;exact H
               clear H
               have H := H1
               clear H1
               obtain rfl := Option.some.inj H
               have p164 : 0 ≤ (x21_2 : Int) := of_decide_eq_true (by first|(with_reducible assumption)|assumption)
               have q164 : x21_2 < (((rd_T97 l0 x9_1).f0).length : Int) := of_decide_eq_true (by first|(with_reducible assumption)|assumption)
               obtain ⟨ad164,e164,hx164_0⟩ := Kd.at_int HR160_0.out x21_2 p164 q164
               cases e164
               replace hx164_0 := (HB.out.cell (World.block_lt_of_cell? w _ hx164_0)).trans hx164_0
               replace p164 := eq_true p164
               replace q164 := eq_true q164
               go_wp2_with (first|((with_reducible refine gcal_ (f := 104) rfl ?_);refine goesL_ (some 27) rfl rfl Try.func104 (by kernel_rfl) rfl #[.int .i64 (rd ((rd_T97 l0 x9_1).f0) x21_2)] rfl (by (try simp only [List.map_toArray,List.map_cons,List.map_nil]);first|done|rfl|(simp only [List.length_drop,List.length_take];rfl)) ?_;(with_reducible refine (impl_isMachine.calls (rd ((rd_T97 l0 x9_1).f0) x21_2) true _ A13.out).mono ?_);rintro e w' ⟨rfl,⟨nd,rfl⟩⟩;refine ⟨_,rfl,?_⟩;have hcz19_0 : wr.cell? ⟨gb161,0,none⟩ = some (.slice (some ad164) ((rd_T97 l0 x9_1).f0).length c160_0) := (blk_cell BK161.out 0).trans rfl;have hfz19_0 := blk_frozen BK161.out 0;obtain ⟨i020,hi020,_,hsz20,_⟩ := info_parts info2;obtain ⟨hcut20,hA20,hC20⟩ := print_take_of (P := Try.prog) (Value.int .i64) 0 64 2 .i64 Try.underlying64 hi020 hsz20 (some ad164) c160_0 ((rd_T97 l0 x9_1).f0) x21_2 (of_decide_eq_true (by first|(with_reducible assumption)|assumption)) (of_decide_eq_true (by first|(with_reducible assumption)|assumption)) HC160_0.out;have HR166 := Aside0.mk (Kd.C_of_reads (h1 := fun _ => rfl) (hA20 _ (Kd.reads_of_C HR160_0.out)));have HC166 := Aside0.mk hC20;clear hA20 hC20 hi020 hsz20)|(go_at_call 127;(with_reducible refine calls_arr ?eqa1 ((slices_Contains_int64_int64.calls k2 ?kA1 ?kc1 (((rd_T97 l0 x9_1).f0).take (x21_2 : Int).toNat) (rd ((rd_T97 l0 x9_1).f0) x21_2) true _ ?side1 ?side2 A17.out).mono ?_));(case eqa1 => (have h0_ : (0 : Int) ≤ x21_2 := (by first|exact of_decide_eq_true (by assumption)|exact of_eq_true (by assumption));have h1_ : (x21_2 : Int) ≤ (((rd_T97 l0 x9_1).f0).length : Int) := (by first|exact of_decide_eq_true (by assumption)|exact of_eq_true (by assumption));rw [List.length_take,Nat.min_eq_left (by omega)]));(case side1 => repeat (first|exact (Kd.C_below HR166.out (by repeat (first|(with_reducible first|exact HB.out|apply below_alloc|apply pw_below_drewN|apply below_drew1|refine below_set ?_ GE161.out)|exact HB.out)))|(with_reducible refine Kd.C_alloc ?_ _)|(with_reducible refine Kd.C_drewN ?_ _)|(with_reducible refine Kd.C_drew ?_)));(case side2 => exact HC166.out);rintro e w' ⟨rfl,⟨nd,rfl⟩⟩))
               go_ret
               exact ⟨by first|rfl|(simp [errW_none,errW_some] <;> rfl)|(simp [*,errW_none,errW_some] <;> rfl),by repeat (first|(with_reducible first|exact HB.out|apply below_alloc|apply pw_below_drewN|apply below_drew1|refine below_set ?_ GE161.out)|exact HB.out)⟩
              ·replace c18 := Bool.eq_false_iff.mpr c18
               subst c18
               have H1 : (impl_arePlaces.l1 k2 l0 l0 (l0.length : Int) x9_1 ((rd_T97 l0 x9_1).f0) (((rd_T97 l0 x9_1).f0).length : Int) (wrap64 (x21_2 + 1)) ((rd_T97 l0 x9_1).f0)) = some r := by rw [if_neg (show ¬ (false = true) by decide)] at H;exact H
               clear H
               have H := H1
               clear H1
               have H' := Aside0.mk H
               clear H
               have p164 : 0 ≤ (x21_2 : Int) := of_decide_eq_true (by first|(with_reducible assumption)|assumption)
               have q164 : x21_2 < (((rd_T97 l0 x9_1).f0).length : Int) := of_decide_eq_true (by first|(with_reducible assumption)|assumption)
               obtain ⟨ad164,e164,hx164_0⟩ := Kd.at_int HR160_0.out x21_2 p164 q164
               cases e164
               replace hx164_0 := (HB.out.cell (World.block_lt_of_cell? w _ hx164_0)).trans hx164_0
               replace p164 := eq_true p164
               replace q164 := eq_true q164
               go_wp2_with (first|((with_reducible refine gcal_ (f := 104) rfl ?_);refine goesL_ (some 27) rfl rfl Try.func104 (by kernel_rfl) rfl #[.int .i64 (rd ((rd_T97 l0 x9_1).f0) x21_2)] rfl (by (try simp only [List.map_toArray,List.map_cons,List.map_nil]);first|done|rfl|(simp only [List.length_drop,List.length_take];rfl)) ?_;(with_reducible refine (impl_isMachine.calls (rd ((rd_T97 l0 x9_1).f0) x21_2) true _ A13.out).mono ?_);rintro e w' ⟨rfl,⟨nd,rfl⟩⟩;refine ⟨_,rfl,?_⟩;have hcz21_0 : wr.cell? ⟨gb161,0,none⟩ = some (.slice (some ad164) ((rd_T97 l0 x9_1).f0).length c160_0) := (blk_cell BK161.out 0).trans rfl;have hfz21_0 := blk_frozen BK161.out 0;obtain ⟨i022,hi022,_,hsz22,_⟩ := info_parts info2;obtain ⟨hcut22,hA22,hC22⟩ := print_take_of (P := Try.prog) (Value.int .i64) 0 64 2 .i64 Try.underlying64 hi022 hsz22 (some ad164) c160_0 ((rd_T97 l0 x9_1).f0) x21_2 (of_decide_eq_true (by first|(with_reducible assumption)|assumption)) (of_decide_eq_true (by first|(with_reducible assumption)|assumption)) HC160_0.out;have HR166 := Aside0.mk (Kd.C_of_reads (h1 := fun _ => rfl) (hA22 _ (Kd.reads_of_C HR160_0.out)));have HC166 := Aside0.mk hC22;clear hA22 hC22 hi022 hsz22)|(go_at_call 127;(with_reducible refine calls_arr ?eqa2 ((slices_Contains_int64_int64.calls k2 ?kA2 ?kc2 (((rd_T97 l0 x9_1).f0).take (x21_2 : Int).toNat) (rd ((rd_T97 l0 x9_1).f0) x21_2) false _ ?side1 ?side2 A17.out).mono ?_));(case eqa2 => (have h0_ : (0 : Int) ≤ x21_2 := (by first|exact of_decide_eq_true (by assumption)|exact of_eq_true (by assumption));have h1_ : (x21_2 : Int) ≤ (((rd_T97 l0 x9_1).f0).length : Int) := (by first|exact of_decide_eq_true (by assumption)|exact of_eq_true (by assumption));rw [List.length_take,Nat.min_eq_left (by omega)]));(case side1 => repeat (first|exact (Kd.C_below HR166.out (by repeat (first|(with_reducible first|exact HB.out|apply below_alloc|apply pw_below_drewN|apply below_drew1|refine below_set ?_ GE161.out)|exact HB.out)))|(with_reducible refine Kd.C_alloc ?_ _)|(with_reducible refine Kd.C_drewN ?_ _)|(with_reducible refine Kd.C_drew ?_)));(case side2 => exact HC166.out);rintro e w' ⟨rfl,⟨nd,rfl⟩⟩))
               go_roundg k2
               case measure => have := HK1.out;have := HK2.out;omega
               case rel => exact ⟨(wrap64 (x21_2 + 1)),(by first|rfl|(simp;done)|(simp [*];done)),H',⟨by have := HK1.out;have := HK2.out;omega⟩,⟨by (with_reducible repeat (first|refine blk_drewN ?_ _|refine blk_drew ?_|refine blk_alloc ?_ _));exact BK161.out⟩,⟨by repeat (first|(with_reducible first|exact HB.out|apply below_alloc|apply pw_below_drewN|apply below_drew1|refine below_set ?_ GE161.out)|exact HB.out)⟩⟩
             ·rw [if_neg c16] at H
              exact absurd H (by simp)
            ·replace c14 := Bool.eq_false_iff.mpr c14
             subst c14
             have H1 : (some false) = some r := by rw [if_neg (show ¬ (false = true) by decide)] at H;exact H
             clear H
             have H := H1
             clear H1
             obtain rfl := Option.some.inj H
             have p164 : 0 ≤ (x21_2 : Int) := of_decide_eq_true (by first|(with_reducible assumption)|assumption)
             have q164 : x21_2 < (((rd_T97 l0 x9_1).f0).length : Int) := of_decide_eq_true (by first|(with_reducible assumption)|assumption)
             obtain ⟨ad164,e164,hx164_0⟩ := Kd.at_int HR160_0.out x21_2 p164 q164
             cases e164
             replace hx164_0 := (HB.out.cell (World.block_lt_of_cell? w _ hx164_0)).trans hx164_0
             replace p164 := eq_true p164
             replace q164 := eq_true q164
             go_wp2_with (first|((with_reducible refine gcal_ (f := 104) rfl ?_);refine goesL_ (some 27) rfl rfl Try.func104 (by kernel_rfl) rfl #[.int .i64 (rd ((rd_T97 l0 x9_1).f0) x21_2)] rfl (by (try simp only [List.map_toArray,List.map_cons,List.map_nil]);first|done|rfl|(simp only [List.length_drop,List.length_take];rfl)) ?_;(with_reducible refine (impl_isMachine.calls (rd ((rd_T97 l0 x9_1).f0) x21_2) false _ A13.out).mono ?_);rintro e w' ⟨rfl,⟨nd,rfl⟩⟩;refine ⟨_,rfl,?_⟩))
             go_ret
             exact ⟨by first|rfl|(simp [errW_none,errW_some] <;> rfl)|(simp [*,errW_none,errW_some] <;> rfl),by repeat (first|(with_reducible first|exact HB.out|apply below_alloc|apply pw_below_drewN|apply below_drew1|refine below_set ?_ GE161.out)|exact HB.out)⟩
           ·rw [if_neg c12] at H
            exact absurd H (by simp)
          ·rw [if_neg c11] at H
           exact absurd H (by simp)
         ·rw [if_neg c10] at H
          have c10b0 : decide (x21_2 < (((rd_T97 l0 x9_1).f0).length : Int)) = false := decide_eq_false c10
          clear c10
          have H' := Aside0.mk H
          clear H
          go_wp2
          go_roundg k2
          case measure => have := HK1.out;have := HK2.out;omega
          case rel => exact ⟨(wrap64 (x9_1 + 1)),(by first|rfl|(simp;done)|(simp [*];done)),H',⟨by have := HK1.out;have := HK2.out;omega⟩,⟨by repeat (first|(with_reducible first|exact HB.out|apply below_alloc|apply pw_below_drewN|apply below_drew1|refine below_set ?_ GE161.out)|exact HB.out)⟩⟩
      ·replace c7 := Bool.eq_false_iff.mpr c7
       subst c7
       have H1 : (some false) = some r := by rw [if_neg (show ¬ (false = true) by decide)] at H;exact H
       clear H
       have H := H1
       clear H1
       obtain rfl := Option.some.inj H
       have p160 : 0 ≤ (x9_1 : Int) := of_decide_eq_true (by first|(with_reducible assumption)|assumption)
       have q160 : x9_1 < (l0.length : Int) := of_decide_eq_true (by first|(with_reducible assumption)|assumption)
       obtain ⟨ad160,A160_0,c160_0,e160,hx160_0,hl160_0,hi160_0⟩ := at_T97 HR0.out x9_1 p160 q160
       cases e160
       replace hx160_0 := (HB.out.cell (World.block_lt_of_cell? w _ hx160_0)).trans hx160_0
       have HR160_0 := Aside0.mk hi160_0
       have HC160_0 := Aside0.mk hl160_0
       clear hi160_0 hl160_0
       replace p160 := eq_true p160
       replace q160 := eq_true q160
       go_wp2_with (first|((with_reducible refine gate_dst (N := 4) rfl ?_);refine box_event ?hg (N := 4) ?hd (cs := #[.slice none 0 0]) (t := 97) ?hr ?_;(case hd => rfl);(case hg => rfl);(case hr => first|(go_simp;done)|(go_simp;rfl));intro gb161 hg w23 hbox hb;have n0_ := Aside0.mk (below_step (by repeat (first|(with_reducible first|exact HB.out|apply below_alloc|apply pw_below_drewN|apply below_drew1)|exact HB.out)) hb);have n1_ := Aside0.mk (hbox);have n2_ := Aside0.mk ((by rw [hg];exact (below_size (by repeat (first|(with_reducible first|exact HB.out|apply below_alloc|apply pw_below_drewN|apply below_drew1)|exact HB.out))) : w.heap.size ≤ gb161));have n3_ := Aside0.mk ((by rw [hg];exact (below_size (by repeat (first|(with_reducible first|exact HB.out|apply below_alloc|apply pw_below_drewN|apply below_drew1)|exact HB.out))) : w.heap.size ≤ gb161));clear HB;have HB := n0_;have BK161 := n1_;have GW161 := n2_;have GE161 := n3_;clear n0_ n1_ n2_ n3_;clear hb hbox hg;have hcz24_0 : w23.cell? ⟨gb161,0,none⟩ = some (.slice none 0 0) := (blk_cell BK161.out 0).trans rfl;have hfz24_0 := blk_frozen BK161.out 0)|((with_reducible refine gcal_ (f := 126) rfl ?_);refine goesL_ (some 15) rfl rfl Try.func126 (by kernel_rfl) rfl #[.slice A160_0 ((rd_T97 l0 x9_1).f0).length c160_0] rfl (by (try simp only [List.map_toArray,List.map_cons,List.map_nil]);first|done|rfl|(simp only [List.length_drop,List.length_take];rfl)) ?_;(with_reducible refine (impl_size_int64.calls _ _ ((rd_T97 l0 x9_1).f0) t162 _ ?side1 ?side2 A5.out).mono ?_);(case side1 => exact Kd.C_below HR160_0.out (by repeat (first|(with_reducible first|exact HB.out|apply below_alloc|apply pw_below_drewN|apply below_drew1|refine below_set ?_ GE161.out)|exact HB.out)));(case side2 => exact HC160_0.out);rintro e w' ⟨rfl,⟨nd,rfl⟩⟩;refine ⟨_,rfl,?_⟩)|((with_reducible refine gcal_ (f := 76) rfl ?_);refine goesL_ (some 16) rfl rfl Try.func76 (by kernel_rfl) rfl #[.int .i64 t162,.int .i64 1,.int .i64 3] rfl (by (try simp only [List.map_toArray,List.map_cons,List.map_nil]);first|done|rfl|(simp only [List.length_drop,List.length_take];rfl)) ?_;(with_reducible refine (impl_within.calls t162 1 3 false _ A6.out).mono ?_);rintro e w' ⟨rfl,⟨nd,rfl⟩⟩;refine ⟨_,rfl,?_⟩))
       go_ret
       exact ⟨by first|rfl|(simp [errW_none,errW_some] <;> rfl)|(simp [*,errW_none,errW_some] <;> rfl),by repeat (first|(with_reducible first|exact HB.out|apply below_alloc|apply pw_below_drewN|apply below_drew1|refine below_set ?_ GE161.out)|exact HB.out)⟩
     ·rw [if_neg c4] at H
      exact absurd H (by simp)
    ·rw [if_neg c3] at H
     exact absurd H (by simp)
   ·rw [if_neg c2] at H
    have c2b0 : decide (x9_1 < (l0.length : Int)) = false := decide_eq_false c2
    clear c2
    replace H := Option.bind_eq_some_iff.mp H
    obtain ⟨t158,A250,H⟩ := H
    replace H : ((impl_within.f t158 1 6).bind fun t159 => (some t159)) = some r := H
    have A25 := Aside0.mk A250
    clear A250
    replace H := Option.bind_eq_some_iff.mp H
    obtain ⟨t159,A260,H⟩ := H
    replace H : (some t159) = some r := H
    have A26 := Aside0.mk A260
    clear A260
    obtain rfl := Option.some.inj H
    go_wp2_with (first|((with_reducible refine gcal_ (f := 100) rfl ?_);refine goesL_ (some 40) rfl rfl Try.func100 (by kernel_rfl) rfl #[.slice A0 l0.length c0] rfl (by (try simp only [List.map_toArray,List.map_cons,List.map_nil]);first|done|rfl|(simp only [List.length_drop,List.length_take];rfl)) ?_;(with_reducible refine (impl_Place.calls _ _ l0 t158 _ ?side1 ?side2 A25.out).mono ?_);(case side1 => repeat (first|exact (Kd.C_below HR0.out HB.out)|(with_reducible refine Kd.C_alloc ?_ _)|(with_reducible refine Kd.C_drewN ?_ _)|(with_reducible refine Kd.C_drew ?_)));(case side2 => exact HC0.out);rintro e w' ⟨rfl,⟨nd,rfl⟩⟩;refine ⟨_,rfl,?_⟩)|((with_reducible refine gcal_ (f := 76) rfl ?_);refine goesL_ (some 41) rfl rfl Try.func76 (by kernel_rfl) rfl #[.int .i64 t158,.int .i64 1,.int .i64 6] rfl (by (try simp only [List.map_toArray,List.map_cons,List.map_nil]);first|done|rfl|(simp only [List.length_drop,List.length_take];rfl)) ?_;(with_reducible refine (impl_within.calls t158 1 6 t159 _ A26.out).mono ?_);rintro e w' ⟨rfl,⟨nd,rfl⟩⟩;refine ⟨_,rfl,?_⟩))
    go_ret
    exact ⟨by first|rfl|(simp [errW_none,errW_some] <;> rfl)|(simp [*,errW_none,errW_some] <;> rfl),by repeat (first|(with_reducible first|exact HB.out|apply below_alloc|apply pw_below_drewN|apply below_drew1)|exact HB.out)⟩

/-! ### slices_Clone_int64_int64: function 101 -/
def slices_Clone_int64_int64.f (l0 : List Int) : Option (List Int) := (some (([] : List Int) : List Int)).bind fun y168 => (if y168.length + l0.length < 17592186044416 then (some (y168 ++ l0)) else (none))
set_option maxHeartbeats 8000000 in
set_option maxRecDepth 100000 in
theorem slices_Clone_int64_int64.calls (A0 : Option Addr) (c0 : Nat) (l0 : List Int) (r : List Int) (w : World) (hr0 : Kd.C (Kd.int .i64) w A0 l0.length l0) (hc0 : l0.length ≤ c0) (h : slices_Clone_int64_int64.f l0 = some r) :
    Calls Try.prog 101 #[.slice A0 l0.length c0] w fun e w' => ∃ v0_ : Value, e = .returned (v0_) ∧ Kd.R (Kd.int .i64) 2 w' w.heap.size (fun _ => True) v0_ r ∧ Below w.heap.size w w' := by
 cases A0 with
  | none =>
  have hnil := fun (W : World) => Go.Lib.run_eql_slice_nil (P := Try.prog) W 64 2 none l0.length c0 0 0 Try.underlying64
  simp only [Option.isNone_none] at hnil
  have hl : l0 = [] := by
   rcases Nat.eq_zero_or_pos l0.length with h1 | h1
   ·exact List.length_eq_zero_iff.1 h1
   ·obtain ⟨_,e,_⟩ := hr0.2.2 h1
    cases e
  have hr : r = [] := by
   subst hl
   have h2 : some ([] : List _) = some r := by rw [← h];simp [slices_Clone_int64_int64.f]
   exact (Option.some.inj h2).symm
  subst hr
  clear h hr0
  subst hl
  simp only [List.length_nil] at hnil
  go_enter Try.func101,Try.ntmps101
  go_wp2
  go_ret
  exact ⟨_,rfl,Kd.R_nil _ _ _ _ _,Below.refl _ _⟩
  | some ad0 =>
  have hnil := fun (W : World) => Go.Lib.run_eql_slice_nil (P := Try.prog) W 64 2 (some ad0) l0.length c0 0 0 Try.underlying64
  simp only [Option.isNone_some] at hnil
  have HR0 := Aside0.mk hr0
  have HC0 := Aside0.mk hc0
  clear hr0 hc0
  have HB := Aside0.mk (Below.refl w.heap.size w)
  have H : ((some (([] : List Int) : List Int)).bind fun y168 => (if y168.length + l0.length < 17592186044416 then (some (y168 ++ l0)) else (none))) = some r := h
  clear h
  obtain ⟨y168,hy168⟩ : ∃ y_ : List Int,y_ = (([] : List Int)) := ⟨_,rfl⟩
  replace H : (if y168.length + l0.length < 17592186044416 then (some (y168 ++ l0)) else (none)) = some r := by first|(rw [hy168];with_reducible exact H)|(have H2_ := (Option.bind_some _ _).symm.trans H;rw [hy168];with_reducible exact H2_)|(have H2_ := (Option.bind_some _ _).symm.trans H;with_reducible exact H2_)|with_reducible exact H|(rw [hy168];exact H)|exact H
  have Ny168 := Aside0.mk hy168
  clear hy168
  by_cases c2 : y168.length + l0.length < 17592186044416
  ·rw [if_pos c2] at H
   have LMc2 := Aside0.mk c2
   clear c2
   obtain ⟨y171,hy171⟩ : ∃ y_ : List Int,y_ = (y168 ++ l0) := ⟨_,rfl⟩
   replace H : (some y171) = some r := by first|(rw [hy171];with_reducible exact H)|(have H2_ := (Option.bind_some _ _).symm.trans H;rw [hy171];with_reducible exact H2_)|(have H2_ := (Option.bind_some _ _).symm.trans H;with_reducible exact H2_)|with_reducible exact H|(rw [hy171];exact H)|exact H
   have Ny171 := Aside0.mk hy171
   clear hy171
   obtain rfl := Option.some.inj H
   go_enter Try.func101,Try.ntmps101
   go_wp2_with (first|((with_reducible refine gate_dst (N := 5) rfl ?_);refine Kd.R_lit (Kd.int .i64) _ 2 ?hg (N := 5) ?hd (xs := ([] : List Int)) (inner := []) (ok := fun _ => True) (okp := fun _ => True) ?hr ?hp (fun _ hk => hk) trivial (Below.refl _ _) (Nat.le_refl _) (by simp) ?_;(case hd => rfl);(case hg => rfl);(case hr => first|(go_simp;done)|(go_simp;rfl));(case hp => exact (Reps.none _ _));intro v169 w3 ho4 hb hg_ hnew_;clear hg_ hnew_;(first|rw [← Ny168.out] at ho4|(simp only [Int.reduceToNat] at ho4;rw [← Ny168.out] at ho4));have n0_ := Aside0.mk (Kd.R_lower ho4 (below_size (by repeat (first|(with_reducible first|exact HB.out|apply below_alloc|apply pw_below_drewN|apply below_drew1)|exact HB.out))));have n1_ := Aside0.mk (below_step (by repeat (first|(with_reducible first|exact HB.out|apply below_alloc|apply pw_below_drewN|apply below_drew1)|exact HB.out)) hb);clear HB;have HO170 := n0_;have HB := n1_;clear n0_ n1_;clear hb ho4)|((with_reducible refine gblt_ (b := .append) (xs := #[.tmp 5,.tmp 6]) rfl ?_);at_builtin;refine Kd.R_append_rows (Kd.int .i64) (w0 := w) w.heap.size rfl (.tmp 5) (.tmp 6) 64 2 (.int .i64 0) 8 rfl Try.underlying64 info2 rfl (by decide) (by omega) v169 y168 l0 _ _ _ (fun _ => True) (fun _ => False) rfl rfl ?aO ?aR (fun _ _ h => h) (fun _ h => h.elim) ?aF ?aB ?aS ?aL ?_;(case aR => repeat (first|exact (Kd.C_below HR0.out HB.out)|(with_reducible refine Kd.C_alloc ?_ _)|(with_reducible refine Kd.C_drewN ?_ _)|(with_reducible refine Kd.C_drew ?_)));(case aB => exact (by repeat (first|(with_reducible first|exact HB.out|apply below_alloc|apply pw_below_drewN|apply below_drew1)|exact HB.out)));(case aF => exact (fun _ _ => trivial));(case aO => exact (by (with_reducible repeat (first|apply Kd.R_alloc|apply Kd.R_drewN|apply Kd.R_drew));exact HO170.out));(case aS => exact (below_size (by repeat (first|(with_reducible first|exact HB.out|apply below_alloc|apply pw_below_drewN|apply below_drew1)|exact HB.out))));(case aL => have := LMc2.out;omega);intro v172 w5 ho hb hg hat;rw [← Ny171.out] at ho;have n0_ := Aside0.mk (hb);have n1_ := Aside0.mk (ho);clear HB;clear HO170;have HB := n0_;have HO173 := n1_;clear n0_ n1_;clear ho hb hg hat))
   go_ret
   exact ⟨_,by first|rfl|(simp [errW_none,errW_some] <;> rfl)|(simp [*,errW_none,errW_some] <;> rfl),by (with_reducible repeat (first|apply Kd.R_alloc|apply Kd.R_drewN|apply Kd.R_drew));exact HO173.out,by repeat (first|(with_reducible first|exact HB.out|apply below_alloc|apply pw_below_drewN|apply below_drew1)|exact HB.out)⟩
  ·rw [if_neg c2] at H
   exact absurd H (by simp)

/-! ### impl_Backups: function 55 -/
def impl_Backups.f (k : Nat) (l0 : List (S97)) (a1 : Int) : Option (List Int) := (impl_arePlaces.f k l0).bind fun t174 => (if t174 = true then ((impl_Place.f l0).bind fun t175 => ((impl_within.f a1 0 (wrap64 (t175 - 1))).bind fun t176 => (if t176 = true then (if 0 ≤ a1 then (if a1 < (l0.length : Int) then (if 1 ≤ (((rd_T97 l0 a1).f0).length : Int) then ((slices_Clone_int64_int64.f (((rd_T97 l0 a1).f0).drop 1)).bind fun t179 => (some t179)) else (none)) else (none)) else (none)) else (some ([] : List Int))))) else (some ([] : List Int)))

set_option maxHeartbeats 8000000 in
set_option maxRecDepth 100000 in
theorem impl_Backups.calls (k : Nat) (A0 : Option Addr) (c0 : Nat) (l0 : List (S97)) (a1 : Int) (r : List Int) (w : World) (hr0 : Kd.C k97 w A0 l0.length l0) (hc0 : l0.length ≤ c0) (h : impl_Backups.f k l0 a1 = some r) :
    Calls Try.prog 55 #[.slice A0 l0.length c0, .int .i64 a1] w fun e w' => ∃ v0_ : Value, e = .returned (v0_) ∧ Kd.R (Kd.int .i64) 2 w' w.heap.size (fun _ => True) v0_ r ∧ Below w.heap.size w w' := by
 have HR0 := Aside0.mk hr0
 have HC0 := Aside0.mk hc0
 clear hr0 hc0
 have HB := Aside0.mk (Below.refl w.heap.size w)
 have H : ((impl_arePlaces.f k l0).bind fun t174 => (if t174 = true then ((impl_Place.f l0).bind fun t175 => ((impl_within.f a1 0 (wrap64 (t175 - 1))).bind fun t176 => (if t176 = true then (if 0 ≤ a1 then (if a1 < (l0.length : Int) then (if 1 ≤ (((rd_T97 l0 a1).f0).length : Int) then ((slices_Clone_int64_int64.f (((rd_T97 l0 a1).f0).drop 1)).bind fun t179 => (some t179)) else (none)) else (none)) else (none)) else (some ([] : List Int))))) else (some ([] : List Int)))) = some r := h
 clear h
 replace H := Option.bind_eq_some_iff.mp H
 obtain ⟨t174,A30,H⟩ := H
 replace H : (if t174 = true then ((impl_Place.f l0).bind fun t175 => ((impl_within.f a1 0 (wrap64 (t175 - 1))).bind fun t176 => (if t176 = true then (if 0 ≤ a1 then (if a1 < (l0.length : Int) then (if 1 ≤ (((rd_T97 l0 a1).f0).length : Int) then ((slices_Clone_int64_int64.f (((rd_T97 l0 a1).f0).drop 1)).bind fun t179 => (some t179)) else (none)) else (none)) else (none)) else (some ([] : List Int))))) else (some ([] : List Int))) = some r := H
 have A3 := Aside0.mk A30
 clear A30
 by_cases c4 : t174 = true
 ·subst c4
  have H1 : ((impl_Place.f l0).bind fun t175 => ((impl_within.f a1 0 (wrap64 (t175 - 1))).bind fun t176 => (if t176 = true then (if 0 ≤ a1 then (if a1 < (l0.length : Int) then (if 1 ≤ (((rd_T97 l0 a1).f0).length : Int) then ((slices_Clone_int64_int64.f (((rd_T97 l0 a1).f0).drop 1)).bind fun t179 => (some t179)) else (none)) else (none)) else (none)) else (some ([] : List Int))))) = some r := by rw [if_pos rfl] at H;exact H
  clear H
  have H := H1
  clear H1
  replace H := Option.bind_eq_some_iff.mp H
  obtain ⟨t175,A50,H⟩ := H
  replace H : ((impl_within.f a1 0 (wrap64 (t175 - 1))).bind fun t176 => (if t176 = true then (if 0 ≤ a1 then (if a1 < (l0.length : Int) then (if 1 ≤ (((rd_T97 l0 a1).f0).length : Int) then ((slices_Clone_int64_int64.f (((rd_T97 l0 a1).f0).drop 1)).bind fun t179 => (some t179)) else (none)) else (none)) else (none)) else (some ([] : List Int)))) = some r := H
  have A5 := Aside0.mk A50
  clear A50
  replace H := Option.bind_eq_some_iff.mp H
  obtain ⟨t176,A60,H⟩ := H
  replace H : (if t176 = true then (if 0 ≤ a1 then (if a1 < (l0.length : Int) then (if 1 ≤ (((rd_T97 l0 a1).f0).length : Int) then ((slices_Clone_int64_int64.f (((rd_T97 l0 a1).f0).drop 1)).bind fun t179 => (some t179)) else (none)) else (none)) else (none)) else (some ([] : List Int))) = some r := H
  have A6 := Aside0.mk A60
  clear A60
  by_cases c7 : t176 = true
  ·subst c7
   have H1 : (if 0 ≤ a1 then (if a1 < (l0.length : Int) then (if 1 ≤ (((rd_T97 l0 a1).f0).length : Int) then ((slices_Clone_int64_int64.f (((rd_T97 l0 a1).f0).drop 1)).bind fun t179 => (some t179)) else (none)) else (none)) else (none)) = some r := by rw [if_pos rfl] at H;exact H
   clear H
   have H := H1
   clear H1
   by_cases c8 : 0 ≤ a1
   ·rw [if_pos c8] at H
    have c8b0 : decide (0 ≤ a1) = true := decide_eq_true c8
    clear c8
    by_cases c9 : a1 < (l0.length : Int)
    ·rw [if_pos c9] at H
     have c9b0 : decide (a1 < (l0.length : Int)) = true := decide_eq_true c9
     clear c9
     by_cases c10 : 1 ≤ (((rd_T97 l0 a1).f0).length : Int)
     ·rw [if_pos c10] at H
      have c10b0 := eq_true c10
      have c10b1 : decide (1 ≤ (((rd_T97 l0 a1).f0).length : Int)) = true := decide_eq_true c10
      clear c10
      replace H := Option.bind_eq_some_iff.mp H
      obtain ⟨t179,A110,H⟩ := H
      replace H : (some t179) = some r := H
      have A11 := Aside0.mk A110
      clear A110
      obtain rfl := Option.some.inj H
      go_enter Try.func55,Try.ntmps55
      go_wp2_with (first|((with_reducible refine gcal_ (f := 98) rfl ?_);refine goesL_ (some 6) rfl rfl Try.func98 (by kernel_rfl) rfl #[.slice A0 l0.length c0] rfl (by (try simp only [List.map_toArray,List.map_cons,List.map_nil]);first|done|rfl|(simp only [List.length_drop,List.length_take];rfl)) ?_;(with_reducible refine (impl_arePlaces.calls k _ _ l0 true _ ?side1 ?side2 A3.out).mono ?_);(case side1 => repeat (first|exact HR0.out|(with_reducible refine Kd.C_alloc ?_ _)|(with_reducible refine Kd.C_drewN ?_ _)|(with_reducible refine Kd.C_drew ?_)));(case side2 => exact HC0.out);rintro e w12 ⟨rfl,hb⟩;refine ⟨_,rfl,?_⟩;have n0_ := Aside0.mk (below_step (by repeat (first|(with_reducible first|exact HB.out|apply below_alloc|apply pw_below_drewN|apply below_drew1)|exact HB.out)) hb);clear HB;have HB := n0_;clear n0_;(try clear hb);(try clear hb2);(try clear hk);(try clear hi))|(go_at_call 100;(with_reducible refine (impl_Place.calls _ _ l0 t175 _ ?side1 ?side2 A5.out).mono ?_);(case side1 => repeat (first|exact (Kd.C_below HR0.out HB.out)|(with_reducible refine Kd.C_alloc ?_ _)|(with_reducible refine Kd.C_drewN ?_ _)|(with_reducible refine Kd.C_drew ?_)));(case side2 => exact HC0.out);rintro e w' ⟨rfl,⟨nd,rfl⟩⟩)|(go_at_call 76;(with_reducible refine (impl_within.calls a1 0 (wrap64 (t175 - 1)) true _ A6.out).mono ?_);rintro e w' ⟨rfl,⟨nd,rfl⟩⟩;have p177 : 0 ≤ (a1 : Int) := of_decide_eq_true (by first|(with_reducible assumption)|assumption);have q177 : a1 < (l0.length : Int) := of_decide_eq_true (by first|(with_reducible assumption)|assumption);obtain ⟨ad177,A177_0,c177_0,e177,hx177_0,hl177_0,hi177_0⟩ := at_T97 HR0.out a1 p177 q177;cases e177;replace hx177_0 := (HB.out.cell (World.block_lt_of_cell? w _ hx177_0)).trans hx177_0;have HR177_0 := Aside0.mk hi177_0;have HC177_0 := Aside0.mk hl177_0;clear hi177_0 hl177_0;replace p177 := eq_true p177;replace q177 := eq_true q177;obtain ⟨i013,hi013,_,hsz13,_⟩ := info_parts info2;obtain ⟨A13,hcut13,hA13,hC13⟩ := print_drop_of (P := Try.prog) (Value.int .i64) 0 64 2 .i64 Try.underlying64 hi013 hsz13 A177_0 c177_0 ((rd_T97 l0 a1).f0) 1 (by omega) (of_decide_eq_true (by first|(with_reducible assumption)|assumption)) HC177_0.out;have HR178 := Aside0.mk (Kd.C_of_reads (h1 := fun _ => rfl) (hA13 _ (Kd.reads_of_C HR177_0.out)));have HC178 := Aside0.mk hC13;clear hA13 hC13 hi013 hsz13)|((with_reducible refine gcal_ (f := 101) rfl ?_);refine goesL_ (some 22) rfl rfl Try.func101 (by kernel_rfl) rfl #[.slice A13 (((rd_T97 l0 a1).f0).drop 1).length (c177_0 - 1)] rfl (by (try simp only [List.map_toArray,List.map_cons,List.map_nil]);first|done|(rw [show (((rd_T97 l0 a1).f0).drop 1).length = (((rd_T97 l0 a1).f0).length - 1) from List.length_drop] <;> rfl)|rfl|(simp only [List.length_drop,List.length_take];rfl)) ?_;(with_reducible refine (slices_Clone_int64_int64.calls _ _ (((rd_T97 l0 a1).f0).drop 1) t179 _ ?side1 ?side2 A11.out).mono ?_);(case side1 => repeat (first|exact (Kd.C_below HR178.out (by repeat (first|(with_reducible first|exact HB.out|apply below_alloc|apply pw_below_drewN|apply below_drew1)|exact HB.out)))|(with_reducible refine Kd.C_alloc ?_ _)|(with_reducible refine Kd.C_drewN ?_ _)|(with_reducible refine Kd.C_drew ?_)));(case side2 => exact HC178.out);rintro e w14 ⟨v180,rfl,ho0,hb⟩;refine ⟨_,rfl,?_⟩;have n0_ := Aside0.mk (Kd.R_lower ho0 (below_size (by repeat (first|(with_reducible first|exact HB.out|apply below_alloc|apply pw_below_drewN|apply below_drew1)|exact HB.out))));have n1_ := Aside0.mk (below_step (by repeat (first|(with_reducible first|exact HB.out|apply below_alloc|apply pw_below_drewN|apply below_drew1)|exact HB.out)) hb);clear HB;have HO181 := n0_;have HB := n1_;clear n0_ n1_;(try clear hb);(try clear hb2);(try clear hk);(try clear hi);(try clear ho0)))
      go_ret
      exact ⟨_,by first|rfl|(simp [errW_none,errW_some] <;> rfl)|(simp [*,errW_none,errW_some] <;> rfl),by (with_reducible repeat (first|apply Kd.R_alloc|apply Kd.R_drewN|apply Kd.R_drew));exact HO181.out,by repeat (first|(with_reducible first|exact HB.out|apply below_alloc|apply pw_below_drewN|apply below_drew1)|exact HB.out)⟩
     ·rw [if_neg c10] at H
      exact absurd H (by simp)
    ·rw [if_neg c9] at H
     exact absurd H (by simp)
   ·rw [if_neg c8] at H
    exact absurd H (by simp)
  ·replace c7 := Bool.eq_false_iff.mpr c7
   subst c7
   have H1 : (some ([] : List Int)) = some r := by rw [if_neg (show ¬ (false = true) by decide)] at H;exact H
   clear H
   have H := H1
   clear H1
   obtain rfl := Option.some.inj H
   go_enter Try.func55,Try.ntmps55
   go_wp2_with (first|((with_reducible refine gcal_ (f := 98) rfl ?_);refine goesL_ (some 6) rfl rfl Try.func98 (by kernel_rfl) rfl #[.slice A0 l0.length c0] rfl (by (try simp only [List.map_toArray,List.map_cons,List.map_nil]);first|done|rfl|(simp only [List.length_drop,List.length_take];rfl)) ?_;(with_reducible refine (impl_arePlaces.calls k _ _ l0 true _ ?side1 ?side2 A3.out).mono ?_);(case side1 => repeat (first|exact HR0.out|(with_reducible refine Kd.C_alloc ?_ _)|(with_reducible refine Kd.C_drewN ?_ _)|(with_reducible refine Kd.C_drew ?_)));(case side2 => exact HC0.out);rintro e w15 ⟨rfl,hb⟩;refine ⟨_,rfl,?_⟩;have n0_ := Aside0.mk (below_step (by repeat (first|(with_reducible first|exact HB.out|apply below_alloc|apply pw_below_drewN|apply below_drew1)|exact HB.out)) hb);clear HB;have HB := n0_;clear n0_;(try clear hb);(try clear hb2);(try clear hk);(try clear hi))|(go_at_call 100;(with_reducible refine (impl_Place.calls _ _ l0 t175 _ ?side1 ?side2 A5.out).mono ?_);(case side1 => repeat (first|exact (Kd.C_below HR0.out HB.out)|(with_reducible refine Kd.C_alloc ?_ _)|(with_reducible refine Kd.C_drewN ?_ _)|(with_reducible refine Kd.C_drew ?_)));(case side2 => exact HC0.out);rintro e w' ⟨rfl,⟨nd,rfl⟩⟩)|(go_at_call 76;(with_reducible refine (impl_within.calls a1 0 (wrap64 (t175 - 1)) false _ A6.out).mono ?_);rintro e w' ⟨rfl,⟨nd,rfl⟩⟩))
   go_ret
   exact ⟨_,by first|rfl|(simp [errW_none,errW_some] <;> rfl)|(simp [*,errW_none,errW_some] <;> rfl),by first|exact Kd.R_nil _ _ _ _ _|exact Kd.N_nil _ _ _ _ _|exact Kd.V_nil _ _ _ _ _|exact Kd.Q_nil _ _ _ _ _|exact Kd.S_nil _ _ _ _ _,by repeat (first|(with_reducible first|exact HB.out|apply below_alloc|apply pw_below_drewN|apply below_drew1)|exact HB.out)⟩
 ·replace c4 := Bool.eq_false_iff.mpr c4
  subst c4
  have H1 : (some ([] : List Int)) = some r := by rw [if_neg (show ¬ (false = true) by decide)] at H;exact H
  clear H
  have H := H1
  clear H1
  obtain rfl := Option.some.inj H
  go_enter Try.func55,Try.ntmps55
  go_wp2_with (first|((with_reducible refine gcal_ (f := 98) rfl ?_);refine goesL_ (some 6) rfl rfl Try.func98 (by kernel_rfl) rfl #[.slice A0 l0.length c0] rfl (by (try simp only [List.map_toArray,List.map_cons,List.map_nil]);first|done|rfl|(simp only [List.length_drop,List.length_take];rfl)) ?_;(with_reducible refine (impl_arePlaces.calls k _ _ l0 false _ ?side1 ?side2 A3.out).mono ?_);(case side1 => repeat (first|exact HR0.out|(with_reducible refine Kd.C_alloc ?_ _)|(with_reducible refine Kd.C_drewN ?_ _)|(with_reducible refine Kd.C_drew ?_)));(case side2 => exact HC0.out);rintro e w16 ⟨rfl,hb⟩;refine ⟨_,rfl,?_⟩;have n0_ := Aside0.mk (below_step (by repeat (first|(with_reducible first|exact HB.out|apply below_alloc|apply pw_below_drewN|apply below_drew1)|exact HB.out)) hb);clear HB;have HB := n0_;clear n0_;(try clear hb);(try clear hb2);(try clear hk);(try clear hi)))
  go_ret
  exact ⟨_,by first|rfl|(simp [errW_none,errW_some] <;> rfl)|(simp [*,errW_none,errW_some] <;> rfl),by first|exact Kd.R_nil _ _ _ _ _|exact Kd.N_nil _ _ _ _ _|exact Kd.V_nil _ _ _ _ _|exact Kd.Q_nil _ _ _ _ _|exact Kd.S_nil _ _ _ _ _,by repeat (first|(with_reducible first|exact HB.out|apply below_alloc|apply pw_below_drewN|apply below_drew1)|exact HB.out)⟩

/-! ### laws_heldInt64S: function 58 -/
def laws_heldInt64S.l0 : Nat → List Int → Int → Int → Option (Int)
  | 0, _, _, _ => none
  | k + 1, x0, x1, x5 => if x5 < (x0.length : Int) then (if 0 ≤ x5 then (if (rd x0 x5) = x1 then (laws_heldInt64S.l0 k x0 (wrap64 (x1 + 1)) (wrap64 (x5 + 1))) else (some (-1))) else (none)) else (some x1)
def laws_heldInt64S.f (k : Nat) (l0 : List Int) (a1 : Int) : Option (Int) := laws_heldInt64S.l0 k l0 a1 0

set_option maxHeartbeats 8000000 in
set_option maxRecDepth 100000 in
theorem laws_heldInt64S.calls (k : Nat) (A0 : Option Addr) (c0 : Nat) (l0 : List Int) (a1 : Int) (r : Int) (w : World) (hr0 : Kd.C (Kd.int .i64) w A0 l0.length l0) (hc0 : l0.length ≤ c0) (h : laws_heldInt64S.f k l0 a1 = some r) :
    Calls Try.prog 58 #[.slice A0 l0.length c0, .int .i64 a1] w fun e w' => e = .returned (.int .i64 r) ∧ Drawn0 w w' := by
 have HR0 := Aside0.mk hr0
 have HC0 := Aside0.mk hc0
 clear hr0 hc0
 have H : (laws_heldInt64S.l0 k l0 a1 0) = some r := h
 clear h
 have H' := Aside0.mk H
 clear H
 go_enter Try.func58,Try.ntmps58
 go_wp2
 go_loopg [1,5] k (fun kq v1 v5 w' => ∃ (x1_1 : Int) (x5_1 : Int),v1 = .int .i64 x1_1 ∧ v5 = .int .i64 x5_1 ∧ Aside0 (laws_heldInt64S.l0 kq l0 x1_1 x5_1 = some r) ∧ Aside0 (kq ≤ k) ∧ Drawn0 w w')
 case atStart => exact ⟨(a1),(0),(by first|rfl|(simp;done)|(simp [*];done)),(by first|rfl|(simp;done)|(simp [*];done)),H',⟨Nat.le_refl _⟩,by repeat (first|exact Drawn0.refl _|apply Drawn0.step)⟩
 case round =>
  clear H'
  try clear p2
  obtain ⟨x1_1,x5_1,rfl,rfl,HA,HK1,⟨m1,rfl⟩⟩ := hrel
  cases gk with
    | zero => exact absurd HA.out (by simp [laws_heldInt64S.l0])
    | succ k1 =>
   have H := HA.out
   clear HA
   simp only [laws_heldInt64S.l0] at H
   by_cases c3 : x5_1 < (l0.length : Int)
   ·rw [if_pos c3] at H
    have c3b0 : decide (x5_1 < (l0.length : Int)) = true := decide_eq_true c3
    clear c3
    by_cases c4 : 0 ≤ x5_1
    ·rw [if_pos c4] at H
     have c4b0 : decide (0 ≤ x5_1) = true := decide_eq_true c4
     clear c4
     by_cases c5 : (rd l0 x5_1) = x1_1
     ·rw [if_pos c5] at H
      have c5b0 : ((rd l0 x5_1) == x1_1) = true := beq_iff_eq.mpr c5
      have c5b1 : ((rd l0 x5_1) != x1_1) = false := bne_eq_false_iff_eq.mpr c5
      clear c5
      have H' := Aside0.mk H
      clear H
      have p182 : 0 ≤ (x5_1 : Int) := of_decide_eq_true (by first|(with_reducible assumption)|assumption)
      have q182 : x5_1 < (l0.length : Int) := of_decide_eq_true (by first|(with_reducible assumption)|assumption)
      obtain ⟨ad182,e182,hx182_0⟩ := Kd.at_int HR0.out x5_1 p182 q182
      cases e182
      replace p182 := eq_true p182
      replace q182 := eq_true q182
      go_wp2
      go_roundg k1
      case measure => have := HK1.out;omega
      case rel => exact ⟨(wrap64 (x1_1 + 1)),(wrap64 (x5_1 + 1)),(by first|rfl|(simp;done)|(simp [*];done)),(by first|rfl|(simp;done)|(simp [*];done)),H',⟨by have := HK1.out;omega⟩,by repeat (first|exact Drawn0.refl _|apply Drawn0.step)⟩
     ·rw [if_neg c5] at H
      have c5b0 : ((rd l0 x5_1) == x1_1) = false := beq_eq_false_iff_ne.mpr c5
      have c5b1 : ((rd l0 x5_1) != x1_1) = true := bne_iff_ne.mpr c5
      obtain rfl := Option.some.inj H
      have p182 : 0 ≤ (x5_1 : Int) := of_decide_eq_true (by first|(with_reducible assumption)|assumption)
      have q182 : x5_1 < (l0.length : Int) := of_decide_eq_true (by first|(with_reducible assumption)|assumption)
      obtain ⟨ad182,e182,hx182_0⟩ := Kd.at_int HR0.out x5_1 p182 q182
      cases e182
      replace p182 := eq_true p182
      replace q182 := eq_true q182
      go_wp2
      go_ret
      exact ⟨by first|rfl|(simp;done)|(simp [*];done),by repeat (first|exact Drawn0.refl _|apply Drawn0.step)⟩
    ·rw [if_neg c4] at H
     exact absurd H (by simp)
   ·rw [if_neg c3] at H
    have c3b0 : decide (x5_1 < (l0.length : Int)) = false := decide_eq_false c3
    clear c3
    obtain rfl := Option.some.inj H
    go_wp2
    go_ret
    exact ⟨by first|rfl|(simp;done)|(simp [*];done),by repeat (first|exact Drawn0.refl _|apply Drawn0.step)⟩

/-! ### laws_FnExactBackups: function 11 -/
theorem hold_11 {p : Prop} (h : Aside0 p) : p := h.out
theorem ite_some_11 {α : Type} {c : Prop} [Decidable c] {x : Option α} {r : α} (h : (if c then x else none) = some r) : c ∧ x = some r := by
 by_cases hc : c
 ·rw [if_pos hc] at h;exact ⟨hc,h⟩
 ·rw [if_neg hc] at h;cases h
theorem ite_none_11 {α : Type} {c : Prop} [Decidable c] {x : Option α} {r : α} (h : (if c then none else x) = some r) : ¬ c ∧ x = some r := by
 by_cases hc : c
 ·rw [if_pos hc] at h;cases h
 ·rw [if_neg hc] at h;exact ⟨hc,h⟩
def laws_FnExactBackups.f (k : Nat) (l0 : List (S110)) (a1 : Int) : Option (Bool) := (laws_szPlaceS.f k l0 1048576).bind fun s => if s < 0 then some true else (laws_toPlaceS.f k l0).bind fun p => (spec_Backups.f k p a1).bind fun u => (impl_Backups.f k p a1).bind fun v => (laws_eqInt64S.f k v u).bind fun e1 => if e1 = true then ((laws_eqPlaceS.f k p p).bind fun e2 => if e2 = true then ((laws_markPlaceS.f k p 1).bind fun mk => if mk.1 < 0 then none else ((laws_markInt64S.f k v 1).bind fun m => (laws_heldInt64S.f k m.2 1).bind fun q => if q < 0 then none else if q = m.1 then some true else none)) else none) else none
set_option maxHeartbeats 8000000 in
set_option maxRecDepth 100000 in
theorem laws_FnExactBackups.calls (k : Nat) (A0 : Option Addr) (c0 : Nat) (l0 : List (S110)) (a1 : Int) (r : Bool) (w : World) (hr0 : Kd.C k110 w A0 l0.length l0) (hc0 : l0.length ≤ c0) (h : laws_FnExactBackups.f k l0 a1 = some r) :
    Calls Try.prog 11 #[.slice A0 l0.length c0, .int .i64 a1] w fun e w' => e = .returned (.bool r) ∧ Below w.heap.size w w' := by
 obtain ⟨s,E0,h1⟩ := Option.bind_eq_some_iff.1 h
 clear h
 have H1 := Aside0.mk h1
 have F0 := Aside0.mk E0
 have HR := Aside0.mk hr0
 have HC := Aside0.mk hc0
 clear h1 E0 hr0 hc0
 go_enter Try.func11,Try.ntmps11
 go_wp2_with ((with_reducible refine gcal_ (f := 48) rfl ?_);refine goesL_ (some 15) rfl rfl Try.func48 (by kernel_rfl) rfl #[.slice A0 l0.length c0,.int .i64 1048576] rfl (by (try simp only [List.map_toArray,List.map_cons,List.map_nil]);first|done|rfl) ?_;refine (laws_szPlaceS.calls k A0 c0 l0 1048576 s _ HR.out HC.out F0.out).mono ?_;rintro e w1 ⟨rfl,B⟩;refine ⟨_,rfl,?_⟩;refine hold_11 ?_)
 refine ⟨?_⟩
 have D1 := Aside0.mk B
 clear B
 by_cases hs : s < 0
 ·have h1 := H1.out;rw [if_pos hs] at h1;obtain rfl := Option.some.inj h1;clear h1 H1;go_wp2;go_ret;exact ⟨rfl,D1.out⟩
 have h2 := H1.out
 rw [if_neg hs] at h2
 clear H1
 obtain ⟨p,E1,h3⟩ := Option.bind_eq_some_iff.1 h2
 clear h2
 obtain ⟨u,E2,h4⟩ := Option.bind_eq_some_iff.1 h3
 clear h3
 obtain ⟨v,E3,h5⟩ := Option.bind_eq_some_iff.1 h4
 clear h4
 obtain ⟨e1,E4,h6⟩ := Option.bind_eq_some_iff.1 h5
 clear h5
 obtain ⟨he1,h7⟩ := ite_some_11 h6
 clear h6
 subst he1
 obtain ⟨e2,E5,h8⟩ := Option.bind_eq_some_iff.1 h7
 clear h7
 obtain ⟨he2,h9⟩ := ite_some_11 h8
 clear h8
 subst he2
 obtain ⟨⟨mm,z⟩,E6,h10⟩ := Option.bind_eq_some_iff.1 h9
 clear h9
 obtain ⟨hmm,h11⟩ := ite_none_11 h10
 clear h10
 obtain ⟨⟨m,y⟩,E7,h12⟩ := Option.bind_eq_some_iff.1 h11
 clear h11
 obtain ⟨q,E8,h13⟩ := Option.bind_eq_some_iff.1 h12
 clear h12
 obtain ⟨hq,h14⟩ := ite_none_11 h13
 clear h13
 obtain ⟨hqm,h15⟩ := ite_some_11 h14
 clear h14
 replace hqm : q = m := hqm
 subst hqm
 obtain rfl := Option.some.inj h15
 clear h15
 have F1 := Aside0.mk E1
 have F2 := Aside0.mk E2
 have F3 := Aside0.mk E3
 have F4 := Aside0.mk E4
 have F5 := Aside0.mk E5
 have F6 := Aside0.mk E6
 have F7 := Aside0.mk E7
 have F8 := Aside0.mk E8
 replace hmm : ¬ mm < 0 := hmm
 have fmm : 0 ≤ mm := Int.not_lt.1 hmm
 have fq : 0 ≤ q := Int.not_lt.1 hq
 clear E1 E2 E3 E4 E5 E6 E7 E8 hmm hq
 go_wp2_with ((with_reducible refine gcal_ (f := 50) rfl ?_);refine goesL_ (some 19) rfl rfl Try.func50 (by kernel_rfl) rfl #[.slice A0 l0.length c0] rfl (by (try simp only [List.map_toArray,List.map_cons,List.map_nil]);first|done|rfl) ?_;refine (laws_toPlaceS.calls k A0 c0 l0 p _ (Kd.C_below HR.out D1.out) HC.out F1.out).mono ?_;rintro e w2 ⟨v1,rfl,S,B⟩;refine ⟨_,rfl,?_⟩;refine hold_11 ?_)
 refine ⟨?_⟩
 have T1 := Aside0.mk S
 have D2 := Aside0.mk (below_step D1.out B)
 clear S B
 obtain ⟨Av1,cv1,ev1⟩ := Kd.S_slice T1.out
 subst ev1
 go_wp2_with ((with_reducible refine gcal_ (f := 54) rfl ?_);refine goesL_ (some 21) rfl rfl Try.func54 (by kernel_rfl) rfl #[.slice Av1 p.length cv1,.int .i64 a1] rfl (by (try simp only [List.map_toArray,List.map_cons,List.map_nil]);first|done|rfl) ?_;refine (spec_Backups.calls k Av1 cv1 p a1 u _ (Kd.S_reads' T1.out).2.2 (Kd.S_reads' T1.out).2.1 F2.out).mono ?_;rintro e w3 ⟨u1,rfl,S,B⟩;refine ⟨_,rfl,?_⟩;refine hold_11 ?_)
 refine ⟨?_⟩
 have T2 := Aside0.mk S
 have D3 := Aside0.mk (below_step D2.out B)
 clear S B
 obtain ⟨Au1,cu1,eu1⟩ := Kd.R_slice T2.out
 subst eu1
 go_wp2_with ((with_reducible refine gcal_ (f := 50) rfl ?_);refine goesL_ (some 23) rfl rfl Try.func50 (by kernel_rfl) rfl #[.slice A0 l0.length c0] rfl (by (try simp only [List.map_toArray,List.map_cons,List.map_nil]);first|done|rfl) ?_;refine (laws_toPlaceS.calls k A0 c0 l0 p _ (Kd.C_below HR.out D3.out) HC.out F1.out).mono ?_;rintro e w4 ⟨v2,rfl,S,B⟩;refine ⟨_,rfl,?_⟩;refine hold_11 ?_)
 refine ⟨?_⟩
 have T3 := Aside0.mk S
 have D4 := Aside0.mk (below_step D3.out B)
 have G4 := Aside0.mk B
 have U4 := Aside0.mk (Kd.R_below T2.out B)
 clear S B
 obtain ⟨Av2,cv2,ev2⟩ := Kd.S_slice T3.out
 subst ev2
 go_wp2_with ((with_reducible refine gcal_ (f := 55) rfl ?_);refine goesL_ (some 26) rfl rfl Try.func55 (by kernel_rfl) rfl #[.slice Av2 p.length cv2,.int .i64 a1] rfl (by (try simp only [List.map_toArray,List.map_cons,List.map_nil]);first|done|rfl) ?_;refine (impl_Backups.calls k Av2 cv2 p a1 v _ (Kd.S_reads' T3.out).2.2 (Kd.S_reads' T3.out).2.1 F3.out).mono ?_;rintro e w5 ⟨v3,rfl,S,B⟩;refine ⟨_,rfl,?_⟩;refine hold_11 ?_)
 refine ⟨?_⟩
 have T5 := Aside0.mk S
 have D5 := Aside0.mk (below_step D4.out B)
 have G5 := Aside0.mk (below_step G4.out B)
 have X5 := Aside0.mk (Kd.S_old T3.out B)
 have U5 := Aside0.mk (Kd.R_below U4.out B)
 clear S B
 obtain ⟨Av3,cv3,ev3⟩ := Kd.R_slice T5.out
 subst ev3
 go_wp2_with ((with_reducible refine gcal_ (f := 56) rfl ?_);refine goesL_ (some 29) rfl rfl Try.func56 (by kernel_rfl) rfl #[.slice Av3 v.length cv3,.slice Au1 u.length cu1] rfl (by (try simp only [List.map_toArray,List.map_cons,List.map_nil]);first|done|rfl) ?_;refine (laws_eqInt64S.calls k Av3 cv3 v Au1 cu1 u true _ (Kd.R_reads' T5.out).2.2 (Kd.R_reads' T5.out).2.1 (Kd.R_reads' U5.out).2.2 (Kd.R_reads' U5.out).2.1 F4.out).mono ?_;rintro e w6 ⟨rfl,B⟩;refine ⟨_,rfl,?_⟩;refine hold_11 ?_)
 refine ⟨?_⟩
 have D6 := Aside0.mk (below_step D5.out B.below)
 have G6 := Aside0.mk (below_step G5.out B.below)
 have X6 := Aside0.mk (Kd.S_below X5.out B.below)
 have U6 := Aside0.mk (Kd.R_below U5.out B.below)
 have T6 := Aside0.mk (Kd.R_below T5.out B.below)
 clear B
 go_wp2_with ((with_reducible refine gcal_ (f := 50) rfl ?_);refine goesL_ (some 33) rfl rfl Try.func50 (by kernel_rfl) rfl #[.slice A0 l0.length c0] rfl (by (try simp only [List.map_toArray,List.map_cons,List.map_nil]);first|done|rfl) ?_;refine (laws_toPlaceS.calls k A0 c0 l0 p _ (Kd.C_below HR.out D6.out) HC.out F1.out).mono ?_;rintro e w7 ⟨v4,rfl,S,B⟩;refine ⟨_,rfl,?_⟩;refine hold_11 ?_)
 refine ⟨?_⟩
 have Z7 := Aside0.mk S
 have D7 := Aside0.mk (below_step D6.out B)
 have G7 := Aside0.mk (below_step G6.out B)
 have X7 := Aside0.mk (Kd.S_below X6.out B)
 have T7 := Aside0.mk (Kd.R_below T6.out B)
 clear S B
 obtain ⟨Av4,cv4,ev4⟩ := Kd.S_slice Z7.out
 subst ev4
 go_wp2_with ((with_reducible refine gcal_ (f := 26) rfl ?_);refine goesL_ (some 34) rfl rfl Try.func26 (by kernel_rfl) rfl #[.slice Av2 p.length cv2,.slice Av4 p.length cv4] rfl (by (try simp only [List.map_toArray,List.map_cons,List.map_nil]);first|done|rfl) ?_;refine (laws_eqPlaceS.calls k Av2 cv2 p Av4 cv4 p true _ (Kd.S_reads' X7.out).2.2 (Kd.S_reads' X7.out).2.1 (Kd.S_reads' Z7.out).2.2 (Kd.S_reads' Z7.out).2.1 F5.out).mono ?_;rintro e w8 ⟨rfl,B⟩;refine ⟨_,rfl,?_⟩;refine hold_11 ?_)
 refine ⟨?_⟩
 have G8 := Aside0.mk (below_step G7.out B)
 have X8 := Aside0.mk (Kd.S_below X7.out B)
 have T8 := Aside0.mk (Kd.R_below T7.out B)
 clear B
 go_wp2_with ((with_reducible refine gcal_ (f := 27) rfl ?_);refine goesL_ (some 38) rfl rfl Try.func27 (by kernel_rfl) rfl #[.slice Av2 p.length cv2,.int .i64 1] rfl (by (try simp only [List.map_toArray,List.map_cons,List.map_nil]);first|done|rfl) ?_;refine (laws_markPlaceS.calls k (fun k_ => True ∧ k_ < w4.heap.size) (.slice Av2 p.length cv2) p 1 mm z w3 _ G8.out X8.out F6.out).mono ?_;rintro e w9 ⟨rfl,S,B,K⟩;refine ⟨_,rfl,?_⟩;refine hold_11 ?_)
 refine ⟨?_⟩
 have G9 := Aside0.mk B
 have T9 := Aside0.mk (Kd.R_mono (ok' := fun _ => True) (Kd.R_kept (Kd.R_bound T8.out) K (fun k_ hk_ hs_ => absurd hs_.2 (Nat.not_lt.2 hk_.2.1))) (fun _ _ => trivial))
 have U9 := Aside0.mk (Kd.R_below T2.out B)
 clear S B K
 go_wp2_with (go_at_call 56;refine (laws_eqInt64S.calls k Av3 cv3 v Au1 cu1 u true _ (Kd.R_reads' T9.out).2.2 (Kd.R_reads' T9.out).2.1 (Kd.R_reads' U9.out).2.2 (Kd.R_reads' U9.out).2.1 F4.out).mono ?_;rintro e w10 ⟨rfl,B⟩;(try dsimp only);refine hold_11 ?_)
 refine ⟨?_⟩
 have G10 := Aside0.mk (below_step G9.out B.below)
 have T10 := Aside0.mk (Kd.R_lower (Kd.R_below T9.out B.below) G4.out.size)
 clear B
 go_wp2_with ((with_reducible refine gcal_ (f := 57) rfl ?_);refine goesL_ (some 49) rfl rfl Try.func57 (by kernel_rfl) rfl #[.slice Av3 v.length cv3,.int .i64 1] rfl (by (try simp only [List.map_toArray,List.map_cons,List.map_nil]);first|done|rfl) ?_;refine (laws_markInt64S.calls k (fun _ => True) (.slice Av3 v.length cv3) v 1 q y w3 _ G10.out T10.out F7.out).mono ?_;rintro e w11 ⟨rfl,S,B,K⟩;refine ⟨_,rfl,?_⟩;refine hold_11 ?_)
 refine ⟨?_⟩
 have T11 := Aside0.mk S
 have G11 := Aside0.mk B
 have L := Aside0.mk (Kd.R_reads' T11.out).1
 have M : Aside0 (y.length ≤ cv3) := ⟨by rw [← L.out];exact (Kd.R_reads' T11.out).2.1⟩
 clear S B K
 go_wp2_with ((with_reducible refine gcal_ (f := 58) rfl ?_);refine goesL_ (some 52) rfl rfl Try.func58 (by kernel_rfl) rfl #[.slice Av3 v.length cv3,.int .i64 1] rfl (by (try simp only [List.map_toArray,List.map_cons,List.map_nil]);first|done|rfl) ?_;refine calls_arr (by rw [L.out]) ((laws_heldInt64S.calls k Av3 cv3 y 1 q _ (Kd.R_reads' T11.out).2.2 M.out F8.out).mono ?_);rintro e w12 ⟨rfl,B⟩;refine ⟨_,rfl,?_⟩;refine hold_11 ?_)
 refine ⟨?_⟩
 have G12 := Aside0.mk (below_step G11.out B.below)
 have T12 := Aside0.mk (Kd.R_below T11.out B.below)
 have D12 := Aside0.mk (below_step D3.out G12.out)
 clear B
 go_wp2_with ((with_reducible refine gcal_ (f := 50) rfl ?_);refine goesL_ (some 59) rfl rfl Try.func50 (by kernel_rfl) rfl #[.slice A0 l0.length c0] rfl (by (try simp only [List.map_toArray,List.map_cons,List.map_nil]);first|done|rfl) ?_;refine (laws_toPlaceS.calls k A0 c0 l0 p _ (Kd.C_below HR.out D12.out) HC.out F1.out).mono ?_;rintro e w13 ⟨v5,rfl,S,B⟩;refine ⟨_,rfl,?_⟩;refine hold_11 ?_)
 refine ⟨?_⟩
 have Z13 := Aside0.mk S
 have G13 := Aside0.mk (below_step G12.out B)
 have T13 := Aside0.mk (Kd.R_below T12.out B)
 clear S B
 obtain ⟨Av5,cv5,ev5⟩ := Kd.S_slice Z13.out
 subst ev5
 go_wp2_with ((with_reducible refine gcal_ (f := 55) rfl ?_);refine goesL_ (some 61) rfl rfl Try.func55 (by kernel_rfl) rfl #[.slice Av5 p.length cv5,.int .i64 a1] rfl (by (try simp only [List.map_toArray,List.map_cons,List.map_nil]);first|done|rfl) ?_;refine (impl_Backups.calls k Av5 cv5 p a1 v _ (Kd.S_reads' Z13.out).2.2 (Kd.S_reads' Z13.out).2.1 F3.out).mono ?_;rintro e w14 ⟨v6,rfl,S,B⟩;refine ⟨_,rfl,?_⟩;refine hold_11 ?_)
 refine ⟨?_⟩
 have Z14 := Aside0.mk S
 have G14 := Aside0.mk (below_step G13.out B)
 have T14 := Aside0.mk (Kd.R_below T13.out B)
 have U14 := Aside0.mk (Kd.R_below T2.out G14.out)
 clear S B
 obtain ⟨Av6,cv6,ev6⟩ := Kd.R_slice Z14.out
 subst ev6
 go_wp2_with ((with_reducible refine gcal_ (f := 56) rfl ?_);refine goesL_ (some 64) rfl rfl Try.func56 (by kernel_rfl) rfl #[.slice Av6 v.length cv6,.slice Au1 u.length cu1] rfl (by (try simp only [List.map_toArray,List.map_cons,List.map_nil]);first|done|rfl) ?_;refine (laws_eqInt64S.calls k Av6 cv6 v Au1 cu1 u true _ (Kd.R_reads' Z14.out).2.2 (Kd.R_reads' Z14.out).2.1 (Kd.R_reads' U14.out).2.2 (Kd.R_reads' U14.out).2.1 F4.out).mono ?_;rintro e w15 ⟨rfl,B⟩;refine ⟨_,rfl,?_⟩;refine hold_11 ?_)
 refine ⟨?_⟩
 have G15 := Aside0.mk (below_step G14.out B.below)
 have T15 := Aside0.mk (Kd.R_below T14.out B.below)
 clear B
 go_wp2_with ((with_reducible refine gcal_ (f := 58) rfl ?_);refine goesL_ (some 68) rfl rfl Try.func58 (by kernel_rfl) rfl #[.slice Av3 v.length cv3,.int .i64 1] rfl (by (try simp only [List.map_toArray,List.map_cons,List.map_nil]);first|done|rfl) ?_;refine calls_arr (by rw [L.out]) ((laws_heldInt64S.calls k Av3 cv3 y 1 q _ (Kd.R_reads' T15.out).2.2 M.out F8.out).mono ?_);rintro e w16 ⟨rfl,B⟩;refine ⟨_,rfl,?_⟩;refine hold_11 ?_)
 refine ⟨?_⟩
 have D16 := Aside0.mk (below_step D3.out (below_step G15.out B.below))
 clear B
 go_wp2
 go_ret
 exact ⟨rfl,D16.out⟩

/-! ### spec_l1Min: function 79 -/
def spec_l1Min.f (a0 : Int) (a1 : Int) : Option (Int) := if a0 < a1 then (some a0) else (some a1)
set_option maxHeartbeats 8000000 in
set_option maxRecDepth 100000 in
theorem spec_l1Min.calls (a0 : Int) (a1 : Int) (r : Int) (w : World) (h : spec_l1Min.f a0 a1 = some r) :
    Calls Try.prog 79 #[.int .i64 a0, .int .i64 a1] w fun e w' => e = .returned (.int .i64 r) ∧ Drawn0 w w' := by
 have H : (if a0 < a1 then (some a0) else (some a1)) = some r := h
 clear h
 by_cases c3 : a0 < a1
 ·rw [if_pos c3] at H
  have c3b0 : decide (a0 < a1) = true := decide_eq_true c3
  clear c3
  obtain rfl := Option.some.inj H
  go_enter Try.func79,Try.ntmps79
  go_wp2
  go_ret
  exact ⟨by first|rfl|(simp;done)|(simp [*];done),by repeat (first|exact Drawn0.refl _|apply Drawn0.step)⟩
 ·rw [if_neg c3] at H
  have c3b0 : decide (a0 < a1) = false := decide_eq_false c3
  clear c3
  obtain rfl := Option.some.inj H
  go_enter Try.func79,Try.ntmps79
  go_wp2
  go_ret
  exact ⟨by first|rfl|(simp;done)|(simp [*];done),by repeat (first|exact Drawn0.refl _|apply Drawn0.step)⟩

end Go.Proofs.Ytodgacnioeoogaa.XBk
