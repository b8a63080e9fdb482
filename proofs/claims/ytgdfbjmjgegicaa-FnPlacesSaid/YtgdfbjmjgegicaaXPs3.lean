/- Proved: of each Go function here that a call comes to what the Lean function of its name tells. Written by a program of this session over the translation. No conditions beyond each theorem's own. -/
import Derived.Test.YtgdfbjmjgegicaaXPs0
import Derived.Test.YtgdfbjmjgegicaaXPs2
namespace Go.Proofs.Ytgdfbjmjgegicaa.XPs
open Go.RowKit Go.Proofs.Ytgdfbjmjgegicaa.Aid Go.Proofs.YtgdfbjmjgegicaaW.PrintWords Go.Proofs.YtgdfbjmjgegicaaW.PrintLast Go.Proofs.YtgdfbjmjgegicaaW.PrintMore
set_option linter.unusedVariables false
set_option linter.unusedSimpArgs false

/-! ### slices_Index_int64_int64: function 128 -/
def slices_Index_int64_int64.l0 : Nat → List Int → Int → Int → Int → Option (Int)
  | 0, _, _, _, _ => none
  | k + 1, x0, x1, x7, x8 => if x8 < x7 then (if 0 ≤ x8 then (if x8 < (x0.length : Int) then (if x1 = (rd x0 x8) then (some x8) else (slices_Index_int64_int64.l0 k x0 x1 x7 (wrap64 (x8 + 1)))) else (none)) else (none)) else (some (-1))
def slices_Index_int64_int64.f (k : Nat) (l0 : List Int) (a1 : Int) : Option (Int) := slices_Index_int64_int64.l0 k l0 a1 (l0.length : Int) 0

set_option maxHeartbeats 8000000 in
set_option maxRecDepth 100000 in
theorem slices_Index_int64_int64.calls (k : Nat) (A0 : Option Addr) (c0 : Nat) (l0 : List Int) (a1 : Int) (r : Int) (w : World) (hr0 : Kd.C (Kd.int .i64) w A0 l0.length l0) (hc0 : l0.length ≤ c0) (h : slices_Index_int64_int64.f k l0 a1 = some r) :
    Calls Try.prog 128 #[.slice A0 l0.length c0, .int .i64 a1] w fun e w' => e = .returned (.int .i64 r) ∧ Drawn0 w w' := by
 have HR0 := Aside0.mk hr0
 have HC0 := Aside0.mk hc0
 clear hr0 hc0
 have H : (slices_Index_int64_int64.l0 k l0 a1 (l0.length : Int) 0) = some r := h
 clear h
 have H' := Aside0.mk H
 clear H
 go_enter Try.func128,Try.ntmps128
 go_wp2
 go_loopg [8] k (fun kq v8 w' => ∃ (x8_1 : Int),v8 = .int .i64 x8_1 ∧ Aside0 (slices_Index_int64_int64.l0 kq l0 a1 (l0.length : Int) x8_1 = some r) ∧ Aside0 (kq ≤ k) ∧ Drawn0 w w')
 case atStart => exact ⟨(0),rs_,H',⟨Nat.le_refl _⟩,by repeat (first|exact Drawn0.refl _|apply Drawn0.step)⟩
 case round =>
  clear H'
  try clear c1
  try clear p2
  obtain ⟨x8_1,rfl,HA,HK1,⟨m1,rfl⟩⟩ := hrel
  cases gk with
    | zero => exact absurd HA.out (by simp [slices_Index_int64_int64.l0])
    | succ k1 =>
   have H := HA.out
   clear HA
   simp only [slices_Index_int64_int64.l0] at H
   by_cases c3 : x8_1 < (l0.length : Int)
   ·rw [if_pos c3] at H
    have c3b0 : decide (x8_1 < (l0.length : Int)) = true := decide_eq_true c3
    clear c3
    by_cases c4 : 0 ≤ x8_1
    ·rw [if_pos c4] at H
     have c4b0 : decide (0 ≤ x8_1) = true := decide_eq_true c4
     clear c4
     by_cases c5 : x8_1 < (l0.length : Int)
     ·rw [if_pos c5] at H
      have c5b0 : decide (x8_1 < (l0.length : Int)) = true := decide_eq_true c5
      clear c5
      by_cases c6 : a1 = (rd l0 x8_1)
      ·rw [if_pos c6] at H
       have c6b0 : (a1 == (rd l0 x8_1)) = true := beq_iff_eq.mpr c6
       have c6b1 : (a1 != (rd l0 x8_1)) = false := bne_eq_false_iff_eq.mpr c6
       clear c6
       obtain rfl := Option.some.inj H
       have p173 : 0 ≤ (x8_1 : Int) := od_
       have q173 : x8_1 < (l0.length : Int) := od_
       obtain ⟨ad173,e173,hx173_0⟩ := Kd.at_int HR0.out x8_1 p173 q173
       cases e173
       replace p173 := eq_true p173
       replace q173 := eq_true q173
       go_wp2
       go_ret
       exact ⟨rs_,by repeat (first|exact Drawn0.refl _|apply Drawn0.step)⟩
      ·rw [if_neg c6] at H
       have c6b0 : (a1 == (rd l0 x8_1)) = false := beq_eq_false_iff_ne.mpr c6
       have c6b1 : (a1 != (rd l0 x8_1)) = true := bne_iff_ne.mpr c6
       have H' := Aside0.mk H
       clear H
       have p173 : 0 ≤ (x8_1 : Int) := od_
       have q173 : x8_1 < (l0.length : Int) := od_
       obtain ⟨ad173,e173,hx173_0⟩ := Kd.at_int HR0.out x8_1 p173 q173
       cases e173
       replace p173 := eq_true p173
       replace q173 := eq_true q173
       go_wp2
       go_roundg k1
       case measure => have := HK1.out;omega
       case rel => exact ⟨(wrap64 (x8_1 + 1)),rs_,H',⟨by have := HK1.out;omega⟩,by repeat (first|exact Drawn0.refl _|apply Drawn0.step)⟩
     ·rw [if_neg c5] at H
      exact absurd H (by simp)
    ·rw [if_neg c4] at H
     exact absurd H (by simp)
   ·rw [if_neg c3] at H
    have c3b0 : decide (x8_1 < (l0.length : Int)) = false := decide_eq_false c3
    clear c3
    obtain rfl := Option.some.inj H
    go_wp2
    go_ret
    exact ⟨rs_,by repeat (first|exact Drawn0.refl _|apply Drawn0.step)⟩

/-! ### slices_Contains_int64_int64: function 108 -/
def slices_Contains_int64_int64.f (k : Nat) (l0 : List Int) (a1 : Int) : Option (Bool) := (slices_Index_int64_int64.f k l0 a1).bind fun t174 => (some (decide (t174 ≥ 0)))

set_option maxHeartbeats 8000000 in
set_option maxRecDepth 100000 in
theorem slices_Contains_int64_int64.calls (k : Nat) (A0 : Option Addr) (c0 : Nat) (l0 : List Int) (a1 : Int) (r : Bool) (w : World) (hr0 : Kd.C (Kd.int .i64) w A0 l0.length l0) (hc0 : l0.length ≤ c0) (h : slices_Contains_int64_int64.f k l0 a1 = some r) :
    Calls Try.prog 108 #[.slice A0 l0.length c0, .int .i64 a1] w fun e w' => e = .returned (.bool r) ∧ Drawn0 w w' := by
 have HR0 := Aside0.mk hr0
 have HC0 := Aside0.mk hc0
 clear hr0 hc0
 have H : ((slices_Index_int64_int64.f k l0 a1).bind fun t174 => (some (decide (t174 ≥ 0)))) = some r := h
 clear h
 replace H := bs_ H
 obtain ⟨t174,A3,H⟩ := H
 obtain rfl := Option.some.inj H
 go_enter Try.func108,Try.ntmps108
 go_wp2_with (first|((with_reducible refine gcal_ (f := 128) rfl ?_);refine gl_ (some 7) Try.func128 #[.slice A0 l0.length c0,.int .i64 a1] ?_;(with_reducible refine (slices_Index_int64_int64.calls k _ _ l0 a1 t174 _ ?side1 ?side2 A3.out).mono ?_);(case side1 => repeat (first|exact HR0.out|(with_reducible refine Kd.C_alloc ?_ _)|(with_reducible refine Kd.C_drewN ?_ _)|(with_reducible refine Kd.C_drew ?_)));(case side2 => exact HC0.out);rintro e w' ⟨rfl,⟨nd,rfl⟩⟩;refine ⟨_,rfl,?_⟩))
 go_ret
 exact ⟨rs_,by repeat (first|exact Drawn0.refl _|apply Drawn0.step)⟩

/-! ### impl_size_int64: function 122 -/
def impl_size_int64.f (l0 : List Int) : Option (Int) := some (l0.length : Int)
set_option maxHeartbeats 8000000 in
set_option maxRecDepth 100000 in
theorem impl_size_int64.calls (A0 : Option Addr) (c0 : Nat) (l0 : List Int) (r : Int) (w : World) (hr0 : Kd.C (Kd.int .i64) w A0 l0.length l0) (hc0 : l0.length ≤ c0) (h : impl_size_int64.f l0 = some r) :
    Calls Try.prog 122 #[.slice A0 l0.length c0] w fun e w' => e = .returned (.int .i64 r) ∧ Drawn0 w w' := by
 have HR0 := Aside0.mk hr0
 have HC0 := Aside0.mk hc0
 clear hr0 hc0
 have H : (some (l0.length : Int)) = some r := h
 clear h
 obtain rfl := Option.some.inj H
 go_enter Try.func122,Try.ntmps122
 go_wp2
 go_ret
 exact ⟨rs_,by repeat (first|exact Drawn0.refl _|apply Drawn0.step)⟩

/-! ### impl_isMachine: function 123 -/
def impl_isMachine.f (a0 : Int) : Option (Bool) := (impl_within.f a0 0 7).bind fun t175 => (some t175)
set_option maxHeartbeats 8000000 in
set_option maxRecDepth 100000 in
theorem impl_isMachine.calls (a0 : Int) (r : Bool) (w : World) (h : impl_isMachine.f a0 = some r) :
    Calls Try.prog 123 #[.int .i64 a0] w fun e w' => e = .returned (.bool r) ∧ Drawn0 w w' := by
 have H : ((impl_within.f a0 0 7).bind fun t175 => (some t175)) = some r := h
 clear h
 replace H := bs_ H
 obtain ⟨t175,A2,H⟩ := H
 obtain rfl := Option.some.inj H
 go_enter Try.func123,Try.ntmps123
 go_wp2_with (first|((with_reducible refine gcal_ (f := 100) rfl ?_);refine gl_ (some 4) Try.func100 #[.int .i64 a0,.int .i64 0,.int .i64 7] ?_;(with_reducible refine (impl_within.calls a0 0 7 t175 _ A2.out).mono ?_);rintro e w' ⟨rfl,⟨nd,rfl⟩⟩;refine ⟨_,rfl,?_⟩))
 go_ret
 exact ⟨rs_,by repeat (first|exact Drawn0.refl _|apply Drawn0.step)⟩

/-! ### impl_arePlaces: function 95 -/
mutual
def impl_arePlaces.l0 : Nat → List (S84) → List (S84) → Int → Int → Option (Bool)
  | 0, _, _, _, _ => none
  | k + 1, x0, x7, x8, x9 => if x9 < x8 then (if 0 ≤ x9 then (if x9 < (x7.length : Int) then ((impl_size_int64.f ((rd_T84 x7 x9).f0)).bind fun t180 => ((impl_within.f t180 1 3).bind fun t181 => (if t181 = true then (impl_arePlaces.l1 k x0 x7 x8 x9 ((rd_T84 x7 x9).f0) (((rd_T84 x7 x9).f0).length : Int) 0 ((rd_T84 x7 x9).f0)) else (some false)))) else (none)) else (none)) else ((impl_Place.f x0).bind fun t176 => ((impl_within.f t176 1 6).bind fun t177 => (some t177)))
def impl_arePlaces.l1 : Nat → List (S84) → List (S84) → Int → Int → List Int → Int → Int → List Int → Option (Bool)
  | 0, _, _, _, _, _, _, _, _ => none
  | k + 1, x0, x7, x8, x9, x19, x20, x21, x180000 => if x21 < x20 then (if 0 ≤ x21 then (if x21 < (x19.length : Int) then ((impl_isMachine.f (rd x19 x21)).bind fun t183 => (if t183 = true then (if x21 ≤ (x180000.length : Int) then ((slices_Contains_int64_int64.f k (x180000.take (x21 : Int).toNat) (rd x19 x21)).bind fun t185 => (if t185 = true then (some false) else (impl_arePlaces.l1 k x0 x7 x8 x9 x19 x20 (wrap64 (x21 + 1)) x180000))) else (none)) else (some false))) else (none)) else (none)) else (impl_arePlaces.l0 k x0 x7 x8 (wrap64 (x9 + 1)))
end
def impl_arePlaces.f (k : Nat) (l0 : List (S84)) : Option (Bool) := impl_arePlaces.l0 k l0 l0 (l0.length : Int) 0

set_option maxHeartbeats 8000000 in
set_option maxRecDepth 100000 in
theorem impl_arePlaces.calls (k : Nat) (A0 : Option Addr) (c0 : Nat) (l0 : List (S84)) (r : Bool) (w : World) (hr0 : Kd.C k84 w A0 l0.length l0) (hc0 : l0.length ≤ c0) (h : impl_arePlaces.f k l0 = some r) :
    Calls Try.prog 95 #[.slice A0 l0.length c0] w fun e w' => e = .returned (.bool r) ∧ Below w.heap.size w w' := by
 have hu84 := Try.underlying84
 have HR0 := Aside0.mk hr0
 have HC0 := Aside0.mk hc0
 clear hr0 hc0
 have HB := Aside0.mk (Below.refl w.heap.size w)
 have H : (impl_arePlaces.l0 k l0 l0 (l0.length : Int) 0) = some r := h
 clear h
 have H' := Aside0.mk H
 clear H
 go_enter Try.func95,Try.ntmps95
 go_wp2
 go_loopg [9] k (fun kq v9 w' => ∃ (x9_1 : Int),v9 = .int .i64 x9_1 ∧ Aside0 (impl_arePlaces.l0 kq l0 l0 (l0.length : Int) x9_1 = some r) ∧ Aside0 (kq ≤ k) ∧ Aside0 (Below w.heap.size w w'))
 case atStart => exact ⟨(0),rs_,H',⟨Nat.le_refl _⟩,⟨b_⟩⟩
 case round =>
  clear H'
  obtain ⟨x9_1,rfl,HA,HK1,HB⟩ := hrel
  cases gk with
    | zero => exact absurd HA.out (by simp [impl_arePlaces.l0])
    | succ k1 =>
   have H := HA.out
   clear HA
   simp only [impl_arePlaces.l0] at H
   by_cases c2 : x9_1 < (l0.length : Int)
   ·rw [if_pos c2] at H
    have c2b0 : decide (x9_1 < (l0.length : Int)) = true := decide_eq_true c2
    clear c2
    by_cases c3 : 0 ≤ x9_1
    ·rw [if_pos c3] at H
     have c3b0 : decide (0 ≤ x9_1) = true := decide_eq_true c3
     clear c3
     by_cases c4 : x9_1 < (l0.length : Int)
     ·rw [if_pos c4] at H
      have c4b0 : decide (x9_1 < (l0.length : Int)) = true := decide_eq_true c4
      clear c4
      replace H := bs_ H
      obtain ⟨t180,A5,H⟩ := H
      replace H := bs_ H
      obtain ⟨t181,A6,H⟩ := H
      by_cases c7 : t181 = true
      ·subst c7
       replace H := it_ H
       have H' := Aside0.mk H
       clear H
       have p178 : 0 ≤ (x9_1 : Int) := od_
       have q178 : x9_1 < (l0.length : Int) := od_
       obtain ⟨ad178,A178_0,c178_0,e178,hx178_0,hl178_0,hi178_0⟩ := at_T84 HR0.out x9_1 p178 q178
       cases e178
       replace hx178_0 := hx_ HB hx178_0
       have HR178_0 := Aside0.mk hi178_0
       have HC178_0 := Aside0.mk hl178_0
       clear hi178_0 hl178_0
       replace p178 := eq_true p178
       replace q178 := eq_true q178
       go_wp2_with (first|((with_reducible refine gate_dst (N := 4) rfl ?_);refine bx_ 4 #[.slice none 0 0] 84 ?_;intro gb179 hg w8 hbox hb;replace HB := nb_ hg hbox hb;obtain ⟨BK179,GW179,GE179,HB⟩ := HB;clear hb hbox hg;have hcz9_0 : w8.cell? ⟨gb179,0,none⟩ = some (.slice none 0 0) := (blk_cell BK179.out 0).trans rfl;have hfz9_0 := blk_frozen BK179.out 0)|((with_reducible refine gcal_ (f := 122) rfl ?_);refine gl_ (some 15) Try.func122 #[.slice A178_0 ((rd_T84 l0 x9_1).f0).length c178_0] ?_;(with_reducible refine (impl_size_int64.calls _ _ ((rd_T84 l0 x9_1).f0) t180 _ ?side1 ?side2 A5.out).mono ?_);(case side1 => exact Kd.C_below HR178_0.out b_);(case side2 => exact HC178_0.out);rintro e w' ⟨rfl,⟨nd,rfl⟩⟩;refine ⟨_,rfl,?_⟩)|((with_reducible refine gcal_ (f := 100) rfl ?_);refine gl_ (some 16) Try.func100 #[.int .i64 t180,.int .i64 1,.int .i64 3] ?_;(with_reducible refine (impl_within.calls t180 1 3 true _ A6.out).mono ?_);rintro e w' ⟨rfl,⟨nd,rfl⟩⟩;refine ⟨_,rfl,?_⟩))
       go_loopg [21] k1 (fun kq v21 w' => ∃ (x21_2 : Int),v21 = .int .i64 x21_2 ∧ Aside0 (impl_arePlaces.l1 kq l0 l0 (l0.length : Int) x9_1 ((rd_T84 l0 x9_1).f0) (((rd_T84 l0 x9_1).f0).length : Int) x21_2 ((rd_T84 l0 x9_1).f0) = some r) ∧ Aside0 (kq ≤ k1) ∧ Aside0 (w'.heap[gb179]? = some (.cells #[(.slice A178_0 ((rd_T84 l0 x9_1).f0).length c178_0)] 84 (0,0))) ∧ Aside0 (Below w.heap.size w w'))
       case atStart => exact ⟨(0),rs_,H',⟨Nat.le_refl _⟩,⟨by (with_reducible repeat (first|refine blk_drewN ?_ _|refine blk_drew ?_|refine blk_alloc ?_ _));refine blk_put (cs := #[.slice none 0 0]) ?_ 0 _ rfl;(with_reducible repeat (first|refine blk_drewN ?_ _|refine blk_drew ?_|refine blk_alloc ?_ _));exact BK179.out⟩,⟨b_⟩⟩
       case round =>
        clear H'
        try clear c1
        try clear p1
        try clear q1
        try clear hx1
        try clear c2
        try clear c2b0
        try clear p2
        try clear c3
        try clear c3b0
        try clear c4
        try clear c4b0
        try clear c7
        try clear c9
        try clear hcz9_0
        try clear hfz9_0
        try clear hx178_0
        try clear p178
        try clear q178
        obtain ⟨x21_2,rfl,HA,HK2,BK179,HB⟩ := hrel
        cases gk with
        | zero => exact absurd HA.out (by simp [impl_arePlaces.l1])
        | succ k2 =>
         have H := HA.out
         clear HA
         simp only [impl_arePlaces.l1] at H
         by_cases c10 : x21_2 < (((rd_T84 l0 x9_1).f0).length : Int)
         ·rw [if_pos c10] at H
          have c10b0 : decide (x21_2 < (((rd_T84 l0 x9_1).f0).length : Int)) = true := decide_eq_true c10
          clear c10
          by_cases c11 : 0 ≤ x21_2
          ·rw [if_pos c11] at H
           have c11b0 : decide (0 ≤ x21_2) = true := decide_eq_true c11
           clear c11
           by_cases c12 : x21_2 < (((rd_T84 l0 x9_1).f0).length : Int)
           ·rw [if_pos c12] at H
            have c12b0 : decide (x21_2 < (((rd_T84 l0 x9_1).f0).length : Int)) = true := decide_eq_true c12
            clear c12
            replace H := bs_ H
            obtain ⟨t183,A13,H⟩ := H
            by_cases c14 : t183 = true
            ·subst c14
             replace H := it_ H
             have c15b0 := eq_true (od_ : 0 ≤ x21_2)
             by_cases c16 : x21_2 ≤ (((rd_T84 l0 x9_1).f0).length : Int)
             ·rw [if_pos c16] at H
              have c16b0 := eq_true c16
              have c16b1 : decide (x21_2 ≤ (((rd_T84 l0 x9_1).f0).length : Int)) = true := decide_eq_true c16
              clear c16
              replace H := bs_ H
              obtain ⟨t185,A17,H⟩ := H
              by_cases c18 : t185 = true
              ·subst c18
               replace H := it_ H
               obtain rfl := Option.some.inj H
               have p182 : 0 ≤ (x21_2 : Int) := od_
               have q182 : x21_2 < (((rd_T84 l0 x9_1).f0).length : Int) := od_
               obtain ⟨ad182,e182,hx182_0⟩ := Kd.at_int HR178_0.out x21_2 p182 q182
               cases e182
               replace hx182_0 := hx_ HB hx182_0
               replace p182 := eq_true p182
               replace q182 := eq_true q182
               go_wp2_with (first|((with_reducible refine gcal_ (f := 123) rfl ?_);refine gl_ (some 27) Try.func123 #[.int .i64 (rd ((rd_T84 l0 x9_1).f0) x21_2)] ?_;(with_reducible refine (impl_isMachine.calls (rd ((rd_T84 l0 x9_1).f0) x21_2) true _ A13.out).mono ?_);rintro e w' ⟨rfl,⟨nd,rfl⟩⟩;refine ⟨_,rfl,?_⟩;have hcz19_0 : wr.cell? ⟨gb179,0,none⟩ = some (.slice (some ad182) ((rd_T84 l0 x9_1).f0).length c178_0) := (blk_cell BK179.out 0).trans rfl;have hfz19_0 := blk_frozen BK179.out 0;obtain ⟨i020,hi020,_,hsz20,_⟩ := info_parts info2;obtain ⟨hcut20,hA20,hC20⟩ := print_take_of (P := Try.prog) (Value.int .i64) 0 35 2 .i64 Try.underlying35 hi020 hsz20 (some ad182) c178_0 ((rd_T84 l0 x9_1).f0) x21_2 (od_) (od_) HC178_0.out;have HR184 := Aside0.mk (Kd.C_of_reads (h1 := fun _ => rfl) (hA20 _ (Kd.reads_of_C HR178_0.out)));have HC184 := Aside0.mk hC20;clear hA20 hC20 hi020 hsz20)|(go_at_call 108;(with_reducible refine calls_arr ?eqa2 ((slices_Contains_int64_int64.calls k2 ?kA2 ?kc2 (((rd_T84 l0 x9_1).f0).take (x21_2 : Int).toNat) (rd ((rd_T84 l0 x9_1).f0) x21_2) true _ ?side1 ?side2 A17.out).mono ?_));(case eqa2 => (have h0_ : (0 : Int) ≤ x21_2 := (by first|exact of_decide_eq_true (by assumption)|exact of_eq_true (by assumption));have h1_ : (x21_2 : Int) ≤ (((rd_T84 l0 x9_1).f0).length : Int) := (by first|exact of_decide_eq_true (by assumption)|exact of_eq_true (by assumption));rw [List.length_take,Nat.min_eq_left (by omega)]));(case side1 => exact cb_ HR184);(case side2 => exact HC184.out);rintro e w' ⟨rfl,⟨nd,rfl⟩⟩))
               go_ret
               exact ⟨rf_,b_⟩
              ·replace c18 := Bool.eq_false_iff.mpr c18
               subst c18
               replace H := ie_ H
               have H' := Aside0.mk H
               clear H
               have p182 : 0 ≤ (x21_2 : Int) := od_
               have q182 : x21_2 < (((rd_T84 l0 x9_1).f0).length : Int) := od_
               obtain ⟨ad182,e182,hx182_0⟩ := Kd.at_int HR178_0.out x21_2 p182 q182
               cases e182
               replace hx182_0 := hx_ HB hx182_0
               replace p182 := eq_true p182
               replace q182 := eq_true q182
               go_wp2_with (first|((with_reducible refine gcal_ (f := 123) rfl ?_);refine gl_ (some 27) Try.func123 #[.int .i64 (rd ((rd_T84 l0 x9_1).f0) x21_2)] ?_;(with_reducible refine (impl_isMachine.calls (rd ((rd_T84 l0 x9_1).f0) x21_2) true _ A13.out).mono ?_);rintro e w' ⟨rfl,⟨nd,rfl⟩⟩;refine ⟨_,rfl,?_⟩;have hcz21_0 : wr.cell? ⟨gb179,0,none⟩ = some (.slice (some ad182) ((rd_T84 l0 x9_1).f0).length c178_0) := (blk_cell BK179.out 0).trans rfl;have hfz21_0 := blk_frozen BK179.out 0;obtain ⟨i022,hi022,_,hsz22,_⟩ := info_parts info2;obtain ⟨hcut22,hA22,hC22⟩ := print_take_of (P := Try.prog) (Value.int .i64) 0 35 2 .i64 Try.underlying35 hi022 hsz22 (some ad182) c178_0 ((rd_T84 l0 x9_1).f0) x21_2 (od_) (od_) HC178_0.out;have HR184 := Aside0.mk (Kd.C_of_reads (h1 := fun _ => rfl) (hA22 _ (Kd.reads_of_C HR178_0.out)));have HC184 := Aside0.mk hC22;clear hA22 hC22 hi022 hsz22)|(go_at_call 108;(with_reducible refine calls_arr ?eqa3 ((slices_Contains_int64_int64.calls k2 ?kA3 ?kc3 (((rd_T84 l0 x9_1).f0).take (x21_2 : Int).toNat) (rd ((rd_T84 l0 x9_1).f0) x21_2) false _ ?side1 ?side2 A17.out).mono ?_));(case eqa3 => (have h0_ : (0 : Int) ≤ x21_2 := (by first|exact of_decide_eq_true (by assumption)|exact of_eq_true (by assumption));have h1_ : (x21_2 : Int) ≤ (((rd_T84 l0 x9_1).f0).length : Int) := (by first|exact of_decide_eq_true (by assumption)|exact of_eq_true (by assumption));rw [List.length_take,Nat.min_eq_left (by omega)]));(case side1 => exact cb_ HR184);(case side2 => exact HC184.out);rintro e w' ⟨rfl,⟨nd,rfl⟩⟩))
               go_roundg k2
               case measure => have := HK1.out;have := HK2.out;omega
               case rel => exact ⟨(wrap64 (x21_2 + 1)),rs_,H',⟨by have := HK1.out;have := HK2.out;omega⟩,⟨kb_ BK179⟩,⟨b_⟩⟩
             ·rw [if_neg c16] at H
              exact absurd H (by simp)
            ·replace c14 := Bool.eq_false_iff.mpr c14
             subst c14
             replace H := ie_ H
             obtain rfl := Option.some.inj H
             have p182 : 0 ≤ (x21_2 : Int) := od_
             have q182 : x21_2 < (((rd_T84 l0 x9_1).f0).length : Int) := od_
             obtain ⟨ad182,e182,hx182_0⟩ := Kd.at_int HR178_0.out x21_2 p182 q182
             cases e182
             replace hx182_0 := hx_ HB hx182_0
             replace p182 := eq_true p182
             replace q182 := eq_true q182
             go_wp2_with (first|((with_reducible refine gcal_ (f := 123) rfl ?_);refine gl_ (some 27) Try.func123 #[.int .i64 (rd ((rd_T84 l0 x9_1).f0) x21_2)] ?_;(with_reducible refine (impl_isMachine.calls (rd ((rd_T84 l0 x9_1).f0) x21_2) false _ A13.out).mono ?_);rintro e w' ⟨rfl,⟨nd,rfl⟩⟩;refine ⟨_,rfl,?_⟩))
             go_ret
             exact ⟨rf_,b_⟩
           ·rw [if_neg c12] at H
            exact absurd H (by simp)
          ·rw [if_neg c11] at H
           exact absurd H (by simp)
         ·rw [if_neg c10] at H
          have c10b0 : decide (x21_2 < (((rd_T84 l0 x9_1).f0).length : Int)) = false := decide_eq_false c10
          clear c10
          have H' := Aside0.mk H
          clear H
          go_wp2
          go_roundg k2
          case measure => have := HK1.out;have := HK2.out;omega
          case rel => exact ⟨(wrap64 (x9_1 + 1)),rs_,H',⟨by have := HK1.out;have := HK2.out;omega⟩,⟨b_⟩⟩
      ·replace c7 := Bool.eq_false_iff.mpr c7
       subst c7
       replace H := ie_ H
       obtain rfl := Option.some.inj H
       have p178 : 0 ≤ (x9_1 : Int) := od_
       have q178 : x9_1 < (l0.length : Int) := od_
       obtain ⟨ad178,A178_0,c178_0,e178,hx178_0,hl178_0,hi178_0⟩ := at_T84 HR0.out x9_1 p178 q178
       cases e178
       replace hx178_0 := hx_ HB hx178_0
       have HR178_0 := Aside0.mk hi178_0
       have HC178_0 := Aside0.mk hl178_0
       clear hi178_0 hl178_0
       replace p178 := eq_true p178
       replace q178 := eq_true q178
       go_wp2_with (first|((with_reducible refine gate_dst (N := 4) rfl ?_);refine bx_ 4 #[.slice none 0 0] 84 ?_;intro gb179 hg w23 hbox hb;replace HB := nb_ hg hbox hb;obtain ⟨BK179,GW179,GE179,HB⟩ := HB;clear hb hbox hg;have hcz24_0 : w23.cell? ⟨gb179,0,none⟩ = some (.slice none 0 0) := (blk_cell BK179.out 0).trans rfl;have hfz24_0 := blk_frozen BK179.out 0)|((with_reducible refine gcal_ (f := 122) rfl ?_);refine gl_ (some 15) Try.func122 #[.slice A178_0 ((rd_T84 l0 x9_1).f0).length c178_0] ?_;(with_reducible refine (impl_size_int64.calls _ _ ((rd_T84 l0 x9_1).f0) t180 _ ?side1 ?side2 A5.out).mono ?_);(case side1 => exact Kd.C_below HR178_0.out b_);(case side2 => exact HC178_0.out);rintro e w' ⟨rfl,⟨nd,rfl⟩⟩;refine ⟨_,rfl,?_⟩)|((with_reducible refine gcal_ (f := 100) rfl ?_);refine gl_ (some 16) Try.func100 #[.int .i64 t180,.int .i64 1,.int .i64 3] ?_;(with_reducible refine (impl_within.calls t180 1 3 false _ A6.out).mono ?_);rintro e w' ⟨rfl,⟨nd,rfl⟩⟩;refine ⟨_,rfl,?_⟩))
       go_ret
       exact ⟨rf_,b_⟩
     ·rw [if_neg c4] at H
      exact absurd H (by simp)
    ·rw [if_neg c3] at H
     exact absurd H (by simp)
   ·rw [if_neg c2] at H
    have c2b0 : decide (x9_1 < (l0.length : Int)) = false := decide_eq_false c2
    clear c2
    replace H := bs_ H
    obtain ⟨t176,A25,H⟩ := H
    replace H := bs_ H
    obtain ⟨t177,A26,H⟩ := H
    obtain rfl := Option.some.inj H
    go_wp2_with (first|((with_reducible refine gcal_ (f := 103) rfl ?_);refine gl_ (some 40) Try.func103 #[.slice A0 l0.length c0] ?_;(with_reducible refine (impl_Place.calls _ _ l0 t176 _ ?side1 ?side2 A25.out).mono ?_);(case side1 => exact cb_ HR0);(case side2 => exact HC0.out);rintro e w' ⟨rfl,⟨nd,rfl⟩⟩;refine ⟨_,rfl,?_⟩)|((with_reducible refine gcal_ (f := 100) rfl ?_);refine gl_ (some 41) Try.func100 #[.int .i64 t176,.int .i64 1,.int .i64 6] ?_;(with_reducible refine (impl_within.calls t176 1 6 t177 _ A26.out).mono ?_);rintro e w' ⟨rfl,⟨nd,rfl⟩⟩;refine ⟨_,rfl,?_⟩))
    go_ret
    exact ⟨rf_,b_⟩

/-! ### slices_Clone_int64_int64: function 104 -/
def slices_Clone_int64_int64.f (l0 : List Int) : Option (List Int) := (some (([] : List Int) : List Int)).bind fun y186 => (if y186.length + l0.length < 17592186044416 then (some (y186 ++ l0)) else (none))
set_option maxHeartbeats 8000000 in
set_option maxRecDepth 100000 in
theorem slices_Clone_int64_int64.calls (A0 : Option Addr) (c0 : Nat) (l0 : List Int) (r : List Int) (w : World) (hr0 : Kd.C (Kd.int .i64) w A0 l0.length l0) (hc0 : l0.length ≤ c0) (h : slices_Clone_int64_int64.f l0 = some r) :
    Calls Try.prog 104 #[.slice A0 l0.length c0] w fun e w' => ∃ v0_ : Value, e = .returned (v0_) ∧ Kd.R (Kd.int .i64) 2 w' w.heap.size (fun _ => True) v0_ r ∧ Below w.heap.size w w' := by
 cases A0 with
  | none =>
  have hnil := fun (W : World) => Go.Lib.run_eql_slice_nil (P := Try.prog) W 35 2 none l0.length c0 0 0 Try.underlying35
  simp only [Option.isNone_none] at hnil
  have hl : l0 = [] := by
   rcases Nat.eq_zero_or_pos l0.length with h1 | h1
   ·exact List.length_eq_zero_iff.1 h1
   ·obtain ⟨_,e,_⟩ := hr0.2.2 h1
    cases e
  have hr : r = [] := by
   subst hl
   have h2 : some ([] : List _) = some r := by rw [← h];simp [slices_Clone_int64_int64.f]
   exact (Option.some.inj h2).symm
  subst hr
  clear h hr0
  subst hl
  simp only [List.length_nil] at hnil
  go_enter Try.func104,Try.ntmps104
  go_wp2
  go_ret
  exact ⟨_,rfl,Kd.R_nil _ _ _ _ _,Below.refl _ _⟩
  | some ad0 =>
  have hnil := fun (W : World) => Go.Lib.run_eql_slice_nil (P := Try.prog) W 35 2 (some ad0) l0.length c0 0 0 Try.underlying35
  simp only [Option.isNone_some] at hnil
  have HR0 := Aside0.mk hr0
  have HC0 := Aside0.mk hc0
  clear hr0 hc0
  have HB := Aside0.mk (Below.refl w.heap.size w)
  have H : ((some (([] : List Int) : List Int)).bind fun y186 => (if y186.length + l0.length < 17592186044416 then (some (y186 ++ l0)) else (none))) = some r := h
  clear h
  obtain ⟨y186,hy186⟩ : ∃ y_ : List Int,y_ = (([] : List Int)) := ⟨_,rfl⟩
  replace H : (if y186.length + l0.length < 17592186044416 then (some (y186 ++ l0)) else (none)) = some r := by first|(rw [hy186];with_reducible exact H)|(have H2_ := (Option.bind_some _ _).symm.trans H;rw [hy186];with_reducible exact H2_)|(have H2_ := (Option.bind_some _ _).symm.trans H;with_reducible exact H2_)|with_reducible exact H|(rw [hy186];exact H)|exact H
  have Ny186 := Aside0.mk hy186
  clear hy186
  by_cases c2 : y186.length + l0.length < 17592186044416
  ·rw [if_pos c2] at H
   have LMc2 := Aside0.mk c2
   clear c2
   obtain ⟨y189,hy189⟩ : ∃ y_ : List Int,y_ = (y186 ++ l0) := ⟨_,rfl⟩
   replace H : (some y189) = some r := by first|(rw [hy189];with_reducible exact H)|(have H2_ := (Option.bind_some _ _).symm.trans H;rw [hy189];with_reducible exact H2_)|(have H2_ := (Option.bind_some _ _).symm.trans H;with_reducible exact H2_)|with_reducible exact H|(rw [hy189];exact H)|exact H
   have Ny189 := Aside0.mk hy189
   clear hy189
   obtain rfl := Option.some.inj H
   go_enter Try.func104,Try.ntmps104
   go_wp2_with (first|((with_reducible refine gate_dst (N := 5) rfl ?_);refine Kd.R_lit (Kd.int .i64) _ 2 ?hg (N := 5) ?hd (xs := ([] : List Int)) (inner := []) (ok := fun _ => True) (okp := fun _ => True) ?hr ?hp (fun _ hk => hk) trivial (Below.refl _ _) (Nat.le_refl _) (by simp) ?_;(case hd => rfl);(case hg => rfl);(case hr => first|(go_simp;done)|(go_simp;rfl));(case hp => exact (Reps.none _ _));intro v187 w3 ho4 hb hg_ hnew_;clear hg_ hnew_;(first|rw [← Ny186.out] at ho4|(simp only [Int.reduceToNat] at ho4;rw [← Ny186.out] at ho4));have HO188 := Aside0.mk (Kd.R_lower ho4 (below_size b_));replace HB := Aside0.mk (below_step b_ hb);clear hb ho4)|((with_reducible refine gblt_ (b := .append) (xs := #[.tmp 5,.tmp 6]) rfl ?_);at_builtin;refine Kd.R_append_rows (Kd.int .i64) (w0 := w) w.heap.size rfl (.tmp 5) (.tmp 6) 35 2 (.int .i64 0) 8 rfl Try.underlying35 info2 rfl (by decide) (by omega) v187 y186 l0 _ _ _ (fun _ => True) (fun _ => False) rfl rfl ?aO ?aR (fun _ _ h => h) (fun _ h => h.elim) ?aF ?aB ?aS ?aL ?_;(case aR => repeat (first|exact (Kd.C_below HR0.out HB.out)|(with_reducible refine Kd.C_alloc ?_ _)|(with_reducible refine Kd.C_drewN ?_ _)|(with_reducible refine Kd.C_drew ?_)));(case aB => exact b_);(case aF => exact (fun _ _ => trivial));(case aO => exact (by (with_reducible repeat (first|apply Kd.R_alloc|apply Kd.R_drewN|apply Kd.R_drew));exact HO188.out));(case aS => exact (below_size b_));(case aL => have := LMc2.out;omega);intro v190 w5 ho hb hg hat;rw [← Ny189.out] at ho;replace HB := Aside0.mk (hb);have HO191 := Aside0.mk (ho);clear HO188;clear ho hb hg hat))
   go_ret
   exact ⟨_,rf_,by (with_reducible repeat (first|apply Kd.R_alloc|apply Kd.R_drewN|apply Kd.R_drew));exact HO191.out,b_⟩
  ·rw [if_neg c2] at H
   exact absurd H (by simp)

/-! ### impl_size_bool: function 125 -/
def impl_size_bool.f (l0 : List Bool) : Option (Int) := some (l0.length : Int)
set_option maxHeartbeats 8000000 in
set_option maxRecDepth 100000 in
theorem impl_size_bool.calls (A0 : Option Addr) (c0 : Nat) (l0 : List Bool) (r : Int) (w : World) (hr0 : Kd.C Kd.bool w A0 l0.length l0) (hc0 : l0.length ≤ c0) (h : impl_size_bool.f l0 = some r) :
    Calls Try.prog 125 #[.slice A0 l0.length c0] w fun e w' => e = .returned (.int .i64 r) ∧ Drawn0 w w' := by
 have HR0 := Aside0.mk hr0
 have HC0 := Aside0.mk hc0
 clear hr0 hc0
 have H : (some (l0.length : Int)) = some r := h
 clear h
 obtain rfl := Option.some.inj H
 go_enter Try.func125,Try.ntmps125
 go_wp2
 go_ret
 exact ⟨rs_,by repeat (first|exact Drawn0.refl _|apply Drawn0.step)⟩

/-! ### impl_remap_1: function 124 -/
def impl_remap_1.f (a0 : Int) (l1 : List Bool) : Option (Bool) := if a0 < (l1.length : Int) then (if 0 ≤ a0 then (some (rdOf false l1 a0)) else (none)) else (some false)
set_option maxHeartbeats 8000000 in
set_option maxRecDepth 100000 in
theorem impl_remap_1.calls (a0 : Int) (g : Nat) (A1 : Option Addr) (c1 : Nat) (l1 : List Bool) (r : Bool) (w : World) (hg0 : w.cell? ⟨g, 0, none⟩ = some (.slice A1 l1.length c1)) (hr1 : Kd.C Kd.bool w A1 l1.length l1) (hc1 : l1.length ≤ c1) (h : impl_remap_1.f a0 l1 = some r) :
    Calls Try.prog 124 #[.int .i64 a0, .pointer (some ⟨g, 0, none⟩)] w fun e w' => e = .returned (.bool r) ∧ Below w.heap.size w w' := by
 have HR := Aside0.mk hr1
 have HC := Aside0.mk hc1
 clear hr1 hc1
 have H : (if a0 < (l1.length : Int) then (if 0 ≤ a0 then (some (rdOf false l1 a0)) else (none)) else (some false)) = some r := h
 clear h
 by_cases c3 : a0 < (l1.length : Int)
 ·rw [if_pos c3] at H
  have c3b0 : decide (a0 < (l1.length : Int)) = true := decide_eq_true c3
  by_cases c4 : 0 ≤ a0
  ·rw [if_pos c4] at H
   have c4b0 : decide (0 ≤ a0) = true := decide_eq_true c4
   obtain rfl := Option.some.inj H
   obtain ⟨ad1,e1,hx1_0⟩ := Kd.at_bool HR.out a0 c4 c3
   cases e1
   have p1 := eq_true c4
   have q1 := eq_true c3
   clear c3 c4
   go_enter Try.func124,Try.ntmps124
   go_wp2_with ((with_reducible refine gcal_ (f := 125) rfl ?_);refine goesL_ (some 6) rfl rfl Try.func125 (by kernel_rfl) rfl #[.slice (some ad1) l1.length c1] rfl (by (try simp only [List.map_toArray,List.map_cons,List.map_nil]);first|done|rfl) ?_;refine (impl_size_bool.calls (some ad1) c1 l1 (l1.length : Int) _ HR.out HC.out rfl).mono ?_;rintro e w' ⟨rfl,⟨nd,rfl⟩⟩;refine ⟨_,rfl,?_⟩)
   go_ret
   exact ⟨rs_,by (repeat (first|exact Below.refl _ _|apply pw_below_drewN|apply below_drew1))⟩
  ·rw [if_neg c4] at H
   cases H
 ·rw [if_neg c3] at H
  have c3b0 : decide (a0 < (l1.length : Int)) = false := decide_eq_false c3
  clear c3
  obtain rfl := Option.some.inj H
  go_enter Try.func124,Try.ntmps124
  go_wp2_with ((with_reducible refine gcal_ (f := 125) rfl ?_);refine goesL_ (some 6) rfl rfl Try.func125 (by kernel_rfl) rfl #[.slice A1 l1.length c1] rfl (by (try simp only [List.map_toArray,List.map_cons,List.map_nil]);first|done|rfl) ?_;refine (impl_size_bool.calls A1 c1 l1 (l1.length : Int) _ HR.out HC.out rfl).mono ?_;rintro e w' ⟨rfl,⟨nd,rfl⟩⟩;refine ⟨_,rfl,?_⟩)
  go_ret
  exact ⟨rs_,by (repeat (first|exact Below.refl _ _|apply pw_below_drewN|apply below_drew1))⟩

end Go.Proofs.Ytgdfbjmjgegicaa.XPs
