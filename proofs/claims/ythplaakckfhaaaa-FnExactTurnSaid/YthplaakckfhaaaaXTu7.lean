/- Proved: of each Go function here that a call comes to what the Lean function of its name tells. Written by a program of this session over the translation. No conditions beyond each theorem's own. -/
import Derived.Test.YthplaakckfhaaaaXTu0
import Derived.Test.YthplaakckfhaaaaXTu6
namespace Go.Proofs.Ythplaakckfhaaaa.XTu
open Go.RowKit Go.Proofs.Ythplaakckfhaaaa.Aid Go.Proofs.YthplaakckfhaaaaW.PrintWords Go.Proofs.YthplaakckfhaaaaW.PrintLast Go.Proofs.YthplaakckfhaaaaW.PrintMore
set_option linter.unusedVariables false
set_option linter.unusedSimpArgs false

/-! ### spec_l6Rises: function 46 -/
def spec_l6Rises.l0 : Nat → List Int → Int → Option (Bool)
  | 0, _, _ => none
  | k + 1, x0, x3 => if x3 < (x0.length : Int) then (if 0 ≤ x3 then ((spec_l1Id.f (rd x0 x3)).bind fun t244 => (if t244 = true then (if x3 > 0 then (if 0 ≤ (wrap64 (x3 - 1)) then (if (wrap64 (x3 - 1)) < (x0.length : Int) then (if (rd x0 x3) ≤ (rd x0 (wrap64 (x3 - 1))) then (some false) else (spec_l6Rises.l0 k x0 (wrap64 (x3 + 1)))) else (none)) else (none)) else (spec_l6Rises.l0 k x0 (wrap64 (x3 + 1)))) else (some false))) else (none)) else (some true)
def spec_l6Rises.f (k : Nat) (l0 : List Int) : Option (Bool) := spec_l6Rises.l0 k l0 0

def spec_l6Rises.T4 : Bool × List (List Nat × List Nat) := (true, [([], []), ([], []), ([0, 1], [0, 1]), ([2], [2]), ([3], [3]), ([4], [4]), ([5, 4], [5]), ([6], [6]), ([7, 6], [6, 7]), ([8, 6, 6], [6, 8]), ([9], [9]), ([9], [9]), ([10, 11, 9], [9, 10, 11]), ([12, 9], [9, 12]), ([9], [9]), ([9], [9]), ([15, 9], [9, 15]), ([14, 16, 9], [9, 14, 16]), ([17, 9], [9, 17]), ([13, 18, 9], [9, 13, 18]), ([9, 19, 6], [6, 9, 19]), ([6, 20], [6, 20])])
def spec_l6Rises.B4 : List Nat := [0, 0, 3, 7, 15, 31, 63, 127, 255, 511, 1023, 1023, 4095, 8191, 1023, 1023, 33791, 115711, 246783, 524287, 1048575, 2097151]
theorem spec_l6Rises.tab4 : rtab .any (opsOf Try.f46 4) = spec_l6Rises.T4 := by kernel_rfl
theorem spec_l6Rises.bits4 : waitsOk spec_l6Rises.T4.2 spec_l6Rises.B4 = true := by kernel_rfl
set_option maxHeartbeats 8000000 in
set_option maxRecDepth 100000 in
theorem spec_l6Rises.calls (k : Nat) (A0 : Option Addr) (c0 : Nat) (l0 : List Int) (r : Bool) (w : World) (hr0 : Kd.C (Kd.int .i64) w A0 l0.length l0) (hc0 : l0.length ≤ c0) (h : spec_l6Rises.f k l0 = some r) :
    Calls Try.prog 46 #[.slice A0 l0.length c0] w fun e w' => e = .returned (.bool r) ∧ Below w.heap.size w w' := by
 have HR0 := Aside0.mk hr0
 have HC0 := Aside0.mk hc0
 clear hr0 hc0
 have HB := Aside0.mk (Below.refl w.heap.size w)
 have H : (spec_l6Rises.l0 k l0 0) = some r := h
 clear h
 have H' := Aside0.mk H
 clear H
 go_enter Try.func46,Try.ntmps46
 go_wp2
 go_loopg [3] k (fun kq v3 w' => ∃ (x3_1 : Int),v3 = .int .i64 x3_1 ∧ Aside0 (spec_l6Rises.l0 kq l0 x3_1 = some r) ∧ Aside0 (kq ≤ k) ∧ Aside0 (Below w.heap.size w w'))
 case atStart => exact ⟨(0),(by first|rfl|(simp;done)|(simp [*];done)),H',⟨Nat.le_refl _⟩,⟨b_⟩⟩
 case round =>
  clear H'
  obtain ⟨x3_1,rfl,HA,HK1,HB⟩ := hrel
  cases gk with
    | zero => exact absurd HA.out (by simp [spec_l6Rises.l0])
    | succ k1 =>
   have H := HA.out
   clear HA
   simp only [spec_l6Rises.l0] at H
   by_cases c2 : x3_1 < (l0.length : Int)
   ·rw [if_pos c2] at H
    have c2b0 : decide (x3_1 < (l0.length : Int)) = true := decide_eq_true c2
    clear c2
    by_cases c3 : 0 ≤ x3_1
    ·rw [if_pos c3] at H
     have c3b0 : decide (0 ≤ x3_1) = true := decide_eq_true c3
     clear c3
     replace H := Option.bind_eq_some_iff.mp H
     obtain ⟨t244,A40,H⟩ := H
     replace H : (if t244 = true then (if x3_1 > 0 then (if 0 ≤ (wrap64 (x3_1 - 1)) then (if (wrap64 (x3_1 - 1)) < (l0.length : Int) then (if (rd l0 x3_1) ≤ (rd l0 (wrap64 (x3_1 - 1))) then (some false) else (spec_l6Rises.l0 k1 l0 (wrap64 (x3_1 + 1)))) else (none)) else (none)) else (spec_l6Rises.l0 k1 l0 (wrap64 (x3_1 + 1)))) else (some false)) = some r := H
     have A4 := Aside0.mk A40
     clear A40
     by_cases c5 : t244 = true
     ·subst c5
      have H1 : (if x3_1 > 0 then (if 0 ≤ (wrap64 (x3_1 - 1)) then (if (wrap64 (x3_1 - 1)) < (l0.length : Int) then (if (rd l0 x3_1) ≤ (rd l0 (wrap64 (x3_1 - 1))) then (some false) else (spec_l6Rises.l0 k1 l0 (wrap64 (x3_1 + 1)))) else (none)) else (none)) else (spec_l6Rises.l0 k1 l0 (wrap64 (x3_1 + 1)))) = some r := by rw [if_pos rfl] at H;exact H
      clear H
      have H := H1
      clear H1
      by_cases c6 : x3_1 > 0
      ·rw [if_pos c6] at H
       have c6b0 : decide (0 < x3_1) = true := decide_eq_true c6
       clear c6
       obtain ⟨ji7,hji7⟩ : ∃ j_ : Int,(wrap64 (x3_1 - 1)) = j_ := ⟨_,rfl⟩
       replace H : (if 0 ≤ (ji7) then (if (ji7) < (l0.length : Int) then (if (rd l0 x3_1) ≤ (rd l0 (ji7)) then (some false) else (spec_l6Rises.l0 k1 l0 (wrap64 (x3_1 + 1)))) else (none)) else (none)) = some r := by first|(rw [hji7] at H;exact H)|(simp only [hji7] at H ⊢;exact H)
       (try rw [hji7] at A4)
       have hji7w : (IntKind.i64.wrap (x3_1 - 1)) = ji7 := (i64_w _).trans hji7
       by_cases c8 : 0 ≤ (ji7)
       ·rw [if_pos c8] at H
        have c8b0 : decide (0 ≤ (ji7)) = true := decide_eq_true c8
        clear c8
        by_cases c9 : (ji7) < (l0.length : Int)
        ·rw [if_pos c9] at H
         have c9b0 : decide ((ji7) < (l0.length : Int)) = true := decide_eq_true c9
         clear c9
         by_cases c10 : (rd l0 x3_1) ≤ (rd l0 (ji7))
         ·rw [if_pos c10] at H
          have c10b0 : decide ((rd l0 x3_1) ≤ (rd l0 (ji7))) = true := decide_eq_true c10
          clear c10
          obtain rfl := Option.some.inj H
          try go_wp2
          replace HB := Aside0.mk (below_drew1 HB.out)
          have p243 : 0 ≤ (x3_1 : Int) := of_decide_eq_true (by first|(with_reducible assumption)|assumption)
          have q243 : x3_1 < (l0.length : Int) := of_decide_eq_true (by first|(with_reducible assumption)|assumption)
          obtain ⟨ad243,e243,hx243_0⟩ := Kd.at_int HR0.out x3_1 p243 q243
          have hw243_0 := hx243_0
          cases e243
          replace hx243_0 := (HB.out.cell (World.block_lt_of_cell? w _ hx243_0)).trans hx243_0
          replace p243 := eq_true p243
          replace q243 := eq_true q243
          have p245 : 0 ≤ (x3_1 : Int) := of_decide_eq_true (by first|(with_reducible assumption)|assumption)
          have q245 : x3_1 < (l0.length : Int) := of_decide_eq_true (by first|(with_reducible assumption)|assumption)
          obtain ⟨ad245,e245,hx245_0⟩ := Kd.at_int HR0.out x3_1 p245 q245
          have hw245_0 := hx245_0
          obtain rfl : ad243 = ad245 := (by injection e245)
          replace hx245_0 := (HB.out.cell (World.block_lt_of_cell? w _ hx245_0)).trans hx245_0
          replace p245 := eq_true p245
          replace q245 := eq_true q245
          have p246 : 0 ≤ ((ji7) : Int) := of_decide_eq_true (by first|(with_reducible assumption)|assumption)
          have q246 : (ji7) < (l0.length : Int) := of_decide_eq_true (by first|(with_reducible assumption)|assumption)
          obtain ⟨ad246,e246,hx246_0⟩ := Kd.at_int HR0.out (ji7) p246 q246
          have hw246_0 := hx246_0
          obtain rfl : ad243 = ad246 := (by injection e246)
          replace hx246_0 := (HB.out.cell (World.block_lt_of_cell? w _ hx246_0)).trans hx246_0
          replace p246 := eq_true p246
          replace q246 := eq_true q246
          refine start_ (n := 22) (S := fun w' => w'.cell? (ad243.add (x3_1).toNat) = some (.int .i64 (rd l0 x3_1)) ∧ w'.cell? (ad243.add (x3_1).toNat) = some (.int .i64 (rd l0 x3_1)) ∧ w'.cell? (ad243.add ((ji7)).toNat) = some (.int .i64 (rd l0 (ji7)))) (ds := []) #[false,false,false,false,false,false,false,false,false,false,false,false,false,false,false,false,false,false,false,false,false,false] (by kernel_rfl) rfl rfl ⟨((HB.out.cell (World.block_lt_of_cell? w _ hw243_0)).trans hw243_0),((HB.out.cell (World.block_lt_of_cell? w _ hw245_0)).trans hw245_0),((HB.out.cell (World.block_lt_of_cell? w _ hw246_0)).trans hw246_0)⟩ (fun hHeld => ?_);refine with_tabW spec_l6Rises.tab4 spec_l6Rises.bits4 (fun HT_ HW_ => ?_)
          generalize wr.drew = w11 at HB hx243_0 hx245_0 hx246_0 hHeld ⊢
          refine pw_ 0 (some 10) HT_.out ?_
          refine pw_ 1 (some 11) HT_.out ?_
          refine pw_ 2 (some 12) HT_.out ?_
          refine tw_ 3 (some 13) HT_.out HW_.out hHeld rfl rfl (by rintro w' ⟨s0,s1,s2⟩;go_simp;with_reducible rfl) ?_
          refine oz_ (i := 4) (N := some 14) HT_.out rfl rfl (by kernel_rfl) (by decide) (fun K hK => ?_)
          refine goes_ Try.func95 (by kernel_rfl) rfl #[.int .i64 (rd l0 x3_1)] (by rfl) rfl rfl (by (try simp only [List.map_toArray,List.map_cons,List.map_nil]);first|done|rfl|(simp only [List.length_drop,List.length_take];rfl)) ?_
          with_reducible refine (spec_l1Id.calls (rd l0 x3_1) true _ A4.out).mono ?_
          rintro e w' ⟨rfl,⟨nd,rfl⟩⟩
          refine ⟨_,rfl,?_⟩
          refine hK.out _ _ ⟨((HB.out.cell (World.block_lt_of_cell? w _ hw243_0)).trans hw243_0),((HB.out.cell (World.block_lt_of_cell? w _ hw245_0)).trans hw245_0),((HB.out.cell (World.block_lt_of_cell? w _ hw246_0)).trans hw246_0)⟩ (fun hHeld => ?_)
          clear hK K
          refine nr_ (some 14) _ ?_
          refine pw_ 5 (some 15) HT_.out ?_
          refine pw_ 6 (some 16) HT_.out ?_
          refine pw_ 7 (some 17) HT_.out ?_
          refine pw_ 8 (some 18) HT_.out ?_
          refine pw_ 9 (some 19) HT_.out ?_
          refine pw_ 10 (some 20) HT_.out ?_
          refine pw_ 11 (some 21) HT_.out ?_
          refine pw_ 12 (some 22) HT_.out ?_
          refine pw_ 14 (some 24) HT_.out ?_
          refine pw_ 15 (some 25) HT_.out ?_
          refine pw_ 16 (some 26) HT_.out ?_
          refine pw_ 17 (some 27) HT_.out ?_
          refine tw_ 13 (some 23) HT_.out HW_.out hHeld rfl rfl (by rintro w' ⟨s0,s1,s2⟩;go_simp;with_reducible rfl) ?_
          refine tw_ 18 (some 28) HT_.out HW_.out hHeld rfl rfl (by rintro w' ⟨s0,s1,s2⟩;go_simp;with_reducible rfl) ?_
          refine pw_ 19 (some 29) HT_.out ?_
          refine pw_ 20 (some 30) HT_.out ?_
          refine pw_ 21 (some 31) HT_.out ?_
          refine done_ (done_of HT_.out (by kernel_rfl)) ?_
          try go_wp2
          go_ret
          exact ⟨by first|rfl|(simp [errW_none,errW_some] <;> rfl)|(simp only [← hji7];first|rfl|(simp [errW_none,errW_some] <;> rfl))|(simp [*,errW_none,errW_some] <;> rfl),b_⟩
         ·rw [if_neg c10] at H
          have c10b0 : decide ((rd l0 x3_1) ≤ (rd l0 (ji7))) = false := decide_eq_false c10
          clear c10
          have H' := Aside0.mk H
          clear H
          try go_wp2
          replace HB := Aside0.mk (below_drew1 HB.out)
          have p243 : 0 ≤ (x3_1 : Int) := of_decide_eq_true (by first|(with_reducible assumption)|assumption)
          have q243 : x3_1 < (l0.length : Int) := of_decide_eq_true (by first|(with_reducible assumption)|assumption)
          obtain ⟨ad243,e243,hx243_0⟩ := Kd.at_int HR0.out x3_1 p243 q243
          have hw243_0 := hx243_0
          cases e243
          replace hx243_0 := (HB.out.cell (World.block_lt_of_cell? w _ hx243_0)).trans hx243_0
          replace p243 := eq_true p243
          replace q243 := eq_true q243
          have p245 : 0 ≤ (x3_1 : Int) := of_decide_eq_true (by first|(with_reducible assumption)|assumption)
          have q245 : x3_1 < (l0.length : Int) := of_decide_eq_true (by first|(with_reducible assumption)|assumption)
          obtain ⟨ad245,e245,hx245_0⟩ := Kd.at_int HR0.out x3_1 p245 q245
          have hw245_0 := hx245_0
          obtain rfl : ad243 = ad245 := (by injection e245)
          replace hx245_0 := (HB.out.cell (World.block_lt_of_cell? w _ hx245_0)).trans hx245_0
          replace p245 := eq_true p245
          replace q245 := eq_true q245
          have p246 : 0 ≤ ((ji7) : Int) := of_decide_eq_true (by first|(with_reducible assumption)|assumption)
          have q246 : (ji7) < (l0.length : Int) := of_decide_eq_true (by first|(with_reducible assumption)|assumption)
          obtain ⟨ad246,e246,hx246_0⟩ := Kd.at_int HR0.out (ji7) p246 q246
          have hw246_0 := hx246_0
          obtain rfl : ad243 = ad246 := (by injection e246)
          replace hx246_0 := (HB.out.cell (World.block_lt_of_cell? w _ hx246_0)).trans hx246_0
          replace p246 := eq_true p246
          replace q246 := eq_true q246
          refine start_ (n := 22) (S := fun w' => w'.cell? (ad243.add (x3_1).toNat) = some (.int .i64 (rd l0 x3_1)) ∧ w'.cell? (ad243.add (x3_1).toNat) = some (.int .i64 (rd l0 x3_1)) ∧ w'.cell? (ad243.add ((ji7)).toNat) = some (.int .i64 (rd l0 (ji7)))) (ds := []) #[false,false,false,false,false,false,false,false,false,false,false,false,false,false,false,false,false,false,false,false,false,false] (by kernel_rfl) rfl rfl ⟨((HB.out.cell (World.block_lt_of_cell? w _ hw243_0)).trans hw243_0),((HB.out.cell (World.block_lt_of_cell? w _ hw245_0)).trans hw245_0),((HB.out.cell (World.block_lt_of_cell? w _ hw246_0)).trans hw246_0)⟩ (fun hHeld => ?_);refine with_tabW spec_l6Rises.tab4 spec_l6Rises.bits4 (fun HT_ HW_ => ?_)
          generalize wr.drew = w12 at HB hx243_0 hx245_0 hx246_0 hHeld ⊢
          refine pw_ 0 (some 10) HT_.out ?_
          refine pw_ 1 (some 11) HT_.out ?_
          refine pw_ 2 (some 12) HT_.out ?_
          refine tw_ 3 (some 13) HT_.out HW_.out hHeld rfl rfl (by rintro w' ⟨s0,s1,s2⟩;go_simp;with_reducible rfl) ?_
          refine oz_ (i := 4) (N := some 14) HT_.out rfl rfl (by kernel_rfl) (by decide) (fun K hK => ?_)
          refine goes_ Try.func95 (by kernel_rfl) rfl #[.int .i64 (rd l0 x3_1)] (by rfl) rfl rfl (by (try simp only [List.map_toArray,List.map_cons,List.map_nil]);first|done|rfl|(simp only [List.length_drop,List.length_take];rfl)) ?_
          with_reducible refine (spec_l1Id.calls (rd l0 x3_1) true _ A4.out).mono ?_
          rintro e w' ⟨rfl,⟨nd,rfl⟩⟩
          refine ⟨_,rfl,?_⟩
          refine hK.out _ _ ⟨((HB.out.cell (World.block_lt_of_cell? w _ hw243_0)).trans hw243_0),((HB.out.cell (World.block_lt_of_cell? w _ hw245_0)).trans hw245_0),((HB.out.cell (World.block_lt_of_cell? w _ hw246_0)).trans hw246_0)⟩ (fun hHeld => ?_)
          clear hK K
          refine nr_ (some 14) _ ?_
          refine pw_ 5 (some 15) HT_.out ?_
          refine pw_ 6 (some 16) HT_.out ?_
          refine pw_ 7 (some 17) HT_.out ?_
          refine pw_ 8 (some 18) HT_.out ?_
          refine pw_ 9 (some 19) HT_.out ?_
          refine pw_ 10 (some 20) HT_.out ?_
          refine pw_ 11 (some 21) HT_.out ?_
          refine pw_ 12 (some 22) HT_.out ?_
          refine pw_ 14 (some 24) HT_.out ?_
          refine pw_ 15 (some 25) HT_.out ?_
          refine pw_ 16 (some 26) HT_.out ?_
          refine pw_ 17 (some 27) HT_.out ?_
          refine tw_ 13 (some 23) HT_.out HW_.out hHeld rfl rfl (by rintro w' ⟨s0,s1,s2⟩;go_simp;with_reducible rfl) ?_
          refine tw_ 18 (some 28) HT_.out HW_.out hHeld rfl rfl (by rintro w' ⟨s0,s1,s2⟩;go_simp;with_reducible rfl) ?_
          refine pw_ 19 (some 29) HT_.out ?_
          refine pw_ 20 (some 30) HT_.out ?_
          refine pw_ 21 (some 31) HT_.out ?_
          refine done_ (done_of HT_.out (by kernel_rfl)) ?_
          try go_wp2
          go_roundg k1
          case measure => have := HK1.out;omega
          case rel => exact ⟨(wrap64 (x3_1 + 1)),(by first|rfl|(simp;done)|(simp [*];done)),H',⟨by have := HK1.out;omega⟩,⟨b_⟩⟩
        ·rw [if_neg c9] at H
         exact absurd H (by simp)
       ·rw [if_neg c8] at H
        exact absurd H (by simp)
      ·rw [if_neg c6] at H
       have c6b0 : decide (0 < x3_1) = false := decide_eq_false c6
       clear c6
       have H' := Aside0.mk H
       clear H
       try go_wp2
       replace HB := Aside0.mk (below_drew1 HB.out)
       have p243 : 0 ≤ (x3_1 : Int) := of_decide_eq_true (by first|(with_reducible assumption)|assumption)
       have q243 : x3_1 < (l0.length : Int) := of_decide_eq_true (by first|(with_reducible assumption)|assumption)
       obtain ⟨ad243,e243,hx243_0⟩ := Kd.at_int HR0.out x3_1 p243 q243
       have hw243_0 := hx243_0
       cases e243
       replace hx243_0 := (HB.out.cell (World.block_lt_of_cell? w _ hx243_0)).trans hx243_0
       replace p243 := eq_true p243
       replace q243 := eq_true q243
       refine start_ (n := 22) (S := fun w' => w'.cell? (ad243.add (x3_1).toNat) = some (.int .i64 (rd l0 x3_1))) (ds := []) #[false,false,false,false,false,false,false,false,false,false,false,false,false,false,false,false,false,false,false,false,false,false] (by kernel_rfl) rfl rfl (((HB.out.cell (World.block_lt_of_cell? w _ hw243_0)).trans hw243_0)) (fun hHeld => ?_);refine with_tabW spec_l6Rises.tab4 spec_l6Rises.bits4 (fun HT_ HW_ => ?_)
       generalize wr.drew = w13 at HB hx243_0 hHeld ⊢
       refine pw_ 0 (some 10) HT_.out ?_
       refine pw_ 1 (some 11) HT_.out ?_
       refine pw_ 2 (some 12) HT_.out ?_
       refine tz_ (i := 3) (N := some 13) (v := ?_) (a' := ?_) HT_.out HW_.out rfl rfl (by kernel_rfl) (fun _ _ _ h => h) (Or.inl ⟨by rfl,?_⟩) hHeld ?_ ?_
       rotate_left
       ·intro w' s0
        go_simp
        with_reducible rfl
       rotate_left
       ·simp only [Act.put,q1,q2,q3,i64_w,i32_w]
        rfl
       refine oz_ (i := 4) (N := some 14) HT_.out rfl rfl (by kernel_rfl) (by decide) (fun K hK => ?_)
       refine goes_ Try.func95 (by kernel_rfl) rfl #[.int .i64 (rd l0 x3_1)] (by rfl) rfl rfl (by (try simp only [List.map_toArray,List.map_cons,List.map_nil]);first|done|rfl|(simp only [List.length_drop,List.length_take];rfl)) ?_
       with_reducible refine (spec_l1Id.calls (rd l0 x3_1) true _ A4.out).mono ?_
       rintro e w' ⟨rfl,⟨nd,rfl⟩⟩
       refine ⟨_,rfl,?_⟩
       refine hK.out _ _ (((HB.out.cell (World.block_lt_of_cell? w _ hw243_0)).trans hw243_0)) (fun hHeld => ?_)
       clear hK K
       refine nr_ (some 14) _ ?_
       refine pw_ 5 (some 15) HT_.out ?_
       refine pw_ 6 (some 16) HT_.out ?_
       refine pw_ 7 (some 17) HT_.out ?_
       refine pw_ 8 (some 18) HT_.out ?_
       refine pw_ 9 (some 19) HT_.out ?_
       refine pu_ 10 (some 20) HT_.out ?_
       refine pu_ 11 (some 21) HT_.out ?_
       refine pu_ 12 (some 22) HT_.out ?_
       refine pu_ 13 (some 23) HT_.out ?_
       refine pu_ 14 (some 24) HT_.out ?_
       refine pu_ 15 (some 25) HT_.out ?_
       refine pu_ 16 (some 26) HT_.out ?_
       refine pu_ 17 (some 27) HT_.out ?_
       refine pu_ 18 (some 28) HT_.out ?_
       refine pu_ 19 (some 29) HT_.out ?_
       refine pw_ 20 (some 30) HT_.out ?_
       refine pw_ 21 (some 31) HT_.out ?_
       refine done_ (done_of HT_.out (by kernel_rfl)) ?_
       try go_wp2
       go_roundg k1
       case measure => have := HK1.out;omega
       case rel => exact ⟨(wrap64 (x3_1 + 1)),(by first|rfl|(simp;done)|(simp [*];done)),H',⟨by have := HK1.out;omega⟩,⟨b_⟩⟩
     ·replace c5 := Bool.eq_false_iff.mpr c5
      subst c5
      have H1 : (some false) = some r := by rw [if_neg (show ¬ (false = true) by decide)] at H;exact H
      clear H
      have H := H1
      clear H1
      obtain rfl := Option.some.inj H
      try go_wp2
      replace HB := Aside0.mk (below_drew1 HB.out)
      have p243 : 0 ≤ (x3_1 : Int) := of_decide_eq_true (by first|(with_reducible assumption)|assumption)
      have q243 : x3_1 < (l0.length : Int) := of_decide_eq_true (by first|(with_reducible assumption)|assumption)
      obtain ⟨ad243,e243,hx243_0⟩ := Kd.at_int HR0.out x3_1 p243 q243
      have hw243_0 := hx243_0
      cases e243
      replace hx243_0 := (HB.out.cell (World.block_lt_of_cell? w _ hx243_0)).trans hx243_0
      replace p243 := eq_true p243
      replace q243 := eq_true q243
      refine start_ (n := 22) (S := fun w' => w'.cell? (ad243.add (x3_1).toNat) = some (.int .i64 (rd l0 x3_1))) (ds := []) #[false,false,false,false,false,false,false,false,false,false,false,false,false,false,false,false,false,false,false,false,false,false] (by kernel_rfl) rfl rfl (((HB.out.cell (World.block_lt_of_cell? w _ hw243_0)).trans hw243_0)) (fun hHeld => ?_);refine with_tabW spec_l6Rises.tab4 spec_l6Rises.bits4 (fun HT_ HW_ => ?_)
      generalize wr.drew = w14 at HB hx243_0 hHeld ⊢
      refine pw_ 0 (some 10) HT_.out ?_
      refine pw_ 1 (some 11) HT_.out ?_
      refine pw_ 2 (some 12) HT_.out ?_
      refine tz_ (i := 3) (N := some 13) (v := ?_) (a' := ?_) HT_.out HW_.out rfl rfl (by kernel_rfl) (fun _ _ _ h => h) (Or.inl ⟨by rfl,?_⟩) hHeld ?_ ?_
      rotate_left
      ·intro w' s0
       go_simp
       with_reducible rfl
      rotate_left
      ·simp only [Act.put,q1,q2,q3,i64_w,i32_w]
       rfl
      refine oz_ (i := 4) (N := some 14) HT_.out rfl rfl (by kernel_rfl) (by decide) (fun K hK => ?_)
      refine goes_ Try.func95 (by kernel_rfl) rfl #[.int .i64 (rd l0 x3_1)] (by rfl) rfl rfl (by (try simp only [List.map_toArray,List.map_cons,List.map_nil]);first|done|rfl|(simp only [List.length_drop,List.length_take];rfl)) ?_
      with_reducible refine (spec_l1Id.calls (rd l0 x3_1) false _ A4.out).mono ?_
      rintro e w' ⟨rfl,⟨nd,rfl⟩⟩
      refine ⟨_,rfl,?_⟩
      refine hK.out _ _ (((HB.out.cell (World.block_lt_of_cell? w _ hw243_0)).trans hw243_0)) (fun hHeld => ?_)
      clear hK K
      refine nr_ (some 14) _ ?_
      refine pw_ 5 (some 15) HT_.out ?_
      refine pw_ 6 (some 16) HT_.out ?_
      refine pu_ 7 (some 17) HT_.out ?_
      refine pu_ 8 (some 18) HT_.out ?_
      refine pu_ 9 (some 19) HT_.out ?_
      refine pu_ 10 (some 20) HT_.out ?_
      refine pu_ 11 (some 21) HT_.out ?_
      refine pu_ 12 (some 22) HT_.out ?_
      refine pu_ 13 (some 23) HT_.out ?_
      refine pu_ 14 (some 24) HT_.out ?_
      refine pu_ 15 (some 25) HT_.out ?_
      refine pu_ 16 (some 26) HT_.out ?_
      refine pu_ 17 (some 27) HT_.out ?_
      refine pu_ 18 (some 28) HT_.out ?_
      refine pu_ 19 (some 29) HT_.out ?_
      refine pu_ 20 (some 30) HT_.out ?_
      refine pw_ 21 (some 31) HT_.out ?_
      refine done_ (done_of HT_.out (by kernel_rfl)) ?_
      try go_wp2
      go_ret
      exact ⟨by first|rfl|(simp [errW_none,errW_some] <;> rfl)|(simp [*,errW_none,errW_some] <;> rfl),b_⟩
    ·rw [if_neg c3] at H
     exact absurd H (by simp)
   ·rw [if_neg c2] at H
    have c2b0 : decide (x3_1 < (l0.length : Int)) = false := decide_eq_false c2
    clear c2
    obtain rfl := Option.some.inj H
    go_wp2
    go_ret
    exact ⟨by first|rfl|(simp [errW_none,errW_some] <;> rfl)|(simp [*,errW_none,errW_some] <;> rfl),b_⟩

/-! ### spec_l1Region: function 47 -/
def spec_l1Region.f (a0 : Int) : Option (Bool) := (spec_l1In.f a0 0 5).bind fun t247 => (some t247)
set_option maxHeartbeats 8000000 in
set_option maxRecDepth 100000 in
theorem spec_l1Region.calls (a0 : Int) (r : Bool) (w : World) (h : spec_l1Region.f a0 = some r) :
    Calls Try.prog 47 #[.int .i64 a0] w fun e w' => e = .returned (.bool r) ∧ Drawn0 w w' := by
 have H : ((spec_l1In.f a0 0 5).bind fun t247 => (some t247)) = some r := h
 clear h
 replace H := Option.bind_eq_some_iff.mp H
 obtain ⟨t247,A20,H⟩ := H
 replace H : (some t247) = some r := H
 have A2 := Aside0.mk A20
 clear A20
 obtain rfl := Option.some.inj H
 go_enter Try.func47,Try.ntmps47
 go_wp2_with (first|((with_reducible refine gcal_ (f := 102) rfl ?_);refine gl_ (some 4) Try.func102 #[.int .i64 a0,.int .i64 0,.int .i64 5] ?_;(with_reducible refine (spec_l1In.calls a0 0 5 t247 _ A2.out).mono ?_);rintro e w' ⟨rfl,⟨nd,rfl⟩⟩;refine ⟨_,rfl,?_⟩))
 go_ret
 exact ⟨by first|rfl|(simp;done)|(simp [*];done),by repeat (first|exact Drawn0.refl _|apply Drawn0.step)⟩

/-! ### spec_HeadOk: function 103 -/
def spec_HeadOk.f (a0 : Int) : Option (Bool) := (spec_l1In.f a0 0 4000003).bind fun t248 => (some t248)
set_option maxHeartbeats 8000000 in
set_option maxRecDepth 100000 in
theorem spec_HeadOk.calls (a0 : Int) (r : Bool) (w : World) (h : spec_HeadOk.f a0 = some r) :
    Calls Try.prog 103 #[.int .i64 a0] w fun e w' => e = .returned (.bool r) ∧ Drawn0 w w' := by
 have H : ((spec_l1In.f a0 0 4000003).bind fun t248 => (some t248)) = some r := h
 clear h
 replace H := Option.bind_eq_some_iff.mp H
 obtain ⟨t248,A20,H⟩ := H
 replace H : (some t248) = some r := H
 have A2 := Aside0.mk A20
 clear A20
 obtain rfl := Option.some.inj H
 go_enter Try.func103,Try.ntmps103
 go_wp2_with (first|((with_reducible refine gcal_ (f := 102) rfl ?_);refine gl_ (some 4) Try.func102 #[.int .i64 a0,.int .i64 0,.int .i64 4000003] ?_;(with_reducible refine (spec_l1In.calls a0 0 4000003 t248 _ A2.out).mono ?_);rintro e w' ⟨rfl,⟨nd,rfl⟩⟩;refine ⟨_,rfl,?_⟩))
 go_ret
 exact ⟨by first|rfl|(simp;done)|(simp [*];done),by repeat (first|exact Drawn0.refl _|apply Drawn0.step)⟩

/-! ### spec_l1Value: function 104 -/
def spec_l1Value.f (a0 : Int) : Option (Bool) := (spec_l1In.f a0 (-1000000000) 1000000000).bind fun t249 => (some t249)
set_option maxHeartbeats 8000000 in
set_option maxRecDepth 100000 in
theorem spec_l1Value.calls (a0 : Int) (r : Bool) (w : World) (h : spec_l1Value.f a0 = some r) :
    Calls Try.prog 104 #[.int .i64 a0] w fun e w' => e = .returned (.bool r) ∧ Drawn0 w w' := by
 have H : ((spec_l1In.f a0 (-1000000000) 1000000000).bind fun t249 => (some t249)) = some r := h
 clear h
 replace H := Option.bind_eq_some_iff.mp H
 obtain ⟨t249,A20,H⟩ := H
 replace H : (some t249) = some r := H
 have A2 := Aside0.mk A20
 clear A20
 obtain rfl := Option.some.inj H
 go_enter Try.func104,Try.ntmps104
 go_wp2_with (first|((with_reducible refine gcal_ (f := 102) rfl ?_);refine gl_ (some 4) Try.func102 #[.int .i64 a0,.int .i64 (-1000000000),.int .i64 1000000000] ?_;(with_reducible refine (spec_l1In.calls a0 (-1000000000) 1000000000 t249 _ A2.out).mono ?_);rintro e w' ⟨rfl,⟨nd,rfl⟩⟩;refine ⟨_,rfl,?_⟩))
 go_ret
 exact ⟨by first|rfl|(simp;done)|(simp [*];done),by repeat (first|exact Drawn0.refl _|apply Drawn0.step)⟩

end Go.Proofs.Ythplaakckfhaaaa.XTu
