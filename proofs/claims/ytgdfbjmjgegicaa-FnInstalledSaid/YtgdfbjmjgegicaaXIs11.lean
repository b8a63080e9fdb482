/- Proved: of each Go function here that a call comes to what the Lean function of its name tells. Written by a program of this session over the translation. No conditions beyond each theorem's own. -/
import Derived.Test.YtgdfbjmjgegicaaXIs0
import Derived.Test.YtgdfbjmjgegicaaXIs2
import Derived.Test.YtgdfbjmjgegicaaXIs4
import Derived.Test.YtgdfbjmjgegicaaXIs8
import Derived.Test.YtgdfbjmjgegicaaXIs9
import Derived.Test.YtgdfbjmjgegicaaXIs10
namespace Go.Proofs.Ytgdfbjmjgegicaa.XIs
open Go.RowKit Go.Proofs.Ytgdfbjmjgegicaa.Aid Go.Proofs.YtgdfbjmjgegicaaW.PrintWords Go.Proofs.YtgdfbjmjgegicaaW.PrintLast Go.Proofs.YtgdfbjmjgegicaaW.PrintMore
set_option linter.unusedVariables false
set_option linter.unusedSimpArgs false

/-! ### spec_l3DrawSets: function 89 -/
def spec_l3DrawSets.l0 : Nat → List (S30) → List (S59) → Int → List Int → Int → Int → Option ((List (S59)) × Int × Int)
  | 0, _, _, _, _, _, _ => none
  | k + 1, x1, x5, x6, x1000, x1001, x1002 => if x6 < (x5.length : Int) then (if 0 ≤ x6 then ((spec_l1Slot.f ((rd_T59 x5 x6).f1)).bind fun t357 => (if t357 = true then (if ((rd_T59 x5 x6).f1) < (x1.length : Int) then (if 0 ≤ ((rd_T59 x5 x6).f1) then ((spec_HeadOk.f ((rd_T30 x1 ((rd_T59 x5 x6).f1)).f0)).bind fun t359 => (if t359 = true then ((spec_l1Once.f x1000 x1001 x1002 8).bind fun bt360 => (if bt360.1 = true then (spec_l3DrawSets.l0 k x1 x5 (wrap64 (x6 + 1)) x1000 bt360.2.1 bt360.2.2) else ((spec_Version.f ((rd_T30 x1 ((rd_T59 x5 x6).f1)).f0)).bind fun t364 => (spec_l3DrawSets.l0 k x1 (x5.set (x6 : Int).toNat (⟨(rd_T59 x5 x6).f0, (rd_T59 x5 x6).f1, (rd_T59 x5 x6).f2, (rd_T59 x5 x6).f3, t364⟩ : S59)) (wrap64 (x6 + 1)) x1000 bt360.2.1 bt360.2.2)))) else (spec_l3DrawSets.l0 k x1 x5 (wrap64 (x6 + 1)) x1000 x1001 x1002))) else (none)) else (spec_l3DrawSets.l0 k x1 x5 (wrap64 (x6 + 1)) x1000 x1001 x1002)) else (spec_l3DrawSets.l0 k x1 x5 (wrap64 (x6 + 1)) x1000 x1001 x1002))) else (none)) else (some (x5, x1001, x1002))
def spec_l3DrawSets.f (k : Nat) (s0_0 : List Int) (s0_1 : Int) (s0_2 : Int) (l1 : List (S30)) : Option ((List (S59)) × Int × Int) := (spec_l2DrawSets.f k s0_0 s0_1 s0_2 1).bind fun bt351 => (spec_l3DrawSets.l0 k l1 bt351.1 0 s0_0 bt351.2.1 bt351.2.2)

set_option maxHeartbeats 8000000 in
set_option maxRecDepth 100000 in
theorem spec_l3DrawSets.calls (k : Nat) (g : Nat) (s0_0 : List Int) (s0_1 : Int) (s0_2 : Int) (A1 : Option Addr) (c1 : Nat) (l1 : List (S30)) (r1 : List (S59)) (r2 : Int) (r3 : Int) (w0 w : World) (hI : IsS112 w0 w g s0_0 s0_1 s0_2) (hB : Below w0.heap.size w0 w) (hr1 : ∀ W_, KeepBut w W_ g none → Kd.C k30 W_ A1 l1.length l1) (hc1 : l1.length ≤ c1) (h : spec_l3DrawSets.f k s0_0 s0_1 s0_2 l1 = some (r1, r2, r3)) :
    Calls Try.prog 89 #[.pointer (some ⟨g, 0, none⟩), .slice A1 l1.length c1] w fun e w' => ∃ v0_ : Value, e = .returned (v0_) ∧ Kd.R k59 59 w' w.heap.size (fun _ => True) v0_ r1 ∧ IsS112 w0 w' g s0_0 r2 r3 ∧ Below w0.heap.size w0 w' ∧ KeepBut w w' g none := by
 have HR1 := Aside0.mk hr1
 have HC1 := Aside0.mk hc1
 clear hr1 hc1
 have HI0 := Aside0.mk hI
 have HK := Aside0.mk (KeepBut.refl w g none)
 have HL := Aside0.mk hB.size
 clear hI
 have HW0 := Aside0.mk hB.size
 have HB := Aside0.mk hB
 clear hB
 have H : ((spec_l2DrawSets.f k s0_0 s0_1 s0_2 1).bind fun bt351 => (spec_l3DrawSets.l0 k l1 bt351.1 0 s0_0 bt351.2.1 bt351.2.2)) = some (r1,r2,r3) := h
 clear h
 replace H := Option.bind_eq_some_iff.mp H
 obtain ⟨⟨t351,t354,t355⟩,A30,H⟩ := H
 replace H : (spec_l3DrawSets.l0 k l1 t351 0 s0_0 t354 t355) = some (r1,r2,r3) := H
 have A3 := Aside0.mk A30
 clear A30
 have H' := Aside0.mk H
 clear H
 go_enter Try.func89,Try.ntmps89
 go_wp2_with (first|((with_reducible refine gcal_ (f := 116) rfl ?_);refine goesL_ (some 9) rfl rfl Try.func116 (by kernel_rfl) rfl #[.pointer (some ⟨g,0,none⟩),.int .i64 1] rfl (by (try simp only [List.map_toArray,List.map_cons,List.map_nil]);first|done|rfl|(simp only [List.length_drop,List.length_take];rfl)) ?_;(with_reducible refine (spec_l2DrawSets.calls k g s0_0 s0_1 s0_2 1 t351 t354 t355 w0 _ ?side1 ?side2 A3.out).mono ?_);(case side1 => repeat (first|(with_reducible first|exact HI0.out|apply IsS112.alloc|apply IsS112.drewN|apply IsS112.drew|apply IsS112.set_1|apply IsS112.set_2)|exact HI0.out));(case side2 => repeat (first|(with_reducible first|exact HB.out|apply below_alloc|apply pw_below_drewN|apply below_drew1|refine below_set ?_ (IsS112.ge HI0.out))|exact HB.out));rintro e w4 ⟨v352,rfl,ho0,hi,hb,hk⟩;refine ⟨_,rfl,?_⟩;have n0_ := Aside0.mk (Kd.R_lower ho0 (keep_size (w := w) (g := g) (row := none) (by repeat (first|(with_reducible first|exact HK.out|apply KeepBut.set_|apply keep_drewN|apply keep_drew|apply keep_alloc)|exact HK.out))));have n1_ := Aside0.mk (KeepBut.trans (by repeat (first|(with_reducible first|exact HK.out|apply KeepBut.set_|apply keep_drewN|apply keep_drew|apply keep_alloc)|exact HK.out)) hk (.inl rfl));have n2_ := Aside0.mk (hb);have n3_ := Aside0.mk (hi);clear HK;clear HB;clear HI0;have HO353 := n0_;have HK := n1_;have HB := n2_;have HI0 := n3_;clear n0_ n1_ n2_ n3_;(try clear hb);(try clear hb2);(try clear hk);(try clear hi);(try clear ho0)))
 go_loopg [6] k (fun kq v6 w' => ∃ (x5_1 : List (S59)) (x6_1 : Int) (x1001_1 : Int) (x1002_1 : Int),v6 = .int .i64 x6_1 ∧ Aside0 (spec_l3DrawSets.l0 kq l1 x5_1 x6_1 s0_0 x1001_1 x1002_1 = some (r1,r2,r3)) ∧ Aside0 (kq ≤ k) ∧ Aside0 (Kd.R k59 59 w' w.heap.size (fun _ => True) v352 x5_1) ∧ Aside0 (IsS112 w0 w' g s0_0 x1001_1 x1002_1) ∧ Aside0 (KeepBut w w' g none) ∧ Aside0 (Below w0.heap.size w0 w'))
 case atStart => exact ⟨(t351),(0),(t354),(t355),(by first|rfl|(simp;done)|(simp [*];done)),H',⟨Nat.le_refl _⟩,⟨by (with_reducible repeat (first|apply Kd.R_alloc|apply Kd.R_drewN|apply Kd.R_drew));exact HO353.out⟩,⟨by repeat (first|(with_reducible first|exact HI0.out|apply IsS112.alloc|apply IsS112.drewN|apply IsS112.drew|apply IsS112.set_1|apply IsS112.set_2)|exact HI0.out)⟩,⟨by repeat (first|(with_reducible first|exact HK.out|apply KeepBut.set_|apply keep_drewN|apply keep_drew|apply keep_alloc)|exact HK.out)⟩,⟨by repeat (first|(with_reducible first|exact HB.out|apply below_alloc|apply pw_below_drewN|apply below_drew1|refine below_set ?_ (IsS112.ge HI0.out))|exact HB.out)⟩⟩
 case round =>
  clear H'
  try clear c1
  try clear p2
  obtain ⟨x5_1,x6_1,x1001_1,x1002_1,rfl,HA,HK1,HO_5,HI0,HK,HB⟩ := hrel
  cases gk with
    | zero => exact absurd HA.out (by simp [spec_l3DrawSets.l0])
    | succ k1 =>
   have H := HA.out
   clear HA
   simp only [spec_l3DrawSets.l0] at H
   by_cases c5 : x6_1 < (x5_1.length : Int)
   ·rw [if_pos c5] at H
    have c5b0 : decide (x6_1 < (x5_1.length : Int)) = true := decide_eq_true c5
    clear c5
    by_cases c6 : 0 ≤ x6_1
    ·rw [if_pos c6] at H
     have c6b0 : decide (0 ≤ x6_1) = true := decide_eq_true c6
     clear c6
     replace H := Option.bind_eq_some_iff.mp H
     obtain ⟨t357,A70,H⟩ := H
     replace H : (if t357 = true then (if ((rd_T59 x5_1 x6_1).f1) < (l1.length : Int) then (if 0 ≤ ((rd_T59 x5_1 x6_1).f1) then ((spec_HeadOk.f ((rd_T30 l1 ((rd_T59 x5_1 x6_1).f1)).f0)).bind fun t359 => (if t359 = true then ((spec_l1Once.f s0_0 x1001_1 x1002_1 8).bind fun bt360 => (if bt360.1 = true then (spec_l3DrawSets.l0 k1 l1 x5_1 (wrap64 (x6_1 + 1)) s0_0 bt360.2.1 bt360.2.2) else ((spec_Version.f ((rd_T30 l1 ((rd_T59 x5_1 x6_1).f1)).f0)).bind fun t364 => (spec_l3DrawSets.l0 k1 l1 (x5_1.set (x6_1 : Int).toNat (⟨(rd_T59 x5_1 x6_1).f0,(rd_T59 x5_1 x6_1).f1,(rd_T59 x5_1 x6_1).f2,(rd_T59 x5_1 x6_1).f3,t364⟩ : S59)) (wrap64 (x6_1 + 1)) s0_0 bt360.2.1 bt360.2.2)))) else (spec_l3DrawSets.l0 k1 l1 x5_1 (wrap64 (x6_1 + 1)) s0_0 x1001_1 x1002_1))) else (none)) else (spec_l3DrawSets.l0 k1 l1 x5_1 (wrap64 (x6_1 + 1)) s0_0 x1001_1 x1002_1)) else (spec_l3DrawSets.l0 k1 l1 x5_1 (wrap64 (x6_1 + 1)) s0_0 x1001_1 x1002_1)) = some (r1,r2,r3) := H
     have A7 := Aside0.mk A70
     clear A70
     by_cases c8 : t357 = true
     ·subst c8
      have H1 : (if ((rd_T59 x5_1 x6_1).f1) < (l1.length : Int) then (if 0 ≤ ((rd_T59 x5_1 x6_1).f1) then ((spec_HeadOk.f ((rd_T30 l1 ((rd_T59 x5_1 x6_1).f1)).f0)).bind fun t359 => (if t359 = true then ((spec_l1Once.f s0_0 x1001_1 x1002_1 8).bind fun bt360 => (if bt360.1 = true then (spec_l3DrawSets.l0 k1 l1 x5_1 (wrap64 (x6_1 + 1)) s0_0 bt360.2.1 bt360.2.2) else ((spec_Version.f ((rd_T30 l1 ((rd_T59 x5_1 x6_1).f1)).f0)).bind fun t364 => (spec_l3DrawSets.l0 k1 l1 (x5_1.set (x6_1 : Int).toNat (⟨(rd_T59 x5_1 x6_1).f0,(rd_T59 x5_1 x6_1).f1,(rd_T59 x5_1 x6_1).f2,(rd_T59 x5_1 x6_1).f3,t364⟩ : S59)) (wrap64 (x6_1 + 1)) s0_0 bt360.2.1 bt360.2.2)))) else (spec_l3DrawSets.l0 k1 l1 x5_1 (wrap64 (x6_1 + 1)) s0_0 x1001_1 x1002_1))) else (none)) else (spec_l3DrawSets.l0 k1 l1 x5_1 (wrap64 (x6_1 + 1)) s0_0 x1001_1 x1002_1)) = some (r1,r2,r3) := by rw [if_pos rfl] at H;exact H
      clear H
      have H := H1
      clear H1
      by_cases c9 : ((rd_T59 x5_1 x6_1).f1) < (l1.length : Int)
      ·rw [if_pos c9] at H
       have c9b0 : decide (((rd_T59 x5_1 x6_1).f1) < (l1.length : Int)) = true := decide_eq_true c9
       clear c9
       by_cases c10 : 0 ≤ ((rd_T59 x5_1 x6_1).f1)
       ·rw [if_pos c10] at H
        have c10b0 : decide (0 ≤ ((rd_T59 x5_1 x6_1).f1)) = true := decide_eq_true c10
        clear c10
        replace H := Option.bind_eq_some_iff.mp H
        obtain ⟨t359,A110,H⟩ := H
        replace H : (if t359 = true then ((spec_l1Once.f s0_0 x1001_1 x1002_1 8).bind fun bt360 => (if bt360.1 = true then (spec_l3DrawSets.l0 k1 l1 x5_1 (wrap64 (x6_1 + 1)) s0_0 bt360.2.1 bt360.2.2) else ((spec_Version.f ((rd_T30 l1 ((rd_T59 x5_1 x6_1).f1)).f0)).bind fun t364 => (spec_l3DrawSets.l0 k1 l1 (x5_1.set (x6_1 : Int).toNat (⟨(rd_T59 x5_1 x6_1).f0,(rd_T59 x5_1 x6_1).f1,(rd_T59 x5_1 x6_1).f2,(rd_T59 x5_1 x6_1).f3,t364⟩ : S59)) (wrap64 (x6_1 + 1)) s0_0 bt360.2.1 bt360.2.2)))) else (spec_l3DrawSets.l0 k1 l1 x5_1 (wrap64 (x6_1 + 1)) s0_0 x1001_1 x1002_1)) = some (r1,r2,r3) := H
        have A11 := Aside0.mk A110
        clear A110
        by_cases c12 : t359 = true
        ·subst c12
         have H1 : ((spec_l1Once.f s0_0 x1001_1 x1002_1 8).bind fun bt360 => (if bt360.1 = true then (spec_l3DrawSets.l0 k1 l1 x5_1 (wrap64 (x6_1 + 1)) s0_0 bt360.2.1 bt360.2.2) else ((spec_Version.f ((rd_T30 l1 ((rd_T59 x5_1 x6_1).f1)).f0)).bind fun t364 => (spec_l3DrawSets.l0 k1 l1 (x5_1.set (x6_1 : Int).toNat (⟨(rd_T59 x5_1 x6_1).f0,(rd_T59 x5_1 x6_1).f1,(rd_T59 x5_1 x6_1).f2,(rd_T59 x5_1 x6_1).f3,t364⟩ : S59)) (wrap64 (x6_1 + 1)) s0_0 bt360.2.1 bt360.2.2)))) = some (r1,r2,r3) := by rw [if_pos rfl] at H;exact H
         clear H
         have H := H1
         clear H1
         replace H := Option.bind_eq_some_iff.mp H
         obtain ⟨⟨t360,t361,t362⟩,A130,H⟩ := H
         replace H : (if t360 = true then (spec_l3DrawSets.l0 k1 l1 x5_1 (wrap64 (x6_1 + 1)) s0_0 t361 t362) else ((spec_Version.f ((rd_T30 l1 ((rd_T59 x5_1 x6_1).f1)).f0)).bind fun t364 => (spec_l3DrawSets.l0 k1 l1 (x5_1.set (x6_1 : Int).toNat (⟨(rd_T59 x5_1 x6_1).f0,(rd_T59 x5_1 x6_1).f1,(rd_T59 x5_1 x6_1).f2,(rd_T59 x5_1 x6_1).f3,t364⟩ : S59)) (wrap64 (x6_1 + 1)) s0_0 t361 t362))) = some (r1,r2,r3) := H
         have A13 := Aside0.mk A130
         clear A130
         by_cases c14 : t360 = true
         ·subst c14
          have H1 : (spec_l3DrawSets.l0 k1 l1 x5_1 (wrap64 (x6_1 + 1)) s0_0 t361 t362) = some (r1,r2,r3) := by rw [if_pos rfl] at H;exact H
          clear H
          have H := H1
          clear H1
          have H' := Aside0.mk H
          clear H
          obtain ⟨Ao15,co15,eo15⟩ := Kd.R_slice HO_5.out
          subst eo15
          have p356 : 0 ≤ (x6_1 : Int) := of_decide_eq_true (by first|(with_reducible assumption)|assumption)
          have q356 : x6_1 < (x5_1.length : Int) := of_decide_eq_true (by first|(with_reducible assumption)|assumption)
          obtain ⟨ad356,e356,hx356_0,hx356_1,hx356_2,hx356_3,hx356_4⟩ := at_T59 (Kd.R_reads' HO_5.out).2.2 x6_1 p356 q356
          cases e356
          replace p356 := eq_true p356
          replace q356 := eq_true q356
          go_wp2_with (first|((with_reducible refine gcal_ (f := 67) rfl ?_);refine goesL_ (some 22) rfl rfl Try.func67 (by kernel_rfl) rfl #[.int .i64 ((rd_T59 x5_1 x6_1).f1)] rfl (by (try simp only [List.map_toArray,List.map_cons,List.map_nil]);first|done|rfl|(simp only [List.length_drop,List.length_take];rfl)) ?_;(with_reducible refine (spec_l1Slot.calls ((rd_T59 x5_1 x6_1).f1) true _ A7.out).mono ?_);rintro e w' ⟨rfl,⟨nd,rfl⟩⟩;refine ⟨_,rfl,?_⟩;have p358 : 0 ≤ (((rd_T59 x5_1 x6_1).f1) : Int) := of_decide_eq_true (by first|(with_reducible assumption)|assumption);have q358 : ((rd_T59 x5_1 x6_1).f1) < (l1.length : Int) := of_decide_eq_true (by first|(with_reducible assumption)|assumption);obtain ⟨ad358,e358,hx358_0,hx358_1⟩ := at_T30 (Kd.C_foot_now HR1.out HK.out) ((rd_T59 x5_1 x6_1).f1) p358 q358;cases e358;replace p358 := eq_true p358;replace q358 := eq_true q358)|(go_at_call 62;(with_reducible refine (spec_HeadOk.calls ((rd_T30 l1 ((rd_T59 x5_1 x6_1).f1)).f0) true _ A11.out).mono ?_);rintro e w' ⟨rfl,⟨nd,rfl⟩⟩)|(go_at_call 88;(with_reducible refine (spec_l1Once.calls g s0_0 x1001_1 x1002_1 8 true t361 t362 w0 _ ?side1 ?side2 A13.out).mono ?_);(case side1 => repeat (first|(with_reducible first|exact HI0.out|apply IsS112.alloc|apply IsS112.drewN|apply IsS112.drew|apply IsS112.set_1|apply IsS112.set_2)|exact HI0.out));(case side2 => repeat (first|(with_reducible first|exact HB.out|apply below_alloc|apply pw_below_drewN|apply below_drew1|refine below_set ?_ (IsS112.ge HI0.out))|exact HB.out));rintro e w16 ⟨rfl,hi,hb,hk⟩;have n0_ := Aside0.mk (Kd.R_mono (Kd.R_keep (IsS112.apart (show IsS112 w0 _ g s0_0 x1001_1 x1002_1 from by repeat (first|(with_reducible first|exact HI0.out|apply IsS112.alloc|apply IsS112.drewN|apply IsS112.drew|apply IsS112.set_1|apply IsS112.set_2)|exact HI0.out)) (by (with_reducible repeat (first|apply Kd.R_alloc|apply Kd.R_drewN|apply Kd.R_drew));exact HO_5.out) (by decide)) hk (fun _ h => h.2)) (fun _ h => h.1));have n1_ := Aside0.mk (KeepBut.trans (by repeat (first|(with_reducible first|exact HK.out|apply KeepBut.set_|apply keep_drewN|apply keep_drew|apply keep_alloc)|exact HK.out)) hk (.inl rfl));have n2_ := Aside0.mk (hb);have n3_ := Aside0.mk (hi);clear HO_5;clear HK;clear HB;clear HI0;have HO_5 := n0_;have HK := n1_;have HB := n2_;have HI0 := n3_;clear n0_ n1_ n2_ n3_;(try clear hb);(try clear hb2);(try clear hk);(try clear hi)))
          go_roundg k1
          case measure => have := HK1.out;omega
          case rel => exact ⟨(x5_1),(wrap64 (x6_1 + 1)),(t361),(t362),(by first|rfl|(simp;done)|(simp [*];done)),H',⟨by have := HK1.out;omega⟩,⟨by (with_reducible repeat (first|apply Kd.R_alloc|apply Kd.R_drewN|apply Kd.R_drew));exact HO_5.out⟩,⟨by repeat (first|(with_reducible first|exact HI0.out|apply IsS112.alloc|apply IsS112.drewN|apply IsS112.drew|apply IsS112.set_1|apply IsS112.set_2)|exact HI0.out)⟩,⟨by repeat (first|(with_reducible first|exact HK.out|apply KeepBut.set_|apply keep_drewN|apply keep_drew|apply keep_alloc)|exact HK.out)⟩,⟨by repeat (first|(with_reducible first|exact HB.out|apply below_alloc|apply pw_below_drewN|apply below_drew1|refine below_set ?_ (IsS112.ge HI0.out))|exact HB.out)⟩⟩
         ·replace c14 := Bool.eq_false_iff.mpr c14
          subst c14
          have H1 : ((spec_Version.f ((rd_T30 l1 ((rd_T59 x5_1 x6_1).f1)).f0)).bind fun t364 => (spec_l3DrawSets.l0 k1 l1 (x5_1.set (x6_1 : Int).toNat (⟨(rd_T59 x5_1 x6_1).f0,(rd_T59 x5_1 x6_1).f1,(rd_T59 x5_1 x6_1).f2,(rd_T59 x5_1 x6_1).f3,t364⟩ : S59)) (wrap64 (x6_1 + 1)) s0_0 t361 t362)) = some (r1,r2,r3) := by rw [if_neg (show ¬ (false = true) by decide)] at H;exact H
          clear H
          have H := H1
          clear H1
          replace H := Option.bind_eq_some_iff.mp H
          obtain ⟨t364,A170,H⟩ := H
          replace H : (spec_l3DrawSets.l0 k1 l1 (x5_1.set (x6_1 : Int).toNat (⟨(rd_T59 x5_1 x6_1).f0,(rd_T59 x5_1 x6_1).f1,(rd_T59 x5_1 x6_1).f2,(rd_T59 x5_1 x6_1).f3,t364⟩ : S59)) (wrap64 (x6_1 + 1)) s0_0 t361 t362) = some (r1,r2,r3) := H
          have A17 := Aside0.mk A170
          clear A170
          obtain ⟨y365,hy365⟩ : ∃ y_ : List (S59),y_ = (x5_1.set (x6_1 : Int).toNat (⟨(rd_T59 x5_1 x6_1).f0,(rd_T59 x5_1 x6_1).f1,(rd_T59 x5_1 x6_1).f2,(rd_T59 x5_1 x6_1).f3,t364⟩ : S59)) := ⟨_,rfl⟩
          replace H : (spec_l3DrawSets.l0 k1 l1 y365 (wrap64 (x6_1 + 1)) s0_0 t361 t362) = some (r1,r2,r3) := by first|(rw [hy365];with_reducible exact H)|(have H2_ := (Option.bind_some _ _).symm.trans H;rw [hy365];with_reducible exact H2_)|(have H2_ := (Option.bind_some _ _).symm.trans H;with_reducible exact H2_)|with_reducible exact H|(rw [hy365];exact H)|exact H
          have Ny365 := Aside0.mk hy365
          clear hy365
          have H' := Aside0.mk H
          clear H
          obtain ⟨Ao19,co19,eo19⟩ := Kd.R_slice HO_5.out
          subst eo19
          have p356 : 0 ≤ (x6_1 : Int) := of_decide_eq_true (by first|(with_reducible assumption)|assumption)
          have q356 : x6_1 < (x5_1.length : Int) := of_decide_eq_true (by first|(with_reducible assumption)|assumption)
          obtain ⟨ad356,e356,hx356_0,hx356_1,hx356_2,hx356_3,hx356_4⟩ := at_T59 (Kd.R_reads' HO_5.out).2.2 x6_1 p356 q356
          cases e356
          replace p356 := eq_true p356
          replace q356 := eq_true q356
          go_wp2_with (first|((with_reducible refine gcal_ (f := 67) rfl ?_);refine goesL_ (some 22) rfl rfl Try.func67 (by kernel_rfl) rfl #[.int .i64 ((rd_T59 x5_1 x6_1).f1)] rfl (by (try simp only [List.map_toArray,List.map_cons,List.map_nil]);first|done|rfl|(simp only [List.length_drop,List.length_take];rfl)) ?_;(with_reducible refine (spec_l1Slot.calls ((rd_T59 x5_1 x6_1).f1) true _ A7.out).mono ?_);rintro e w' ⟨rfl,⟨nd,rfl⟩⟩;refine ⟨_,rfl,?_⟩;(try (rw [drewN_self wr];generalize hq_ : World.drewN wr _ = wr;have n0_ : Aside0 (Kd.R k59 59 wr w.heap.size (fun _ => True) (.slice (some ad356) x5_1.length co19) x5_1) := ⟨by rw [← hq_];exact (by (with_reducible repeat (first|apply Kd.R_alloc|apply Kd.R_drewN|apply Kd.R_drew));exact HO_5.out)⟩;have n1_ : Aside0 (IsS112 w0 wr g s0_0 x1001_1 x1002_1) := ⟨by rw [← hq_];exact (by repeat (first|(with_reducible first|exact HI0.out|apply IsS112.alloc|apply IsS112.drewN|apply IsS112.drew|apply IsS112.set_1|apply IsS112.set_2)|exact HI0.out))⟩;have n2_ : Aside0 (KeepBut w wr g none) := ⟨by rw [← hq_];exact (by repeat (first|(with_reducible first|exact HK.out|apply KeepBut.set_|apply keep_drewN|apply keep_drew|apply keep_alloc)|exact HK.out))⟩;have n3_ : Aside0 (Below w0.heap.size w0 wr) := ⟨by rw [← hq_];exact (by repeat (first|(with_reducible first|exact HB.out|apply below_alloc|apply pw_below_drewN|apply below_drew1|refine below_set ?_ (IsS112.ge HI0.out))|exact HB.out))⟩;clear HO_5 HI0 HK HB hq_;have HO_5 := n0_;have HI0 := n1_;have HK := n2_;have HB := n3_;clear n0_ n1_ n2_ n3_));have p358 : 0 ≤ (((rd_T59 x5_1 x6_1).f1) : Int) := of_decide_eq_true (by first|(with_reducible assumption)|assumption);have q358 : ((rd_T59 x5_1 x6_1).f1) < (l1.length : Int) := of_decide_eq_true (by first|(with_reducible assumption)|assumption);obtain ⟨ad358,e358,hx358_0,hx358_1⟩ := at_T30 (Kd.C_foot_now HR1.out HK.out) ((rd_T59 x5_1 x6_1).f1) p358 q358;cases e358;replace p358 := eq_true p358;replace q358 := eq_true q358)|(go_at_call 62;(with_reducible refine (spec_HeadOk.calls ((rd_T30 l1 ((rd_T59 x5_1 x6_1).f1)).f0) true _ A11.out).mono ?_);rintro e w' ⟨rfl,⟨nd,rfl⟩⟩;(try (rw [drewN_self wr];generalize hq_ : World.drewN wr _ = wr;have n0_ : Aside0 (Kd.R k59 59 wr w.heap.size (fun _ => True) (.slice (some ad356) x5_1.length co19) x5_1) := ⟨by rw [← hq_];exact (by (with_reducible repeat (first|apply Kd.R_alloc|apply Kd.R_drewN|apply Kd.R_drew));exact HO_5.out)⟩;have n1_ : Aside0 (IsS112 w0 wr g s0_0 x1001_1 x1002_1) := ⟨by rw [← hq_];exact (by repeat (first|(with_reducible first|exact HI0.out|apply IsS112.alloc|apply IsS112.drewN|apply IsS112.drew|apply IsS112.set_1|apply IsS112.set_2)|exact HI0.out))⟩;have n2_ : Aside0 (KeepBut w wr g none) := ⟨by rw [← hq_];exact (by repeat (first|(with_reducible first|exact HK.out|apply KeepBut.set_|apply keep_drewN|apply keep_drew|apply keep_alloc)|exact HK.out))⟩;have n3_ : Aside0 (Below w0.heap.size w0 wr) := ⟨by rw [← hq_];exact (by repeat (first|(with_reducible first|exact HB.out|apply below_alloc|apply pw_below_drewN|apply below_drew1|refine below_set ?_ (IsS112.ge HI0.out))|exact HB.out))⟩;clear HO_5 HI0 HK HB hq_;have HO_5 := n0_;have HI0 := n1_;have HK := n2_;have HB := n3_;clear n0_ n1_ n2_ n3_)))|(go_at_call 88;(with_reducible refine (spec_l1Once.calls g s0_0 x1001_1 x1002_1 8 false t361 t362 w0 _ ?side1 ?side2 A13.out).mono ?_);(case side1 => repeat (first|(with_reducible first|exact HI0.out|apply IsS112.alloc|apply IsS112.drewN|apply IsS112.drew|apply IsS112.set_1|apply IsS112.set_2)|exact HI0.out));(case side2 => repeat (first|(with_reducible first|exact HB.out|apply below_alloc|apply pw_below_drewN|apply below_drew1|refine below_set ?_ (IsS112.ge HI0.out))|exact HB.out));rintro e w20 ⟨rfl,hi,hb,hk⟩;have n0_ := Aside0.mk (Kd.R_mono (Kd.R_keep (IsS112.apart (show IsS112 w0 _ g s0_0 x1001_1 x1002_1 from by repeat (first|(with_reducible first|exact HI0.out|apply IsS112.alloc|apply IsS112.drewN|apply IsS112.drew|apply IsS112.set_1|apply IsS112.set_2)|exact HI0.out)) (by (with_reducible repeat (first|apply Kd.R_alloc|apply Kd.R_drewN|apply Kd.R_drew));exact HO_5.out) (by decide)) hk (fun _ h => h.2)) (fun _ h => h.1));have n1_ := Aside0.mk (KeepBut.trans (by repeat (first|(with_reducible first|exact HK.out|apply KeepBut.set_|apply keep_drewN|apply keep_drew|apply keep_alloc)|exact HK.out)) hk (.inl rfl));have n2_ := Aside0.mk (hb);have n3_ := Aside0.mk (hi);clear HO_5;clear HK;clear HB;clear HI0;have HO_5 := n0_;have HK := n1_;have HB := n2_;have HI0 := n3_;clear n0_ n1_ n2_ n3_;(try clear hb);(try clear hb2);(try clear hk);(try clear hi);have p363 : 0 ≤ (((rd_T59 x5_1 x6_1).f1) : Int) := of_decide_eq_true (by first|(with_reducible assumption)|assumption);have q363 : ((rd_T59 x5_1 x6_1).f1) < (l1.length : Int) := of_decide_eq_true (by first|(with_reducible assumption)|assumption);obtain ⟨ad363,e363,hx363_0,hx363_1⟩ := at_T30 (Kd.C_foot_now HR1.out HK.out) ((rd_T59 x5_1 x6_1).f1) p363 q363;obtain rfl : ad358 = ad363 := (by injection e363);replace p363 := eq_true p363;replace q363 := eq_true q363)|((with_reducible refine gcal_ (f := 84) rfl ?_);refine goesL_ (some 49) rfl rfl Try.func84 (by kernel_rfl) rfl #[.int .i64 ((rd_T30 l1 ((rd_T59 x5_1 x6_1).f1)).f0)] rfl (by (try simp only [List.map_toArray,List.map_cons,List.map_nil]);first|done|rfl|(simp only [List.length_drop,List.length_take];rfl)) ?_;(with_reducible refine (spec_Version.calls ((rd_T30 l1 ((rd_T59 x5_1 x6_1).f1)).f0) t364 _ A17.out).mono ?_);rintro e w' ⟨rfl,⟨nd,rfl⟩⟩;refine ⟨_,rfl,?_⟩;(try (rw [drewN_self w20];generalize hq_ : World.drewN w20 _ = w20;have n0_ : Aside0 (Kd.R k59 59 w20 w.heap.size (fun _ => True) (.slice (some ad356) x5_1.length co19) x5_1) := ⟨by rw [← hq_];exact (by (with_reducible repeat (first|apply Kd.R_alloc|apply Kd.R_drewN|apply Kd.R_drew));exact HO_5.out)⟩;have n1_ : Aside0 (IsS112 w0 w20 g s0_0 t361 t362) := ⟨by rw [← hq_];exact (by repeat (first|(with_reducible first|exact HI0.out|apply IsS112.alloc|apply IsS112.drewN|apply IsS112.drew|apply IsS112.set_1|apply IsS112.set_2)|exact HI0.out))⟩;have n2_ : Aside0 (KeepBut w w20 g none) := ⟨by rw [← hq_];exact (by repeat (first|(with_reducible first|exact HK.out|apply KeepBut.set_|apply keep_drewN|apply keep_drew|apply keep_alloc)|exact HK.out))⟩;have n3_ : Aside0 (Below w0.heap.size w0 w20) := ⟨by rw [← hq_];exact (by repeat (first|(with_reducible first|exact HB.out|apply below_alloc|apply pw_below_drewN|apply below_drew1|refine below_set ?_ (IsS112.ge HI0.out))|exact HB.out))⟩;clear HO_5 HI0 HK HB hq_;have HO_5 := n0_;have HI0 := n1_;have HK := n2_;have HB := n3_;clear n0_ n1_ n2_ n3_));have p18 : 0 ≤ (x6_1 : Int) := of_decide_eq_true (by first|(with_reducible assumption)|assumption);have q18 : (x6_1 : Int) < ((x5_1.length : Int) : Int) := of_decide_eq_true (by first|(with_reducible assumption)|assumption);obtain ⟨go18,co18,eo18,gb18,gl18,cl18,HG18⟩ := Kd.R_form HO_5.out (by omega);(first|cases eo18|(injection eo18 with ea_ en_ ec_;(first|subst ea_|(injection ea_ with ea_;subst ea_));subst ec_;clear en_));have GB18 := Aside0.mk gb18;have GG18 := Aside0.mk HG18;clear gb18 gl18 HG18;(first|simp only [add_plain] at hx356_0|skip);(first|simp only [add_plain] at hx356_1|skip);(first|simp only [add_plain] at hx356_2|skip);(first|simp only [add_plain] at hx356_3|skip);(first|simp only [add_plain] at hx356_4|skip);obtain ⟨ce18,hcl18,hM18,hcc18,hfr18⟩ := Kd.R_elem HO_5.out z59 (x6_1 : Int) p18 q18;obtain rfl := k59_openM hM18;have hx18_0 : w20.cell? ⟨go18,(x6_1 : Int).toNat * 5,none⟩ = some (.int .i64 ((rd_T59 x5_1 x6_1).f0)) := hcc18 0 _ rfl;have hx18_1 : w20.cell? ⟨go18,(x6_1 : Int).toNat * 5 + 1,none⟩ = some (.int .i64 ((rd_T59 x5_1 x6_1).f1)) := hcc18 1 _ rfl;have hx18_2 : w20.cell? ⟨go18,(x6_1 : Int).toNat * 5 + 2,none⟩ = some (.int .i64 ((rd_T59 x5_1 x6_1).f2)) := hcc18 2 _ rfl;have hx18_3 : w20.cell? ⟨go18,(x6_1 : Int).toNat * 5 + 3,none⟩ = some (.bool ((rd_T59 x5_1 x6_1).f3)) := hcc18 3 _ rfl;have hx18_4 : w20.cell? ⟨go18,(x6_1 : Int).toNat * 5 + 4,none⟩ = some (.int .i64 ((rd_T59 x5_1 x6_1).f4)) := hcc18 4 _ rfl;have hf18_0 : w20.frozen? ⟨go18,(x6_1 : Int).toNat * 5,none⟩ = false := hfr18 0;have hf18_1 : w20.frozen? ⟨go18,(x6_1 : Int).toNat * 5 + 1,none⟩ = false := hfr18 1;have hf18_2 : w20.frozen? ⟨go18,(x6_1 : Int).toNat * 5 + 2,none⟩ = false := hfr18 2;have hf18_3 : w20.frozen? ⟨go18,(x6_1 : Int).toNat * 5 + 3,none⟩ = false := hfr18 3;have hf18_4 : w20.frozen? ⟨go18,(x6_1 : Int).toNat * 5 + 4,none⟩ = false := hfr18 4;clear hcl18 hcc18 hfr18 hM18;replace p18 := eq_true p18;replace q18 := eq_true q18;have HX21 := Aside0.mk (show Kd.R k59 59 w20 w.heap.size (fun _ => True) (.slice (some ⟨go18,0,none⟩) x5_1.length co19) x5_1 from (by (with_reducible repeat (first|apply Kd.R_alloc|apply Kd.R_drewN|apply Kd.R_drew));exact HO_5.out));obtain ⟨ce21,hcl21,hM21,hcc21,hfr21⟩ := Kd.R_elem HX21.out z59 (x6_1 : Int) (of_decide_eq_true (by first|(with_reducible assumption)|assumption)) (by have h_ : (x6_1 : Int) < ((x5_1.length : Int) : Int) := of_decide_eq_true (by first|(with_reducible assumption)|assumption);first|exact h_|(have e_ := (Kd.R_reads' HO_5.out).1;omega)|simpa using h_);obtain rfl := k59_openM hM21;have HP21 := Kd.R_seg HX21.out (x6_1 : Int) (of_decide_eq_true (by first|(with_reducible assumption)|assumption)) (by have h_ : (x6_1 : Int) < ((x5_1.length : Int) : Int) := of_decide_eq_true (by first|(with_reducible assumption)|assumption);first|exact h_|(have e_ := (Kd.R_reads' HO_5.out).1;omega)|simpa using h_) (seg := [.int .i64 t364]) (j := 4) hcl21 hcc21 (show 5 ≤ 5 from by decide) (x' := (⟨(rd_T59 x5_1 x6_1).f0,(rd_T59 x5_1 x6_1).f1,(rd_T59 x5_1 x6_1).f2,(rd_T59 x5_1 x6_1).f3,t364⟩ : S59)) (k59_mkM _ _ _ (⟨(rd_T59 x5_1 x6_1).f0,(rd_T59 x5_1 x6_1).f1,(rd_T59 x5_1 x6_1).f2,(rd_T59 x5_1 x6_1).f3,t364⟩ : S59) ) (fun _ hk => hk);have hx21_4 := hcc21 4 _ rfl;(try simp only [show (k59).sz = 5 from rfl,Nat.mul_one,Nat.add_zero] at hx21_4);have hf21_4 := hfr21 4;(try simp only [show (k59).sz = 5 from rfl,Nat.mul_one,Nat.add_zero] at hf21_4);clear hcl21 hcc21 hfr21 hM21)|((with_reducible refine gate_store (t := 2) (p := 51) rfl ?_);refine store_event (t := 2) (p := 51) (v := ?vo_w22) (w1 := (w20.setCell ⟨go18,(x6_1 : Int).toNat * 5 + 4,none⟩ (.int .i64 t364))) ?hg ?ho ?hn ?hr ?_;(case ho => rfl);(case hg => rfl);(case hn => rfl);(case hr => first|(go_simp;done)|(go_simp;rfl)|(obtain ⟨_,_,e_⟩ := Kd.R_slice HO_5.out;subst e_;first|(go_simp;done)|(go_simp;rfl)));intro w22 hw;have hg : w20.grownBy w22 (some go18) := (by rw [hw];exact HP21.2);have hp_ : Kd.R k59 59 w22 w.heap.size (fun _ => True) (.slice (some ⟨go18,0,none⟩) x5_1.length co19) y365 := (by rw [hw,Ny365.out];exact HP21.1);clear HP21;have n0_ := Aside0.mk (hp_);have n1_ := Aside0.mk (IsS112.grown (by repeat (first|(with_reducible first|exact HI0.out|apply IsS112.alloc|apply IsS112.drewN|apply IsS112.drew|apply IsS112.set_1|apply IsS112.set_2)|exact HI0.out)) hg (IsS112.own_ne HI0.out HO_5.out (by decide)));have n2_ := Aside0.mk ((by rw [hw];exact below_set (HB.out) (Nat.le_trans HL.out GB18.out) : Below w0.heap.size w0 w22));have n3_ := Aside0.mk (KeepBut.trans (by repeat (first|(with_reducible first|exact HK.out|apply KeepBut.set_|apply keep_drewN|apply keep_drew|apply keep_alloc)|exact HK.out)) (KeepBut.of_grown hg g) (Kd.R_base2 HO_5.out));clear HO_5;clear HI0;clear HB;clear HK;have HO_5 := n0_;have HI0 := n1_;have HB := n2_;have HK := n3_;clear n0_ n1_ n2_ n3_;clear hg hw hp_))
          go_roundg k1
          case measure => have := HK1.out;omega
          case rel => exact ⟨(y365),(wrap64 (x6_1 + 1)),(t361),(t362),(by first|rfl|(simp;done)|(simp [*];done)),H',⟨by have := HK1.out;omega⟩,⟨by (with_reducible repeat (first|apply Kd.R_alloc|apply Kd.R_drewN|apply Kd.R_drew));exact HO_5.out⟩,⟨by repeat (first|(with_reducible first|exact HI0.out|apply IsS112.alloc|apply IsS112.drewN|apply IsS112.drew|apply IsS112.set_1|apply IsS112.set_2)|exact HI0.out)⟩,⟨by repeat (first|(with_reducible first|exact HK.out|apply KeepBut.set_|apply keep_drewN|apply keep_drew|apply keep_alloc)|exact HK.out)⟩,⟨by repeat (first|(with_reducible first|exact HB.out|apply below_alloc|apply pw_below_drewN|apply below_drew1|refine below_set ?_ (IsS112.ge HI0.out))|exact HB.out)⟩⟩
        ·replace c12 := Bool.eq_false_iff.mpr c12
         subst c12
         have H1 : (spec_l3DrawSets.l0 k1 l1 x5_1 (wrap64 (x6_1 + 1)) s0_0 x1001_1 x1002_1) = some (r1,r2,r3) := by rw [if_neg (show ¬ (false = true) by decide)] at H;exact H
         clear H
         have H := H1
         clear H1
         have H' := Aside0.mk H
         clear H
         obtain ⟨Ao23,co23,eo23⟩ := Kd.R_slice HO_5.out
         subst eo23
         have p356 : 0 ≤ (x6_1 : Int) := of_decide_eq_true (by first|(with_reducible assumption)|assumption)
         have q356 : x6_1 < (x5_1.length : Int) := of_decide_eq_true (by first|(with_reducible assumption)|assumption)
         obtain ⟨ad356,e356,hx356_0,hx356_1,hx356_2,hx356_3,hx356_4⟩ := at_T59 (Kd.R_reads' HO_5.out).2.2 x6_1 p356 q356
         cases e356
         replace p356 := eq_true p356
         replace q356 := eq_true q356
         go_wp2_with (first|((with_reducible refine gcal_ (f := 67) rfl ?_);refine goesL_ (some 22) rfl rfl Try.func67 (by kernel_rfl) rfl #[.int .i64 ((rd_T59 x5_1 x6_1).f1)] rfl (by (try simp only [List.map_toArray,List.map_cons,List.map_nil]);first|done|rfl|(simp only [List.length_drop,List.length_take];rfl)) ?_;(with_reducible refine (spec_l1Slot.calls ((rd_T59 x5_1 x6_1).f1) true _ A7.out).mono ?_);rintro e w' ⟨rfl,⟨nd,rfl⟩⟩;refine ⟨_,rfl,?_⟩;have p358 : 0 ≤ (((rd_T59 x5_1 x6_1).f1) : Int) := of_decide_eq_true (by first|(with_reducible assumption)|assumption);have q358 : ((rd_T59 x5_1 x6_1).f1) < (l1.length : Int) := of_decide_eq_true (by first|(with_reducible assumption)|assumption);obtain ⟨ad358,e358,hx358_0,hx358_1⟩ := at_T30 (Kd.C_foot_now HR1.out HK.out) ((rd_T59 x5_1 x6_1).f1) p358 q358;cases e358;replace p358 := eq_true p358;replace q358 := eq_true q358)|(go_at_call 62;(with_reducible refine (spec_HeadOk.calls ((rd_T30 l1 ((rd_T59 x5_1 x6_1).f1)).f0) false _ A11.out).mono ?_);rintro e w' ⟨rfl,⟨nd,rfl⟩⟩))
         go_roundg k1
         case measure => have := HK1.out;omega
         case rel => exact ⟨(x5_1),(wrap64 (x6_1 + 1)),(x1001_1),(x1002_1),(by first|rfl|(simp;done)|(simp [*];done)),H',⟨by have := HK1.out;omega⟩,⟨by (with_reducible repeat (first|apply Kd.R_alloc|apply Kd.R_drewN|apply Kd.R_drew));exact HO_5.out⟩,⟨by repeat (first|(with_reducible first|exact HI0.out|apply IsS112.alloc|apply IsS112.drewN|apply IsS112.drew|apply IsS112.set_1|apply IsS112.set_2)|exact HI0.out)⟩,⟨by repeat (first|(with_reducible first|exact HK.out|apply KeepBut.set_|apply keep_drewN|apply keep_drew|apply keep_alloc)|exact HK.out)⟩,⟨by repeat (first|(with_reducible first|exact HB.out|apply below_alloc|apply pw_below_drewN|apply below_drew1|refine below_set ?_ (IsS112.ge HI0.out))|exact HB.out)⟩⟩
       ·rw [if_neg c10] at H
        exact absurd H (by simp)
      ·rw [if_neg c9] at H
       have c9b0 : decide (((rd_T59 x5_1 x6_1).f1) < (l1.length : Int)) = false := decide_eq_false c9
       clear c9
       have H' := Aside0.mk H
       clear H
       obtain ⟨Ao24,co24,eo24⟩ := Kd.R_slice HO_5.out
       subst eo24
       have p356 : 0 ≤ (x6_1 : Int) := of_decide_eq_true (by first|(with_reducible assumption)|assumption)
       have q356 : x6_1 < (x5_1.length : Int) := of_decide_eq_true (by first|(with_reducible assumption)|assumption)
       obtain ⟨ad356,e356,hx356_0,hx356_1,hx356_2,hx356_3,hx356_4⟩ := at_T59 (Kd.R_reads' HO_5.out).2.2 x6_1 p356 q356
       cases e356
       replace p356 := eq_true p356
       replace q356 := eq_true q356
       go_wp2_with (first|((with_reducible refine gcal_ (f := 67) rfl ?_);refine goesL_ (some 22) rfl rfl Try.func67 (by kernel_rfl) rfl #[.int .i64 ((rd_T59 x5_1 x6_1).f1)] rfl (by (try simp only [List.map_toArray,List.map_cons,List.map_nil]);first|done|rfl|(simp only [List.length_drop,List.length_take];rfl)) ?_;(with_reducible refine (spec_l1Slot.calls ((rd_T59 x5_1 x6_1).f1) true _ A7.out).mono ?_);rintro e w' ⟨rfl,⟨nd,rfl⟩⟩;refine ⟨_,rfl,?_⟩))
       go_roundg k1
       case measure => have := HK1.out;omega
       case rel => exact ⟨(x5_1),(wrap64 (x6_1 + 1)),(x1001_1),(x1002_1),(by first|rfl|(simp;done)|(simp [*];done)),H',⟨by have := HK1.out;omega⟩,⟨by (with_reducible repeat (first|apply Kd.R_alloc|apply Kd.R_drewN|apply Kd.R_drew));exact HO_5.out⟩,⟨by repeat (first|(with_reducible first|exact HI0.out|apply IsS112.alloc|apply IsS112.drewN|apply IsS112.drew|apply IsS112.set_1|apply IsS112.set_2)|exact HI0.out)⟩,⟨by repeat (first|(with_reducible first|exact HK.out|apply KeepBut.set_|apply keep_drewN|apply keep_drew|apply keep_alloc)|exact HK.out)⟩,⟨by repeat (first|(with_reducible first|exact HB.out|apply below_alloc|apply pw_below_drewN|apply below_drew1|refine below_set ?_ (IsS112.ge HI0.out))|exact HB.out)⟩⟩
     ·replace c8 := Bool.eq_false_iff.mpr c8
      subst c8
      have H1 : (spec_l3DrawSets.l0 k1 l1 x5_1 (wrap64 (x6_1 + 1)) s0_0 x1001_1 x1002_1) = some (r1,r2,r3) := by rw [if_neg (show ¬ (false = true) by decide)] at H;exact H
      clear H
      have H := H1
      clear H1
      have H' := Aside0.mk H
      clear H
      obtain ⟨Ao25,co25,eo25⟩ := Kd.R_slice HO_5.out
      subst eo25
      have p356 : 0 ≤ (x6_1 : Int) := of_decide_eq_true (by first|(with_reducible assumption)|assumption)
      have q356 : x6_1 < (x5_1.length : Int) := of_decide_eq_true (by first|(with_reducible assumption)|assumption)
      obtain ⟨ad356,e356,hx356_0,hx356_1,hx356_2,hx356_3,hx356_4⟩ := at_T59 (Kd.R_reads' HO_5.out).2.2 x6_1 p356 q356
      cases e356
      replace p356 := eq_true p356
      replace q356 := eq_true q356
      go_wp2_with (first|((with_reducible refine gcal_ (f := 67) rfl ?_);refine goesL_ (some 22) rfl rfl Try.func67 (by kernel_rfl) rfl #[.int .i64 ((rd_T59 x5_1 x6_1).f1)] rfl (by (try simp only [List.map_toArray,List.map_cons,List.map_nil]);first|done|rfl|(simp only [List.length_drop,List.length_take];rfl)) ?_;(with_reducible refine (spec_l1Slot.calls ((rd_T59 x5_1 x6_1).f1) false _ A7.out).mono ?_);rintro e w' ⟨rfl,⟨nd,rfl⟩⟩;refine ⟨_,rfl,?_⟩))
      go_roundg k1
      case measure => have := HK1.out;omega
      case rel => exact ⟨(x5_1),(wrap64 (x6_1 + 1)),(x1001_1),(x1002_1),(by first|rfl|(simp;done)|(simp [*];done)),H',⟨by have := HK1.out;omega⟩,⟨by (with_reducible repeat (first|apply Kd.R_alloc|apply Kd.R_drewN|apply Kd.R_drew));exact HO_5.out⟩,⟨by repeat (first|(with_reducible first|exact HI0.out|apply IsS112.alloc|apply IsS112.drewN|apply IsS112.drew|apply IsS112.set_1|apply IsS112.set_2)|exact HI0.out)⟩,⟨by repeat (first|(with_reducible first|exact HK.out|apply KeepBut.set_|apply keep_drewN|apply keep_drew|apply keep_alloc)|exact HK.out)⟩,⟨by repeat (first|(with_reducible first|exact HB.out|apply below_alloc|apply pw_below_drewN|apply below_drew1|refine below_set ?_ (IsS112.ge HI0.out))|exact HB.out)⟩⟩
    ·rw [if_neg c6] at H
     exact absurd H (by simp)
   ·rw [if_neg c5] at H
    have c5b0 : decide (x6_1 < (x5_1.length : Int)) = false := decide_eq_false c5
    clear c5
    simp only [Option.some.injEq,Prod.mk.injEq] at H
    obtain ⟨rfl,rfl,rfl⟩ := H
    obtain ⟨Ao26,co26,eo26⟩ := Kd.R_slice HO_5.out
    subst eo26
    go_wp2
    go_ret
    exact ⟨_,by first|rfl|(simp [errW_none,errW_some] <;> rfl)|(simp [*,errW_none,errW_some] <;> rfl),by (with_reducible repeat (first|apply Kd.R_alloc|apply Kd.R_drewN|apply Kd.R_drew));exact HO_5.out,by repeat (first|(with_reducible first|exact HI0.out|apply IsS112.alloc|apply IsS112.drewN|apply IsS112.drew|apply IsS112.set_1|apply IsS112.set_2)|exact HI0.out),by repeat (first|(with_reducible first|exact HB.out|apply below_alloc|apply pw_below_drewN|apply below_drew1|refine below_set ?_ (IsS112.ge HI0.out))|exact HB.out),by repeat (first|(with_reducible first|exact HK.out|apply KeepBut.set_|apply keep_drewN|apply keep_drew|apply keep_alloc)|exact HK.out)⟩

/-! ### spec_DrawInstall: function 44 -/
def spec_DrawInstall.f (k : Nat) (l0 : List Int) : Option ((List (S30)) × (List (S59))) := (spec_l1New.f k l0).bind fun bt366 => ((spec_l3DrawAny.f k bt366.1 bt366.2.1 bt366.2.2).bind fun bt370 => ((spec_l3DrawSets.f k bt366.1 bt370.2.1 bt370.2.2 bt370.1).bind fun bt375 => (some (bt370.1, bt375.1))))

set_option maxHeartbeats 8000000 in
set_option maxRecDepth 100000 in
theorem spec_DrawInstall.calls (k : Nat) (A0 : Option Addr) (c0 : Nat) (l0 : List Int) (r1 : List (S30)) (r2 : List (S59)) (w : World) (hr0 : Kd.C (Kd.int .u8) w A0 l0.length l0) (hc0 : l0.length ≤ c0) (h : spec_DrawInstall.f k l0 = some (r1, r2)) :
    Calls Try.prog 44 #[.slice A0 l0.length c0] w fun e w' => ∃ v0_ v1_ : Value, e = .returned (.tuple #[v0_, v1_]) ∧ Kd.Q k30 30 w' w.heap.size (fun _ => True) v0_ r1 ∧ Kd.R k59 59 w' w.heap.size (fun _ => True) v1_ r2 ∧ Below w.heap.size w w' := by
 have HR0 := Aside0.mk hr0
 have HC0 := Aside0.mk hc0
 clear hr0 hc0
 have HB := Aside0.mk (Below.refl w.heap.size w)
 have H : ((spec_l1New.f k l0).bind fun bt366 => ((spec_l3DrawAny.f k bt366.1 bt366.2.1 bt366.2.2).bind fun bt370 => ((spec_l3DrawSets.f k bt366.1 bt370.2.1 bt370.2.2 bt370.1).bind fun bt375 => (some (bt370.1,bt375.1))))) = some (r1,r2) := h
 clear h
 replace H := Option.bind_eq_some_iff.mp H
 obtain ⟨⟨t366,t367,t368⟩,A20,H⟩ := H
 replace H : ((spec_l3DrawAny.f k t366 t367 t368).bind fun bt370 => ((spec_l3DrawSets.f k t366 bt370.2.1 bt370.2.2 bt370.1).bind fun bt375 => (some (bt370.1,bt375.1)))) = some (r1,r2) := H
 have A2 := Aside0.mk A20
 clear A20
 replace H := Option.bind_eq_some_iff.mp H
 obtain ⟨⟨t370,t373,t374⟩,A30,H⟩ := H
 replace H : ((spec_l3DrawSets.f k t366 t373 t374 t370).bind fun bt375 => (some (t370,bt375.1))) = some (r1,r2) := H
 have A3 := Aside0.mk A30
 clear A30
 replace H := Option.bind_eq_some_iff.mp H
 obtain ⟨⟨t375,t378,t379⟩,A40,H⟩ := H
 replace H : (some (t370,t375)) = some (r1,r2) := H
 have A4 := Aside0.mk A40
 clear A40
 simp only [Option.some.injEq,Prod.mk.injEq] at H
 obtain ⟨rfl,rfl⟩ := H
 go_enter Try.func44,Try.ntmps44
 go_wp2_with (first|((with_reducible refine gcal_ (f := 72) rfl ?_);refine goesL_ (some 7) rfl rfl Try.func72 (by kernel_rfl) rfl #[.slice A0 l0.length c0] rfl (by (try simp only [List.map_toArray,List.map_cons,List.map_nil]);first|done|rfl|(simp only [List.length_drop,List.length_take];rfl)) ?_;(with_reducible refine (spec_l1New.calls k _ _ l0 t366 t367 t368 w _ ?side1 ?side2 ?side3 A2.out).mono ?_);(case side1 => repeat (first|(with_reducible first|exact HB.out|apply below_alloc|apply pw_below_drewN|apply below_drew1)|exact HB.out));(case side2 => exact HR0.out);(case side3 => exact HC0.out);rintro e w5 ⟨g369,rfl,hi,hb,hb2⟩;refine ⟨_,rfl,?_⟩;have n0_ := Aside0.mk (hb);have n1_ := Aside0.mk (hi);clear HB;have HB := n0_;have HI369 := n1_;clear n0_ n1_;(try clear hb);(try clear hb2);(try clear hk);(try clear hi))|((with_reducible refine gcal_ (f := 73) rfl ?_);refine goesL_ (some 9) rfl rfl Try.func73 (by kernel_rfl) rfl #[.pointer (some ⟨g369,0,none⟩)] rfl (by (try simp only [List.map_toArray,List.map_cons,List.map_nil]);first|done|rfl|(simp only [List.length_drop,List.length_take];rfl)) ?_;(with_reducible refine (spec_l3DrawAny.calls k g369 t366 t367 t368 t370 t373 t374 w _ ?side1 ?side2 A3.out).mono ?_);(case side1 => repeat (first|(with_reducible first|exact HI369.out|apply IsS112.alloc|apply IsS112.drewN|apply IsS112.drew|apply IsS112.set_1|apply IsS112.set_2)|exact HI369.out));(case side2 => repeat (first|(with_reducible first|exact HB.out|apply below_alloc|apply pw_below_drewN|apply below_drew1|refine below_set ?_ (IsS112.ge HI369.out))|exact HB.out));rintro e w6 ⟨v371,rfl,ho0,hi,hb,hk⟩;refine ⟨_,rfl,?_⟩;have n0_ := Aside0.mk (Kd.Q_lower ho0 (below_size (by repeat (first|(with_reducible first|exact HB.out|apply below_alloc|apply pw_below_drewN|apply below_drew1|refine below_set ?_ (IsS112.ge HI369.out))|exact HB.out))));have n1_ := Aside0.mk (hb);have n2_ := Aside0.mk (hi);clear HB;clear HI369;have HO372 := n0_;have HB := n1_;have HI369 := n2_;clear n0_ n1_ n2_;(try clear hb);(try clear hb2);(try clear hk);(try clear hi);(try clear ho0);obtain ⟨Ao7,co7,eo7,_⟩ := Kd.Q_slice HO372.out;subst eo7)|((with_reducible refine gcal_ (f := 89) rfl ?_);refine goesL_ (some 13) rfl rfl Try.func89 (by kernel_rfl) rfl #[.pointer (some ⟨g369,0,none⟩),.slice Ao7 t370.length co7] rfl (by (try simp only [List.map_toArray,List.map_cons,List.map_nil]);first|done|rfl|(simp only [List.length_drop,List.length_take];rfl)) ?_;(with_reducible refine (spec_l3DrawSets.calls k g369 t366 t373 t374 _ _ t370 t375 t378 t379 w _ ?side1 ?side2 ?side3 ?side4 A4.out).mono ?_);(case side1 => repeat (first|(with_reducible first|exact HI369.out|apply IsS112.alloc|apply IsS112.drewN|apply IsS112.drew|apply IsS112.set_1|apply IsS112.set_2)|exact HI369.out));(case side2 => repeat (first|(with_reducible first|exact HB.out|apply below_alloc|apply pw_below_drewN|apply below_drew1|refine below_set ?_ (IsS112.ge HI369.out))|exact HB.out));(case side3 => exact Kd.C_foot_ownQ (IsS112.apartQ (show IsS112 w _ g369 t366 t373 t374 from by repeat (first|(with_reducible first|exact HI369.out|apply IsS112.alloc|apply IsS112.drewN|apply IsS112.drew|apply IsS112.set_1|apply IsS112.set_2)|exact HI369.out)) (by (with_reducible repeat (first|apply Kd.Q_alloc|apply Kd.Q_drewN|apply Kd.Q_drew));exact HO372.out) (by decide)) (fun _ h_ => h_.2));(case side4 => exact (Kd.Q_reads' HO372.out).2.1);rintro e w8 ⟨v376,rfl,ho0,hi,hb,hk⟩;refine ⟨_,rfl,?_⟩;have n0_ := Aside0.mk (Kd.Q_mono (Kd.Q_keep (IsS112.apartQ (show IsS112 w _ g369 t366 t373 t374 from by repeat (first|(with_reducible first|exact HI369.out|apply IsS112.alloc|apply IsS112.drewN|apply IsS112.drew|apply IsS112.set_1|apply IsS112.set_2)|exact HI369.out)) (by (with_reducible repeat (first|apply Kd.Q_alloc|apply Kd.Q_drewN|apply Kd.Q_drew));exact HO372.out) (by decide)) hk (fun _ h => h.2)) (fun _ h => h.1));have n1_ := Aside0.mk (Kd.R_lower ho0 (below_size (by repeat (first|(with_reducible first|exact HB.out|apply below_alloc|apply pw_below_drewN|apply below_drew1|refine below_set ?_ (IsS112.ge HI369.out))|exact HB.out))));have n2_ := Aside0.mk (hb);have n3_ := Aside0.mk (hi);clear HO372;clear HB;clear HI369;have HO372 := n0_;have HO377 := n1_;have HB := n2_;have HI369 := n3_;clear n0_ n1_ n2_ n3_;(try clear hb);(try clear hb2);(try clear hk);(try clear hi);(try clear ho0)))
 go_ret2
 exact ⟨_,_,by first|rfl|(simp [errW_none,errW_some] <;> rfl)|(simp [*,errW_none,errW_some] <;> rfl),by (with_reducible repeat (first|apply Kd.Q_alloc|apply Kd.Q_drewN|apply Kd.Q_drew));exact HO372.out,by (with_reducible repeat (first|apply Kd.R_alloc|apply Kd.R_drewN|apply Kd.R_drew));exact HO377.out,by repeat (first|(with_reducible first|exact HB.out|apply below_alloc|apply pw_below_drewN|apply below_drew1|refine below_set ?_ (IsS112.ge HI369.out))|exact HB.out)⟩

/-! ### impl_Version: function 45 -/
def impl_Version.f (a0 : Int) : Option (Int) := (impl_isHead.f a0).bind fun t380 => (if t380 = true then (some (wrap64 (Int.tdiv a0 4))) else (some (-1)))
set_option maxHeartbeats 8000000 in
set_option maxRecDepth 100000 in
theorem impl_Version.calls (a0 : Int) (r : Int) (w : World) (h : impl_Version.f a0 = some r) :
    Calls Try.prog 45 #[.int .i64 a0] w fun e w' => e = .returned (.int .i64 r) ∧ Drawn0 w w' := by
 have H : ((impl_isHead.f a0).bind fun t380 => (if t380 = true then (some (wrap64 (Int.tdiv a0 4))) else (some (-1)))) = some r := h
 clear h
 replace H := Option.bind_eq_some_iff.mp H
 obtain ⟨t380,A20,H⟩ := H
 replace H : (if t380 = true then (some (wrap64 (Int.tdiv a0 4))) else (some (-1))) = some r := H
 have A2 := Aside0.mk A20
 clear A20
 by_cases c3 : t380 = true
 ·subst c3
  have H1 : (some (wrap64 (Int.tdiv a0 4))) = some r := by rw [if_pos rfl] at H;exact H
  clear H
  have H := H1
  clear H1
  obtain rfl := Option.some.inj H
  go_enter Try.func45,Try.ntmps45
  go_wp2_with (first|((with_reducible refine gcal_ (f := 75) rfl ?_);refine goesL_ (some 4) rfl rfl Try.func75 (by kernel_rfl) rfl #[.int .i64 a0] rfl (by (try simp only [List.map_toArray,List.map_cons,List.map_nil]);first|done|rfl|(simp only [List.length_drop,List.length_take];rfl)) ?_;(with_reducible refine (impl_isHead.calls a0 true _ A2.out).mono ?_);rintro e w' ⟨rfl,⟨nd,rfl⟩⟩;refine ⟨_,rfl,?_⟩))
  go_ret
  exact ⟨by first|rfl|(simp;done)|(simp [*];done),by repeat (first|exact Drawn0.refl _|apply Drawn0.step)⟩
 ·replace c3 := Bool.eq_false_iff.mpr c3
  subst c3
  have H1 : (some (-1)) = some r := by rw [if_neg (show ¬ (false = true) by decide)] at H;exact H
  clear H
  have H := H1
  clear H1
  obtain rfl := Option.some.inj H
  go_enter Try.func45,Try.ntmps45
  go_wp2_with (first|((with_reducible refine gcal_ (f := 75) rfl ?_);refine goesL_ (some 4) rfl rfl Try.func75 (by kernel_rfl) rfl #[.int .i64 a0] rfl (by (try simp only [List.map_toArray,List.map_cons,List.map_nil]);first|done|rfl|(simp only [List.length_drop,List.length_take];rfl)) ?_;(with_reducible refine (impl_isHead.calls a0 false _ A2.out).mono ?_);rintro e w' ⟨rfl,⟨nd,rfl⟩⟩;refine ⟨_,rfl,?_⟩))
  go_ret
  exact ⟨by first|rfl|(simp;done)|(simp [*];done),by repeat (first|exact Drawn0.refl _|apply Drawn0.step)⟩

end Go.Proofs.Ytgdfbjmjgegicaa.XIs
