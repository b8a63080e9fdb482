/- Proved: of each Go function here that a call comes to what the Lean function of its name tells. Written by a program of this session over the translation. No conditions beyond each theorem's own. -/
import Derived.Test.YtgdfbjmjgegicaaXLs0
import Derived.Test.YtgdfbjmjgegicaaXLs1
import Derived.Test.YtgdfbjmjgegicaaXLs2
import Derived.Test.YtgdfbjmjgegicaaXLs4
import Derived.Test.YtgdfbjmjgegicaaXLs6
import Derived.Test.YtgdfbjmjgegicaaXLs7
import Derived.Test.YtgdfbjmjgegicaaXLs8
import Derived.Test.YtgdfbjmjgegicaaXLs9
namespace Go.Proofs.Ytgdfbjmjgegicaa.XLs
open Go.RowKit Go.Proofs.Ytgdfbjmjgegicaa.Aid Go.Proofs.YtgdfbjmjgegicaaW.PrintWords Go.Proofs.YtgdfbjmjgegicaaW.PrintLast Go.Proofs.YtgdfbjmjgegicaaW.PrintMore
set_option linter.unusedVariables false
set_option linter.unusedSimpArgs false

attribute [local go_sem high] eqA30
/-! ### spec_l3DrawSets: function 89 -/
def spec_l3DrawSets.l0 : Nat → List (S30) → List (S59) → Int → List Int → Int → Int → Option ((List (S59)) × Int × Int)
  | 0, _, _, _, _, _, _ => none
  | k + 1, x1, x5, x6, x1000, x1001, x1002 => if x6 < (x5.length : Int) then (if 0 ≤ x6 then ((spec_l1Slot.f ((rd_T59 x5 x6).f1)).bind fun t376 => (if t376 = true then (if ((rd_T59 x5 x6).f1) < (x1.length : Int) then (if 0 ≤ ((rd_T59 x5 x6).f1) then ((spec_HeadOk.f ((rd_T30 x1 ((rd_T59 x5 x6).f1)).f0)).bind fun t378 => (if t378 = true then ((spec_l1Once.f x1000 x1001 x1002 8).bind fun bt379 => (if bt379.1 = true then (spec_l3DrawSets.l0 k x1 x5 (wrap64 (x6 + 1)) x1000 bt379.2.1 bt379.2.2) else ((spec_Version.f ((rd_T30 x1 ((rd_T59 x5 x6).f1)).f0)).bind fun t383 => (spec_l3DrawSets.l0 k x1 (x5.set (x6 : Int).toNat (⟨(rd_T59 x5 x6).f0, (rd_T59 x5 x6).f1, (rd_T59 x5 x6).f2, (rd_T59 x5 x6).f3, t383⟩ : S59)) (wrap64 (x6 + 1)) x1000 bt379.2.1 bt379.2.2)))) else (spec_l3DrawSets.l0 k x1 x5 (wrap64 (x6 + 1)) x1000 x1001 x1002))) else (none)) else (spec_l3DrawSets.l0 k x1 x5 (wrap64 (x6 + 1)) x1000 x1001 x1002)) else (spec_l3DrawSets.l0 k x1 x5 (wrap64 (x6 + 1)) x1000 x1001 x1002))) else (none)) else (some (x5, x1001, x1002))
def spec_l3DrawSets.f (k : Nat) (s0_0 : List Int) (s0_1 : Int) (s0_2 : Int) (l1 : List (S30)) : Option ((List (S59)) × Int × Int) := (spec_l2DrawSets.f k s0_0 s0_1 s0_2 1).bind fun bt370 => (spec_l3DrawSets.l0 k l1 bt370.1 0 s0_0 bt370.2.1 bt370.2.2)

set_option maxHeartbeats 8000000 in
set_option maxRecDepth 100000 in
theorem spec_l3DrawSets.calls (k : Nat) (g : Nat) (s0_0 : List Int) (s0_1 : Int) (s0_2 : Int) (A1 : Option Addr) (c1 : Nat) (l1 : List (S30)) (r1 : List (S59)) (r2 : Int) (r3 : Int) (w0 w : World) (hI : IsS112 w0 w g s0_0 s0_1 s0_2) (hB : Below w0.heap.size w0 w) (hr1 : ∀ W_, KeepBut w W_ g none → Kd.C k30 W_ A1 l1.length l1) (hc1 : l1.length ≤ c1) (h : spec_l3DrawSets.f k s0_0 s0_1 s0_2 l1 = some (r1, r2, r3)) :
    Calls Try.prog 89 #[.pointer (some ⟨g, 0, none⟩), .slice A1 l1.length c1] w fun e w' => ∃ v0_ : Value, e = .returned (v0_) ∧ Kd.R k59 59 w' w.heap.size (fun _ => True) v0_ r1 ∧ IsS112 w0 w' g s0_0 r2 r3 ∧ Below w0.heap.size w0 w' ∧ KeepBut w w' g none := by
 have HR1 := Aside0.mk hr1
 have HC1 := Aside0.mk hc1
 clear hr1 hc1
 have HI0 := Aside0.mk hI
 have HK := Aside0.mk (KeepBut.refl w g none)
 have HL := Aside0.mk hB.size
 clear hI
 have HW0 := Aside0.mk hB.size
 have HB := Aside0.mk hB
 clear hB
 have H : ((spec_l2DrawSets.f k s0_0 s0_1 s0_2 1).bind fun bt370 => (spec_l3DrawSets.l0 k l1 bt370.1 0 s0_0 bt370.2.1 bt370.2.2)) = some (r1,r2,r3) := h
 clear h
 replace H := Option.bind_eq_some_iff.mp H
 obtain ⟨⟨t370,t373,t374⟩,A30,H⟩ := H
 replace H : (spec_l3DrawSets.l0 k l1 t370 0 s0_0 t373 t374) = some (r1,r2,r3) := H
 have A3 := Aside0.mk A30
 clear A30
 have H' := Aside0.mk H
 clear H
 go_enter Try.func89,Try.ntmps89
 go_wp2_with (first|((with_reducible refine gcal_ (f := 116) rfl ?_);refine goesL_ (some 9) rfl rfl Try.func116 (by kernel_rfl) rfl #[.pointer (some ⟨g,0,none⟩),.int .i64 1] rfl (by (try simp only [List.map_toArray,List.map_cons,List.map_nil]);first|done|rfl|(simp only [List.length_drop,List.length_take];rfl)) ?_;(with_reducible refine (spec_l2DrawSets.calls k g s0_0 s0_1 s0_2 1 t370 t373 t374 w0 _ ?side1 ?side2 A3.out).mono ?_);(case side1 => repeat (first|(with_reducible first|exact HI0.out|apply IsS112.alloc|apply IsS112.drewN|apply IsS112.drew|apply IsS112.set_1|apply IsS112.set_2)|exact HI0.out));(case side2 => repeat (first|(with_reducible first|exact HB.out|apply below_alloc|apply pw_below_drewN|apply below_drew1|refine below_set ?_ (IsS112.ge HI0.out))|exact HB.out));rintro e w4 ⟨v371,rfl,ho0,hi,hb,hk⟩;refine ⟨_,rfl,?_⟩;have n0_ := Aside0.mk (Kd.R_lower ho0 (keep_size (w := w) (g := g) (row := none) (by repeat (first|(with_reducible first|exact HK.out|apply KeepBut.set_|apply keep_drewN|apply keep_drew|apply keep_alloc)|exact HK.out))));have n1_ := Aside0.mk (KeepBut.trans (by repeat (first|(with_reducible first|exact HK.out|apply KeepBut.set_|apply keep_drewN|apply keep_drew|apply keep_alloc)|exact HK.out)) hk (.inl rfl));have n2_ := Aside0.mk (hb);have n3_ := Aside0.mk (hi);clear HK;clear HB;clear HI0;have HO372 := n0_;have HK := n1_;have HB := n2_;have HI0 := n3_;clear n0_ n1_ n2_ n3_;(try clear hb);(try clear hb2);(try clear hk);(try clear hi);(try clear ho0)))
 go_loopg [6] k (fun kq v6 w' => ∃ (x5_1 : List (S59)) (x6_1 : Int) (x1001_1 : Int) (x1002_1 : Int),v6 = .int .i64 x6_1 ∧ Aside0 (spec_l3DrawSets.l0 kq l1 x5_1 x6_1 s0_0 x1001_1 x1002_1 = some (r1,r2,r3)) ∧ Aside0 (kq ≤ k) ∧ Aside0 (Kd.R k59 59 w' w.heap.size (fun _ => True) v371 x5_1) ∧ Aside0 (IsS112 w0 w' g s0_0 x1001_1 x1002_1) ∧ Aside0 (KeepBut w w' g none) ∧ Aside0 (Below w0.heap.size w0 w'))
 case atStart => exact ⟨(t370),(0),(t373),(t374),(by first|rfl|(simp;done)|(simp [*];done)),H',⟨Nat.le_refl _⟩,⟨by (with_reducible repeat (first|apply Kd.R_alloc|apply Kd.R_drewN|apply Kd.R_drew));exact HO372.out⟩,⟨by repeat (first|(with_reducible first|exact HI0.out|apply IsS112.alloc|apply IsS112.drewN|apply IsS112.drew|apply IsS112.set_1|apply IsS112.set_2)|exact HI0.out)⟩,⟨by repeat (first|(with_reducible first|exact HK.out|apply KeepBut.set_|apply keep_drewN|apply keep_drew|apply keep_alloc)|exact HK.out)⟩,⟨by repeat (first|(with_reducible first|exact HB.out|apply below_alloc|apply pw_below_drewN|apply below_drew1|refine below_set ?_ (IsS112.ge HI0.out))|exact HB.out)⟩⟩
 case round =>
  clear H'
  try clear c1
  try clear p2
  obtain ⟨x5_1,x6_1,x1001_1,x1002_1,rfl,HA,HK1,HO_5,HI0,HK,HB⟩ := hrel
  cases gk with
    | zero => exact absurd HA.out (by simp [spec_l3DrawSets.l0])
    | succ k1 =>
   have H := HA.out
   clear HA
   simp only [spec_l3DrawSets.l0] at H
   by_cases c5 : x6_1 < (x5_1.length : Int)
   ·rw [if_pos c5] at H
    have c5b0 : decide (x6_1 < (x5_1.length : Int)) = true := decide_eq_true c5
    clear c5
    by_cases c6 : 0 ≤ x6_1
    ·rw [if_pos c6] at H
     have c6b0 : decide (0 ≤ x6_1) = true := decide_eq_true c6
     clear c6
     replace H := Option.bind_eq_some_iff.mp H
     obtain ⟨t376,A70,H⟩ := H
     replace H : (if t376 = true then (if ((rd_T59 x5_1 x6_1).f1) < (l1.length : Int) then (if 0 ≤ ((rd_T59 x5_1 x6_1).f1) then ((spec_HeadOk.f ((rd_T30 l1 ((rd_T59 x5_1 x6_1).f1)).f0)).bind fun t378 => (if t378 = true then ((spec_l1Once.f s0_0 x1001_1 x1002_1 8).bind fun bt379 => (if bt379.1 = true then (spec_l3DrawSets.l0 k1 l1 x5_1 (wrap64 (x6_1 + 1)) s0_0 bt379.2.1 bt379.2.2) else ((spec_Version.f ((rd_T30 l1 ((rd_T59 x5_1 x6_1).f1)).f0)).bind fun t383 => (spec_l3DrawSets.l0 k1 l1 (x5_1.set (x6_1 : Int).toNat (⟨(rd_T59 x5_1 x6_1).f0,(rd_T59 x5_1 x6_1).f1,(rd_T59 x5_1 x6_1).f2,(rd_T59 x5_1 x6_1).f3,t383⟩ : S59)) (wrap64 (x6_1 + 1)) s0_0 bt379.2.1 bt379.2.2)))) else (spec_l3DrawSets.l0 k1 l1 x5_1 (wrap64 (x6_1 + 1)) s0_0 x1001_1 x1002_1))) else (none)) else (spec_l3DrawSets.l0 k1 l1 x5_1 (wrap64 (x6_1 + 1)) s0_0 x1001_1 x1002_1)) else (spec_l3DrawSets.l0 k1 l1 x5_1 (wrap64 (x6_1 + 1)) s0_0 x1001_1 x1002_1)) = some (r1,r2,r3) := H
     have A7 := Aside0.mk A70
     clear A70
     by_cases c8 : t376 = true
     ·subst c8
      have H1 : (if ((rd_T59 x5_1 x6_1).f1) < (l1.length : Int) then (if 0 ≤ ((rd_T59 x5_1 x6_1).f1) then ((spec_HeadOk.f ((rd_T30 l1 ((rd_T59 x5_1 x6_1).f1)).f0)).bind fun t378 => (if t378 = true then ((spec_l1Once.f s0_0 x1001_1 x1002_1 8).bind fun bt379 => (if bt379.1 = true then (spec_l3DrawSets.l0 k1 l1 x5_1 (wrap64 (x6_1 + 1)) s0_0 bt379.2.1 bt379.2.2) else ((spec_Version.f ((rd_T30 l1 ((rd_T59 x5_1 x6_1).f1)).f0)).bind fun t383 => (spec_l3DrawSets.l0 k1 l1 (x5_1.set (x6_1 : Int).toNat (⟨(rd_T59 x5_1 x6_1).f0,(rd_T59 x5_1 x6_1).f1,(rd_T59 x5_1 x6_1).f2,(rd_T59 x5_1 x6_1).f3,t383⟩ : S59)) (wrap64 (x6_1 + 1)) s0_0 bt379.2.1 bt379.2.2)))) else (spec_l3DrawSets.l0 k1 l1 x5_1 (wrap64 (x6_1 + 1)) s0_0 x1001_1 x1002_1))) else (none)) else (spec_l3DrawSets.l0 k1 l1 x5_1 (wrap64 (x6_1 + 1)) s0_0 x1001_1 x1002_1)) = some (r1,r2,r3) := by rw [if_pos rfl] at H;exact H
      clear H
      have H := H1
      clear H1
      by_cases c9 : ((rd_T59 x5_1 x6_1).f1) < (l1.length : Int)
      ·rw [if_pos c9] at H
       have c9b0 : decide (((rd_T59 x5_1 x6_1).f1) < (l1.length : Int)) = true := decide_eq_true c9
       clear c9
       by_cases c10 : 0 ≤ ((rd_T59 x5_1 x6_1).f1)
       ·rw [if_pos c10] at H
        have c10b0 : decide (0 ≤ ((rd_T59 x5_1 x6_1).f1)) = true := decide_eq_true c10
        clear c10
        replace H := Option.bind_eq_some_iff.mp H
        obtain ⟨t378,A110,H⟩ := H
        replace H : (if t378 = true then ((spec_l1Once.f s0_0 x1001_1 x1002_1 8).bind fun bt379 => (if bt379.1 = true then (spec_l3DrawSets.l0 k1 l1 x5_1 (wrap64 (x6_1 + 1)) s0_0 bt379.2.1 bt379.2.2) else ((spec_Version.f ((rd_T30 l1 ((rd_T59 x5_1 x6_1).f1)).f0)).bind fun t383 => (spec_l3DrawSets.l0 k1 l1 (x5_1.set (x6_1 : Int).toNat (⟨(rd_T59 x5_1 x6_1).f0,(rd_T59 x5_1 x6_1).f1,(rd_T59 x5_1 x6_1).f2,(rd_T59 x5_1 x6_1).f3,t383⟩ : S59)) (wrap64 (x6_1 + 1)) s0_0 bt379.2.1 bt379.2.2)))) else (spec_l3DrawSets.l0 k1 l1 x5_1 (wrap64 (x6_1 + 1)) s0_0 x1001_1 x1002_1)) = some (r1,r2,r3) := H
        have A11 := Aside0.mk A110
        clear A110
        by_cases c12 : t378 = true
        ·subst c12
         have H1 : ((spec_l1Once.f s0_0 x1001_1 x1002_1 8).bind fun bt379 => (if bt379.1 = true then (spec_l3DrawSets.l0 k1 l1 x5_1 (wrap64 (x6_1 + 1)) s0_0 bt379.2.1 bt379.2.2) else ((spec_Version.f ((rd_T30 l1 ((rd_T59 x5_1 x6_1).f1)).f0)).bind fun t383 => (spec_l3DrawSets.l0 k1 l1 (x5_1.set (x6_1 : Int).toNat (⟨(rd_T59 x5_1 x6_1).f0,(rd_T59 x5_1 x6_1).f1,(rd_T59 x5_1 x6_1).f2,(rd_T59 x5_1 x6_1).f3,t383⟩ : S59)) (wrap64 (x6_1 + 1)) s0_0 bt379.2.1 bt379.2.2)))) = some (r1,r2,r3) := by rw [if_pos rfl] at H;exact H
         clear H
         have H := H1
         clear H1
         replace H := Option.bind_eq_some_iff.mp H
         obtain ⟨⟨t379,t380,t381⟩,A130,H⟩ := H
         replace H : (if t379 = true then (spec_l3DrawSets.l0 k1 l1 x5_1 (wrap64 (x6_1 + 1)) s0_0 t380 t381) else ((spec_Version.f ((rd_T30 l1 ((rd_T59 x5_1 x6_1).f1)).f0)).bind fun t383 => (spec_l3DrawSets.l0 k1 l1 (x5_1.set (x6_1 : Int).toNat (⟨(rd_T59 x5_1 x6_1).f0,(rd_T59 x5_1 x6_1).f1,(rd_T59 x5_1 x6_1).f2,(rd_T59 x5_1 x6_1).f3,t383⟩ : S59)) (wrap64 (x6_1 + 1)) s0_0 t380 t381))) = some (r1,r2,r3) := H
         have A13 := Aside0.mk A130
         clear A130
         by_cases c14 : t379 = true
         ·subst c14
          have H1 : (spec_l3DrawSets.l0 k1 l1 x5_1 (wrap64 (x6_1 + 1)) s0_0 t380 t381) = some (r1,r2,r3) := by rw [if_pos rfl] at H;exact H
          clear H
          have H := H1
          clear H1
          have H' := Aside0.mk H
          clear H
          obtain ⟨Ao15,co15,eo15⟩ := Kd.R_slice HO_5.out
          subst eo15
          have p375 : 0 ≤ (x6_1 : Int) := of_decide_eq_true (by first|(with_reducible assumption)|assumption)
          have q375 : x6_1 < (x5_1.length : Int) := of_decide_eq_true (by first|(with_reducible assumption)|assumption)
          obtain ⟨ad375,e375,hx375_0,hx375_1,hx375_2,hx375_3,hx375_4⟩ := at_T59 (Kd.R_reads' HO_5.out).2.2 x6_1 p375 q375
          cases e375
          replace p375 := eq_true p375
          replace q375 := eq_true q375
          go_wp2_with (first|((with_reducible refine gcal_ (f := 67) rfl ?_);refine goesL_ (some 22) rfl rfl Try.func67 (by kernel_rfl) rfl #[.int .i64 ((rd_T59 x5_1 x6_1).f1)] rfl (by (try simp only [List.map_toArray,List.map_cons,List.map_nil]);first|done|rfl|(simp only [List.length_drop,List.length_take];rfl)) ?_;(with_reducible refine (spec_l1Slot.calls ((rd_T59 x5_1 x6_1).f1) true _ A7.out).mono ?_);rintro e w' ⟨rfl,⟨nd,rfl⟩⟩;refine ⟨_,rfl,?_⟩;have p377 : 0 ≤ (((rd_T59 x5_1 x6_1).f1) : Int) := of_decide_eq_true (by first|(with_reducible assumption)|assumption);have q377 : ((rd_T59 x5_1 x6_1).f1) < (l1.length : Int) := of_decide_eq_true (by first|(with_reducible assumption)|assumption);obtain ⟨ad377,e377,hx377_0,hx377_1⟩ := at_T30 (Kd.C_foot_now HR1.out HK.out) ((rd_T59 x5_1 x6_1).f1) p377 q377;cases e377;replace p377 := eq_true p377;replace q377 := eq_true q377)|(go_at_call 62;(with_reducible refine (spec_HeadOk.calls ((rd_T30 l1 ((rd_T59 x5_1 x6_1).f1)).f0) true _ A11.out).mono ?_);rintro e w' ⟨rfl,⟨nd,rfl⟩⟩)|(go_at_call 88;(with_reducible refine (spec_l1Once.calls g s0_0 x1001_1 x1002_1 8 true t380 t381 w0 _ ?side1 ?side2 A13.out).mono ?_);(case side1 => repeat (first|(with_reducible first|exact HI0.out|apply IsS112.alloc|apply IsS112.drewN|apply IsS112.drew|apply IsS112.set_1|apply IsS112.set_2)|exact HI0.out));(case side2 => repeat (first|(with_reducible first|exact HB.out|apply below_alloc|apply pw_below_drewN|apply below_drew1|refine below_set ?_ (IsS112.ge HI0.out))|exact HB.out));rintro e w16 ⟨rfl,hi,hb,hk⟩;have n0_ := Aside0.mk (Kd.R_mono (Kd.R_keep (IsS112.apart (show IsS112 w0 _ g s0_0 x1001_1 x1002_1 from by repeat (first|(with_reducible first|exact HI0.out|apply IsS112.alloc|apply IsS112.drewN|apply IsS112.drew|apply IsS112.set_1|apply IsS112.set_2)|exact HI0.out)) (by (with_reducible repeat (first|apply Kd.R_alloc|apply Kd.R_drewN|apply Kd.R_drew));exact HO_5.out) (by decide)) hk (fun _ h => h.2)) (fun _ h => h.1));have n1_ := Aside0.mk (KeepBut.trans (by repeat (first|(with_reducible first|exact HK.out|apply KeepBut.set_|apply keep_drewN|apply keep_drew|apply keep_alloc)|exact HK.out)) hk (.inl rfl));have n2_ := Aside0.mk (hb);have n3_ := Aside0.mk (hi);clear HO_5;clear HK;clear HB;clear HI0;have HO_5 := n0_;have HK := n1_;have HB := n2_;have HI0 := n3_;clear n0_ n1_ n2_ n3_;(try clear hb);(try clear hb2);(try clear hk);(try clear hi)))
          go_roundg k1
          case measure => have := HK1.out;omega
          case rel => exact ⟨(x5_1),(wrap64 (x6_1 + 1)),(t380),(t381),(by first|rfl|(simp;done)|(simp [*];done)),H',⟨by have := HK1.out;omega⟩,⟨by (with_reducible repeat (first|apply Kd.R_alloc|apply Kd.R_drewN|apply Kd.R_drew));exact HO_5.out⟩,⟨by repeat (first|(with_reducible first|exact HI0.out|apply IsS112.alloc|apply IsS112.drewN|apply IsS112.drew|apply IsS112.set_1|apply IsS112.set_2)|exact HI0.out)⟩,⟨by repeat (first|(with_reducible first|exact HK.out|apply KeepBut.set_|apply keep_drewN|apply keep_drew|apply keep_alloc)|exact HK.out)⟩,⟨by repeat (first|(with_reducible first|exact HB.out|apply below_alloc|apply pw_below_drewN|apply below_drew1|refine below_set ?_ (IsS112.ge HI0.out))|exact HB.out)⟩⟩
         ·replace c14 := Bool.eq_false_iff.mpr c14
          subst c14
          have H1 : ((spec_Version.f ((rd_T30 l1 ((rd_T59 x5_1 x6_1).f1)).f0)).bind fun t383 => (spec_l3DrawSets.l0 k1 l1 (x5_1.set (x6_1 : Int).toNat (⟨(rd_T59 x5_1 x6_1).f0,(rd_T59 x5_1 x6_1).f1,(rd_T59 x5_1 x6_1).f2,(rd_T59 x5_1 x6_1).f3,t383⟩ : S59)) (wrap64 (x6_1 + 1)) s0_0 t380 t381)) = some (r1,r2,r3) := by rw [if_neg (show ¬ (false = true) by decide)] at H;exact H
          clear H
          have H := H1
          clear H1
          replace H := Option.bind_eq_some_iff.mp H
          obtain ⟨t383,A170,H⟩ := H
          replace H : (spec_l3DrawSets.l0 k1 l1 (x5_1.set (x6_1 : Int).toNat (⟨(rd_T59 x5_1 x6_1).f0,(rd_T59 x5_1 x6_1).f1,(rd_T59 x5_1 x6_1).f2,(rd_T59 x5_1 x6_1).f3,t383⟩ : S59)) (wrap64 (x6_1 + 1)) s0_0 t380 t381) = some (r1,r2,r3) := H
          have A17 := Aside0.mk A170
          clear A170
          obtain ⟨y384,hy384⟩ : ∃ y_ : List (S59),y_ = (x5_1.set (x6_1 : Int).toNat (⟨(rd_T59 x5_1 x6_1).f0,(rd_T59 x5_1 x6_1).f1,(rd_T59 x5_1 x6_1).f2,(rd_T59 x5_1 x6_1).f3,t383⟩ : S59)) := ⟨_,rfl⟩
          replace H : (spec_l3DrawSets.l0 k1 l1 y384 (wrap64 (x6_1 + 1)) s0_0 t380 t381) = some (r1,r2,r3) := by first|(rw [hy384];with_reducible exact H)|(have H2_ := (Option.bind_some _ _).symm.trans H;rw [hy384];with_reducible exact H2_)|(have H2_ := (Option.bind_some _ _).symm.trans H;with_reducible exact H2_)|with_reducible exact H|(rw [hy384];exact H)|exact H
          have Ny384 := Aside0.mk hy384
          clear hy384
          have H' := Aside0.mk H
          clear H
          obtain ⟨Ao19,co19,eo19⟩ := Kd.R_slice HO_5.out
          subst eo19
          have p375 : 0 ≤ (x6_1 : Int) := of_decide_eq_true (by first|(with_reducible assumption)|assumption)
          have q375 : x6_1 < (x5_1.length : Int) := of_decide_eq_true (by first|(with_reducible assumption)|assumption)
          obtain ⟨ad375,e375,hx375_0,hx375_1,hx375_2,hx375_3,hx375_4⟩ := at_T59 (Kd.R_reads' HO_5.out).2.2 x6_1 p375 q375
          cases e375
          replace p375 := eq_true p375
          replace q375 := eq_true q375
          go_wp2_with (first|((with_reducible refine gcal_ (f := 67) rfl ?_);refine goesL_ (some 22) rfl rfl Try.func67 (by kernel_rfl) rfl #[.int .i64 ((rd_T59 x5_1 x6_1).f1)] rfl (by (try simp only [List.map_toArray,List.map_cons,List.map_nil]);first|done|rfl|(simp only [List.length_drop,List.length_take];rfl)) ?_;(with_reducible refine (spec_l1Slot.calls ((rd_T59 x5_1 x6_1).f1) true _ A7.out).mono ?_);rintro e w' ⟨rfl,⟨nd,rfl⟩⟩;refine ⟨_,rfl,?_⟩;(try (rw [drewN_self wr];generalize hq_ : World.drewN wr _ = wr;have n0_ : Aside0 (Kd.R k59 59 wr w.heap.size (fun _ => True) (.slice (some ad375) x5_1.length co19) x5_1) := ⟨by rw [← hq_];exact (by (with_reducible repeat (first|apply Kd.R_alloc|apply Kd.R_drewN|apply Kd.R_drew));exact HO_5.out)⟩;have n1_ : Aside0 (IsS112 w0 wr g s0_0 x1001_1 x1002_1) := ⟨by rw [← hq_];exact (by repeat (first|(with_reducible first|exact HI0.out|apply IsS112.alloc|apply IsS112.drewN|apply IsS112.drew|apply IsS112.set_1|apply IsS112.set_2)|exact HI0.out))⟩;have n2_ : Aside0 (KeepBut w wr g none) := ⟨by rw [← hq_];exact (by repeat (first|(with_reducible first|exact HK.out|apply KeepBut.set_|apply keep_drewN|apply keep_drew|apply keep_alloc)|exact HK.out))⟩;have n3_ : Aside0 (Below w0.heap.size w0 wr) := ⟨by rw [← hq_];exact (by repeat (first|(with_reducible first|exact HB.out|apply below_alloc|apply pw_below_drewN|apply below_drew1|refine below_set ?_ (IsS112.ge HI0.out))|exact HB.out))⟩;clear HO_5 HI0 HK HB hq_;have HO_5 := n0_;have HI0 := n1_;have HK := n2_;have HB := n3_;clear n0_ n1_ n2_ n3_));have p377 : 0 ≤ (((rd_T59 x5_1 x6_1).f1) : Int) := of_decide_eq_true (by first|(with_reducible assumption)|assumption);have q377 : ((rd_T59 x5_1 x6_1).f1) < (l1.length : Int) := of_decide_eq_true (by first|(with_reducible assumption)|assumption);obtain ⟨ad377,e377,hx377_0,hx377_1⟩ := at_T30 (Kd.C_foot_now HR1.out HK.out) ((rd_T59 x5_1 x6_1).f1) p377 q377;cases e377;replace p377 := eq_true p377;replace q377 := eq_true q377)|(go_at_call 62;(with_reducible refine (spec_HeadOk.calls ((rd_T30 l1 ((rd_T59 x5_1 x6_1).f1)).f0) true _ A11.out).mono ?_);rintro e w' ⟨rfl,⟨nd,rfl⟩⟩;(try (rw [drewN_self wr];generalize hq_ : World.drewN wr _ = wr;have n0_ : Aside0 (Kd.R k59 59 wr w.heap.size (fun _ => True) (.slice (some ad375) x5_1.length co19) x5_1) := ⟨by rw [← hq_];exact (by (with_reducible repeat (first|apply Kd.R_alloc|apply Kd.R_drewN|apply Kd.R_drew));exact HO_5.out)⟩;have n1_ : Aside0 (IsS112 w0 wr g s0_0 x1001_1 x1002_1) := ⟨by rw [← hq_];exact (by repeat (first|(with_reducible first|exact HI0.out|apply IsS112.alloc|apply IsS112.drewN|apply IsS112.drew|apply IsS112.set_1|apply IsS112.set_2)|exact HI0.out))⟩;have n2_ : Aside0 (KeepBut w wr g none) := ⟨by rw [← hq_];exact (by repeat (first|(with_reducible first|exact HK.out|apply KeepBut.set_|apply keep_drewN|apply keep_drew|apply keep_alloc)|exact HK.out))⟩;have n3_ : Aside0 (Below w0.heap.size w0 wr) := ⟨by rw [← hq_];exact (by repeat (first|(with_reducible first|exact HB.out|apply below_alloc|apply pw_below_drewN|apply below_drew1|refine below_set ?_ (IsS112.ge HI0.out))|exact HB.out))⟩;clear HO_5 HI0 HK HB hq_;have HO_5 := n0_;have HI0 := n1_;have HK := n2_;have HB := n3_;clear n0_ n1_ n2_ n3_)))|(go_at_call 88;(with_reducible refine (spec_l1Once.calls g s0_0 x1001_1 x1002_1 8 false t380 t381 w0 _ ?side1 ?side2 A13.out).mono ?_);(case side1 => repeat (first|(with_reducible first|exact HI0.out|apply IsS112.alloc|apply IsS112.drewN|apply IsS112.drew|apply IsS112.set_1|apply IsS112.set_2)|exact HI0.out));(case side2 => repeat (first|(with_reducible first|exact HB.out|apply below_alloc|apply pw_below_drewN|apply below_drew1|refine below_set ?_ (IsS112.ge HI0.out))|exact HB.out));rintro e w20 ⟨rfl,hi,hb,hk⟩;have n0_ := Aside0.mk (Kd.R_mono (Kd.R_keep (IsS112.apart (show IsS112 w0 _ g s0_0 x1001_1 x1002_1 from by repeat (first|(with_reducible first|exact HI0.out|apply IsS112.alloc|apply IsS112.drewN|apply IsS112.drew|apply IsS112.set_1|apply IsS112.set_2)|exact HI0.out)) (by (with_reducible repeat (first|apply Kd.R_alloc|apply Kd.R_drewN|apply Kd.R_drew));exact HO_5.out) (by decide)) hk (fun _ h => h.2)) (fun _ h => h.1));have n1_ := Aside0.mk (KeepBut.trans (by repeat (first|(with_reducible first|exact HK.out|apply KeepBut.set_|apply keep_drewN|apply keep_drew|apply keep_alloc)|exact HK.out)) hk (.inl rfl));have n2_ := Aside0.mk (hb);have n3_ := Aside0.mk (hi);clear HO_5;clear HK;clear HB;clear HI0;have HO_5 := n0_;have HK := n1_;have HB := n2_;have HI0 := n3_;clear n0_ n1_ n2_ n3_;(try clear hb);(try clear hb2);(try clear hk);(try clear hi);have p382 : 0 ≤ (((rd_T59 x5_1 x6_1).f1) : Int) := of_decide_eq_true (by first|(with_reducible assumption)|assumption);have q382 : ((rd_T59 x5_1 x6_1).f1) < (l1.length : Int) := of_decide_eq_true (by first|(with_reducible assumption)|assumption);obtain ⟨ad382,e382,hx382_0,hx382_1⟩ := at_T30 (Kd.C_foot_now HR1.out HK.out) ((rd_T59 x5_1 x6_1).f1) p382 q382;obtain rfl : ad377 = ad382 := (by injection e382);replace p382 := eq_true p382;replace q382 := eq_true q382)|((with_reducible refine gcal_ (f := 84) rfl ?_);refine goesL_ (some 49) rfl rfl Try.func84 (by kernel_rfl) rfl #[.int .i64 ((rd_T30 l1 ((rd_T59 x5_1 x6_1).f1)).f0)] rfl (by (try simp only [List.map_toArray,List.map_cons,List.map_nil]);first|done|rfl|(simp only [List.length_drop,List.length_take];rfl)) ?_;(with_reducible refine (spec_Version.calls ((rd_T30 l1 ((rd_T59 x5_1 x6_1).f1)).f0) t383 _ A17.out).mono ?_);rintro e w' ⟨rfl,⟨nd,rfl⟩⟩;refine ⟨_,rfl,?_⟩;(try (rw [drewN_self w20];generalize hq_ : World.drewN w20 _ = w20;have n0_ : Aside0 (Kd.R k59 59 w20 w.heap.size (fun _ => True) (.slice (some ad375) x5_1.length co19) x5_1) := ⟨by rw [← hq_];exact (by (with_reducible repeat (first|apply Kd.R_alloc|apply Kd.R_drewN|apply Kd.R_drew));exact HO_5.out)⟩;have n1_ : Aside0 (IsS112 w0 w20 g s0_0 t380 t381) := ⟨by rw [← hq_];exact (by repeat (first|(with_reducible first|exact HI0.out|apply IsS112.alloc|apply IsS112.drewN|apply IsS112.drew|apply IsS112.set_1|apply IsS112.set_2)|exact HI0.out))⟩;have n2_ : Aside0 (KeepBut w w20 g none) := ⟨by rw [← hq_];exact (by repeat (first|(with_reducible first|exact HK.out|apply KeepBut.set_|apply keep_drewN|apply keep_drew|apply keep_alloc)|exact HK.out))⟩;have n3_ : Aside0 (Below w0.heap.size w0 w20) := ⟨by rw [← hq_];exact (by repeat (first|(with_reducible first|exact HB.out|apply below_alloc|apply pw_below_drewN|apply below_drew1|refine below_set ?_ (IsS112.ge HI0.out))|exact HB.out))⟩;clear HO_5 HI0 HK HB hq_;have HO_5 := n0_;have HI0 := n1_;have HK := n2_;have HB := n3_;clear n0_ n1_ n2_ n3_));have p18 : 0 ≤ (x6_1 : Int) := of_decide_eq_true (by first|(with_reducible assumption)|assumption);have q18 : (x6_1 : Int) < ((x5_1.length : Int) : Int) := of_decide_eq_true (by first|(with_reducible assumption)|assumption);obtain ⟨go18,co18,eo18,gb18,gl18,cl18,HG18⟩ := Kd.R_form HO_5.out (by omega);(first|cases eo18|(injection eo18 with ea_ en_ ec_;(first|subst ea_|(injection ea_ with ea_;subst ea_));subst ec_;clear en_));have GB18 := Aside0.mk gb18;have GG18 := Aside0.mk HG18;clear gb18 gl18 HG18;(first|simp only [add_plain] at hx375_0|skip);(first|simp only [add_plain] at hx375_1|skip);(first|simp only [add_plain] at hx375_2|skip);(first|simp only [add_plain] at hx375_3|skip);(first|simp only [add_plain] at hx375_4|skip);obtain ⟨ce18,hcl18,hM18,hcc18,hfr18⟩ := Kd.R_elem HO_5.out z59 (x6_1 : Int) p18 q18;obtain rfl := k59_openM hM18;have hx18_0 : w20.cell? ⟨go18,(x6_1 : Int).toNat * 5,none⟩ = some (.int .i64 ((rd_T59 x5_1 x6_1).f0)) := hcc18 0 _ rfl;have hx18_1 : w20.cell? ⟨go18,(x6_1 : Int).toNat * 5 + 1,none⟩ = some (.int .i64 ((rd_T59 x5_1 x6_1).f1)) := hcc18 1 _ rfl;have hx18_2 : w20.cell? ⟨go18,(x6_1 : Int).toNat * 5 + 2,none⟩ = some (.int .i64 ((rd_T59 x5_1 x6_1).f2)) := hcc18 2 _ rfl;have hx18_3 : w20.cell? ⟨go18,(x6_1 : Int).toNat * 5 + 3,none⟩ = some (.bool ((rd_T59 x5_1 x6_1).f3)) := hcc18 3 _ rfl;have hx18_4 : w20.cell? ⟨go18,(x6_1 : Int).toNat * 5 + 4,none⟩ = some (.int .i64 ((rd_T59 x5_1 x6_1).f4)) := hcc18 4 _ rfl;have hf18_0 : w20.frozen? ⟨go18,(x6_1 : Int).toNat * 5,none⟩ = false := hfr18 0;have hf18_1 : w20.frozen? ⟨go18,(x6_1 : Int).toNat * 5 + 1,none⟩ = false := hfr18 1;have hf18_2 : w20.frozen? ⟨go18,(x6_1 : Int).toNat * 5 + 2,none⟩ = false := hfr18 2;have hf18_3 : w20.frozen? ⟨go18,(x6_1 : Int).toNat * 5 + 3,none⟩ = false := hfr18 3;have hf18_4 : w20.frozen? ⟨go18,(x6_1 : Int).toNat * 5 + 4,none⟩ = false := hfr18 4;clear hcl18 hcc18 hfr18 hM18;replace p18 := eq_true p18;replace q18 := eq_true q18;have HX21 := Aside0.mk (show Kd.R k59 59 w20 w.heap.size (fun _ => True) (.slice (some ⟨go18,0,none⟩) x5_1.length co19) x5_1 from (by (with_reducible repeat (first|apply Kd.R_alloc|apply Kd.R_drewN|apply Kd.R_drew));exact HO_5.out));obtain ⟨ce21,hcl21,hM21,hcc21,hfr21⟩ := Kd.R_elem HX21.out z59 (x6_1 : Int) (of_decide_eq_true (by first|(with_reducible assumption)|assumption)) (by have h_ : (x6_1 : Int) < ((x5_1.length : Int) : Int) := of_decide_eq_true (by first|(with_reducible assumption)|assumption);first|exact h_|(have e_ := (Kd.R_reads' HO_5.out).1;omega)|simpa using h_);obtain rfl := k59_openM hM21;have HP21 := Kd.R_seg HX21.out (x6_1 : Int) (of_decide_eq_true (by first|(with_reducible assumption)|assumption)) (by have h_ : (x6_1 : Int) < ((x5_1.length : Int) : Int) := of_decide_eq_true (by first|(with_reducible assumption)|assumption);first|exact h_|(have e_ := (Kd.R_reads' HO_5.out).1;omega)|simpa using h_) (seg := [.int .i64 t383]) (j := 4) hcl21 hcc21 (show 5 ≤ 5 from by decide) (x' := (⟨(rd_T59 x5_1 x6_1).f0,(rd_T59 x5_1 x6_1).f1,(rd_T59 x5_1 x6_1).f2,(rd_T59 x5_1 x6_1).f3,t383⟩ : S59)) (k59_mkM _ _ _ (⟨(rd_T59 x5_1 x6_1).f0,(rd_T59 x5_1 x6_1).f1,(rd_T59 x5_1 x6_1).f2,(rd_T59 x5_1 x6_1).f3,t383⟩ : S59) ) (fun _ hk => hk);have hx21_4 := hcc21 4 _ rfl;(try simp only [show (k59).sz = 5 from rfl,Nat.mul_one,Nat.add_zero] at hx21_4);have hf21_4 := hfr21 4;(try simp only [show (k59).sz = 5 from rfl,Nat.mul_one,Nat.add_zero] at hf21_4);clear hcl21 hcc21 hfr21 hM21)|((with_reducible refine gate_store (t := 2) (p := 51) rfl ?_);refine store_event (t := 2) (p := 51) (v := ?vo_w22) (w1 := (w20.setCell ⟨go18,(x6_1 : Int).toNat * 5 + 4,none⟩ (.int .i64 t383))) ?hg ?ho ?hn ?hr ?_;(case ho => rfl);(case hg => rfl);(case hn => rfl);(case hr => first|(go_simp;done)|(go_simp;rfl)|(obtain ⟨_,_,e_⟩ := Kd.R_slice HO_5.out;subst e_;first|(go_simp;done)|(go_simp;rfl)));intro w22 hw;have hg : w20.grownBy w22 (some go18) := (by rw [hw];exact HP21.2);have hp_ : Kd.R k59 59 w22 w.heap.size (fun _ => True) (.slice (some ⟨go18,0,none⟩) x5_1.length co19) y384 := (by rw [hw,Ny384.out];exact HP21.1);clear HP21;have n0_ := Aside0.mk (hp_);have n1_ := Aside0.mk (IsS112.grown (by repeat (first|(with_reducible first|exact HI0.out|apply IsS112.alloc|apply IsS112.drewN|apply IsS112.drew|apply IsS112.set_1|apply IsS112.set_2)|exact HI0.out)) hg (IsS112.own_ne HI0.out HO_5.out (by decide)));have n2_ := Aside0.mk ((by rw [hw];exact below_set (HB.out) (Nat.le_trans HL.out GB18.out) : Below w0.heap.size w0 w22));have n3_ := Aside0.mk (KeepBut.trans (by repeat (first|(with_reducible first|exact HK.out|apply KeepBut.set_|apply keep_drewN|apply keep_drew|apply keep_alloc)|exact HK.out)) (KeepBut.of_grown hg g) (Kd.R_base2 HO_5.out));clear HO_5;clear HI0;clear HB;clear HK;have HO_5 := n0_;have HI0 := n1_;have HB := n2_;have HK := n3_;clear n0_ n1_ n2_ n3_;clear hg hw hp_))
          go_roundg k1
          case measure => have := HK1.out;omega
          case rel => exact ⟨(y384),(wrap64 (x6_1 + 1)),(t380),(t381),(by first|rfl|(simp;done)|(simp [*];done)),H',⟨by have := HK1.out;omega⟩,⟨by (with_reducible repeat (first|apply Kd.R_alloc|apply Kd.R_drewN|apply Kd.R_drew));exact HO_5.out⟩,⟨by repeat (first|(with_reducible first|exact HI0.out|apply IsS112.alloc|apply IsS112.drewN|apply IsS112.drew|apply IsS112.set_1|apply IsS112.set_2)|exact HI0.out)⟩,⟨by repeat (first|(with_reducible first|exact HK.out|apply KeepBut.set_|apply keep_drewN|apply keep_drew|apply keep_alloc)|exact HK.out)⟩,⟨by repeat (first|(with_reducible first|exact HB.out|apply below_alloc|apply pw_below_drewN|apply below_drew1|refine below_set ?_ (IsS112.ge HI0.out))|exact HB.out)⟩⟩
        ·replace c12 := Bool.eq_false_iff.mpr c12
         subst c12
         have H1 : (spec_l3DrawSets.l0 k1 l1 x5_1 (wrap64 (x6_1 + 1)) s0_0 x1001_1 x1002_1) = some (r1,r2,r3) := by rw [if_neg (show ¬ (false = true) by decide)] at H;exact H
         clear H
         have H := H1
         clear H1
         have H' := Aside0.mk H
         clear H
         obtain ⟨Ao23,co23,eo23⟩ := Kd.R_slice HO_5.out
         subst eo23
         have p375 : 0 ≤ (x6_1 : Int) := of_decide_eq_true (by first|(with_reducible assumption)|assumption)
         have q375 : x6_1 < (x5_1.length : Int) := of_decide_eq_true (by first|(with_reducible assumption)|assumption)
         obtain ⟨ad375,e375,hx375_0,hx375_1,hx375_2,hx375_3,hx375_4⟩ := at_T59 (Kd.R_reads' HO_5.out).2.2 x6_1 p375 q375
         cases e375
         replace p375 := eq_true p375
         replace q375 := eq_true q375
         go_wp2_with (first|((with_reducible refine gcal_ (f := 67) rfl ?_);refine goesL_ (some 22) rfl rfl Try.func67 (by kernel_rfl) rfl #[.int .i64 ((rd_T59 x5_1 x6_1).f1)] rfl (by (try simp only [List.map_toArray,List.map_cons,List.map_nil]);first|done|rfl|(simp only [List.length_drop,List.length_take];rfl)) ?_;(with_reducible refine (spec_l1Slot.calls ((rd_T59 x5_1 x6_1).f1) true _ A7.out).mono ?_);rintro e w' ⟨rfl,⟨nd,rfl⟩⟩;refine ⟨_,rfl,?_⟩;have p377 : 0 ≤ (((rd_T59 x5_1 x6_1).f1) : Int) := of_decide_eq_true (by first|(with_reducible assumption)|assumption);have q377 : ((rd_T59 x5_1 x6_1).f1) < (l1.length : Int) := of_decide_eq_true (by first|(with_reducible assumption)|assumption);obtain ⟨ad377,e377,hx377_0,hx377_1⟩ := at_T30 (Kd.C_foot_now HR1.out HK.out) ((rd_T59 x5_1 x6_1).f1) p377 q377;cases e377;replace p377 := eq_true p377;replace q377 := eq_true q377)|(go_at_call 62;(with_reducible refine (spec_HeadOk.calls ((rd_T30 l1 ((rd_T59 x5_1 x6_1).f1)).f0) false _ A11.out).mono ?_);rintro e w' ⟨rfl,⟨nd,rfl⟩⟩))
         go_roundg k1
         case measure => have := HK1.out;omega
         case rel => exact ⟨(x5_1),(wrap64 (x6_1 + 1)),(x1001_1),(x1002_1),(by first|rfl|(simp;done)|(simp [*];done)),H',⟨by have := HK1.out;omega⟩,⟨by (with_reducible repeat (first|apply Kd.R_alloc|apply Kd.R_drewN|apply Kd.R_drew));exact HO_5.out⟩,⟨by repeat (first|(with_reducible first|exact HI0.out|apply IsS112.alloc|apply IsS112.drewN|apply IsS112.drew|apply IsS112.set_1|apply IsS112.set_2)|exact HI0.out)⟩,⟨by repeat (first|(with_reducible first|exact HK.out|apply KeepBut.set_|apply keep_drewN|apply keep_drew|apply keep_alloc)|exact HK.out)⟩,⟨by repeat (first|(with_reducible first|exact HB.out|apply below_alloc|apply pw_below_drewN|apply below_drew1|refine below_set ?_ (IsS112.ge HI0.out))|exact HB.out)⟩⟩
       ·rw [if_neg c10] at H
        exact absurd H (by simp)
      ·rw [if_neg c9] at H
       have c9b0 : decide (((rd_T59 x5_1 x6_1).f1) < (l1.length : Int)) = false := decide_eq_false c9
       clear c9
       have H' := Aside0.mk H
       clear H
       obtain ⟨Ao24,co24,eo24⟩ := Kd.R_slice HO_5.out
       subst eo24
       have p375 : 0 ≤ (x6_1 : Int) := of_decide_eq_true (by first|(with_reducible assumption)|assumption)
       have q375 : x6_1 < (x5_1.length : Int) := of_decide_eq_true (by first|(with_reducible assumption)|assumption)
       obtain ⟨ad375,e375,hx375_0,hx375_1,hx375_2,hx375_3,hx375_4⟩ := at_T59 (Kd.R_reads' HO_5.out).2.2 x6_1 p375 q375
       cases e375
       replace p375 := eq_true p375
       replace q375 := eq_true q375
       go_wp2_with (first|((with_reducible refine gcal_ (f := 67) rfl ?_);refine goesL_ (some 22) rfl rfl Try.func67 (by kernel_rfl) rfl #[.int .i64 ((rd_T59 x5_1 x6_1).f1)] rfl (by (try simp only [List.map_toArray,List.map_cons,List.map_nil]);first|done|rfl|(simp only [List.length_drop,List.length_take];rfl)) ?_;(with_reducible refine (spec_l1Slot.calls ((rd_T59 x5_1 x6_1).f1) true _ A7.out).mono ?_);rintro e w' ⟨rfl,⟨nd,rfl⟩⟩;refine ⟨_,rfl,?_⟩))
       go_roundg k1
       case measure => have := HK1.out;omega
       case rel => exact ⟨(x5_1),(wrap64 (x6_1 + 1)),(x1001_1),(x1002_1),(by first|rfl|(simp;done)|(simp [*];done)),H',⟨by have := HK1.out;omega⟩,⟨by (with_reducible repeat (first|apply Kd.R_alloc|apply Kd.R_drewN|apply Kd.R_drew));exact HO_5.out⟩,⟨by repeat (first|(with_reducible first|exact HI0.out|apply IsS112.alloc|apply IsS112.drewN|apply IsS112.drew|apply IsS112.set_1|apply IsS112.set_2)|exact HI0.out)⟩,⟨by repeat (first|(with_reducible first|exact HK.out|apply KeepBut.set_|apply keep_drewN|apply keep_drew|apply keep_alloc)|exact HK.out)⟩,⟨by repeat (first|(with_reducible first|exact HB.out|apply below_alloc|apply pw_below_drewN|apply below_drew1|refine below_set ?_ (IsS112.ge HI0.out))|exact HB.out)⟩⟩
     ·replace c8 := Bool.eq_false_iff.mpr c8
      subst c8
      have H1 : (spec_l3DrawSets.l0 k1 l1 x5_1 (wrap64 (x6_1 + 1)) s0_0 x1001_1 x1002_1) = some (r1,r2,r3) := by rw [if_neg (show ¬ (false = true) by decide)] at H;exact H
      clear H
      have H := H1
      clear H1
      have H' := Aside0.mk H
      clear H
      obtain ⟨Ao25,co25,eo25⟩ := Kd.R_slice HO_5.out
      subst eo25
      have p375 : 0 ≤ (x6_1 : Int) := of_decide_eq_true (by first|(with_reducible assumption)|assumption)
      have q375 : x6_1 < (x5_1.length : Int) := of_decide_eq_true (by first|(with_reducible assumption)|assumption)
      obtain ⟨ad375,e375,hx375_0,hx375_1,hx375_2,hx375_3,hx375_4⟩ := at_T59 (Kd.R_reads' HO_5.out).2.2 x6_1 p375 q375
      cases e375
      replace p375 := eq_true p375
      replace q375 := eq_true q375
      go_wp2_with (first|((with_reducible refine gcal_ (f := 67) rfl ?_);refine goesL_ (some 22) rfl rfl Try.func67 (by kernel_rfl) rfl #[.int .i64 ((rd_T59 x5_1 x6_1).f1)] rfl (by (try simp only [List.map_toArray,List.map_cons,List.map_nil]);first|done|rfl|(simp only [List.length_drop,List.length_take];rfl)) ?_;(with_reducible refine (spec_l1Slot.calls ((rd_T59 x5_1 x6_1).f1) false _ A7.out).mono ?_);rintro e w' ⟨rfl,⟨nd,rfl⟩⟩;refine ⟨_,rfl,?_⟩))
      go_roundg k1
      case measure => have := HK1.out;omega
      case rel => exact ⟨(x5_1),(wrap64 (x6_1 + 1)),(x1001_1),(x1002_1),(by first|rfl|(simp;done)|(simp [*];done)),H',⟨by have := HK1.out;omega⟩,⟨by (with_reducible repeat (first|apply Kd.R_alloc|apply Kd.R_drewN|apply Kd.R_drew));exact HO_5.out⟩,⟨by repeat (first|(with_reducible first|exact HI0.out|apply IsS112.alloc|apply IsS112.drewN|apply IsS112.drew|apply IsS112.set_1|apply IsS112.set_2)|exact HI0.out)⟩,⟨by repeat (first|(with_reducible first|exact HK.out|apply KeepBut.set_|apply keep_drewN|apply keep_drew|apply keep_alloc)|exact HK.out)⟩,⟨by repeat (first|(with_reducible first|exact HB.out|apply below_alloc|apply pw_below_drewN|apply below_drew1|refine below_set ?_ (IsS112.ge HI0.out))|exact HB.out)⟩⟩
    ·rw [if_neg c6] at H
     exact absurd H (by simp)
   ·rw [if_neg c5] at H
    have c5b0 : decide (x6_1 < (x5_1.length : Int)) = false := decide_eq_false c5
    clear c5
    simp only [Option.some.injEq,Prod.mk.injEq] at H
    obtain ⟨rfl,rfl,rfl⟩ := H
    obtain ⟨Ao26,co26,eo26⟩ := Kd.R_slice HO_5.out
    subst eo26
    go_wp2
    go_ret
    exact ⟨_,by first|rfl|(simp [errW_none,errW_some] <;> rfl)|(simp [*,errW_none,errW_some] <;> rfl),by (with_reducible repeat (first|apply Kd.R_alloc|apply Kd.R_drewN|apply Kd.R_drew));exact HO_5.out,by repeat (first|(with_reducible first|exact HI0.out|apply IsS112.alloc|apply IsS112.drewN|apply IsS112.drew|apply IsS112.set_1|apply IsS112.set_2)|exact HI0.out),by repeat (first|(with_reducible first|exact HB.out|apply below_alloc|apply pw_below_drewN|apply below_drew1|refine below_set ?_ (IsS112.ge HI0.out))|exact HB.out),by repeat (first|(with_reducible first|exact HK.out|apply KeepBut.set_|apply keep_drewN|apply keep_drew|apply keep_alloc)|exact HK.out)⟩

/-! ### spec_DrawLock: function 42 -/
def spec_DrawLock.l0 : Nat → List (S30) → Int → List Int → Int → Int → Option ((List (S30)) × (List (S59)))
  | 0, _, _, _, _, _ => none
  | k + 1, x5, x6, x389000, x389001, x389002 => if x6 < (x5.length : Int) then (if 0 ≤ x6 then ((spec_HeadOk.f ((rd_T30 x5 x6).f0)).bind fun t398 => (if t398 = true then (spec_DrawLock.l0 k (x5.set (x6 : Int).toNat (⟨wrap64 ((wrap64 (Int.tdiv ((rd_T30 x5 x6).f0) 2)) * 2), (rd_T30 x5 x6).f1⟩ : S30)) (wrap64 (x6 + 1)) x389000 x389001 x389002) else (spec_DrawLock.l0 k x5 (wrap64 (x6 + 1)) x389000 x389001 x389002))) else (none)) else ((spec_l3DrawSets.f k x389000 x389001 x389002 x5).bind fun bt401 => (some (x5, bt401.1)))
def spec_DrawLock.f (k : Nat) (l0 : List Int) : Option ((List (S30)) × (List (S59))) := (spec_l1New.f k l0).bind fun bt385 => ((spec_l3DrawAny.f k bt385.1 bt385.2.1 bt385.2.2).bind fun bt389 => ((spec_l1Once.f bt385.1 bt389.2.1 bt389.2.2 2).bind fun bt394 => (if bt394.1 = true then (spec_DrawLock.l0 k bt389.1 0 bt385.1 bt394.2.1 bt394.2.2) else ((spec_l3DrawSets.f k bt385.1 bt394.2.1 bt394.2.2 bt389.1).bind fun bt406 => (some (bt389.1, bt406.1))))))

set_option maxHeartbeats 8000000 in
set_option maxRecDepth 100000 in
theorem spec_DrawLock.calls (k : Nat) (A0 : Option Addr) (c0 : Nat) (l0 : List Int) (r1 : List (S30)) (r2 : List (S59)) (w : World) (hr0 : Kd.C (Kd.int .u8) w A0 l0.length l0) (hc0 : l0.length ≤ c0) (h : spec_DrawLock.f k l0 = some (r1, r2)) :
    Calls Try.prog 42 #[.slice A0 l0.length c0] w fun e w' => ∃ v0_ v1_ : Value, e = .returned (.tuple #[v0_, v1_]) ∧ Kd.Q k30 30 w' w.heap.size (fun _ => True) v0_ r1 ∧ Kd.R k59 59 w' w.heap.size (fun _ => True) v1_ r2 ∧ Below w.heap.size w w' := by
 have HR0 := Aside0.mk hr0
 have HC0 := Aside0.mk hc0
 clear hr0 hc0
 have HB := Aside0.mk (Below.refl w.heap.size w)
 have H : ((spec_l1New.f k l0).bind fun bt385 => ((spec_l3DrawAny.f k bt385.1 bt385.2.1 bt385.2.2).bind fun bt389 => ((spec_l1Once.f bt385.1 bt389.2.1 bt389.2.2 2).bind fun bt394 => (if bt394.1 = true then (spec_DrawLock.l0 k bt389.1 0 bt385.1 bt394.2.1 bt394.2.2) else ((spec_l3DrawSets.f k bt385.1 bt394.2.1 bt394.2.2 bt389.1).bind fun bt406 => (some (bt389.1,bt406.1))))))) = some (r1,r2) := h
 clear h
 replace H := Option.bind_eq_some_iff.mp H
 obtain ⟨⟨t385,t386,t387⟩,A20,H⟩ := H
 replace H : ((spec_l3DrawAny.f k t385 t386 t387).bind fun bt389 => ((spec_l1Once.f t385 bt389.2.1 bt389.2.2 2).bind fun bt394 => (if bt394.1 = true then (spec_DrawLock.l0 k bt389.1 0 t385 bt394.2.1 bt394.2.2) else ((spec_l3DrawSets.f k t385 bt394.2.1 bt394.2.2 bt389.1).bind fun bt406 => (some (bt389.1,bt406.1)))))) = some (r1,r2) := H
 have A2 := Aside0.mk A20
 clear A20
 replace H := Option.bind_eq_some_iff.mp H
 obtain ⟨⟨t389,t392,t393⟩,A30,H⟩ := H
 replace H : ((spec_l1Once.f t385 t392 t393 2).bind fun bt394 => (if bt394.1 = true then (spec_DrawLock.l0 k t389 0 t385 bt394.2.1 bt394.2.2) else ((spec_l3DrawSets.f k t385 bt394.2.1 bt394.2.2 t389).bind fun bt406 => (some (t389,bt406.1))))) = some (r1,r2) := H
 have A3 := Aside0.mk A30
 clear A30
 replace H := Option.bind_eq_some_iff.mp H
 obtain ⟨⟨t394,t395,t396⟩,A40,H⟩ := H
 replace H : (if t394 = true then (spec_DrawLock.l0 k t389 0 t385 t395 t396) else ((spec_l3DrawSets.f k t385 t395 t396 t389).bind fun bt406 => (some (t389,bt406.1)))) = some (r1,r2) := H
 have A4 := Aside0.mk A40
 clear A40
 by_cases c5 : t394 = true
 ·subst c5
  have H1 : (spec_DrawLock.l0 k t389 0 t385 t395 t396) = some (r1,r2) := by rw [if_pos rfl] at H;exact H
  clear H
  have H := H1
  clear H1
  have H' := Aside0.mk H
  clear H
  go_enter Try.func42,Try.ntmps42
  go_wp2_with (first|((with_reducible refine gcal_ (f := 72) rfl ?_);refine goesL_ (some 8) rfl rfl Try.func72 (by kernel_rfl) rfl #[.slice A0 l0.length c0] rfl (by (try simp only [List.map_toArray,List.map_cons,List.map_nil]);first|done|rfl|(simp only [List.length_drop,List.length_take];rfl)) ?_;(with_reducible refine (spec_l1New.calls k _ _ l0 t385 t386 t387 w _ ?side1 ?side2 ?side3 A2.out).mono ?_);(case side1 => repeat (first|(with_reducible first|exact HB.out|apply below_alloc|apply pw_below_drewN|apply below_drew1)|exact HB.out));(case side2 => exact HR0.out);(case side3 => exact HC0.out);rintro e w6 ⟨g388,rfl,hi,hb,hb2⟩;refine ⟨_,rfl,?_⟩;have n0_ := Aside0.mk (hb);have n1_ := Aside0.mk (hi);clear HB;have HB := n0_;have HI388 := n1_;clear n0_ n1_;(try clear hb);(try clear hb2);(try clear hk);(try clear hi))|((with_reducible refine gcal_ (f := 73) rfl ?_);refine goesL_ (some 10) rfl rfl Try.func73 (by kernel_rfl) rfl #[.pointer (some ⟨g388,0,none⟩)] rfl (by (try simp only [List.map_toArray,List.map_cons,List.map_nil]);first|done|rfl|(simp only [List.length_drop,List.length_take];rfl)) ?_;(with_reducible refine (spec_l3DrawAny.calls k g388 t385 t386 t387 t389 t392 t393 w _ ?side1 ?side2 A3.out).mono ?_);(case side1 => repeat (first|(with_reducible first|exact HI388.out|apply IsS112.alloc|apply IsS112.drewN|apply IsS112.drew|apply IsS112.set_1|apply IsS112.set_2)|exact HI388.out));(case side2 => repeat (first|(with_reducible first|exact HB.out|apply below_alloc|apply pw_below_drewN|apply below_drew1|refine below_set ?_ (IsS112.ge HI388.out))|exact HB.out));rintro e w7 ⟨v390,rfl,ho0,hi,hb,hk⟩;refine ⟨_,rfl,?_⟩;have n0_ := Aside0.mk (Kd.Q_lower ho0 (below_size (by repeat (first|(with_reducible first|exact HB.out|apply below_alloc|apply pw_below_drewN|apply below_drew1|refine below_set ?_ (IsS112.ge HI388.out))|exact HB.out))));have n1_ := Aside0.mk (hb);have n2_ := Aside0.mk (hi);clear HB;clear HI388;have HO391 := n0_;have HB := n1_;have HI388 := n2_;clear n0_ n1_ n2_;(try clear hb);(try clear hb2);(try clear hk);(try clear hi);(try clear ho0))|((with_reducible refine gcal_ (f := 88) rfl ?_);refine goesL_ (some 12) rfl rfl Try.func88 (by kernel_rfl) rfl #[.pointer (some ⟨g388,0,none⟩),.int .i64 2] rfl (by (try simp only [List.map_toArray,List.map_cons,List.map_nil]);first|done|rfl|(simp only [List.length_drop,List.length_take];rfl)) ?_;(with_reducible refine (spec_l1Once.calls g388 t385 t392 t393 2 true t395 t396 w _ ?side1 ?side2 A4.out).mono ?_);(case side1 => repeat (first|(with_reducible first|exact HI388.out|apply IsS112.alloc|apply IsS112.drewN|apply IsS112.drew|apply IsS112.set_1|apply IsS112.set_2)|exact HI388.out));(case side2 => repeat (first|(with_reducible first|exact HB.out|apply below_alloc|apply pw_below_drewN|apply below_drew1|refine below_set ?_ (IsS112.ge HI388.out))|exact HB.out));rintro e w8 ⟨rfl,hi,hb,hk⟩;refine ⟨_,rfl,?_⟩;have n0_ := Aside0.mk (Kd.Q_mono (Kd.Q_keep (IsS112.apartQ (show IsS112 w _ g388 t385 t392 t393 from by repeat (first|(with_reducible first|exact HI388.out|apply IsS112.alloc|apply IsS112.drewN|apply IsS112.drew|apply IsS112.set_1|apply IsS112.set_2)|exact HI388.out)) (by (with_reducible repeat (first|apply Kd.Q_alloc|apply Kd.Q_drewN|apply Kd.Q_drew));exact HO391.out) (by decide)) hk (fun _ h => h.2)) (fun _ h => h.1));have n1_ := Aside0.mk (hb);have n2_ := Aside0.mk (hi);clear HO391;clear HB;clear HI388;have HO391 := n0_;have HB := n1_;have HI388 := n2_;clear n0_ n1_ n2_;(try clear hb);(try clear hb2);(try clear hk);(try clear hi)))
  go_loopg [6] k (fun kq v6 w' => ∃ (x5_1 : List (S30)) (x6_1 : Int),v6 = .int .i64 x6_1 ∧ Aside0 (spec_DrawLock.l0 kq x5_1 x6_1 t385 t395 t396 = some (r1,r2)) ∧ Aside0 (kq ≤ k) ∧ Aside0 (Kd.Q k30 30 w' w.heap.size (fun _ => True) v390 x5_1) ∧ Aside0 (IsS112 w w' g388 t385 t395 t396) ∧ Aside0 (Below w.heap.size w w'))
  case atStart => exact ⟨(t389),(0),(by first|rfl|(simp;done)|(simp [*];done)),H',⟨Nat.le_refl _⟩,⟨by (with_reducible repeat (first|apply Kd.Q_alloc|apply Kd.Q_drewN|apply Kd.Q_drew));exact HO391.out⟩,⟨by repeat (first|(with_reducible first|exact HI388.out|apply IsS112.alloc|apply IsS112.drewN|apply IsS112.drew|apply IsS112.set_1|apply IsS112.set_2)|exact HI388.out)⟩,⟨by repeat (first|(with_reducible first|exact HB.out|apply below_alloc|apply pw_below_drewN|apply below_drew1|refine below_set ?_ (IsS112.ge HI388.out))|exact HB.out)⟩⟩
  case round =>
   clear H'
   try clear p2
   try clear c4
   try clear c5
   try clear c7
   try clear c8
   obtain ⟨x5_1,x6_1,rfl,HA,HK1,HO_5,HI388,HB⟩ := hrel
   cases gk with
   | zero => exact absurd HA.out (by simp [spec_DrawLock.l0])
   | succ k1 =>
    have H := HA.out
    clear HA
    simp only [spec_DrawLock.l0] at H
    by_cases c9 : x6_1 < (x5_1.length : Int)
    ·rw [if_pos c9] at H
     have c9b0 : decide (x6_1 < (x5_1.length : Int)) = true := decide_eq_true c9
     clear c9
     by_cases c10 : 0 ≤ x6_1
     ·rw [if_pos c10] at H
      have c10b0 : decide (0 ≤ x6_1) = true := decide_eq_true c10
      clear c10
      replace H := Option.bind_eq_some_iff.mp H
      obtain ⟨t398,A110,H⟩ := H
      replace H : (if t398 = true then (spec_DrawLock.l0 k1 (x5_1.set (x6_1 : Int).toNat (⟨wrap64 ((wrap64 (Int.tdiv ((rd_T30 x5_1 x6_1).f0) 2)) * 2),(rd_T30 x5_1 x6_1).f1⟩ : S30)) (wrap64 (x6_1 + 1)) t385 t395 t396) else (spec_DrawLock.l0 k1 x5_1 (wrap64 (x6_1 + 1)) t385 t395 t396)) = some (r1,r2) := H
      have A11 := Aside0.mk A110
      clear A110
      by_cases c12 : t398 = true
      ·subst c12
       have H1 : (spec_DrawLock.l0 k1 (x5_1.set (x6_1 : Int).toNat (⟨wrap64 ((wrap64 (Int.tdiv ((rd_T30 x5_1 x6_1).f0) 2)) * 2),(rd_T30 x5_1 x6_1).f1⟩ : S30)) (wrap64 (x6_1 + 1)) t385 t395 t396) = some (r1,r2) := by rw [if_pos rfl] at H;exact H
       clear H
       have H := H1
       clear H1
       obtain ⟨y400,hy400⟩ : ∃ y_ : List (S30),y_ = (x5_1.set (x6_1 : Int).toNat (⟨wrap64 ((wrap64 (Int.tdiv ((rd_T30 x5_1 x6_1).f0) 2)) * 2),(rd_T30 x5_1 x6_1).f1⟩ : S30)) := ⟨_,rfl⟩
       replace H : (spec_DrawLock.l0 k1 y400 (wrap64 (x6_1 + 1)) t385 t395 t396) = some (r1,r2) := by first|(rw [hy400];with_reducible exact H)|(have H2_ := (Option.bind_some _ _).symm.trans H;rw [hy400];with_reducible exact H2_)|(have H2_ := (Option.bind_some _ _).symm.trans H;with_reducible exact H2_)|with_reducible exact H|(rw [hy400];exact H)|exact H
       have Ny400 := Aside0.mk hy400
       clear hy400
       have H' := Aside0.mk H
       clear H
       obtain ⟨Ao14,co14,eo14,_⟩ := Kd.Q_slice HO_5.out
       subst eo14
       have p397 : 0 ≤ (x6_1 : Int) := of_decide_eq_true (by first|(with_reducible assumption)|assumption)
       have q397 : x6_1 < (x5_1.length : Int) := of_decide_eq_true (by first|(with_reducible assumption)|assumption)
       obtain ⟨ad397,e397,hx397_0,hx397_1⟩ := at_T30 (Kd.Q_reads' HO_5.out).2.2 x6_1 p397 q397
       cases e397
       replace p397 := eq_true p397
       replace q397 := eq_true q397
       go_wp2_with (first|((with_reducible refine gcal_ (f := 62) rfl ?_);refine goesL_ (some 24) rfl rfl Try.func62 (by kernel_rfl) rfl #[.int .i64 ((rd_T30 x5_1 x6_1).f0)] rfl (by (try simp only [List.map_toArray,List.map_cons,List.map_nil]);first|done|rfl|(simp only [List.length_drop,List.length_take];rfl)) ?_;(with_reducible refine (spec_HeadOk.calls ((rd_T30 x5_1 x6_1).f0) true _ A11.out).mono ?_);rintro e w' ⟨rfl,⟨nd,rfl⟩⟩;refine ⟨_,rfl,?_⟩;(try (rw [drewN_self wr];generalize hq_ : World.drewN wr _ = wr;have n0_ : Aside0 (Kd.Q k30 30 wr w.heap.size (fun _ => True) (.slice (some ad397) x5_1.length co14) x5_1) := ⟨by rw [← hq_];exact (by (with_reducible repeat (first|apply Kd.Q_alloc|apply Kd.Q_drewN|apply Kd.Q_drew));exact HO_5.out)⟩;have n1_ : Aside0 (IsS112 w wr g388 t385 t395 t396) := ⟨by rw [← hq_];exact (by repeat (first|(with_reducible first|exact HI388.out|apply IsS112.alloc|apply IsS112.drewN|apply IsS112.drew|apply IsS112.set_1|apply IsS112.set_2)|exact HI388.out))⟩;have n2_ : Aside0 (Below w.heap.size w wr) := ⟨by rw [← hq_];exact (by repeat (first|(with_reducible first|exact HB.out|apply below_alloc|apply pw_below_drewN|apply below_drew1|refine below_set ?_ (IsS112.ge HI388.out))|exact HB.out))⟩;clear HO_5 HI388 HB hq_;have HO_5 := n0_;have HI388 := n1_;have HB := n2_;clear n0_ n1_ n2_));have p399 : 0 ≤ (x6_1 : Int) := of_decide_eq_true (by first|(with_reducible assumption)|assumption);have q399 : x6_1 < (x5_1.length : Int) := of_decide_eq_true (by first|(with_reducible assumption)|assumption);obtain ⟨ad399,e399,hx399_0,hx399_1⟩ := at_T30 (Kd.Q_reads' HO_5.out).2.2 x6_1 p399 q399;obtain rfl : ad397 = ad399 := (by injection e399);replace p399 := eq_true p399;replace q399 := eq_true q399;have p13 : 0 ≤ (x6_1 : Int) := of_decide_eq_true (by first|(with_reducible assumption)|assumption);have q13 : (x6_1 : Int) < ((x5_1.length : Int) : Int) := of_decide_eq_true (by first|(with_reducible assumption)|assumption);obtain ⟨go13,oo13,co13,eo13,gb13,gl13,cl13,HG13⟩ := Kd.Q_form HO_5.out (by omega);(first|cases eo13|(injection eo13 with ea_ en_ ec_;(first|subst ea_|(injection ea_ with ea_;subst ea_));subst ec_;clear en_));have GB13 := Aside0.mk gb13;have GG13 := Aside0.mk HG13;clear gb13 gl13 HG13;(first|simp only [add_at] at hx397_0|skip);(first|simp only [add_at] at hx397_1|skip);(first|simp only [add_at] at hx399_0|skip);(first|simp only [add_at] at hx399_1|skip);obtain ⟨ce13,hcl13,hM13,hcc13,hfr13⟩ := Kd.Q_elem HO_5.out z30 (x6_1 : Int) p13 q13;obtain rfl := k30_openM hM13;have hx13_0 : wr.cell? ⟨go13,oo13 + (x6_1 : Int).toNat * 2,none⟩ = some (.int .i64 ((rd_T30 x5_1 x6_1).f0)) := hcc13 0 _ rfl;have hx13_1 : wr.cell? ⟨go13,oo13 + (x6_1 : Int).toNat * 2 + 1,none⟩ = some (.int .i64 ((rd_T30 x5_1 x6_1).f1)) := hcc13 1 _ rfl;have hf13_0 : wr.frozen? ⟨go13,oo13 + (x6_1 : Int).toNat * 2,none⟩ = false := hfr13 0;have hf13_1 : wr.frozen? ⟨go13,oo13 + (x6_1 : Int).toNat * 2 + 1,none⟩ = false := hfr13 1;clear hcl13 hcc13 hfr13 hM13;replace p13 := eq_true p13;replace q13 := eq_true q13;have HX15 := Aside0.mk (show Kd.Q k30 30 wr w.heap.size (fun _ => True) (.slice (some ⟨go13,oo13,none⟩) x5_1.length co14) x5_1 from (by (with_reducible repeat (first|apply Kd.Q_alloc|apply Kd.Q_drewN|apply Kd.Q_drew));exact HO_5.out));obtain ⟨ce15,hcl15,hM15,hcc15,hfr15⟩ := Kd.Q_elem HX15.out z30 (x6_1 : Int) (of_decide_eq_true (by first|(with_reducible assumption)|assumption)) (by have h_ : (x6_1 : Int) < ((x5_1.length : Int) : Int) := of_decide_eq_true (by first|(with_reducible assumption)|assumption);first|exact h_|(have e_ := (Kd.Q_reads' HO_5.out).1;omega)|simpa using h_);obtain rfl := k30_openM hM15;have HP15 := Kd.Q_seg HX15.out (x6_1 : Int) (of_decide_eq_true (by first|(with_reducible assumption)|assumption)) (by have h_ : (x6_1 : Int) < ((x5_1.length : Int) : Int) := of_decide_eq_true (by first|(with_reducible assumption)|assumption);first|exact h_|(have e_ := (Kd.Q_reads' HO_5.out).1;omega)|simpa using h_) (seg := [.int .i64 (wrap64 ((wrap64 (Int.tdiv ((rd_T30 x5_1 x6_1).f0) 2)) * 2))]) (j := 0) hcl15 hcc15 (show 1 ≤ 2 from by decide) (x' := (⟨wrap64 ((wrap64 (Int.tdiv ((rd_T30 x5_1 x6_1).f0) 2)) * 2),(rd_T30 x5_1 x6_1).f1⟩ : S30)) (k30_mkM _ _ _ (⟨wrap64 ((wrap64 (Int.tdiv ((rd_T30 x5_1 x6_1).f0) 2)) * 2),(rd_T30 x5_1 x6_1).f1⟩ : S30) ) (fun _ hk => hk);have hx15_0 := hcc15 0 _ rfl;(try simp only [show (k30).sz = 2 from rfl,Nat.mul_one,Nat.add_zero] at hx15_0);have hf15_0 := hfr15 0;(try simp only [show (k30).sz = 2 from rfl,Nat.mul_one,Nat.add_zero] at hf15_0);clear hcl15 hcc15 hfr15 hM15)|((with_reducible refine gate_store (t := 2) (p := 35) rfl ?_);refine store_event (t := 2) (p := 35) (v := ?vo_w16) (w1 := (wr.setCell ⟨go13,oo13 + (x6_1 : Int).toNat * 2,none⟩ (.int .i64 (wrap64 ((wrap64 (Int.tdiv ((rd_T30 x5_1 x6_1).f0) 2)) * 2))))) ?hg ?ho ?hn ?hr ?_;(case ho => rfl);(case hg => rfl);(case hn => rfl);(case hr => first|(go_simp;done)|(go_simp;rfl)|(obtain ⟨_,_,e_⟩ := Kd.R_slice HO_5.out;subst e_;first|(go_simp;done)|(go_simp;rfl)));intro w16 hw;have hg : wr.grownBy w16 (some go13) := (by rw [hw];exact HP15.2);have hp_ : Kd.Q k30 30 w16 w.heap.size (fun _ => True) (.slice (some ⟨go13,oo13,none⟩) x5_1.length co14) y400 := (by rw [hw,Ny400.out];exact HP15.1);clear HP15;have n0_ := Aside0.mk (hp_);have n1_ := Aside0.mk (IsS112.grown (by repeat (first|(with_reducible first|exact HI388.out|apply IsS112.alloc|apply IsS112.drewN|apply IsS112.drew|apply IsS112.set_1|apply IsS112.set_2)|exact HI388.out)) hg (IsS112.own_neQ HI388.out HO_5.out (by decide)));have n2_ := Aside0.mk ((by rw [hw];exact below_set (HB.out) GB13.out : Below w.heap.size w w16));clear HO_5;clear HI388;clear HB;have HO_5 := n0_;have HI388 := n1_;have HB := n2_;clear n0_ n1_ n2_;clear hg hw hp_))
       go_roundg k1
       case measure => have := HK1.out;omega
       case rel => exact ⟨(y400),(wrap64 (x6_1 + 1)),(by first|rfl|(simp;done)|(simp [*];done)),H',⟨by have := HK1.out;omega⟩,⟨by (with_reducible repeat (first|apply Kd.Q_alloc|apply Kd.Q_drewN|apply Kd.Q_drew));exact HO_5.out⟩,⟨by repeat (first|(with_reducible first|exact HI388.out|apply IsS112.alloc|apply IsS112.drewN|apply IsS112.drew|apply IsS112.set_1|apply IsS112.set_2)|exact HI388.out)⟩,⟨by repeat (first|(with_reducible first|exact HB.out|apply below_alloc|apply pw_below_drewN|apply below_drew1|refine below_set ?_ (IsS112.ge HI388.out))|exact HB.out)⟩⟩
      ·replace c12 := Bool.eq_false_iff.mpr c12
       subst c12
       have H1 : (spec_DrawLock.l0 k1 x5_1 (wrap64 (x6_1 + 1)) t385 t395 t396) = some (r1,r2) := by rw [if_neg (show ¬ (false = true) by decide)] at H;exact H
       clear H
       have H := H1
       clear H1
       have H' := Aside0.mk H
       clear H
       obtain ⟨Ao17,co17,eo17,_⟩ := Kd.Q_slice HO_5.out
       subst eo17
       have p397 : 0 ≤ (x6_1 : Int) := of_decide_eq_true (by first|(with_reducible assumption)|assumption)
       have q397 : x6_1 < (x5_1.length : Int) := of_decide_eq_true (by first|(with_reducible assumption)|assumption)
       obtain ⟨ad397,e397,hx397_0,hx397_1⟩ := at_T30 (Kd.Q_reads' HO_5.out).2.2 x6_1 p397 q397
       cases e397
       replace p397 := eq_true p397
       replace q397 := eq_true q397
       go_wp2_with (first|((with_reducible refine gcal_ (f := 62) rfl ?_);refine goesL_ (some 24) rfl rfl Try.func62 (by kernel_rfl) rfl #[.int .i64 ((rd_T30 x5_1 x6_1).f0)] rfl (by (try simp only [List.map_toArray,List.map_cons,List.map_nil]);first|done|rfl|(simp only [List.length_drop,List.length_take];rfl)) ?_;(with_reducible refine (spec_HeadOk.calls ((rd_T30 x5_1 x6_1).f0) false _ A11.out).mono ?_);rintro e w' ⟨rfl,⟨nd,rfl⟩⟩;refine ⟨_,rfl,?_⟩))
       go_roundg k1
       case measure => have := HK1.out;omega
       case rel => exact ⟨(x5_1),(wrap64 (x6_1 + 1)),(by first|rfl|(simp;done)|(simp [*];done)),H',⟨by have := HK1.out;omega⟩,⟨by (with_reducible repeat (first|apply Kd.Q_alloc|apply Kd.Q_drewN|apply Kd.Q_drew));exact HO_5.out⟩,⟨by repeat (first|(with_reducible first|exact HI388.out|apply IsS112.alloc|apply IsS112.drewN|apply IsS112.drew|apply IsS112.set_1|apply IsS112.set_2)|exact HI388.out)⟩,⟨by repeat (first|(with_reducible first|exact HB.out|apply below_alloc|apply pw_below_drewN|apply below_drew1|refine below_set ?_ (IsS112.ge HI388.out))|exact HB.out)⟩⟩
     ·rw [if_neg c10] at H
      exact absurd H (by simp)
    ·rw [if_neg c9] at H
     have c9b0 : decide (x6_1 < (x5_1.length : Int)) = false := decide_eq_false c9
     clear c9
     replace H := Option.bind_eq_some_iff.mp H
     obtain ⟨⟨t401,t404,t405⟩,A180,H⟩ := H
     replace H : (some (x5_1,t401)) = some (r1,r2) := H
     have A18 := Aside0.mk A180
     clear A180
     simp only [Option.some.injEq,Prod.mk.injEq] at H
     obtain ⟨rfl,rfl⟩ := H
     obtain ⟨Ao19,co19,eo19,_⟩ := Kd.Q_slice HO_5.out
     subst eo19
     go_wp2_with (first|((with_reducible refine gcal_ (f := 89) rfl ?_);refine goesL_ (some 39) rfl rfl Try.func89 (by kernel_rfl) rfl #[.pointer (some ⟨g388,0,none⟩),.slice Ao19 x5_1.length co19] rfl (by (try simp only [List.map_toArray,List.map_cons,List.map_nil]);first|done|rfl|(simp only [List.length_drop,List.length_take];rfl)) ?_;(with_reducible refine (spec_l3DrawSets.calls k1 g388 t385 t395 t396 _ _ x5_1 t401 t404 t405 w _ ?side1 ?side2 ?side3 ?side4 A18.out).mono ?_);(case side1 => repeat (first|(with_reducible first|exact HI388.out|apply IsS112.alloc|apply IsS112.drewN|apply IsS112.drew|apply IsS112.set_1|apply IsS112.set_2)|exact HI388.out));(case side2 => repeat (first|(with_reducible first|exact HB.out|apply below_alloc|apply pw_below_drewN|apply below_drew1|refine below_set ?_ (IsS112.ge HI388.out))|exact HB.out));(case side3 => exact Kd.C_foot_ownQ (IsS112.apartQ (show IsS112 w _ g388 t385 t395 t396 from by repeat (first|(with_reducible first|exact HI388.out|apply IsS112.alloc|apply IsS112.drewN|apply IsS112.drew|apply IsS112.set_1|apply IsS112.set_2)|exact HI388.out)) (by (with_reducible repeat (first|apply Kd.Q_alloc|apply Kd.Q_drewN|apply Kd.Q_drew));exact HO_5.out) (by decide)) (fun _ h_ => h_.2));(case side4 => exact (Kd.Q_reads' HO_5.out).2.1);rintro e w20 ⟨v402,rfl,ho0,hi,hb,hk⟩;refine ⟨_,rfl,?_⟩;have n0_ := Aside0.mk (Kd.Q_mono (Kd.Q_keep (IsS112.apartQ (show IsS112 w _ g388 t385 t395 t396 from by repeat (first|(with_reducible first|exact HI388.out|apply IsS112.alloc|apply IsS112.drewN|apply IsS112.drew|apply IsS112.set_1|apply IsS112.set_2)|exact HI388.out)) (by (with_reducible repeat (first|apply Kd.Q_alloc|apply Kd.Q_drewN|apply Kd.Q_drew));exact HO_5.out) (by decide)) hk (fun _ h => h.2)) (fun _ h => h.1));have n1_ := Aside0.mk (Kd.R_lower ho0 (below_size (by repeat (first|(with_reducible first|exact HB.out|apply below_alloc|apply pw_below_drewN|apply below_drew1|refine below_set ?_ (IsS112.ge HI388.out))|exact HB.out))));have n2_ := Aside0.mk (hb);have n3_ := Aside0.mk (hi);clear HO_5;clear HB;clear HI388;have HO_5 := n0_;have HO403 := n1_;have HB := n2_;have HI388 := n3_;clear n0_ n1_ n2_ n3_;(try clear hb);(try clear hb2);(try clear hk);(try clear hi);(try clear ho0)))
     go_ret2
     exact ⟨_,_,by first|rfl|(simp [errW_none,errW_some] <;> rfl)|(simp [*,errW_none,errW_some] <;> rfl),by (with_reducible repeat (first|apply Kd.Q_alloc|apply Kd.Q_drewN|apply Kd.Q_drew));exact HO_5.out,by (with_reducible repeat (first|apply Kd.R_alloc|apply Kd.R_drewN|apply Kd.R_drew));exact HO403.out,by repeat (first|(with_reducible first|exact HB.out|apply below_alloc|apply pw_below_drewN|apply below_drew1|refine below_set ?_ (IsS112.ge HI388.out))|exact HB.out)⟩
 ·replace c5 := Bool.eq_false_iff.mpr c5
  subst c5
  have H1 : ((spec_l3DrawSets.f k t385 t395 t396 t389).bind fun bt406 => (some (t389,bt406.1))) = some (r1,r2) := by rw [if_neg (show ¬ (false = true) by decide)] at H;exact H
  clear H
  have H := H1
  clear H1
  replace H := Option.bind_eq_some_iff.mp H
  obtain ⟨⟨t406,t409,t410⟩,A210,H⟩ := H
  replace H : (some (t389,t406)) = some (r1,r2) := H
  have A21 := Aside0.mk A210
  clear A210
  simp only [Option.some.injEq,Prod.mk.injEq] at H
  obtain ⟨rfl,rfl⟩ := H
  go_enter Try.func42,Try.ntmps42
  go_wp2_with (first|((with_reducible refine gcal_ (f := 72) rfl ?_);refine goesL_ (some 8) rfl rfl Try.func72 (by kernel_rfl) rfl #[.slice A0 l0.length c0] rfl (by (try simp only [List.map_toArray,List.map_cons,List.map_nil]);first|done|rfl|(simp only [List.length_drop,List.length_take];rfl)) ?_;(with_reducible refine (spec_l1New.calls k _ _ l0 t385 t386 t387 w _ ?side1 ?side2 ?side3 A2.out).mono ?_);(case side1 => repeat (first|(with_reducible first|exact HB.out|apply below_alloc|apply pw_below_drewN|apply below_drew1)|exact HB.out));(case side2 => exact HR0.out);(case side3 => exact HC0.out);rintro e w22 ⟨g388,rfl,hi,hb,hb2⟩;refine ⟨_,rfl,?_⟩;have n0_ := Aside0.mk (hb);have n1_ := Aside0.mk (hi);clear HB;have HB := n0_;have HI388 := n1_;clear n0_ n1_;(try clear hb);(try clear hb2);(try clear hk);(try clear hi))|((with_reducible refine gcal_ (f := 73) rfl ?_);refine goesL_ (some 10) rfl rfl Try.func73 (by kernel_rfl) rfl #[.pointer (some ⟨g388,0,none⟩)] rfl (by (try simp only [List.map_toArray,List.map_cons,List.map_nil]);first|done|rfl|(simp only [List.length_drop,List.length_take];rfl)) ?_;(with_reducible refine (spec_l3DrawAny.calls k g388 t385 t386 t387 t389 t392 t393 w _ ?side1 ?side2 A3.out).mono ?_);(case side1 => repeat (first|(with_reducible first|exact HI388.out|apply IsS112.alloc|apply IsS112.drewN|apply IsS112.drew|apply IsS112.set_1|apply IsS112.set_2)|exact HI388.out));(case side2 => repeat (first|(with_reducible first|exact HB.out|apply below_alloc|apply pw_below_drewN|apply below_drew1|refine below_set ?_ (IsS112.ge HI388.out))|exact HB.out));rintro e w23 ⟨v390,rfl,ho0,hi,hb,hk⟩;refine ⟨_,rfl,?_⟩;have n0_ := Aside0.mk (Kd.Q_lower ho0 (below_size (by repeat (first|(with_reducible first|exact HB.out|apply below_alloc|apply pw_below_drewN|apply below_drew1|refine below_set ?_ (IsS112.ge HI388.out))|exact HB.out))));have n1_ := Aside0.mk (hb);have n2_ := Aside0.mk (hi);clear HB;clear HI388;have HO391 := n0_;have HB := n1_;have HI388 := n2_;clear n0_ n1_ n2_;(try clear hb);(try clear hb2);(try clear hk);(try clear hi);(try clear ho0))|((with_reducible refine gcal_ (f := 88) rfl ?_);refine goesL_ (some 12) rfl rfl Try.func88 (by kernel_rfl) rfl #[.pointer (some ⟨g388,0,none⟩),.int .i64 2] rfl (by (try simp only [List.map_toArray,List.map_cons,List.map_nil]);first|done|rfl|(simp only [List.length_drop,List.length_take];rfl)) ?_;(with_reducible refine (spec_l1Once.calls g388 t385 t392 t393 2 false t395 t396 w _ ?side1 ?side2 A4.out).mono ?_);(case side1 => repeat (first|(with_reducible first|exact HI388.out|apply IsS112.alloc|apply IsS112.drewN|apply IsS112.drew|apply IsS112.set_1|apply IsS112.set_2)|exact HI388.out));(case side2 => repeat (first|(with_reducible first|exact HB.out|apply below_alloc|apply pw_below_drewN|apply below_drew1|refine below_set ?_ (IsS112.ge HI388.out))|exact HB.out));rintro e w24 ⟨rfl,hi,hb,hk⟩;refine ⟨_,rfl,?_⟩;have n0_ := Aside0.mk (Kd.Q_mono (Kd.Q_keep (IsS112.apartQ (show IsS112 w _ g388 t385 t392 t393 from by repeat (first|(with_reducible first|exact HI388.out|apply IsS112.alloc|apply IsS112.drewN|apply IsS112.drew|apply IsS112.set_1|apply IsS112.set_2)|exact HI388.out)) (by (with_reducible repeat (first|apply Kd.Q_alloc|apply Kd.Q_drewN|apply Kd.Q_drew));exact HO391.out) (by decide)) hk (fun _ h => h.2)) (fun _ h => h.1));have n1_ := Aside0.mk (hb);have n2_ := Aside0.mk (hi);clear HO391;clear HB;clear HI388;have HO391 := n0_;have HB := n1_;have HI388 := n2_;clear n0_ n1_ n2_;(try clear hb);(try clear hb2);(try clear hk);(try clear hi);obtain ⟨Ao25,co25,eo25,_⟩ := Kd.Q_slice HO391.out;subst eo25)|((with_reducible refine gcal_ (f := 89) rfl ?_);refine goesL_ (some 39) rfl rfl Try.func89 (by kernel_rfl) rfl #[.pointer (some ⟨g388,0,none⟩),.slice Ao25 t389.length co25] rfl (by (try simp only [List.map_toArray,List.map_cons,List.map_nil]);first|done|rfl|(simp only [List.length_drop,List.length_take];rfl)) ?_;(with_reducible refine (spec_l3DrawSets.calls k g388 t385 t395 t396 _ _ t389 t406 t409 t410 w _ ?side1 ?side2 ?side3 ?side4 A21.out).mono ?_);(case side1 => repeat (first|(with_reducible first|exact HI388.out|apply IsS112.alloc|apply IsS112.drewN|apply IsS112.drew|apply IsS112.set_1|apply IsS112.set_2)|exact HI388.out));(case side2 => repeat (first|(with_reducible first|exact HB.out|apply below_alloc|apply pw_below_drewN|apply below_drew1|refine below_set ?_ (IsS112.ge HI388.out))|exact HB.out));(case side3 => exact Kd.C_foot_ownQ (IsS112.apartQ (show IsS112 w _ g388 t385 t395 t396 from by repeat (first|(with_reducible first|exact HI388.out|apply IsS112.alloc|apply IsS112.drewN|apply IsS112.drew|apply IsS112.set_1|apply IsS112.set_2)|exact HI388.out)) (by (with_reducible repeat (first|apply Kd.Q_alloc|apply Kd.Q_drewN|apply Kd.Q_drew));exact HO391.out) (by decide)) (fun _ h_ => h_.2));(case side4 => exact (Kd.Q_reads' HO391.out).2.1);rintro e w26 ⟨v407,rfl,ho0,hi,hb,hk⟩;refine ⟨_,rfl,?_⟩;have n0_ := Aside0.mk (Kd.Q_mono (Kd.Q_keep (IsS112.apartQ (show IsS112 w _ g388 t385 t395 t396 from by repeat (first|(with_reducible first|exact HI388.out|apply IsS112.alloc|apply IsS112.drewN|apply IsS112.drew|apply IsS112.set_1|apply IsS112.set_2)|exact HI388.out)) (by (with_reducible repeat (first|apply Kd.Q_alloc|apply Kd.Q_drewN|apply Kd.Q_drew));exact HO391.out) (by decide)) hk (fun _ h => h.2)) (fun _ h => h.1));have n1_ := Aside0.mk (Kd.R_lower ho0 (below_size (by repeat (first|(with_reducible first|exact HB.out|apply below_alloc|apply pw_below_drewN|apply below_drew1|refine below_set ?_ (IsS112.ge HI388.out))|exact HB.out))));have n2_ := Aside0.mk (hb);have n3_ := Aside0.mk (hi);clear HO391;clear HB;clear HI388;have HO391 := n0_;have HO408 := n1_;have HB := n2_;have HI388 := n3_;clear n0_ n1_ n2_ n3_;(try clear hb);(try clear hb2);(try clear hk);(try clear hi);(try clear ho0)))
  go_ret2
  exact ⟨_,_,by first|rfl|(simp [errW_none,errW_some] <;> rfl)|(simp [*,errW_none,errW_some] <;> rfl),by (with_reducible repeat (first|apply Kd.Q_alloc|apply Kd.Q_drewN|apply Kd.Q_drew));exact HO391.out,by (with_reducible repeat (first|apply Kd.R_alloc|apply Kd.R_drewN|apply Kd.R_drew));exact HO408.out,by repeat (first|(with_reducible first|exact HB.out|apply below_alloc|apply pw_below_drewN|apply below_drew1|refine below_set ?_ (IsS112.ge HI388.out))|exact HB.out)⟩

/-! ### laws_likeCells: function 43 -/
def laws_likeCells.l0 : Nat → List (S30) → List (S30) → Int → Option (Bool)
  | 0, _, _, _ => none
  | k + 1, x0, x1, x5 => if x5 < (x0.length : Int) then (if 0 ≤ x5 then (if x5 < (x1.length : Int) then (if (!(((rd_T30 x0 x5).f0) == ((rd_T30 x1 x5).f0)) || (!(((rd_T30 x0 x5).f1) == ((rd_T30 x1 x5).f1)))) = true then (some false) else (laws_likeCells.l0 k x0 x1 (wrap64 (x5 + 1)))) else (none)) else (none)) else (some true)
def laws_likeCells.f (k : Nat) (l0 : List (S30)) (l1 : List (S30)) : Option (Bool) := if (l0.length : Int) = (l1.length : Int) then (laws_likeCells.l0 k l0 l1 0) else (some false)

set_option maxHeartbeats 8000000 in
set_option maxRecDepth 100000 in
theorem laws_likeCells.calls (k : Nat) (A0 : Option Addr) (c0 : Nat) (l0 : List (S30)) (A1 : Option Addr) (c1 : Nat) (l1 : List (S30)) (r : Bool) (w : World) (hr0 : Kd.C k30 w A0 l0.length l0) (hc0 : l0.length ≤ c0) (hr1 : Kd.C k30 w A1 l1.length l1) (hc1 : l1.length ≤ c1) (h : laws_likeCells.f k l0 l1 = some r) :
    Calls Try.prog 43 #[.slice A0 l0.length c0, .slice A1 l1.length c1] w fun e w' => e = .returned (.bool r) ∧ Drawn0 w w' := by
 have hu30 := Try.underlying30
 have HR0 := Aside0.mk hr0
 have HC0 := Aside0.mk hc0
 clear hr0 hc0
 have HR1 := Aside0.mk hr1
 have HC1 := Aside0.mk hc1
 clear hr1 hc1
 have H : (if (l0.length : Int) = (l1.length : Int) then (laws_likeCells.l0 k l0 l1 0) else (some false)) = some r := h
 clear h
 by_cases c3 : (l0.length : Int) = (l1.length : Int)
 ·rw [if_pos c3] at H
  have c3b0 : ((l0.length : Int) == (l1.length : Int)) = true := beq_iff_eq.mpr c3
  have c3b1 : ((l0.length : Int) != (l1.length : Int)) = false := bne_eq_false_iff_eq.mpr c3
  have c3b2 : (l0.length == l1.length) = true := by first|simpa using c3|(simp at c3 ⊢;omega)
  clear c3
  have H' := Aside0.mk H
  clear H
  go_enter Try.func43,Try.ntmps43
  go_wp2
  repeat (go_quiet (fail);try go_wp2)
  go_loopg [5] k (fun kq v5 w' => ∃ (x5_1 : Int),v5 = .int .i64 x5_1 ∧ Aside0 (laws_likeCells.l0 kq l0 l1 x5_1 = some r) ∧ Aside0 (kq ≤ k) ∧ Drawn0 w w')
  case atStart => exact ⟨(0),(by first|rfl|(simp;done)|(simp [*];done)),H',⟨Nat.le_refl _⟩,by repeat (first|exact Drawn0.refl _|apply Drawn0.step)⟩
  case round =>
   clear H'
   try clear c1
   try clear p2
   try clear c3
   try clear c3b0
   try clear c3b1
   try clear c3b2
   obtain ⟨x5_1,rfl,HA,HK1,⟨m1,rfl⟩⟩ := hrel
   cases gk with
   | zero => exact absurd HA.out (by simp [laws_likeCells.l0])
   | succ k1 =>
    have H := HA.out
    clear HA
    simp only [laws_likeCells.l0] at H
    by_cases c4 : x5_1 < (l0.length : Int)
    ·rw [if_pos c4] at H
     have c4b0 : decide (x5_1 < (l0.length : Int)) = true := decide_eq_true c4
     clear c4
     by_cases c5 : 0 ≤ x5_1
     ·rw [if_pos c5] at H
      have c5b0 : decide (0 ≤ x5_1) = true := decide_eq_true c5
      clear c5
      by_cases c6 : x5_1 < (l1.length : Int)
      ·rw [if_pos c6] at H
       have c6b0 : decide (x5_1 < (l1.length : Int)) = true := decide_eq_true c6
       clear c6
       by_cases c7 : (!(((rd_T30 l0 x5_1).f0) == ((rd_T30 l1 x5_1).f0)) || (!(((rd_T30 l0 x5_1).f1) == ((rd_T30 l1 x5_1).f1)))) = true
       ·rw [if_pos c7] at H
        have c7b0 : (!(((rd_T30 l0 x5_1).f0) == ((rd_T30 l1 x5_1).f0)) || (!(((rd_T30 l0 x5_1).f1) == ((rd_T30 l1 x5_1).f1)))) = true := c7
        clear c7
        obtain rfl := Option.some.inj H
        have p411 : 0 ≤ (x5_1 : Int) := of_decide_eq_true (by first|(with_reducible assumption)|assumption)
        have q411 : x5_1 < (l0.length : Int) := of_decide_eq_true (by first|(with_reducible assumption)|assumption)
        obtain ⟨ad411,e411,hx411_0,hx411_1⟩ := at_T30 HR0.out x5_1 p411 q411
        cases e411
        replace p411 := eq_true p411
        replace q411 := eq_true q411
        have p412 : 0 ≤ (x5_1 : Int) := of_decide_eq_true (by first|(with_reducible assumption)|assumption)
        have q412 : x5_1 < (l1.length : Int) := of_decide_eq_true (by first|(with_reducible assumption)|assumption)
        obtain ⟨ad412,e412,hx412_0,hx412_1⟩ := at_T30 HR1.out x5_1 p412 q412
        cases e412
        replace p412 := eq_true p412
        replace q412 := eq_true q412
        go_wp2
        repeat (go_quiet (fail);try go_wp2)
        go_ret
        exact ⟨by first|rfl|(simp;done)|(simp [*];done),by repeat (first|exact Drawn0.refl _|apply Drawn0.step)⟩
       ·rw [if_neg c7] at H
        have c7b0 : (!(((rd_T30 l0 x5_1).f0) == ((rd_T30 l1 x5_1).f0)) || (!(((rd_T30 l0 x5_1).f1) == ((rd_T30 l1 x5_1).f1)))) = false := by simpa using c7
        clear c7
        have H' := Aside0.mk H
        clear H
        have p411 : 0 ≤ (x5_1 : Int) := of_decide_eq_true (by first|(with_reducible assumption)|assumption)
        have q411 : x5_1 < (l0.length : Int) := of_decide_eq_true (by first|(with_reducible assumption)|assumption)
        obtain ⟨ad411,e411,hx411_0,hx411_1⟩ := at_T30 HR0.out x5_1 p411 q411
        cases e411
        replace p411 := eq_true p411
        replace q411 := eq_true q411
        have p412 : 0 ≤ (x5_1 : Int) := of_decide_eq_true (by first|(with_reducible assumption)|assumption)
        have q412 : x5_1 < (l1.length : Int) := of_decide_eq_true (by first|(with_reducible assumption)|assumption)
        obtain ⟨ad412,e412,hx412_0,hx412_1⟩ := at_T30 HR1.out x5_1 p412 q412
        cases e412
        replace p412 := eq_true p412
        replace q412 := eq_true q412
        go_wp2
        repeat (go_quiet (fail);try go_wp2)
        go_roundg k1
        case measure => have := HK1.out;omega
        case rel => exact ⟨(wrap64 (x5_1 + 1)),(by first|rfl|(simp;done)|(simp [*];done)),H',⟨by have := HK1.out;omega⟩,by repeat (first|exact Drawn0.refl _|apply Drawn0.step)⟩
      ·rw [if_neg c6] at H
       exact absurd H (by simp)
     ·rw [if_neg c5] at H
      exact absurd H (by simp)
    ·rw [if_neg c4] at H
     have c4b0 : decide (x5_1 < (l0.length : Int)) = false := decide_eq_false c4
     clear c4
     obtain rfl := Option.some.inj H
     go_wp2
     repeat (go_quiet (fail);try go_wp2)
     go_ret
     exact ⟨by first|rfl|(simp;done)|(simp [*];done),by repeat (first|exact Drawn0.refl _|apply Drawn0.step)⟩
 ·rw [if_neg c3] at H
  have c3b0 : ((l0.length : Int) == (l1.length : Int)) = false := beq_eq_false_iff_ne.mpr c3
  have c3b1 : ((l0.length : Int) != (l1.length : Int)) = true := bne_iff_ne.mpr c3
  have c3b2 : (l0.length == l1.length) = false := by first|simpa using c3|(simp at c3 ⊢;omega)
  obtain rfl := Option.some.inj H
  go_enter Try.func43,Try.ntmps43
  go_wp2
  repeat (go_quiet (fail);try go_wp2)
  go_ret
  exact ⟨by first|rfl|(simp;done)|(simp [*];done),by repeat (first|exact Drawn0.refl _|apply Drawn0.step)⟩

/-! ### laws_FnLocks: function 10 -/
mutual
def laws_FnLocks.j0 : Nat → List (S30) → List (S59) → List (S30) → Bool → Bool → Option (Bool)
  | 0, _, _, _, _, _ => none
  | k + 1, x3, x4, x5, x6, x41 => if x41 = true then (some false) else (if x6 = true then ((impl_Lock.f k x5 x4).bind fun bt430 => (laws_FnLocks.l0 k x3 x4 x5 bt430.2 0)) else ((laws_likeCells.f k x5 x3).bind fun t429 => (if t429 = true then (some true) else (some ((x5.length : Int) == 0)))))
def laws_FnLocks.l0 : Nat → List (S30) → List (S59) → List (S30) → Bool → Int → Option (Bool)
  | 0, _, _, _, _, _ => none
  | k + 1, x3, x4, x5, x10, x11 => if x11 < (x4.length : Int) then (if 0 ≤ x11 then ((impl_Look.f x5 ((rd_T59 x4 x11).f1)).bind fun bt435 => (if bt435.2.2 = true then (some false) else (laws_FnLocks.l0 k x3 x4 x5 x10 (wrap64 (x11 + 1))))) else (none)) else (if (x10 == ((x4.length : Int) == 0)) = true then ((impl_Unlock.f k x5 x4).bind fun t439 => ((laws_likeCells.f k t439 x3).bind fun t442 => (if t442 = true then ((impl_CellsOk.f x5).bind fun t443 => (some t443)) else (some false)))) else (some false))
end
def laws_FnLocks.f (k : Nat) (l0 : List Int) : Option (Bool) := (laws_big.f l0).bind fun t413 => (if t413 = true then (some true) else ((spec_DrawLock.f k l0).bind fun bt414 => ((impl_Lock.f k bt414.1 bt414.2).bind fun bt420 => ((spec_Lock.f k bt414.1 bt414.2).bind fun bt424 => (if (bt420.2 != bt424.2) = true then (laws_FnLocks.j0 k bt414.1 bt414.2 bt420.1 bt420.2 true) else ((laws_likeCells.f k bt420.1 bt424.1).bind fun t428 => (laws_FnLocks.j0 k bt414.1 bt414.2 bt420.1 bt420.2 (!t428))))))))

set_option maxHeartbeats 8000000 in
set_option maxRecDepth 100000 in
theorem laws_FnLocks.calls (k : Nat) (A0 : Option Addr) (c0 : Nat) (l0 : List Int) (r : Bool) (w : World) (hr0 : Kd.C (Kd.int .u8) w A0 l0.length l0) (hc0 : l0.length ≤ c0) (h : laws_FnLocks.f k l0 = some r) :
    Calls Try.prog 10 #[.slice A0 l0.length c0] w fun e w' => e = .returned (.bool r) ∧ Below w.heap.size w w' := by
 have hu30 := Try.underlying30
 have HR0 := Aside0.mk hr0
 have HC0 := Aside0.mk hc0
 clear hr0 hc0
 have HB := Aside0.mk (Below.refl w.heap.size w)
 have H : ((laws_big.f l0).bind fun t413 => (if t413 = true then (some true) else ((spec_DrawLock.f k l0).bind fun bt414 => ((impl_Lock.f k bt414.1 bt414.2).bind fun bt420 => ((spec_Lock.f k bt414.1 bt414.2).bind fun bt424 => (if (bt420.2 != bt424.2) = true then (laws_FnLocks.j0 k bt414.1 bt414.2 bt420.1 bt420.2 true) else ((laws_likeCells.f k bt420.1 bt424.1).bind fun t428 => (laws_FnLocks.j0 k bt414.1 bt414.2 bt420.1 bt420.2 (!t428))))))))) = some r := h
 clear h
 replace H := Option.bind_eq_some_iff.mp H
 obtain ⟨t413,A20,H⟩ := H
 replace H : (if t413 = true then (some true) else ((spec_DrawLock.f k l0).bind fun bt414 => ((impl_Lock.f k bt414.1 bt414.2).bind fun bt420 => ((spec_Lock.f k bt414.1 bt414.2).bind fun bt424 => (if (bt420.2 != bt424.2) = true then (laws_FnLocks.j0 k bt414.1 bt414.2 bt420.1 bt420.2 true) else ((laws_likeCells.f k bt420.1 bt424.1).bind fun t428 => (laws_FnLocks.j0 k bt414.1 bt414.2 bt420.1 bt420.2 (!t428)))))))) = some r := H
 have A2 := Aside0.mk A20
 clear A20
 by_cases c3 : t413 = true
 ·subst c3
  have H1 : (some true) = some r := by rw [if_pos rfl] at H;exact H
  clear H
  have H := H1
  clear H1
  obtain rfl := Option.some.inj H
  go_enter Try.func10,Try.ntmps10
  go_wp2_with (first|((with_reducible refine gcal_ (f := 26) rfl ?_);refine goesL_ (some 15) rfl rfl Try.func26 (by kernel_rfl) rfl #[.slice A0 l0.length c0] rfl (by (try simp only [List.map_toArray,List.map_cons,List.map_nil]);first|done|rfl|(simp only [List.length_drop,List.length_take];rfl)) ?_;(with_reducible refine (laws_big.calls _ _ l0 true _ ?side1 ?side2 A2.out).mono ?_);(case side1 => repeat (first|exact HR0.out|(with_reducible refine Kd.C_alloc ?_ _)|(with_reducible refine Kd.C_drewN ?_ _)|(with_reducible refine Kd.C_drew ?_)));(case side2 => exact HC0.out);rintro e w' ⟨rfl,⟨nd,rfl⟩⟩;refine ⟨_,rfl,?_⟩))
  go_ret
  exact ⟨by first|rfl|(simp [errW_none,errW_some] <;> rfl)|(simp [*,errW_none,errW_some] <;> rfl),by repeat (first|(with_reducible first|exact HB.out|apply below_alloc|apply pw_below_drewN|apply below_drew1)|exact HB.out)⟩
 ·replace c3 := Bool.eq_false_iff.mpr c3
  subst c3
  have H1 : ((spec_DrawLock.f k l0).bind fun bt414 => ((impl_Lock.f k bt414.1 bt414.2).bind fun bt420 => ((spec_Lock.f k bt414.1 bt414.2).bind fun bt424 => (if (bt420.2 != bt424.2) = true then (laws_FnLocks.j0 k bt414.1 bt414.2 bt420.1 bt420.2 true) else ((laws_likeCells.f k bt420.1 bt424.1).bind fun t428 => (laws_FnLocks.j0 k bt414.1 bt414.2 bt420.1 bt420.2 (!t428))))))) = some r := by rw [if_neg (show ¬ (false = true) by decide)] at H;exact H
  clear H
  have H := H1
  clear H1
  replace H := Option.bind_eq_some_iff.mp H
  obtain ⟨⟨t414,t415⟩,A40,H⟩ := H
  replace H : ((impl_Lock.f k t414 t415).bind fun bt420 => ((spec_Lock.f k t414 t415).bind fun bt424 => (if (bt420.2 != bt424.2) = true then (laws_FnLocks.j0 k t414 t415 bt420.1 bt420.2 true) else ((laws_likeCells.f k bt420.1 bt424.1).bind fun t428 => (laws_FnLocks.j0 k t414 t415 bt420.1 bt420.2 (!t428)))))) = some r := H
  have A4 := Aside0.mk A40
  clear A40
  replace H := Option.bind_eq_some_iff.mp H
  obtain ⟨⟨t420,t421⟩,A50,H⟩ := H
  replace H : ((spec_Lock.f k t414 t415).bind fun bt424 => (if (t421 != bt424.2) = true then (laws_FnLocks.j0 k t414 t415 t420 t421 true) else ((laws_likeCells.f k t420 bt424.1).bind fun t428 => (laws_FnLocks.j0 k t414 t415 t420 t421 (!t428))))) = some r := H
  have A5 := Aside0.mk A50
  clear A50
  replace H := Option.bind_eq_some_iff.mp H
  obtain ⟨⟨t424,t425⟩,A60,H⟩ := H
  replace H : (if (t421 != t425) = true then (laws_FnLocks.j0 k t414 t415 t420 t421 true) else ((laws_likeCells.f k t420 t424).bind fun t428 => (laws_FnLocks.j0 k t414 t415 t420 t421 (!t428)))) = some r := H
  have A6 := Aside0.mk A60
  clear A60
  have HC7 := Aside0.mk H
  clear H
  go_enter Try.func10,Try.ntmps10
  go_upto_region 6 with (first|((with_reducible refine gcal_ (f := 26) rfl ?_);refine goesL_ (some 15) rfl rfl Try.func26 (by kernel_rfl) rfl #[.slice A0 l0.length c0] rfl (by (try simp only [List.map_toArray,List.map_cons,List.map_nil]);first|done|rfl|(simp only [List.length_drop,List.length_take];rfl)) ?_;(with_reducible refine (laws_big.calls _ _ l0 false _ ?side1 ?side2 A2.out).mono ?_);(case side1 => repeat (first|exact HR0.out|(with_reducible refine Kd.C_alloc ?_ _)|(with_reducible refine Kd.C_drewN ?_ _)|(with_reducible refine Kd.C_drew ?_)));(case side2 => exact HC0.out);rintro e w' ⟨rfl,⟨nd,rfl⟩⟩;refine ⟨_,rfl,?_⟩)|((with_reducible refine gcal_ (f := 42) rfl ?_);refine goesL_ (some 18) rfl rfl Try.func42 (by kernel_rfl) rfl #[.slice A0 l0.length c0] rfl (by (try simp only [List.map_toArray,List.map_cons,List.map_nil]);first|done|rfl|(simp only [List.length_drop,List.length_take];rfl)) ?_;(with_reducible refine (spec_DrawLock.calls k _ _ l0 t414 t415 _ ?side1 ?side2 A4.out).mono ?_);(case side1 => repeat (first|exact HR0.out|(with_reducible refine Kd.C_alloc ?_ _)|(with_reducible refine Kd.C_drewN ?_ _)|(with_reducible refine Kd.C_drew ?_)));(case side2 => exact HC0.out);rintro e w8 ⟨v416,v418,rfl,ho0,ho1,hb⟩;refine ⟨_,rfl,?_⟩;have n0_ := Aside0.mk (Kd.Q_lower ho0 (below_size (by repeat (first|(with_reducible first|exact HB.out|apply below_alloc|apply pw_below_drewN|apply below_drew1)|exact HB.out))));have n1_ := Aside0.mk (Kd.R_lower ho1 (below_size (by repeat (first|(with_reducible first|exact HB.out|apply below_alloc|apply pw_below_drewN|apply below_drew1)|exact HB.out))));have n2_ := Aside0.mk (below_step (by repeat (first|(with_reducible first|exact HB.out|apply below_alloc|apply pw_below_drewN|apply below_drew1)|exact HB.out)) hb);clear HB;have HO417 := n0_;have HO419 := n1_;have HB := n2_;clear n0_ n1_ n2_;(try clear hb);(try clear hb2);(try clear hk);(try clear hi);(try clear ho0);(try clear ho1);obtain ⟨Ao9,co9,eo9,_⟩ := Kd.Q_slice HO417.out;subst eo9;obtain ⟨Ao10,co10,eo10⟩ := Kd.R_slice HO419.out;subst eo10)|((with_reducible refine gcal_ (f := 39) rfl ?_);refine goesL_ (some 24) rfl rfl Try.func39 (by kernel_rfl) rfl #[.slice Ao9 t414.length co9,.slice Ao10 t415.length co10] rfl (by (try simp only [List.map_toArray,List.map_cons,List.map_nil]);first|done|rfl|(simp only [List.length_drop,List.length_take];rfl)) ?_;(with_reducible refine (impl_Lock.calls k _ _ t414 _ _ t415 t420 t421 _ ?side1 ?side2 ?side3 ?side4 A5.out).mono ?_);(case side1 => repeat (first|exact (Kd.Q_reads' HO417.out).2.2|(with_reducible refine Kd.C_alloc ?_ _)|(with_reducible refine Kd.C_drewN ?_ _)|(with_reducible refine Kd.C_drew ?_)));(case side2 => exact (Kd.Q_reads' HO417.out).2.1);(case side3 => repeat (first|exact (Kd.R_reads' HO419.out).2.2|(with_reducible refine Kd.C_alloc ?_ _)|(with_reducible refine Kd.C_drewN ?_ _)|(with_reducible refine Kd.C_drew ?_)));(case side4 => exact (Kd.R_reads' HO419.out).2.1);rintro e w11 ⟨v422,rfl,ho0,hb⟩;refine ⟨_,rfl,?_⟩;have n0_ := Aside0.mk (Kd.Q_elder' (by (with_reducible repeat (first|apply Kd.Q_alloc|apply Kd.Q_drewN|apply Kd.Q_drew));exact HO417.out) (Kd.R_base ho0) hb);have n1_ := Aside0.mk (Kd.R_below (by (with_reducible repeat (first|apply Kd.R_alloc|apply Kd.R_drewN|apply Kd.R_drew));exact HO419.out) hb);have n2_ := Aside0.mk (Kd.R_lower (Kd.R_new' ho0 (Kd.Q_lt (by (with_reducible repeat (first|apply Kd.Q_alloc|apply Kd.Q_drewN|apply Kd.Q_drew));exact HO417.out))) (below_size (by repeat (first|(with_reducible first|exact HB.out|apply below_alloc|apply pw_below_drewN|apply below_drew1)|exact HB.out))));have n3_ := Aside0.mk (below_step (by repeat (first|(with_reducible first|exact HB.out|apply below_alloc|apply pw_below_drewN|apply below_drew1)|exact HB.out)) hb);clear HO417;clear HO419;clear HB;have HO417 := n0_;have HO419 := n1_;have HO423 := n2_;have HB := n3_;clear n0_ n1_ n2_ n3_;(try clear hb);(try clear hb2);(try clear hk);(try clear hi);(try clear ho0))|((with_reducible refine gcal_ (f := 38) rfl ?_);refine goesL_ (some 30) rfl rfl Try.func38 (by kernel_rfl) rfl #[.slice Ao9 t414.length co9,.slice Ao10 t415.length co10] rfl (by (try simp only [List.map_toArray,List.map_cons,List.map_nil]);first|done|rfl|(simp only [List.length_drop,List.length_take];rfl)) ?_;(with_reducible refine (spec_Lock.calls k _ _ t414 _ _ t415 t424 t425 _ ?side1 ?side2 ?side3 ?side4 A6.out).mono ?_);(case side1 => repeat (first|exact (Kd.Q_reads' HO417.out).2.2|(with_reducible refine Kd.C_alloc ?_ _)|(with_reducible refine Kd.C_drewN ?_ _)|(with_reducible refine Kd.C_drew ?_)));(case side2 => exact (Kd.Q_reads' HO417.out).2.1);(case side3 => repeat (first|exact (Kd.R_reads' HO419.out).2.2|(with_reducible refine Kd.C_alloc ?_ _)|(with_reducible refine Kd.C_drewN ?_ _)|(with_reducible refine Kd.C_drew ?_)));(case side4 => exact (Kd.R_reads' HO419.out).2.1);rintro e w12 ⟨v426,rfl,ho0,hb⟩;refine ⟨_,rfl,?_⟩;have n0_ := Aside0.mk (Kd.Q_elder' (by (with_reducible repeat (first|apply Kd.Q_alloc|apply Kd.Q_drewN|apply Kd.Q_drew));exact HO417.out) (Kd.R_base ho0) hb);have n1_ := Aside0.mk (Kd.R_below (by (with_reducible repeat (first|apply Kd.R_alloc|apply Kd.R_drewN|apply Kd.R_drew));exact HO419.out) hb);have n2_ := Aside0.mk (Kd.R_elder' (by (with_reducible repeat (first|apply Kd.R_alloc|apply Kd.R_drewN|apply Kd.R_drew));exact HO423.out) (Kd.R_base ho0) hb);have n3_ := Aside0.mk (Kd.R_lower (Kd.R_new' (Kd.R_new' ho0 (Kd.Q_lt (by (with_reducible repeat (first|apply Kd.Q_alloc|apply Kd.Q_drewN|apply Kd.Q_drew));exact HO417.out))) (Kd.R_lt (by (with_reducible repeat (first|apply Kd.R_alloc|apply Kd.R_drewN|apply Kd.R_drew));exact HO423.out))) (below_size (by repeat (first|(with_reducible first|exact HB.out|apply below_alloc|apply pw_below_drewN|apply below_drew1)|exact HB.out))));have n4_ := Aside0.mk (below_step (by repeat (first|(with_reducible first|exact HB.out|apply below_alloc|apply pw_below_drewN|apply below_drew1)|exact HB.out)) hb);clear HO417;clear HO419;clear HO423;clear HB;have HO417 := n0_;have HO419 := n1_;have HO423 := n2_;have HO427 := n3_;have HB := n4_;clear n0_ n1_ n2_ n3_ n4_;(try clear hb);(try clear hb2);(try clear hk);(try clear hi);(try clear ho0)))
  (try simp only [Act.put,List.setIfInBounds_toArray,List.set_cons_zero,List.set_cons_succ])
  go_cut [41] (fun v41 wc => ∃ (kq : Nat) (x41_6 : Bool),v41 = .bool x41_6 ∧ Aside0 (laws_FnLocks.j0 kq t414 t415 t420 t421 x41_6 = some r) ∧ Aside0 (kq ≤ k) ∧ Aside0 (Kd.Q k30 30 wc w.heap.size (fun k_ => some k_ ≠ (v422 : Value).ownBlock) (.slice Ao9 t414.length co9) t414) ∧ Aside0 (Kd.R k59 59 wc w.heap.size (fun _ => True) (.slice Ao10 t415.length co10) t415) ∧ Aside0 (Kd.R k30 30 wc w.heap.size (fun k_ => some k_ ≠ ((.slice Ao9 t414.length co9) : Value).ownBlock) v422 t420) ∧ Aside0 (Below w.heap.size w wc))
  case first =>
   have H := HC7.out
   clear HC7
   by_cases c13 : (t421 != t425) = true
   ·rw [if_pos c13] at H
    have c13b0 : (t421 != t425) = true := c13
    (try (have c13b1 : decide (t421 = t425) = false := by simpa using c13))
    (try (have c13b2 : (t421 == t425) = false := by simpa using c13))
    (try (have c13b3 : ¬ (t421 = t425) := by simpa using c13))
    clear c13
    (first|rw [c13b0]|(simp only [i64_w,i32_w];rw [c13b0])|skip)
    have H' := Aside0.mk H
    clear H
    go_wp2
    go_meet
    case rel => exact ⟨_,(true),(by first|rfl|(simp;done)|(simp [*];done)),H',⟨by first|omega|exact Nat.le_refl _⟩,⟨by (with_reducible repeat (first|apply Kd.Q_alloc|apply Kd.Q_drewN|apply Kd.Q_drew));exact Kd.Q_mono HO417.out (fun _ hk => hk.1.2)⟩,⟨by (with_reducible repeat (first|apply Kd.R_alloc|apply Kd.R_drewN|apply Kd.R_drew));exact HO419.out⟩,⟨by (with_reducible repeat (first|apply Kd.R_alloc|apply Kd.R_drewN|apply Kd.R_drew));exact Kd.R_mono HO423.out (fun _ hk => hk.1.2)⟩,⟨by repeat (first|(with_reducible first|exact HB.out|apply below_alloc|apply pw_below_drewN|apply below_drew1)|exact HB.out)⟩⟩
   ·rw [if_neg c13] at H
    have c13b0 : (t421 != t425) = false := by simpa using c13
    (try (have c13b1 : decide (t421 = t425) = true := by simpa using c13))
    (try (have c13b2 : (t421 == t425) = true := by simpa using c13))
    clear c13
    (first|rw [c13b0]|(simp only [i64_w,i32_w];rw [c13b0])|skip)
    replace H := Option.bind_eq_some_iff.mp H
    obtain ⟨t428,A140,H⟩ := H
    replace H : (laws_FnLocks.j0 k t414 t415 t420 t421 (!t428)) = some r := H
    have A14 := Aside0.mk A140
    clear A140
    have H' := Aside0.mk H
    clear H
    obtain ⟨Ao15,co15,eo15⟩ := Kd.R_slice HO423.out
    subst eo15
    obtain ⟨Ao16,co16,eo16⟩ := Kd.R_slice HO427.out
    subst eo16
    go_wp2_with (first|(go_at_call 43;(with_reducible refine (laws_likeCells.calls k _ _ t420 _ _ t424 t428 _ ?side1 ?side2 ?side3 ?side4 A14.out).mono ?_);(case side1 => repeat (first|exact (Kd.R_reads' HO423.out).2.2|(with_reducible refine Kd.C_alloc ?_ _)|(with_reducible refine Kd.C_drewN ?_ _)|(with_reducible refine Kd.C_drew ?_)));(case side2 => exact (Kd.R_reads' HO423.out).2.1);(case side3 => repeat (first|exact (Kd.R_reads' HO427.out).2.2|(with_reducible refine Kd.C_alloc ?_ _)|(with_reducible refine Kd.C_drewN ?_ _)|(with_reducible refine Kd.C_drew ?_)));(case side4 => exact (Kd.R_reads' HO427.out).2.1);rintro e w' ⟨rfl,⟨nd,rfl⟩⟩))
    go_meet
    case rel => exact ⟨_,(!t428),(by first|rfl|(simp;done)|(simp [*];done)),H',⟨by first|omega|exact Nat.le_refl _⟩,⟨by (with_reducible repeat (first|apply Kd.Q_alloc|apply Kd.Q_drewN|apply Kd.Q_drew));exact Kd.Q_mono HO417.out (fun _ hk => hk.1.2)⟩,⟨by (with_reducible repeat (first|apply Kd.R_alloc|apply Kd.R_drewN|apply Kd.R_drew));exact HO419.out⟩,⟨by (with_reducible repeat (first|apply Kd.R_alloc|apply Kd.R_drewN|apply Kd.R_drew));exact Kd.R_mono HO423.out (fun _ hk => hk.1.2)⟩,⟨by repeat (first|(with_reducible first|exact HB.out|apply below_alloc|apply pw_below_drewN|apply below_drew1)|exact HB.out)⟩⟩
  case rest =>
   clear HC7
   try clear c1
   try clear c2
   try clear p2
   try clear c3
   try clear c4
   try clear c10
   try clear c13
   try clear c13b0
   try clear c13b1
   try clear c13b2
   obtain ⟨kq,x41_6,rfl,HA,HJ6,HO_3,HO_4,HO_5,HB⟩ := hcut
   cases kq with
   | zero => exact absurd HA.out (by simp [laws_FnLocks.j0])
   | succ kj6 =>
    have H := HA.out
    clear HA
    simp only [laws_FnLocks.j0] at H
    by_cases c17 : x41_6 = true
    ·subst c17
     have H1 : (some false) = some r := by rw [if_pos rfl] at H;exact H
     clear H
     have H := H1
     clear H1
     obtain rfl := Option.some.inj H
     go_wp2
     go_ret
     exact ⟨by first|rfl|(simp [errW_none,errW_some] <;> rfl)|(simp [*,errW_none,errW_some] <;> rfl),by repeat (first|(with_reducible first|exact HB.out|apply below_alloc|apply pw_below_drewN|apply below_drew1)|exact HB.out)⟩
    ·replace c17 := Bool.eq_false_iff.mpr c17
     subst c17
     have H1 : (if t421 = true then ((impl_Lock.f kj6 t420 t415).bind fun bt430 => (laws_FnLocks.l0 kj6 t414 t415 t420 bt430.2 0)) else ((laws_likeCells.f kj6 t420 t414).bind fun t429 => (if t429 = true then (some true) else (some ((t420.length : Int) == 0))))) = some r := by rw [if_neg (show ¬ (false = true) by decide)] at H;exact H
     clear H
     have H := H1
     clear H1
     by_cases c18 : t421 = true
     ·subst c18
      have H1 : ((impl_Lock.f kj6 t420 t415).bind fun bt430 => (laws_FnLocks.l0 kj6 t414 t415 t420 bt430.2 0)) = some r := by rw [if_pos rfl] at H;exact H
      clear H
      have H := H1
      clear H1
      replace H := Option.bind_eq_some_iff.mp H
      obtain ⟨⟨t430,t431⟩,A190,H⟩ := H
      replace H : (laws_FnLocks.l0 kj6 t414 t415 t420 t431 0) = some r := H
      have A19 := Aside0.mk A190
      clear A190
      have H' := Aside0.mk H
      clear H
      obtain ⟨Ao20,co20,eo20⟩ := Kd.R_slice HO_5.out
      subst eo20
      go_wp2_with (first|((with_reducible refine gcal_ (f := 39) rfl ?_);refine goesL_ (some 55) rfl rfl Try.func39 (by kernel_rfl) rfl #[.slice Ao20 t420.length co20,.slice Ao10 t415.length co10] rfl (by (try simp only [List.map_toArray,List.map_cons,List.map_nil]);first|done|rfl|(simp only [List.length_drop,List.length_take];rfl)) ?_;(with_reducible refine (impl_Lock.calls kj6 _ _ t420 _ _ t415 t430 t431 _ ?side1 ?side2 ?side3 ?side4 A19.out).mono ?_);(case side1 => repeat (first|exact (Kd.R_reads' HO_5.out).2.2|(with_reducible refine Kd.C_alloc ?_ _)|(with_reducible refine Kd.C_drewN ?_ _)|(with_reducible refine Kd.C_drew ?_)));(case side2 => exact (Kd.R_reads' HO_5.out).2.1);(case side3 => repeat (first|exact (Kd.R_reads' HO_4.out).2.2|(with_reducible refine Kd.C_alloc ?_ _)|(with_reducible refine Kd.C_drewN ?_ _)|(with_reducible refine Kd.C_drew ?_)));(case side4 => exact (Kd.R_reads' HO_4.out).2.1);rintro e w21 ⟨v432,rfl,ho0,hb⟩;refine ⟨_,rfl,?_⟩;have n0_ := Aside0.mk (Kd.Q_elder' (by (with_reducible repeat (first|apply Kd.Q_alloc|apply Kd.Q_drewN|apply Kd.Q_drew));exact HO_3.out) (Kd.R_base ho0) hb);have n1_ := Aside0.mk (Kd.R_below (by (with_reducible repeat (first|apply Kd.R_alloc|apply Kd.R_drewN|apply Kd.R_drew));exact HO_4.out) hb);have n2_ := Aside0.mk (Kd.R_elder' (by (with_reducible repeat (first|apply Kd.R_alloc|apply Kd.R_drewN|apply Kd.R_drew));exact HO_5.out) (Kd.R_base ho0) hb);have n3_ := Aside0.mk (Kd.R_lower (Kd.R_new' (Kd.R_new' ho0 (Kd.Q_lt (by (with_reducible repeat (first|apply Kd.Q_alloc|apply Kd.Q_drewN|apply Kd.Q_drew));exact HO_3.out))) (Kd.R_lt (by (with_reducible repeat (first|apply Kd.R_alloc|apply Kd.R_drewN|apply Kd.R_drew));exact HO_5.out))) (below_size (by repeat (first|(with_reducible first|exact HB.out|apply below_alloc|apply pw_below_drewN|apply below_drew1)|exact HB.out))));have n4_ := Aside0.mk (below_step (by repeat (first|(with_reducible first|exact HB.out|apply below_alloc|apply pw_below_drewN|apply below_drew1)|exact HB.out)) hb);clear HO_3;clear HO_4;clear HO_5;clear HB;have HO_3 := n0_;have HO_4 := n1_;have HO_5 := n2_;have HO433 := n3_;have HB := n4_;clear n0_ n1_ n2_ n3_ n4_;(try clear hb);(try clear hb2);(try clear hk);(try clear hi);(try clear ho0)))
      go_loopg [11] kj6 (fun kq v11 w' => ∃ (x11_2 : Int),v11 = .int .i64 x11_2 ∧ Aside0 (laws_FnLocks.l0 kq t414 t415 t420 t431 x11_2 = some r) ∧ Aside0 (kq ≤ kj6) ∧ Aside0 (Kd.Q k30 30 w' w.heap.size (fun k_ => some k_ ≠ ((.slice Ao20 t420.length co20) : Value).ownBlock) (.slice Ao9 t414.length co9) t414) ∧ Aside0 (Kd.R k59 59 w' w.heap.size (fun _ => True) (.slice Ao10 t415.length co10) t415) ∧ Aside0 (Kd.R k30 30 w' w.heap.size (fun k_ => some k_ ≠ ((.slice Ao9 t414.length co9) : Value).ownBlock) (.slice Ao20 t420.length co20) t420) ∧ Aside0 (Below w.heap.size w w'))
      case atStart => exact ⟨(0),(by first|rfl|(simp;done)|(simp [*];done)),H',⟨Nat.le_refl _⟩,⟨by (with_reducible repeat (first|apply Kd.Q_alloc|apply Kd.Q_drewN|apply Kd.Q_drew));exact Kd.Q_mono HO_3.out (fun _ hk => hk.1)⟩,⟨by (with_reducible repeat (first|apply Kd.R_alloc|apply Kd.R_drewN|apply Kd.R_drew));exact HO_4.out⟩,⟨by (with_reducible repeat (first|apply Kd.R_alloc|apply Kd.R_drewN|apply Kd.R_drew));exact Kd.R_mono HO_5.out (fun _ hk => hk.1)⟩,⟨by repeat (first|(with_reducible first|exact HB.out|apply below_alloc|apply pw_below_drewN|apply below_drew1)|exact HB.out)⟩⟩
      case round =>
       clear H'
       try clear c1
       try clear c2
       try clear p2
       try clear c3
       try clear c4
       try clear c10
       try clear c13
       try clear c13b0
       try clear c13b1
       try clear c13b2
       try clear c17
       try clear c18
       try clear p2
       obtain ⟨x11_2,rfl,HA,HK2,HO_3,HO_4,HO_5,HB⟩ := hrel
       cases gk with
       | zero => exact absurd HA.out (by simp [laws_FnLocks.l0])
       | succ k2 =>
        have H := HA.out
        clear HA
        simp only [laws_FnLocks.l0] at H
        by_cases c22 : x11_2 < (t415.length : Int)
        ·rw [if_pos c22] at H
         have c22b0 : decide (x11_2 < (t415.length : Int)) = true := decide_eq_true c22
         clear c22
         by_cases c23 : 0 ≤ x11_2
         ·rw [if_pos c23] at H
          have c23b0 : decide (0 ≤ x11_2) = true := decide_eq_true c23
          clear c23
          replace H := Option.bind_eq_some_iff.mp H
          obtain ⟨⟨t435,t436,t437⟩,A240,H⟩ := H
          replace H : (if t437 = true then (some false) else (laws_FnLocks.l0 k2 t414 t415 t420 t431 (wrap64 (x11_2 + 1)))) = some r := H
          have A24 := Aside0.mk A240
          clear A240
          by_cases c25 : t437 = true
          ·subst c25
           have H1 : (some false) = some r := by rw [if_pos rfl] at H;exact H
           clear H
           have H := H1
           clear H1
           obtain rfl := Option.some.inj H
           have p434 : 0 ≤ (x11_2 : Int) := of_decide_eq_true (by first|(with_reducible assumption)|assumption)
           have q434 : x11_2 < (t415.length : Int) := of_decide_eq_true (by first|(with_reducible assumption)|assumption)
           obtain ⟨ad434,e434,hx434_0,hx434_1,hx434_2,hx434_3,hx434_4⟩ := at_T59 (Kd.R_reads' HO_4.out).2.2 x11_2 p434 q434
           cases e434
           replace p434 := eq_true p434
           replace q434 := eq_true q434
           go_wp2_with (first|((with_reducible refine gcal_ (f := 20) rfl ?_);refine goesL_ (some 71) rfl rfl Try.func20 (by kernel_rfl) rfl #[.slice Ao20 t420.length co20,.int .i64 ((rd_T59 t415 x11_2).f1)] rfl (by (try simp only [List.map_toArray,List.map_cons,List.map_nil]);first|done|rfl|(simp only [List.length_drop,List.length_take];rfl)) ?_;(with_reducible refine (impl_Look.calls _ _ t420 ((rd_T59 t415 x11_2).f1) t435 t436 true _ ?side1 ?side2 A24.out).mono ?_);(case side1 => repeat (first|exact (Kd.R_reads' HO_5.out).2.2|(with_reducible refine Kd.C_alloc ?_ _)|(with_reducible refine Kd.C_drewN ?_ _)|(with_reducible refine Kd.C_drew ?_)));(case side2 => exact (Kd.R_reads' HO_5.out).2.1);rintro e w26 ⟨rfl,hb⟩;refine ⟨_,rfl,?_⟩;have n0_ := Aside0.mk (Kd.Q_below (by (with_reducible repeat (first|apply Kd.Q_alloc|apply Kd.Q_drewN|apply Kd.Q_drew));exact HO_3.out) hb);have n1_ := Aside0.mk (Kd.R_below (by (with_reducible repeat (first|apply Kd.R_alloc|apply Kd.R_drewN|apply Kd.R_drew));exact HO_4.out) hb);have n2_ := Aside0.mk (Kd.R_below (by (with_reducible repeat (first|apply Kd.R_alloc|apply Kd.R_drewN|apply Kd.R_drew));exact HO_5.out) hb);have n3_ := Aside0.mk (below_step (by repeat (first|(with_reducible first|exact HB.out|apply below_alloc|apply pw_below_drewN|apply below_drew1)|exact HB.out)) hb);clear HO_3;clear HO_4;clear HO_5;clear HB;have HO_3 := n0_;have HO_4 := n1_;have HO_5 := n2_;have HB := n3_;clear n0_ n1_ n2_ n3_;(try clear hb);(try clear hb2);(try clear hk);(try clear hi))|((with_reducible refine gate_dst (N := 12) rfl ?_);(try (refine gate_guard (by rfl) ?_;dsimp only));refine box_event ?hg (N := 12) ?hd (cs := #[.int .i64 0,.int .i64 0]) (t := 30) ?hr ?_;(case hd => rfl);(case hg => rfl);(case hr => first|(go_simp;done)|(go_simp;rfl));intro gb438 hg w27 hbox hb;have n0_ := Aside0.mk (Kd.Q_below (Kd.Q_elderB (by (with_reducible repeat (first|apply Kd.Q_alloc|apply Kd.Q_drewN|apply Kd.Q_drew));exact HO_3.out) gb438 (Nat.le_of_eq hg.symm)) hb);have n1_ := Aside0.mk (Kd.R_below (by (with_reducible repeat (first|apply Kd.R_alloc|apply Kd.R_drewN|apply Kd.R_drew));exact HO_4.out) hb);have n2_ := Aside0.mk (Kd.R_below (Kd.R_elderB (by (with_reducible repeat (first|apply Kd.R_alloc|apply Kd.R_drewN|apply Kd.R_drew));exact HO_5.out) gb438 (Nat.le_of_eq hg.symm)) hb);have n3_ := Aside0.mk (below_step (by repeat (first|(with_reducible first|exact HB.out|apply below_alloc|apply pw_below_drewN|apply below_drew1)|exact HB.out)) hb);have n4_ := Aside0.mk (hbox);have n5_ := Aside0.mk ((by rw [hg];exact (below_size (by repeat (first|(with_reducible first|exact HB.out|apply below_alloc|apply pw_below_drewN|apply below_drew1)|exact HB.out))) : w.heap.size ≤ gb438));have n6_ := Aside0.mk ((by rw [hg];exact (below_size (by repeat (first|(with_reducible first|exact HB.out|apply below_alloc|apply pw_below_drewN|apply below_drew1)|exact HB.out))) : w.heap.size ≤ gb438));clear HO_3;clear HO_4;clear HO_5;clear HB;have HO_3 := n0_;have HO_4 := n1_;have HO_5 := n2_;have HB := n3_;have BK438 := n4_;have GW438 := n5_;have GE438 := n6_;clear n0_ n1_ n2_ n3_ n4_ n5_ n6_;clear hb hbox hg;have hcz28_0 : w27.cell? ⟨gb438,0,none⟩ = some (.int .i64 0) := (blk_cell BK438.out 0).trans rfl;have hcz28_1 : w27.cell? ⟨gb438,1,none⟩ = some (.int .i64 0) := (blk_cell BK438.out 1).trans rfl;have hfz28_0 := blk_frozen BK438.out 0;have hfz28_1 := blk_frozen BK438.out 1))
           go_ret
           exact ⟨by first|rfl|(simp [errW_none,errW_some] <;> rfl)|(simp [*,errW_none,errW_some] <;> rfl),by repeat (first|(with_reducible first|exact HB.out|apply below_alloc|apply pw_below_drewN|apply below_drew1|refine below_set ?_ GE438.out)|exact HB.out)⟩
          ·replace c25 := Bool.eq_false_iff.mpr c25
           subst c25
           have H1 : (laws_FnLocks.l0 k2 t414 t415 t420 t431 (wrap64 (x11_2 + 1))) = some r := by rw [if_neg (show ¬ (false = true) by decide)] at H;exact H
           clear H
           have H := H1
           clear H1
           have H' := Aside0.mk H
           clear H
           have p434 : 0 ≤ (x11_2 : Int) := of_decide_eq_true (by first|(with_reducible assumption)|assumption)
           have q434 : x11_2 < (t415.length : Int) := of_decide_eq_true (by first|(with_reducible assumption)|assumption)
           obtain ⟨ad434,e434,hx434_0,hx434_1,hx434_2,hx434_3,hx434_4⟩ := at_T59 (Kd.R_reads' HO_4.out).2.2 x11_2 p434 q434
           cases e434
           replace p434 := eq_true p434
           replace q434 := eq_true q434
           go_wp2_with (first|((with_reducible refine gcal_ (f := 20) rfl ?_);refine goesL_ (some 71) rfl rfl Try.func20 (by kernel_rfl) rfl #[.slice Ao20 t420.length co20,.int .i64 ((rd_T59 t415 x11_2).f1)] rfl (by (try simp only [List.map_toArray,List.map_cons,List.map_nil]);first|done|rfl|(simp only [List.length_drop,List.length_take];rfl)) ?_;(with_reducible refine (impl_Look.calls _ _ t420 ((rd_T59 t415 x11_2).f1) t435 t436 false _ ?side1 ?side2 A24.out).mono ?_);(case side1 => repeat (first|exact (Kd.R_reads' HO_5.out).2.2|(with_reducible refine Kd.C_alloc ?_ _)|(with_reducible refine Kd.C_drewN ?_ _)|(with_reducible refine Kd.C_drew ?_)));(case side2 => exact (Kd.R_reads' HO_5.out).2.1);rintro e w29 ⟨rfl,hb⟩;refine ⟨_,rfl,?_⟩;have n0_ := Aside0.mk (Kd.Q_below (by (with_reducible repeat (first|apply Kd.Q_alloc|apply Kd.Q_drewN|apply Kd.Q_drew));exact HO_3.out) hb);have n1_ := Aside0.mk (Kd.R_below (by (with_reducible repeat (first|apply Kd.R_alloc|apply Kd.R_drewN|apply Kd.R_drew));exact HO_4.out) hb);have n2_ := Aside0.mk (Kd.R_below (by (with_reducible repeat (first|apply Kd.R_alloc|apply Kd.R_drewN|apply Kd.R_drew));exact HO_5.out) hb);have n3_ := Aside0.mk (below_step (by repeat (first|(with_reducible first|exact HB.out|apply below_alloc|apply pw_below_drewN|apply below_drew1)|exact HB.out)) hb);clear HO_3;clear HO_4;clear HO_5;clear HB;have HO_3 := n0_;have HO_4 := n1_;have HO_5 := n2_;have HB := n3_;clear n0_ n1_ n2_ n3_;(try clear hb);(try clear hb2);(try clear hk);(try clear hi))|((with_reducible refine gate_dst (N := 12) rfl ?_);(try (refine gate_guard (by rfl) ?_;dsimp only));refine box_event ?hg (N := 12) ?hd (cs := #[.int .i64 0,.int .i64 0]) (t := 30) ?hr ?_;(case hd => rfl);(case hg => rfl);(case hr => first|(go_simp;done)|(go_simp;rfl));intro gb438 hg w30 hbox hb;have n0_ := Aside0.mk (Kd.Q_below (Kd.Q_elderB (by (with_reducible repeat (first|apply Kd.Q_alloc|apply Kd.Q_drewN|apply Kd.Q_drew));exact HO_3.out) gb438 (Nat.le_of_eq hg.symm)) hb);have n1_ := Aside0.mk (Kd.R_below (by (with_reducible repeat (first|apply Kd.R_alloc|apply Kd.R_drewN|apply Kd.R_drew));exact HO_4.out) hb);have n2_ := Aside0.mk (Kd.R_below (Kd.R_elderB (by (with_reducible repeat (first|apply Kd.R_alloc|apply Kd.R_drewN|apply Kd.R_drew));exact HO_5.out) gb438 (Nat.le_of_eq hg.symm)) hb);have n3_ := Aside0.mk (below_step (by repeat (first|(with_reducible first|exact HB.out|apply below_alloc|apply pw_below_drewN|apply below_drew1)|exact HB.out)) hb);have n4_ := Aside0.mk (hbox);have n5_ := Aside0.mk ((by rw [hg];exact (below_size (by repeat (first|(with_reducible first|exact HB.out|apply below_alloc|apply pw_below_drewN|apply below_drew1)|exact HB.out))) : w.heap.size ≤ gb438));have n6_ := Aside0.mk ((by rw [hg];exact (below_size (by repeat (first|(with_reducible first|exact HB.out|apply below_alloc|apply pw_below_drewN|apply below_drew1)|exact HB.out))) : w.heap.size ≤ gb438));clear HO_3;clear HO_4;clear HO_5;clear HB;have HO_3 := n0_;have HO_4 := n1_;have HO_5 := n2_;have HB := n3_;have BK438 := n4_;have GW438 := n5_;have GE438 := n6_;clear n0_ n1_ n2_ n3_ n4_ n5_ n6_;clear hb hbox hg;have hcz31_0 : w30.cell? ⟨gb438,0,none⟩ = some (.int .i64 0) := (blk_cell BK438.out 0).trans rfl;have hcz31_1 : w30.cell? ⟨gb438,1,none⟩ = some (.int .i64 0) := (blk_cell BK438.out 1).trans rfl;have hfz31_0 := blk_frozen BK438.out 0;have hfz31_1 := blk_frozen BK438.out 1))
           go_roundg k2
           case measure => have := HJ6.out;have := HK2.out;omega
           case rel => exact ⟨(wrap64 (x11_2 + 1)),(by first|rfl|(simp;done)|(simp [*];done)),H',⟨by have := HJ6.out;have := HK2.out;omega⟩,⟨by (with_reducible repeat (first|apply Kd.Q_alloc|apply Kd.Q_drewN|apply Kd.Q_drew));exact Kd.Q_mono (Kd.Q_far (p := ⟨gb438,1,none⟩) (Kd.Q_far (p := ⟨gb438,0,none⟩) (Kd.Q_mono HO_3.out (fun k_ hk => (⟨hk,hk.2⟩ : _ ∧ k_ ≠ gb438))) (fun _ hk => hk.2) (.int .i64 t435)) (fun _ hk => hk.2) (.int .i64 t436)) (fun _ hk => hk.1.1)⟩,⟨by (with_reducible repeat (first|apply Kd.R_alloc|apply Kd.R_drewN|apply Kd.R_drew));exact Kd.R_mono (Kd.R_far (p := ⟨gb438,1,none⟩) (Kd.R_far (p := ⟨gb438,0,none⟩) (Kd.R_types HO_4.out BK438.out (by decide)) (fun _ hk => hk.2) (.int .i64 t435)) (fun _ hk => hk.2) (.int .i64 t436)) (fun _ hk => trivial)⟩,⟨by (with_reducible repeat (first|apply Kd.R_alloc|apply Kd.R_drewN|apply Kd.R_drew));exact Kd.R_mono (Kd.R_far (p := ⟨gb438,1,none⟩) (Kd.R_far (p := ⟨gb438,0,none⟩) (Kd.R_mono HO_5.out (fun k_ hk => (⟨hk,hk.2⟩ : _ ∧ k_ ≠ gb438))) (fun _ hk => hk.2) (.int .i64 t435)) (fun _ hk => hk.2) (.int .i64 t436)) (fun _ hk => hk.1.1)⟩,⟨by repeat (first|(with_reducible first|exact HB.out|apply below_alloc|apply pw_below_drewN|apply below_drew1|refine below_set ?_ GE438.out)|exact HB.out)⟩⟩
         ·rw [if_neg c23] at H
          exact absurd H (by simp)
        ·rw [if_neg c22] at H
         have c22b0 : decide (x11_2 < (t415.length : Int)) = false := decide_eq_false c22
         clear c22
         by_cases c32 : (t431 == ((t415.length : Int) == 0)) = true
         ·rw [if_pos c32] at H
          have c32b0 : (t431 == ((t415.length : Int) == 0)) = true := c32
          (try (have c32b1 : decide (t431 = ((t415.length : Int) == 0)) = true := by simpa using c32))
          (try (have c32b2 : (t431 == ((t415.length : Int) == 0)) = true := by simpa using c32))
          clear c32
          replace H := Option.bind_eq_some_iff.mp H
          obtain ⟨t439,A330,H⟩ := H
          replace H : ((laws_likeCells.f k2 t439 t414).bind fun t442 => (if t442 = true then ((impl_CellsOk.f t420).bind fun t443 => (some t443)) else (some false))) = some r := H
          have A33 := Aside0.mk A330
          clear A330
          replace H := Option.bind_eq_some_iff.mp H
          obtain ⟨t442,A340,H⟩ := H
          replace H : (if t442 = true then ((impl_CellsOk.f t420).bind fun t443 => (some t443)) else (some false)) = some r := H
          have A34 := Aside0.mk A340
          clear A340
          by_cases c35 : t442 = true
          ·subst c35
           have H1 : ((impl_CellsOk.f t420).bind fun t443 => (some t443)) = some r := by rw [if_pos rfl] at H;exact H
           clear H
           have H := H1
           clear H1
           replace H := Option.bind_eq_some_iff.mp H
           obtain ⟨t443,A360,H⟩ := H
           replace H : (some t443) = some r := H
           have A36 := Aside0.mk A360
           clear A360
           obtain rfl := Option.some.inj H
           go_wp2_with (first|(go_at_call 33;(with_reducible refine (impl_Unlock.calls k2 _ _ t420 _ _ t415 t439 _ ?side1 ?side2 ?side3 ?side4 A33.out).mono ?_);(case side1 => repeat (first|exact (Kd.R_reads' HO_5.out).2.2|(with_reducible refine Kd.C_alloc ?_ _)|(with_reducible refine Kd.C_drewN ?_ _)|(with_reducible refine Kd.C_drew ?_)));(case side2 => exact (Kd.R_reads' HO_5.out).2.1);(case side3 => repeat (first|exact (Kd.R_reads' HO_4.out).2.2|(with_reducible refine Kd.C_alloc ?_ _)|(with_reducible refine Kd.C_drewN ?_ _)|(with_reducible refine Kd.C_drew ?_)));(case side4 => exact (Kd.R_reads' HO_4.out).2.1);rintro e w37 ⟨v440,rfl,ho0,hb⟩;have n0_ := Aside0.mk (Kd.Q_elder' (by (with_reducible repeat (first|apply Kd.Q_alloc|apply Kd.Q_drewN|apply Kd.Q_drew));exact HO_3.out) (Kd.R_base ho0) hb);have n1_ := Aside0.mk (Kd.R_below (by (with_reducible repeat (first|apply Kd.R_alloc|apply Kd.R_drewN|apply Kd.R_drew));exact HO_4.out) hb);have n2_ := Aside0.mk (Kd.R_elder' (by (with_reducible repeat (first|apply Kd.R_alloc|apply Kd.R_drewN|apply Kd.R_drew));exact HO_5.out) (Kd.R_base ho0) hb);have n3_ := Aside0.mk (Kd.R_lower (Kd.R_new' (Kd.R_new' ho0 (Kd.Q_lt (by (with_reducible repeat (first|apply Kd.Q_alloc|apply Kd.Q_drewN|apply Kd.Q_drew));exact HO_3.out))) (Kd.R_lt (by (with_reducible repeat (first|apply Kd.R_alloc|apply Kd.R_drewN|apply Kd.R_drew));exact HO_5.out))) (below_size (by repeat (first|(with_reducible first|exact HB.out|apply below_alloc|apply pw_below_drewN|apply below_drew1)|exact HB.out))));have n4_ := Aside0.mk (below_step (by repeat (first|(with_reducible first|exact HB.out|apply below_alloc|apply pw_below_drewN|apply below_drew1)|exact HB.out)) hb);clear HO_3;clear HO_4;clear HO_5;clear HB;have HO_3 := n0_;have HO_4 := n1_;have HO_5 := n2_;have HO441 := n3_;have HB := n4_;clear n0_ n1_ n2_ n3_ n4_;(try clear hb);(try clear hb2);(try clear hk);(try clear hi);(try clear ho0);obtain ⟨Ao38,co38,eo38⟩ := Kd.R_slice HO441.out;subst eo38)|(go_at_call 43;(with_reducible refine (laws_likeCells.calls k2 _ _ t439 _ _ t414 true _ ?side1 ?side2 ?side3 ?side4 A34.out).mono ?_);(case side1 => repeat (first|exact (Kd.R_reads' HO441.out).2.2|(with_reducible refine Kd.C_alloc ?_ _)|(with_reducible refine Kd.C_drewN ?_ _)|(with_reducible refine Kd.C_drew ?_)));(case side2 => exact (Kd.R_reads' HO441.out).2.1);(case side3 => repeat (first|exact (Kd.Q_reads' HO_3.out).2.2|(with_reducible refine Kd.C_alloc ?_ _)|(with_reducible refine Kd.C_drewN ?_ _)|(with_reducible refine Kd.C_drew ?_)));(case side4 => exact (Kd.Q_reads' HO_3.out).2.1);rintro e w' ⟨rfl,⟨nd,rfl⟩⟩)|(go_at_call 17;(with_reducible refine (impl_CellsOk.calls _ _ t420 t443 _ ?side1 ?side2 A36.out).mono ?_);(case side1 => repeat (first|exact (Kd.R_reads' HO_5.out).2.2|(with_reducible refine Kd.C_alloc ?_ _)|(with_reducible refine Kd.C_drewN ?_ _)|(with_reducible refine Kd.C_drew ?_)));(case side2 => exact (Kd.R_reads' HO_5.out).2.1);rintro e w39 ⟨rfl,hb⟩;have n0_ := Aside0.mk (Kd.Q_below (by (with_reducible repeat (first|apply Kd.Q_alloc|apply Kd.Q_drewN|apply Kd.Q_drew));exact HO_3.out) hb);have n1_ := Aside0.mk (Kd.R_below (by (with_reducible repeat (first|apply Kd.R_alloc|apply Kd.R_drewN|apply Kd.R_drew));exact HO_4.out) hb);have n2_ := Aside0.mk (Kd.R_below (by (with_reducible repeat (first|apply Kd.R_alloc|apply Kd.R_drewN|apply Kd.R_drew));exact HO_5.out) hb);have n3_ := Aside0.mk (Kd.R_below (by (with_reducible repeat (first|apply Kd.R_alloc|apply Kd.R_drewN|apply Kd.R_drew));exact HO441.out) hb);have n4_ := Aside0.mk (below_step (by repeat (first|(with_reducible first|exact HB.out|apply below_alloc|apply pw_below_drewN|apply below_drew1)|exact HB.out)) hb);clear HO_3;clear HO_4;clear HO_5;clear HO441;clear HB;have HO_3 := n0_;have HO_4 := n1_;have HO_5 := n2_;have HO441 := n3_;have HB := n4_;clear n0_ n1_ n2_ n3_ n4_;(try clear hb);(try clear hb2);(try clear hk);(try clear hi)))
           go_ret
           exact ⟨by first|rfl|(simp [errW_none,errW_some] <;> rfl)|(simp [*,errW_none,errW_some] <;> rfl),by repeat (first|(with_reducible first|exact HB.out|apply below_alloc|apply pw_below_drewN|apply below_drew1)|exact HB.out)⟩
          ·replace c35 := Bool.eq_false_iff.mpr c35
           subst c35
           have H1 : (some false) = some r := by rw [if_neg (show ¬ (false = true) by decide)] at H;exact H
           clear H
           have H := H1
           clear H1
           obtain rfl := Option.some.inj H
           go_wp2_with (first|(go_at_call 33;(with_reducible refine (impl_Unlock.calls k2 _ _ t420 _ _ t415 t439 _ ?side1 ?side2 ?side3 ?side4 A33.out).mono ?_);(case side1 => repeat (first|exact (Kd.R_reads' HO_5.out).2.2|(with_reducible refine Kd.C_alloc ?_ _)|(with_reducible refine Kd.C_drewN ?_ _)|(with_reducible refine Kd.C_drew ?_)));(case side2 => exact (Kd.R_reads' HO_5.out).2.1);(case side3 => repeat (first|exact (Kd.R_reads' HO_4.out).2.2|(with_reducible refine Kd.C_alloc ?_ _)|(with_reducible refine Kd.C_drewN ?_ _)|(with_reducible refine Kd.C_drew ?_)));(case side4 => exact (Kd.R_reads' HO_4.out).2.1);rintro e w40 ⟨v440,rfl,ho0,hb⟩;have n0_ := Aside0.mk (Kd.Q_elder' (by (with_reducible repeat (first|apply Kd.Q_alloc|apply Kd.Q_drewN|apply Kd.Q_drew));exact HO_3.out) (Kd.R_base ho0) hb);have n1_ := Aside0.mk (Kd.R_below (by (with_reducible repeat (first|apply Kd.R_alloc|apply Kd.R_drewN|apply Kd.R_drew));exact HO_4.out) hb);have n2_ := Aside0.mk (Kd.R_elder' (by (with_reducible repeat (first|apply Kd.R_alloc|apply Kd.R_drewN|apply Kd.R_drew));exact HO_5.out) (Kd.R_base ho0) hb);have n3_ := Aside0.mk (Kd.R_lower (Kd.R_new' (Kd.R_new' ho0 (Kd.Q_lt (by (with_reducible repeat (first|apply Kd.Q_alloc|apply Kd.Q_drewN|apply Kd.Q_drew));exact HO_3.out))) (Kd.R_lt (by (with_reducible repeat (first|apply Kd.R_alloc|apply Kd.R_drewN|apply Kd.R_drew));exact HO_5.out))) (below_size (by repeat (first|(with_reducible first|exact HB.out|apply below_alloc|apply pw_below_drewN|apply below_drew1)|exact HB.out))));have n4_ := Aside0.mk (below_step (by repeat (first|(with_reducible first|exact HB.out|apply below_alloc|apply pw_below_drewN|apply below_drew1)|exact HB.out)) hb);clear HO_3;clear HO_4;clear HO_5;clear HB;have HO_3 := n0_;have HO_4 := n1_;have HO_5 := n2_;have HO441 := n3_;have HB := n4_;clear n0_ n1_ n2_ n3_ n4_;(try clear hb);(try clear hb2);(try clear hk);(try clear hi);(try clear ho0);obtain ⟨Ao41,co41,eo41⟩ := Kd.R_slice HO441.out;subst eo41)|(go_at_call 43;(with_reducible refine (laws_likeCells.calls k2 _ _ t439 _ _ t414 false _ ?side1 ?side2 ?side3 ?side4 A34.out).mono ?_);(case side1 => repeat (first|exact (Kd.R_reads' HO441.out).2.2|(with_reducible refine Kd.C_alloc ?_ _)|(with_reducible refine Kd.C_drewN ?_ _)|(with_reducible refine Kd.C_drew ?_)));(case side2 => exact (Kd.R_reads' HO441.out).2.1);(case side3 => repeat (first|exact (Kd.Q_reads' HO_3.out).2.2|(with_reducible refine Kd.C_alloc ?_ _)|(with_reducible refine Kd.C_drewN ?_ _)|(with_reducible refine Kd.C_drew ?_)));(case side4 => exact (Kd.Q_reads' HO_3.out).2.1);rintro e w' ⟨rfl,⟨nd,rfl⟩⟩))
           go_ret
           exact ⟨by first|rfl|(simp [errW_none,errW_some] <;> rfl)|(simp [*,errW_none,errW_some] <;> rfl),by repeat (first|(with_reducible first|exact HB.out|apply below_alloc|apply pw_below_drewN|apply below_drew1)|exact HB.out)⟩
         ·rw [if_neg c32] at H
          have c32b0 : (t431 == ((t415.length : Int) == 0)) = false := by simpa using c32
          (try (have c32b1 : decide (t431 = ((t415.length : Int) == 0)) = false := by simpa using c32))
          (try (have c32b2 : (t431 == ((t415.length : Int) == 0)) = false := by simpa using c32))
          (try (have c32b3 : ¬ (t431 = ((t415.length : Int) == 0)) := by simpa using c32))
          clear c32
          obtain rfl := Option.some.inj H
          go_wp2
          go_ret
          exact ⟨by first|rfl|(simp [errW_none,errW_some] <;> rfl)|(simp [*,errW_none,errW_some] <;> rfl),by repeat (first|(with_reducible first|exact HB.out|apply below_alloc|apply pw_below_drewN|apply below_drew1)|exact HB.out)⟩
     ·replace c18 := Bool.eq_false_iff.mpr c18
      subst c18
      have H1 : ((laws_likeCells.f kj6 t420 t414).bind fun t429 => (if t429 = true then (some true) else (some ((t420.length : Int) == 0)))) = some r := by rw [if_neg (show ¬ (false = true) by decide)] at H;exact H
      clear H
      have H := H1
      clear H1
      replace H := Option.bind_eq_some_iff.mp H
      obtain ⟨t429,A420,H⟩ := H
      replace H : (if t429 = true then (some true) else (some ((t420.length : Int) == 0))) = some r := H
      have A42 := Aside0.mk A420
      clear A420
      by_cases c43 : t429 = true
      ·subst c43
       have H1 : (some true) = some r := by rw [if_pos rfl] at H;exact H
       clear H
       have H := H1
       clear H1
       obtain rfl := Option.some.inj H
       obtain ⟨Ao44,co44,eo44⟩ := Kd.R_slice HO_5.out
       subst eo44
       go_wp2_with (first|((with_reducible refine gcal_ (f := 43) rfl ?_);refine goesL_ (some 46) rfl rfl Try.func43 (by kernel_rfl) rfl #[.slice Ao44 t420.length co44,.slice Ao9 t414.length co9] rfl (by (try simp only [List.map_toArray,List.map_cons,List.map_nil]);first|done|rfl|(simp only [List.length_drop,List.length_take];rfl)) ?_;(with_reducible refine (laws_likeCells.calls kj6 _ _ t420 _ _ t414 true _ ?side1 ?side2 ?side3 ?side4 A42.out).mono ?_);(case side1 => repeat (first|exact (Kd.R_reads' HO_5.out).2.2|(with_reducible refine Kd.C_alloc ?_ _)|(with_reducible refine Kd.C_drewN ?_ _)|(with_reducible refine Kd.C_drew ?_)));(case side2 => exact (Kd.R_reads' HO_5.out).2.1);(case side3 => repeat (first|exact (Kd.Q_reads' HO_3.out).2.2|(with_reducible refine Kd.C_alloc ?_ _)|(with_reducible refine Kd.C_drewN ?_ _)|(with_reducible refine Kd.C_drew ?_)));(case side4 => exact (Kd.Q_reads' HO_3.out).2.1);rintro e w' ⟨rfl,⟨nd,rfl⟩⟩;refine ⟨_,rfl,?_⟩))
       go_ret
       exact ⟨by first|rfl|(simp [errW_none,errW_some] <;> rfl)|(simp [*,errW_none,errW_some] <;> rfl),by repeat (first|(with_reducible first|exact HB.out|apply below_alloc|apply pw_below_drewN|apply below_drew1)|exact HB.out)⟩
      ·replace c43 := Bool.eq_false_iff.mpr c43
       subst c43
       have H1 : (some ((t420.length : Int) == 0)) = some r := by rw [if_neg (show ¬ (false = true) by decide)] at H;exact H
       clear H
       have H := H1
       clear H1
       obtain rfl := Option.some.inj H
       obtain ⟨Ao45,co45,eo45⟩ := Kd.R_slice HO_5.out
       subst eo45
       go_wp2_with (first|((with_reducible refine gcal_ (f := 43) rfl ?_);refine goesL_ (some 46) rfl rfl Try.func43 (by kernel_rfl) rfl #[.slice Ao45 t420.length co45,.slice Ao9 t414.length co9] rfl (by (try simp only [List.map_toArray,List.map_cons,List.map_nil]);first|done|rfl|(simp only [List.length_drop,List.length_take];rfl)) ?_;(with_reducible refine (laws_likeCells.calls kj6 _ _ t420 _ _ t414 false _ ?side1 ?side2 ?side3 ?side4 A42.out).mono ?_);(case side1 => repeat (first|exact (Kd.R_reads' HO_5.out).2.2|(with_reducible refine Kd.C_alloc ?_ _)|(with_reducible refine Kd.C_drewN ?_ _)|(with_reducible refine Kd.C_drew ?_)));(case side2 => exact (Kd.R_reads' HO_5.out).2.1);(case side3 => repeat (first|exact (Kd.Q_reads' HO_3.out).2.2|(with_reducible refine Kd.C_alloc ?_ _)|(with_reducible refine Kd.C_drewN ?_ _)|(with_reducible refine Kd.C_drew ?_)));(case side4 => exact (Kd.Q_reads' HO_3.out).2.1);rintro e w' ⟨rfl,⟨nd,rfl⟩⟩;refine ⟨_,rfl,?_⟩))
       go_ret
       exact ⟨by first|rfl|(simp [errW_none,errW_some] <;> rfl)|(simp [*,errW_none,errW_some] <;> rfl),by repeat (first|(with_reducible first|exact HB.out|apply below_alloc|apply pw_below_drewN|apply below_drew1)|exact HB.out)⟩

end Go.Proofs.Ytgdfbjmjgegicaa.XLs
