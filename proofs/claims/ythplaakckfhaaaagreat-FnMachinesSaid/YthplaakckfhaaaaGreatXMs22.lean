/- Proved: a call of each Go function here comes to what its Lean function tells. -/
import Derived.Test.YthplaakckfhaaaaGreatXMs0
import Derived.Test.YthplaakckfhaaaaGreatXMs5
import Derived.Test.YthplaakckfhaaaaGreatXMs6
import Derived.Test.YthplaakckfhaaaaGreatXMs7
import Derived.Test.YthplaakckfhaaaaGreatXMs8
import Derived.Test.YthplaakckfhaaaaGreatXMs10
import Derived.Test.YthplaakckfhaaaaGreatXMs11
import Derived.Test.YthplaakckfhaaaaGreatXMs13
import Derived.Test.YthplaakckfhaaaaGreatXMs14
import Derived.Test.YthplaakckfhaaaaGreatXMs17
import Derived.Test.YthplaakckfhaaaaGreatXMs18
import Derived.Test.YthplaakckfhaaaaGreatXMs19
namespace Go.Proofs.YthplaakckfhaaaaGreat.XMs
open Go.RowKit Go.Proofs.YthplaakckfhaaaaGreat.Aid Go.Proofs.YthplaakckfhaaaaGreatW.PrintWords Go.Proofs.YthplaakckfhaaaaGreatW.PrintLast Go.Proofs.YthplaakckfhaaaaGreatW.PrintMore
set_option linter.unusedVariables false
set_option maxHeartbeats 8000000
set_option maxRecDepth 100000
set_option linter.unusedSimpArgs false

/-! ### impl_Machine_cells: function 62 -/
def impl_Machine_cells.l0 : Nat → List (S83) → Int → Int → Option (List (S87))
  | 0, _, _, _ => none
  | k + 1, x0, x1, x12 => if x12 < (x0.length : Int) then (if 0 ≤ x12 then (if (rd_T83 x0 x12).f0 = x1 then (some ((rd_T83 x0 x12).f1)) else (impl_Machine_cells.l0 k x0 x1 (wrap64 (x12 + 1)))) else (none)) else (some [])
def impl_Machine_cells.f (k : Nat) (l1 : List (S83)) (a1 : Int) : Option (List (S87)) := impl_Machine_cells.l0 k l1 a1 0
theorem impl_Machine_cells.calls (k : Nat) (g : Nat) (A1 : Option Addr) (c1 : Nat) (l1 : List (S83)) (a1 : Int) (r : List (S87)) (w : World) (hg1 : w.cell? ⟨g, 1, none⟩ = some (.slice A1 l1.length c1)) (hr1 : Kd.C k83 w A1 l1.length l1) (hc1 : l1.length ≤ c1) (h : impl_Machine_cells.f k l1 a1 = some r) :
    Calls Tryz.prog 62 #[.pointer (some ⟨g, 0, none⟩), .int .i64 a1] w fun e w' => ∃ (A : Option Addr) (c : Nat), e = .returned (.slice A r.length c) ∧ r.length ≤ c ∧ Kd.C k87 w' A r.length r ∧ Below w.heap.size w w' := by
 have hu := Tryz.underlying83
 have HR := ak hr1
 clear hr1
 have H' : Aside0 (impl_Machine_cells.l0 k l1 a1 0 = some r) := ⟨h⟩
 clear h
 go_enter Tryz.func62,Tryz.ntmps62
 go_wp2
 go_loopg [12] k (fun kq v12 w' => ∃ (x12_1 : Int),v12 = .int .i64 x12_1 ∧ Aside0 (impl_Machine_cells.l0 kq l1 a1 x12_1 = some r) ∧ Aside0 (kq ≤ k) ∧ Aside0 (Below w.heap.size w w'))
 case atStart => exact ⟨0,(by first|rfl|(simp;done)),H',⟨Nat.le_refl _⟩,⟨Below.refl _ _⟩⟩
 case round =>
  clear H' hg1
  obtain ⟨x12_1,rfl,HA,HK1,HB⟩ := hrel
  cases gk with
    | zero => exact absurd HA.out (by simp [impl_Machine_cells.l0])
    | succ k1 =>
   have H := HA.out
   clear HA
   simp only [impl_Machine_cells.l0] at H
   by_cases c3 : x12_1 < (l1.length : Int)
   ·rw [if_pos c3] at H
    have c3b0 : decide (x12_1 < (l1.length : Int)) = true := decide_eq_true c3
    by_cases c4 : 0 ≤ x12_1
    ·rw [if_pos c4] at H
     obtain ⟨ad1,Ae,ce,e1,hx1_0,hx1_1,hl1,hi1⟩ := at_T83 (Kd.C_below HR.out HB.out) x12_1 c4 c3
     cases e1
     have p1 := eq_true c4
     have q1 := eq_true c3
     have HI := ak hi1
     have HL := ak hl1
     clear c3 c4 hi1 hl1
     by_cases c5 : (rd_T83 l1 x12_1).f0 = a1
     ·rw [if_pos c5] at H
      have c5b0 : ((rd_T83 l1 x12_1).f0 == a1) = true := beq_iff_eq.mpr c5
      have c5b1 : decide ((rd_T83 l1 x12_1).f0 = a1) = true := decide_eq_true c5
      obtain rfl := Option.some.inj H
      clear H
      have HI2 : Aside0 (∀ W : World,Below w.heap.size w W → Below wr.heap.size wr W → Kd.C k87 W Ae ((rd_T83 l1 x12_1).f1).length ((rd_T83 l1 x12_1).f1)) := ⟨fun W _ hB => Kd.C_below HI.out hB⟩
      have HW := ak (Below.refl wr.heap.size wr)
      have HB0 := HB
      clear c5
      go_wp2_with (first|((with_reducible refine gate_dst (N := 6) rfl ?_);refine bx_ 6 #[.int .i64 0,.slice none 0 0] 83 ?_;intro gb hg w14 hbox hb;have n0_ := ak (below_step HB.out hb);have GE : Aside0 (w.heap.size ≤ gb) := ⟨by rw [hg];exact HB.out.size⟩;clear HB;have HB := n0_;clear n0_;have n1_ := ak (below_step HW.out hb);have GW : Aside0 (wr.heap.size ≤ gb) := ⟨Nat.le_of_eq hg.symm⟩;clear HW;have HW := n1_;clear n1_;have hcz_0 : w14.cell? ⟨gb,0,none⟩ = some (.int .i64 0) := (blk_cell hbox 0).trans rfl;have hcz_1 : w14.cell? ⟨gb,1,none⟩ = some (.slice none 0 0) := (blk_cell hbox 1).trans rfl;have hfz_0 := blk_frozen hbox 0;have hfz_1 := blk_frozen hbox 1;clear hbox hb hg))
      go_ret
      exact ⟨Ae,ce,rs_,HL.out,HI2.out _ (by repeat (first|(with_reducible first|exact HB.out|apply below_alloc|apply pw_below_drewN|apply below_drew1|refine below_set ?_ GE.out)|exact HB.out)) (by repeat (first|(with_reducible first|exact HW.out|apply below_alloc|apply pw_below_drewN|apply below_drew1|refine below_set ?_ GW.out)|exact HW.out)),(by repeat (first|(with_reducible first|exact HB.out|apply below_alloc|apply pw_below_drewN|apply below_drew1|refine below_set ?_ GE.out)|exact HB.out))⟩
     ·rw [if_neg c5] at H
      have c5b0 : ((rd_T83 l1 x12_1).f0 == a1) = false := beq_eq_false_iff_ne.mpr c5
      have c5b1 : decide ((rd_T83 l1 x12_1).f0 = a1) = false := decide_eq_false c5
      have H' := ak H
      clear H c5
      go_wp2_with (first|((with_reducible refine gate_dst (N := 6) rfl ?_);refine bx_ 6 #[.int .i64 0,.slice none 0 0] 83 ?_;intro gb hg w14 hbox hb;have n0_ := ak (below_step HB.out hb);have GE : Aside0 (w.heap.size ≤ gb) := ⟨by rw [hg];exact HB.out.size⟩;clear HB;have HB := n0_;clear n0_;have hcz_0 : w14.cell? ⟨gb,0,none⟩ = some (.int .i64 0) := (blk_cell hbox 0).trans rfl;have hcz_1 : w14.cell? ⟨gb,1,none⟩ = some (.slice none 0 0) := (blk_cell hbox 1).trans rfl;have hfz_0 := blk_frozen hbox 0;have hfz_1 := blk_frozen hbox 1;clear hbox hb hg))
      go_roundg k1
      case measure => have := HK1.out;omega
      case rel => exact ⟨(wrap64 (x12_1 + 1)),rs_,H',⟨by have := HK1.out;omega⟩,⟨(by repeat (first|(with_reducible first|exact HB.out|apply below_alloc|apply pw_below_drewN|apply below_drew1|refine below_set ?_ GE.out)|exact HB.out))⟩⟩
    ·rw [if_neg c4] at H
     exact absurd H (by simp)
   ·rw [if_neg c3] at H
    have c3b0 : decide (x12_1 < (l1.length : Int)) = false := decide_eq_false c3
    clear c3
    obtain rfl := Option.some.inj H
    go_wp2
    go_ret
    have hN : Kd.C k87 wr none 0 [] := (Kd.R_reads' (Kd.R_nil k87 87 wr 0 (fun _ => True))).2.2
    first|exact ⟨none,0,rfl,Nat.le_refl _,hN,HB.out⟩|exact ⟨none,⟨0,rfl⟩,hN,HB.out⟩

/-! ### impl_Copied: function 17 -/
theorem hold_17 {p : Prop} (h : Aside0 p) : p := h.out
def impl_Copied.f (k : Nat) (a0_0 : Bool) (l0_1 : List (S83)) (l0_2 : List (S50)) (l0_3 : List Int) (a1 : Int) : Option ((List (S87)) × Bool) := (impl_isMachineOk.f k a0_0 l0_1 l0_2 l0_3).bind fun t => if t = true then ((impl_Machine_cells.f k l0_1 a1).bind fun c => (impl_Cell_63.f c).bind fun d => some (d, decide ((c.length : Int) > 0))) else some ([], false)
theorem impl_Copied.calls (k : Nat) (a0_0 : Bool) (A0_1 : Option Addr) (c0_1 : Nat) (l0_1 : List (S83)) (A0_2 : Option Addr) (c0_2 : Nat) (l0_2 : List (S50)) (A0_3 : Option Addr) (c0_3 : Nat) (l0_3 : List Int) (a1 : Int) (r1 : List (S87)) (r2 : Bool) (w : World) (hr0_1 : Kd.C k83 w A0_1 l0_1.length l0_1) (hc0_1 : l0_1.length ≤ c0_1) (hr0_2 : Kd.C k50 w A0_2 l0_2.length l0_2) (hc0_2 : l0_2.length ≤ c0_2) (hr0_3 : Kd.C (Kd.int .i64) w A0_3 l0_3.length l0_3) (hc0_3 : l0_3.length ≤ c0_3) (h : impl_Copied.f k a0_0 l0_1 l0_2 l0_3 a1 = some (r1, r2)) :
    Calls Tryz.prog 17 #[.agg #[.bool a0_0, .slice A0_1 l0_1.length c0_1, .slice A0_2 l0_2.length c0_2, .slice A0_3 l0_3.length c0_3], .int .i64 a1] w fun e w' => ∃ v0_ : Value, e = .returned (.tuple #[v0_, .bool r2]) ∧ Kd.R k87 87 w' w.heap.size (fun _ => True) v0_ r1 ∧ Below w.heap.size w w' := by
 have hu := Tryz.underlying31
 have HR1 := ak hr0_1
 have HC1 := ak hc0_1
 have HR2 := ak hr0_2
 have HC2 := ak hc0_2
 have HR3 := ak hr0_3
 have HC3 := ak hc0_3
 clear hr0_1 hc0_1 hr0_2 hc0_2 hr0_3 hc0_3
 obtain ⟨t,E0,h1⟩ := Option.bind_eq_some_iff.1 h
 clear h
 have H1 := ak h1
 have F0 := ak E0
 clear h1 E0
 go_enter Tryz.func17,Tryz.ntmps17
 go_wp2_with ((with_reducible refine gate_dst (N := 2) rfl ?_);refine bx_ 2 #[.bool a0_0,.slice A0_1 l0_1.length c0_1,.slice A0_2 l0_2.length c0_2,.slice A0_3 l0_3.length c0_3] 31 ?_;intro gb hg w1 hbox hb;clear hg;refine hold_17 ?_)
 refine ⟨?_⟩
 have D1 := ak hb
 have BX := ak hbox
 have hcz_0 : w1.cell? ⟨gb,0,none⟩ = some (.bool a0_0) := (blk_cell hbox 0).trans rfl
 have hfz_0 := blk_frozen hbox 0
 have hcz_1 : w1.cell? ⟨gb,1,none⟩ = some (.slice A0_1 l0_1.length c0_1) := (blk_cell hbox 1).trans rfl
 have hfz_1 := blk_frozen hbox 1
 have hcz_2 : w1.cell? ⟨gb,2,none⟩ = some (.slice A0_2 l0_2.length c0_2) := (blk_cell hbox 2).trans rfl
 have hfz_2 := blk_frozen hbox 2
 have hcz_3 : w1.cell? ⟨gb,3,none⟩ = some (.slice A0_3 l0_3.length c0_3) := (blk_cell hbox 3).trans rfl
 have hfz_3 := blk_frozen hbox 3
 clear hbox hb
 go_wp2_with ((with_reducible refine gcal_ (f := 36) rfl ?_);refine gz_ (some 8) Tryz.func36 #[.agg #[.bool a0_0,.slice A0_1 l0_1.length c0_1,.slice A0_2 l0_2.length c0_2,.slice A0_3 l0_3.length c0_3]] ?_;refine (impl_isMachineOk.calls k a0_0 A0_1 c0_1 l0_1 A0_2 c0_2 l0_2 A0_3 c0_3 l0_3 t _ (Kd.C_below HR1.out D1.out) HC1.out (Kd.C_below HR2.out D1.out) HC2.out (Kd.C_below HR3.out D1.out) HC3.out F0.out).mono ?_;rintro e w2 ⟨rfl,B⟩;refine ⟨_,rfl,?_⟩;refine hold_17 ?_)
 refine ⟨?_⟩
 have D2 := ak (below_step D1.out B)
 have BX2 := ak (blk_below BX.out B)
 clear B
 clear hcz_0 hcz_1 hcz_2 hcz_3 hfz_0 hfz_1 hfz_2 hfz_3
 cases t with
  | false =>
  have h1 := H1.out
  rw [if_neg (by simp)] at h1
  simp only [Option.some.injEq,Prod.mk.injEq] at h1
  obtain ⟨rfl,rfl⟩ := h1
  clear H1
  go_wp2
  go_ret2
  exact ⟨.slice none 0 0,rfl,Kd.R_nil _ _ _ _ _,D2.out⟩
  | true =>
 have h1 := H1.out
 rw [if_pos rfl] at h1
 clear H1
 obtain ⟨cs,E1,h2⟩ := Option.bind_eq_some_iff.1 h1
 clear h1
 obtain ⟨ds,E2,h3⟩ := Option.bind_eq_some_iff.1 h2
 clear h2
 simp only [Option.some.injEq,Prod.mk.injEq] at h3
 obtain ⟨rfl,rfl⟩ := h3
 have F1 := ak E1
 have F2 := ak E2
 clear E1 E2
 go_wp2_with ((with_reducible refine gcal_ (f := 62) rfl ?_);refine gz_ (some 11) Tryz.func62 #[.pointer (some ⟨gb,0,none⟩),.int .i64 a1] ?_;refine (impl_Machine_cells.calls k gb A0_1 c0_1 l0_1 a1 cs _ ((blk_cell BX2.out 1).trans rfl) (Kd.C_below HR1.out D2.out) HC1.out F1.out).mono ?_;rintro e w3 ⟨Ac,cc,rfl,hl,hC,B⟩;refine ⟨_,rfl,?_⟩;refine hold_17 ?_)
 refine ⟨?_⟩
 have D3 := ak (below_step D2.out B)
 have HL := ak hl
 have HQ := ak hC
 clear B hl hC
 go_wp2_with ((with_reducible refine gcal_ (f := 63) rfl ?_);refine gz_ (some 13) Tryz.func63 #[.slice Ac cs.length cc] ?_;refine (impl_Cell_63.calls Ac cc cs ds _ HQ.out HL.out F2.out).mono ?_;rintro e w4 ⟨v,rfl,S,B⟩;refine ⟨_,rfl,?_⟩;refine hold_17 ?_)
 refine ⟨?_⟩
 have D4 := ak (below_step D3.out B)
 have T := ak S
 clear S B
 go_wp2
 go_ret2
 exact ⟨v,by first|rfl|(simp;done),Kd.R_lower T.out D3.out.size,D4.out⟩

/-! ### impl_MachineOk: function 19 -/
def impl_MachineOk.f (k : Nat) (a0_0 : Bool) (l0_1 : List (S83)) (l0_2 : List (S50)) (l0_3 : List Int) : Option (Bool) := (impl_isMachineOk.f k a0_0 l0_1 l0_2 l0_3).bind fun t349 => (some t349)

theorem impl_MachineOk.calls (k : Nat) (a0_0 : Bool) (A0_1 : Option Addr) (c0_1 : Nat) (l0_1 : List (S83)) (A0_2 : Option Addr) (c0_2 : Nat) (l0_2 : List (S50)) (A0_3 : Option Addr) (c0_3 : Nat) (l0_3 : List Int) (r : Bool) (w : World) (hr0_1 : Kd.C k83 w A0_1 l0_1.length l0_1) (hc0_1 : l0_1.length ≤ c0_1) (hr0_2 : Kd.C k50 w A0_2 l0_2.length l0_2) (hc0_2 : l0_2.length ≤ c0_2) (hr0_3 : Kd.C (Kd.int .i64) w A0_3 l0_3.length l0_3) (hc0_3 : l0_3.length ≤ c0_3) (h : impl_MachineOk.f k a0_0 l0_1 l0_2 l0_3 = some r) :
    Calls Tryz.prog 19 #[.agg #[.bool a0_0, .slice A0_1 l0_1.length c0_1, .slice A0_2 l0_2.length c0_2, .slice A0_3 l0_3.length c0_3]] w fun e w' => e = .returned (.bool r) ∧ Below w.heap.size w w' := by
 have hu31 := Tryz.underlying31
 have HR0_1 := ak hr0_1
 have HC0_1 := ak hc0_1
 clear hr0_1 hc0_1
 have HR0_2 := ak hr0_2
 have HC0_2 := ak hc0_2
 clear hr0_2 hc0_2
 have HR0_3 := ak hr0_3
 have HC0_3 := ak hc0_3
 clear hr0_3 hc0_3
 have HB := ak (Below.refl w.heap.size w)
 have H : ((impl_isMachineOk.f k a0_0 l0_1 l0_2 l0_3).bind fun t349 => (some t349)) = some r := h
 clear h
 replace H := bs_ H
 obtain ⟨t349,A2,H⟩ := H
 obtain rfl := Option.some.inj H
 go_enter Tryz.func19,Tryz.ntmps19
 go_wp2_with (first|((with_reducible refine gate_dst (N := 1) rfl ?_);refine bx_ 1 #[.bool a0_0,.slice A0_1 l0_1.length c0_1,.slice A0_2 l0_2.length c0_2,.slice A0_3 l0_3.length c0_3] 31 ?_;intro gb348 hg w3 hbox hb;replace HB := nb_ hg hbox hb;obtain ⟨BK348,GW348,GE348,HB⟩ := HB;clear hb hbox hg;obtain ⟨⟨hcz4_0,hcz4_1,hcz4_2,hcz4_3⟩,hfz4_0,hfz4_1,hfz4_2,hfz4_3⟩ := cl4_ BK348.out)|((with_reducible refine gcal_ (f := 36) rfl ?_);refine gl_ (some 4) Tryz.func36 #[.agg #[.bool a0_0,.slice A0_1 l0_1.length c0_1,.slice A0_2 l0_2.length c0_2,.slice A0_3 l0_3.length c0_3]] ?_;(with_reducible refine (impl_isMachineOk.calls k a0_0 _ _ l0_1 _ _ l0_2 _ _ l0_3 t349 _ ?side1 ?side2 ?side3 ?side4 ?side5 ?side6 A2.out).mono ?_);(case side1 => exact cb_ HR0_1);(case side2 => exact HC0_1.out);(case side3 => exact cb_ HR0_2);(case side4 => exact HC0_2.out);(case side5 => exact cb_ HR0_3);(case side6 => exact HC0_3.out);rintro e w5 ⟨rfl,hb⟩;refine ⟨_,rfl,?_⟩;replace BK348 := ak (blk_below (kb_ BK348) hb);replace HB := ak (below_step b_ hb);(try clear hb);(try clear hb2);(try clear hk);(try clear hi)))
 go_ret
 exact ⟨rf_,b_⟩

open Go.Proofs.YthplaakckfhaaaaGreat.Gen
/-! ### drawAppend_any: function 20 -/
theorem hold_20 {p : Prop} (h : Aside0 p) : p := h.out
theorem drawAppend_any {w : World} {A : Option Addr} {c : Nat} {l : List Int} (hrec : ∀ (f0 f1 f2 : Int) (ys : List S119), ys.length ≤ 7 → ∃ k b, spec_RecordOk.f k f0 f1 f2 ys = some b) (hl : l.length ≤ maxLen) (hr : Kd.C (Kd.int .u8) w A l.length l) (hc : l.length ≤ c) :
    Calls Tryz.prog 20 #[.slice A l.length c] w fun e w' => DA w e w' := by
 have hu := Tryz.underlying31
 have hu2 := Tryz.underlying50
 have HL := ak hl
 have HR := ak hrec
 have HC := ak hr
 have HCc := ak hc
 clear hl hrec hr hc
 go_enter Tryz.func20,Tryz.ntmps20
 go_wp2_with ((with_reducible refine gate_dst (N := 2) rfl ?_);refine bx_ 2 #[.bool false,.slice none 0 0,.slice none 0 0,.slice none 0 0] 31 ?_;intro gr hg w0 hbox hb;have hge := ak (Nat.le_of_eq hg.symm);clear hg;refine hold_20 ?_)
 refine ⟨?_⟩
 have BR := ak hbox
 have GR := hge
 have B0 := ak hb
 have HC := ak (Kd.C_below HC.out hb)
 clear hbox hb hge
 go_wp2_with ((with_reducible refine gate_dst (N := 3) rfl ?_);refine bx_ 3 #[.int .i64 0,.int .i64 0,.int .i64 0,.slice none 0 0] 50 ?_;intro ge hg w1 hbox hb;have hge := ak (Nat.le_of_eq hg.symm);clear hg;refine hold_20 ?_)
 refine ⟨?_⟩
 have NRE : Aside0 (gr ≠ ge) := ⟨Nat.ne_of_lt (Nat.lt_of_lt_of_le (blk_lt BR.out) hge.out)⟩
 have BE := ak hbox
 have GE : Aside0 (w.heap.size ≤ ge) := ⟨Nat.le_trans B0.out.size hge.out⟩
 have B0 := ak (below_step B0.out hb)
 have BR := ak (blk_below BR.out hb)
 have HC := ak (Kd.C_below HC.out hb)
 clear hbox hb hge
 go_wp2_with ((with_reducible refine gcal_ (f := 50) rfl ?_);refine gz_ (some 7) Tryz.func50 #[.slice A l.length c] ?_;refine (new_calls HL.out HC.out HCc.out).mono ?_;rintro e w2 ⟨g,rfl,hgg,hD,hb⟩;refine ⟨_,rfl,?_⟩;refine hold_20 ?_)
 refine ⟨?_⟩
 have D := ak hD
 have NRG : Aside0 (gr ≠ g) := ⟨Nat.ne_of_lt (Nat.lt_of_lt_of_le (blk_lt BR.out) hgg)⟩
 have NEG : Aside0 (ge ≠ g) := ⟨Nat.ne_of_lt (Nat.lt_of_lt_of_le (blk_lt BE.out) hgg)⟩
 have BL := ak (blk_lt BR.out)
 have BLE := ak (blk_lt BE.out)
 have BR := ak (blk_below BR.out hb)
 have BE := ak (blk_below BE.out hb)
 have HC := ak (Kd.C_below HC.out hb)
 have HB2 := ak hb
 clear hD hgg hb
 go_wp2_with ((with_reducible refine gcal_ (f := 51) rfl ?_);refine gz_ (some 9) Tryz.func51 #[.pointer (some ⟨g,0,none⟩)] ?_;refine (draw6_any HR.out HL.out D.out.self).mono ?_;rintro e w11 ⟨b,A1,c1,l1,A2,c2,l2,A3,c3,l3,rfl,hm,K⟩;refine ⟨_,rfl,?_⟩;refine hold_20 ?_)
 refine ⟨?_⟩
 have BE := ak (KeepBut.blk K.2.2.1 BE.out NEG.out (by simp))
 have BR := ak (KeepBut.blk K.2.2.1 BR.out NRG.out (by simp))
 have D := ak (D.out.trans K)
 clear K
 have M := ak (Rp.bound (Rp.of hm))
 have MH : Aside0 (w11.heap.size ≤ w11.heap.size) := ⟨Nat.le_refl _⟩
 have MG : Aside0 (∀ k,((w2.heap.size ≤ k ∧ k ≠ g) ∧ k < w11.heap.size) → k ≠ g) := ⟨fun _ h => h.1.2⟩
 have MNBR : Aside0 (∀ k,((w2.heap.size ≤ k ∧ k ≠ g) ∧ k < w11.heap.size) → ¬ k = gr) := ⟨fun k h e => absurd h.1.1 (Nat.not_le.2 (e ▸ Nat.lt_of_lt_of_le BL.out HB2.out.size))⟩
 have MNBE : Aside0 (∀ k,((w2.heap.size ≤ k ∧ k ≠ g) ∧ k < w11.heap.size) → ¬ k = ge) := ⟨fun k h e => absurd h.1.1 (Nat.not_le.2 (e ▸ Nat.lt_of_lt_of_le BLE.out HB2.out.size))⟩
 clear hm HC HCc
 go_wp2_with ((with_reducible refine gate_dst (N := 5) rfl ?_);refine bx_ 5 #[.bool false,.slice none 0 0,.slice none 0 0,.slice none 0 0] 31 ?_;intro gm hg w12 hbox hb;have hge := ak (Nat.le_of_eq hg.symm);clear hg;refine hold_20 ?_)
 refine ⟨?_⟩
 have NEEBM : Aside0 (ge ≠ gm) := ⟨Nat.ne_of_lt (Nat.lt_of_lt_of_le (blk_lt BE.out) hge.out)⟩
 have NRBM : Aside0 (gr ≠ gm) := ⟨Nat.ne_of_lt (Nat.lt_of_lt_of_le (blk_lt BR.out) hge.out)⟩
 have MNBM : Aside0 (∀ k,((w2.heap.size ≤ k ∧ k ≠ g) ∧ k < w11.heap.size) → ¬ k = gm) := ⟨fun k h e => absurd h.2 (Nat.not_lt.2 (e ▸ Nat.le_trans MH.out hge.out))⟩
 have BM := ak (show Bk _ w12 gm _ from ⟨Nat.le_trans D.out.size hge.out,hbox⟩)
 have BE := ak (blk_below BE.out hb)
 have BR := ak (blk_below BR.out hb)
 have M := ak (M.out.below hb)
 have MH := ak (Nat.le_trans MH.out hb.size)
 have D := ak (D.out.below hb)
 clear hbox hb hge
 obtain ⟨⟨hc13_0,hc13_1,hc13_2,hc13_3⟩,hf13_0,hf13_1,hf13_2,hf13_3⟩ := cl4_ BM.out.2
 go_upto_region 3 with (fail)
 have KS := ak (kept4_ (W := w12) (b := gm) (.bool b) (.slice A1 l1.length c1) (.slice A2 l2.length c2) (.slice A3 l3.length c3))
 have D := ak (D.out.far4 BM.out.1 (.bool b) (.slice A1 l1.length c1) (.slice A2 l2.length c2) (.slice A3 l3.length c3))
 have BE := ak (blk_kept BE.out KS.out NEEBM.out)
 have BR := ak (blk_kept BR.out KS.out NRBM.out)
 have M := ak (M.out.kept KS.out MNBM.out)
 have MH := ak (Nat.le_trans MH.out KS.out.1)
 have BM := ak (BM.out.put4 (.bool b) (.slice A1 l1.length c1) (.slice A2 l2.length c2) (.slice A3 l3.length c3))
 clear KS
 generalize ((((w12.setCell ⟨gm,0,none⟩ (.bool b)).setCell ⟨gm,1,none⟩ (.slice A1 l1.length c1)).setCell ⟨gm,2,none⟩ (.slice A2 l2.length c2)).setCell ⟨gm,3,none⟩ (.slice A3 l3.length c3)) = w14 at D BE BR M MH BM ⊢
 go_upto_region 3 with (fail)
 have hb : Below w14.heap.size w14 w14.drew := below_drew1 (Below.refl _ _)
 have BE := ak (blk_below BE.out hb)
 have BR := ak (blk_below BR.out hb)
 have M := ak (M.out.below hb)
 have MH := ak (Nat.le_trans MH.out hb.size)
 have BM := ak (BM.out.below hb)
 have D := ak (D.out.below hb)
 clear hb
 refine start_ (n := 5) (S := fun w' => w'.cell? ⟨gm,0,none⟩ = some (.bool b) ∧ w'.cell? ⟨gm,1,none⟩ = some (.slice A1 l1.length c1) ∧ w'.cell? ⟨gm,2,none⟩ = some (.slice A2 l2.length c2) ∧ w'.cell? ⟨gm,3,none⟩ = some (.slice A3 l3.length c3)) (ds := []) #[false,false,false,false,false] (by kernel_rfl) rfl rfl ⟨(blk_cell BM.out.2 0).trans rfl,(blk_cell BM.out.2 1).trans rfl,(blk_cell BM.out.2 2).trans rfl,(blk_cell BM.out.2 3).trans rfl⟩ (fun hHeld => ?_)
 generalize w14.drew = w15 at D BE BR M MH BM hHeld ⊢
 refine take_ (i := 0) (N := some 10) (v := ?_) (a' := ?_) #[true,false,false,false,false] rfl rfl (by kernel_rfl) (fun _ _ _ h => h) (Or.inl ⟨by rfl,?_⟩) hHeld ?_ ?_
 rotate_left
 ·rintro w' ⟨s0,s1,s2,s3⟩
  go_simp
  with_reducible rfl
 rotate_left
 ·simp only [Act.put,q1,q2,q3,i64_w,i32_w]
  rfl
 refine pure_ (i := 1) (N := some 11) (v := ?_) (a' := ?_) #[true,true,false,false,false] rfl rfl (by kernel_rfl) (fun _ _ _ h => h) (Or.inl ⟨by rfl,?_⟩) ?_ ?_
 rotate_left
 ·intro w'
  go_simp
  with_reducible rfl
 rotate_left
 ·simp only [Act.put,q1,q2,q3,i64_w,i32_w]
  rfl
 refine one_ (i := 2) (N := some 12) #[true,true,true,false,false] rfl rfl (by kernel_rfl) (by decide) (fun K hK => ?_)
 refine goes_ Tryz.func64 (by kernel_rfl) rfl #[.pointer (some ⟨g,0,none⟩)] (by rfl) rfl rfl (by (try simp only [List.map_toArray,List.map_cons,List.map_nil]);first|done|rfl) ?_
 refine (draw2_any HL.out D.out.self).mono ?_
 rintro e w16 ⟨f0,f1,f2,vn,ys,rfl,TN,hys,K⟩
 refine ⟨_,rfl,?_⟩
 have TN := ak TN
 have HX := ak hys
 clear hys
 have BE := ak (KeepBut.blk K.2.2.1 BE.out NEG.out (by simp))
 have BR := ak (KeepBut.blk K.2.2.1 BR.out NRG.out (by simp))
 have M := ak (M.out.dr K MG.out)
 have MH := ak (Nat.le_trans MH.out K.2.2.1.1)
 have BM := ak (BM.out.dr D.out K)
 have D := ak (D.out.trans K)
 clear K
 obtain ⟨An,cn,en⟩ := Kd.R_slice TN.out
 subst en
 have HN := ak (Kd.R_reads' TN.out).2.1
 have TF := ak (Kd.N_F (Kd.R_N (Kd.R_types (Kd.R_types TN.out BR.out (by decide)) BE.out (by decide))))
 clear TN
 refine hK.out _ _ ⟨(blk_cell BM.out.2 0).trans rfl,(blk_cell BM.out.2 1).trans rfl,(blk_cell BM.out.2 2).trans rfl,(blk_cell BM.out.2 3).trans rfl⟩ (fun hHeld => ?_)
 clear hK K
 refine nr_ (some 12) _ ?_
 refine one_ (i := 3) (N := none) #[true,true,true,true,false] rfl rfl (by kernel_rfl) (by decide) (fun K hK => ?_)
 obtain ⟨⟨hc17_0,hc17_1,hc17_2,hc17_3⟩,hf17_0,hf17_1,hf17_2,hf17_3⟩ := cl4_ BR.out
 refine skip_ (w1 := ((((w16.setCell ⟨gr,0,none⟩ (.bool b)).setCell ⟨gr,1,none⟩ (.slice A1 l1.length c1)).setCell ⟨gr,2,none⟩ (.slice A2 l2.length c2)).setCell ⟨gr,3,none⟩ (.slice A3 l3.length c3))) (by rfl) rfl ?_ ?_
 ·first|(go_simp;done)|(go_simp;rfl)|(go_simp;simp)
 have KS := kept4_ (W := w16) (b := gr) (.bool b) (.slice A1 l1.length c1) (.slice A2 l2.length c2) (.slice A3 l3.length c3)
 have n0_ := ak (BM.out.kept KS NRBM.out.symm)
 have n1_ := ak (blk_kept BE.out KS NRE.out.symm)
 have n2_ := ak (put4_ BR.out (.bool b) (.slice A1 l1.length c1) (.slice A2 l2.length c2) (.slice A3 l3.length c3))
 have n3_ := ak (M.out.kept KS MNBR.out)
 have n4_ := ak (Kd.F_kept TF.out KS (fun k h e => h.1.2 e))
 have n5_ : Aside0 (Below w.heap.size w ((((w16.setCell ⟨gr,0,none⟩ (.bool b)).setCell ⟨gr,1,none⟩ (.slice A1 l1.length c1)).setCell ⟨gr,2,none⟩ (.slice A2 l2.length c2)).setCell ⟨gr,3,none⟩ (.slice A3 l3.length c3))) := ⟨below_set (below_set (below_set (below_set (below_step B0.out D.out.2.1) GR.out) GR.out) GR.out) GR.out⟩
 clear KS BM BE BR M TF D MH
 generalize ((((w16.setCell ⟨gr,0,none⟩ (.bool b)).setCell ⟨gr,1,none⟩ (.slice A1 l1.length c1)).setCell ⟨gr,2,none⟩ (.slice A2 l2.length c2)).setCell ⟨gr,3,none⟩ (.slice A3 l3.length c3)) = wz at n0_ n1_ n2_ n3_ n4_ n5_ ⊢
 have BM := n0_
 have BE := n1_
 have BR := n2_
 have M := n3_
 have TF := n4_
 have HB := n5_
 clear n0_ n1_ n2_ n3_ n4_ n5_ hc17_0 hf17_0 hc17_1 hf17_1 hc17_2 hf17_2 hc17_3 hf17_3
 refine hK.out _ _ ⟨(blk_cell BM.out.2 0).trans rfl,(blk_cell BM.out.2 1).trans rfl,(blk_cell BM.out.2 2).trans rfl,(blk_cell BM.out.2 3).trans rfl⟩ (fun hHeld => ?_)
 clear hK K
 refine one_ (i := 4) (N := none) #[true,true,true,true,true] rfl rfl (by kernel_rfl) (by decide) (fun K hK => ?_)
 obtain ⟨⟨hc18_0,hc18_1,hc18_2,hc18_3⟩,hf18_0,hf18_1,hf18_2,hf18_3⟩ := cl4_ BE.out
 refine skip_ (w1 := ((((wz.setCell ⟨ge,0,none⟩ (.int .i64 f0)).setCell ⟨ge,1,none⟩ (.int .i64 f1)).setCell ⟨ge,2,none⟩ (.int .i64 f2)).setCell ⟨ge,3,none⟩ (.slice An ys.length cn))) (by rfl) rfl ?_ ?_
 ·first|(go_simp;done)|(go_simp;rfl)|(go_simp;simp)
 have KS := kept4_ (W := wz) (b := ge) (.int .i64 f0) (.int .i64 f1) (.int .i64 f2) (.slice An ys.length cn)
 have BMk := BM.out.kept KS NEEBM.out.symm
 refine hK.out _ _ ⟨(blk_cell BMk.2 0).trans rfl,(blk_cell BMk.2 1).trans rfl,(blk_cell BMk.2 2).trans rfl,(blk_cell BMk.2 3).trans rfl⟩ (fun hHeld => ?_)
 clear hK K
 refine done_ (by kernel_rfl) ?_
 clear hHeld BMk hc18_0 hf18_0 hc18_1 hf18_1 hc18_2 hf18_2 hc18_3 hf18_3
 have BRk := blk_kept BR.out KS NRE.out
 go_wp2
 refine bodyPost_ret (results_cc rfl _ _ gr 31 #[.bool b,.slice A1 l1.length c1,.slice A2 l2.length c2,.slice A3 l3.length c3] (0,0) _ ge 50 #[.int .i64 f0,.int .i64 f1,.int .i64 f2,.slice An ys.length cn] (0,0) _ rfl BRk Tryz.underlying31 rfl (by kernel_rfl) rfl (put4_ BE.out _ _ _ _) Tryz.underlying50 rfl (by kernel_rfl)) rfl ?_
 exact ⟨b,A1,c1,l1,A2,c2,l2,A3,c3,l3,f0,f1,f2,An,cn,ys,by first|rfl|(simp;done),(Rp.kept M.out KS MNBE.out).mono (fun _ _ => trivial),⟨Kd.F_now (Kd.F_kept TF.out KS (fun k h e => h.2 e)),HN.out,HX.out⟩,below_set (below_set (below_set (below_set HB.out GE.out) GE.out) GE.out) GE.out⟩


/-! ### impl_Machine_append: function 66 -/
theorem hold_66 {p : Prop} (h : Aside0 p) : p := h.out
def impl_Machine_append.f (p2 : List (S50)) (n0 n1 n2 : Int) (nl : List (S119)) : Option (List (S50)) := (impl_cloneRecord.f n0 n1 n2 nl).bind fun c => if p2.length < 2932031007402 then some (p2 ++ [(⟨c.1, c.2.1, c.2.2.1, c.2.2.2⟩ : S50)]) else none
theorem impl_Machine_append.calls (P0_ : Nat → Prop) (gb : Nat) (b : Bool) (s1 s3 : Value) (A2 : Option Addr) (c2 : Nat) (p2 : List (S50)) (n0 n1 n2 : Int) (Ar : Option Addr) (cr : Nat) (nl : List (S119)) (r : List (S50)) (w0 w : World) (hB : Below w0.heap.size w0 w) (hg0 : w0.heap.size ≤ gb) (hx : w.heap[gb]? = some (.cells #[.bool b, s1, .slice A2 p2.length c2, s3] 31 (0, 0))) (hP : ¬ P0_ gb) (ho : Kd.S k50 50 w w0.heap.size P0_ (.slice A2 p2.length c2) p2) (hr : Kd.C k119 w Ar nl.length nl) (hc : nl.length ≤ cr) (h : impl_Machine_append.f p2 n0 n1 n2 nl = some r) :
    Calls Tryz.prog 66 #[.pointer (some ⟨gb, 0, none⟩), .agg #[.int .i64 n0, .int .i64 n1, .int .i64 n2, .slice Ar nl.length cr]] w fun e w' => e = .returned (.tuple #[]) ∧ ∃ (A4 : Option Addr) (c4 : Nat), w'.heap[gb]? = some (.cells #[.bool b, s1, .slice A4 r.length c4, s3] 31 (0, 0)) ∧ Kd.S k50 50 w' w0.heap.size (fun k_ => (P0_ k_ ∨ w.heap.size ≤ k_) ∧ k_ ≠ gb) (.slice A4 r.length c4) r ∧ Below w0.heap.size w0 w' ∧ Kept w w' (fun k_ => P0_ k_ ∨ k_ = gb) := by
 have hu := Tryz.underlying31
 have hu2 := Tryz.underlying50
 obtain ⟨⟨e0,e1,e2,e3⟩,E0,h1⟩ := Option.bind_eq_some_iff.1 h
 clear h
 have FC := ak E0
 clear E0
 by_cases lm : p2.length < 2932031007402
 rotate_left
 ·rw [if_neg lm] at h1;cases h1
 rw [if_pos lm] at h1
 have LM := ak lm
 clear lm
 obtain rfl := Option.some.inj h1
 clear h1
 have BG := ak hx
 have T2 := ak (Kd.S_mono (ok' := fun k_ => P0_ k_ ∧ k_ < w.heap.size) (Kd.S_bound ho) (fun _ h_ => ⟨h_.1,h_.2.2.1⟩))
 have HB := ak hB
 have HP := ak hP
 have HG := ak hg0
 have HRR := ak hr
 have HRC := ak hc
 have HK := ak (Kept.refl w (fun k_ => P0_ k_ ∨ k_ = gb))
 clear hx ho hB hP hg0 hr hc
 go_enter Tryz.func66,Tryz.ntmps66
 go_wp2_with ((with_reducible refine gate_dst (N := 3) rfl ?_);refine bx_ 3 #[.int .i64 n0,.int .i64 n1,.int .i64 n2,.slice Ar nl.length cr] 50 ?_;intro ge hg w1 hbox hb;have hge := ak (Nat.le_of_eq hg.symm);clear hg;refine hold_66 ?_)
 refine ⟨?_⟩
 have BE := ak hbox
 have BG := ak (blk_below BG.out hb)
 have T2 := ak (Kd.S_below T2.out hb)
 have HRR := ak (Kd.C_below HRR.out hb)
 have HB := ak (below_step HB.out hb)
 have HK := ak (HK.out.below hb)
 have HGE := hge
 clear hbox hb hge
 go_upto_region 1 with (fail)
 have B : Below w1.heap.size w1 w1.drew := below_drew1 (Below.refl _ _)
 have BE := ak (blk_below BE.out B)
 have BG := ak (blk_below BG.out B)
 have T2 := ak (Kd.S_below T2.out B)
 have HRR := ak (Kd.C_below HRR.out B)
 have HB := ak (below_step HB.out B)
 have HK := ak (HK.out.below B)
 clear B
 refine start_ (n := 12) (S := fun w' => w'.cell? ⟨gb,0,none⟩ = some (.bool b) ∧ w'.cell? ⟨gb,1,none⟩ = some (s1) ∧ w'.cell? ⟨gb,2,none⟩ = some (.slice A2 p2.length c2) ∧ w'.cell? ⟨gb,3,none⟩ = some (s3) ∧ w'.cell? ⟨ge,0,none⟩ = some (.int .i64 n0) ∧ w'.cell? ⟨ge,1,none⟩ = some (.int .i64 n1) ∧ w'.cell? ⟨ge,2,none⟩ = some (.int .i64 n2) ∧ w'.cell? ⟨ge,3,none⟩ = some (.slice Ar nl.length cr)) (ds := [11]) #[false,false,false,false,false,false,false,false,false,false,false,false] (by kernel_rfl) rfl rfl ⟨(blk_cell BG.out 0).trans rfl,(blk_cell BG.out 1).trans rfl,(blk_cell BG.out 2).trans rfl,(blk_cell BG.out 3).trans rfl,(blk_cell BE.out 0).trans rfl,(blk_cell BE.out 1).trans rfl,(blk_cell BE.out 2).trans rfl,(blk_cell BE.out 3).trans rfl⟩ (fun hHeld => ?_)
 generalize w1.drew = wc at BE BG T2 HRR HB HK hHeld ⊢
 have HZW := ak HK.out.1
 have HWB := ak HB.out.size
 refine pure_ (i := 0) (N := some 4) (v := ?_) (a' := ?_) #[true,false,false,false,false,false,false,false,false,false,false,false] rfl rfl (by kernel_rfl) (fun _ _ _ h => h) (Or.inl ⟨by rfl,?_⟩) ?_ ?_
 rotate_left
 ·intro w'
  go_simp
  with_reducible rfl
 rotate_left
 ·simp only [Act.put,q1,q2,q3,i64_w,i32_w]
  rfl
 refine pure_ (i := 1) (N := some 5) (v := ?_) (a' := ?_) #[true,true,false,false,false,false,false,false,false,false,false,false] rfl rfl (by kernel_rfl) (fun _ _ _ h => h) (Or.inl ⟨by rfl,?_⟩) ?_ ?_
 rotate_left
 ·intro w'
  go_simp
  with_reducible rfl
 rotate_left
 ·simp only [Act.put,q1,q2,q3,i64_w,i32_w]
  rfl
 refine pure_ (i := 2) (N := some 6) (v := ?_) (a' := ?_) #[true,true,true,false,false,false,false,false,false,false,false,false] rfl rfl (by kernel_rfl) (fun _ _ _ h => h) (Or.inl ⟨by rfl,?_⟩) ?_ ?_
 rotate_left
 ·intro w'
  go_simp
  with_reducible rfl
 rotate_left
 ·simp only [Act.put,q1,q2,q3,i64_w,i32_w]
  rfl
 refine pure_ (i := 3) (N := some 7) (v := ?_) (a' := ?_) #[true,true,true,true,false,false,false,false,false,false,false,false] rfl rfl (by kernel_rfl) (fun _ _ _ h => h) (Or.inl ⟨by rfl,?_⟩) ?_ ?_
 rotate_left
 ·intro w'
  go_simp
  with_reducible rfl
 rotate_left
 ·simp only [Act.put,q1,q2,q3,i64_w,i32_w]
  rfl
 refine take_ (i := 4) (N := some 8) (v := ?_) (a' := ?_) #[true,true,true,true,true,false,false,false,false,false,false,false] rfl rfl (by kernel_rfl) (fun _ _ _ h => h) (Or.inl ⟨by rfl,?_⟩) hHeld ?_ ?_
 rotate_left
 ·rintro w' ⟨s0,s1,s2,s3,s4,s5,s6,s7⟩
  go_simp
  with_reducible rfl
 rotate_left
 ·simp only [Act.put,q1,q2,q3,i64_w,i32_w]
  rfl
 refine take_ (i := 5) (N := some 9) (v := ?_) (a' := ?_) #[true,true,true,true,true,true,false,false,false,false,false,false] rfl rfl (by kernel_rfl) (fun _ _ _ h => h) (Or.inl ⟨by rfl,?_⟩) hHeld ?_ ?_
 rotate_left
 ·rintro w' ⟨s0,s1,s2,s3,s4,s5,s6,s7⟩
  go_simp
  with_reducible rfl
 rotate_left
 ·simp only [Act.put,q1,q2,q3,i64_w,i32_w]
  rfl
 refine one_ (i := 6) (N := some 10) #[true,true,true,true,true,true,true,false,false,false,false,false] rfl rfl (by kernel_rfl) (by decide) (fun K hK => ?_)
 refine goes_ Tryz.func70 (by kernel_rfl) rfl #[.agg #[.int .i64 n0,.int .i64 n1,.int .i64 n2,.slice Ar nl.length cr]] (by rfl) rfl rfl (by (try simp only [List.map_toArray,List.map_cons,List.map_nil]);first|done|rfl) ?_
 refine (impl_cloneRecord.calls n0 n1 n2 Ar cr nl e0 e1 e2 e3 _ HRR.out HRC.out FC.out).mono ?_
 rintro e wq ⟨vn,rfl,S,B⟩
 refine ⟨_,rfl,?_⟩
 have N := ak S
 have NB := ak (Kd.R_base S)
 have T2 := ak (Kd.S_below (Kd.S_bound T2.out) B)
 have BG := ak (blk_below BG.out B)
 have BE := ak (blk_below BE.out B)
 have HB := ak (below_step HB.out B)
 have HK := ak (HK.out.below B)
 have HZ2 := ak (HB.out.size)
 clear S B
 obtain ⟨An,cn,en⟩ := Kd.R_slice N.out
 subst en
 refine hK.out _ _ ⟨(blk_cell BG.out 0).trans rfl,(blk_cell BG.out 1).trans rfl,(blk_cell BG.out 2).trans rfl,(blk_cell BG.out 3).trans rfl,(blk_cell BE.out 0).trans rfl,(blk_cell BE.out 1).trans rfl,(blk_cell BE.out 2).trans rfl,(blk_cell BE.out 3).trans rfl⟩ (fun hHeld => ?_)
 clear hK K
 refine nr_ (some 10) _ ?_
 refine one_ (i := 7) (N := some 11) #[true,true,true,true,true,true,true,true,false,false,false,false] rfl rfl (by kernel_rfl) (by decide) (fun K hK => ?_)
 refine value_ (w1 := ?_) (v := ?_) (by rfl) rfl ?_ ?_
 rotate_left 2
 ·go_simp
  constructor
  ·rfl
  ·rfl
 refine hK.out _ _ ⟨(blk_cell (blk_alloc BG.out _) 0).trans rfl,(blk_cell (blk_alloc BG.out _) 1).trans rfl,(blk_cell (blk_alloc BG.out _) 2).trans rfl,(blk_cell (blk_alloc BG.out _) 3).trans rfl,(blk_cell (blk_alloc BE.out _) 0).trans rfl,(blk_cell (blk_alloc BE.out _) 1).trans rfl,(blk_cell (blk_alloc BE.out _) 2).trans rfl,(blk_cell (blk_alloc BE.out _) 3).trans rfl⟩ (fun hHeld => ?_)
 clear hK K
 refine nr_ (some 11) _ ?_
 refine one_ (i := 8) (N := some 12) #[true,true,true,true,true,true,true,true,true,false,false,false] rfl rfl (by kernel_rfl) (by decide) (fun K hK => ?_)
 refine Kd.S_append_step k50 (w0 := w0) w0.heap.size (by rfl) (.tmp 8) (.tmp 11) 29 50 (.agg #[.int .i64 0,.int .i64 0,.int .i64 0,.slice none 0 0]) 48 rfl Tryz.underlying29 info50 rfl (by decide) (by omega) (.slice A2 p2.length c2) p2 (⟨e0,e1,e2,e3⟩ : S50) [.int .i64 e0,.int .i64 e1,.int .i64 e2,.slice An e3.length cn] (fun k_ => P0_ k_ ∨ w.heap.size ≤ k_) (fun k_ => some k_ = (.slice An e3.length cn : Value).ownBlock) rfl rfl ?aP (fun k_ hk_ => (⟨.inr (Nat.le_trans HZW.out (NB.out k_ hk_.symm)),fun e_ => absurd ((Kd.S_R T2.out).1 k_ e_.symm).2.2.1 (Nat.not_lt.2 (NB.out k_ hk_.symm))⟩ : (P0_ k_ ∨ w.heap.size ≤ k_) ∧ some k_ ≠ (.slice A2 p2.length c2 : Value).ownBlock)) ?aF ?aO ?aB ?aS ?aL ?_
 (case aP => exact k50_mkM _ _ _ (⟨e0,e1,e2,e3⟩ : S50) (Kd.R_tight rfl (Kd.R_lower N.out HWB.out)))
 (case aB => exact HB.out)
 (case aF => exact (fun k_ hk => .inr (Nat.le_trans HK.out.1 hk)))
 (case aO => exact (Kd.S_mono T2.out (fun k_ hk => ⟨.inl hk.1.1,fun e_ => absurd hk.2.2.1 (Nat.not_lt.2 (NB.out k_ e_.symm))⟩)))
 (case aS => exact HZ2.out)
 (case aL => have := LM.out;omega)
 intro v4 wz ho hb hg hat
 have AW := ak (Kd.S_away T2.out (g := gb) (fun k_ hk_ e_ => HP.out (e_ ▸ hk_.1.1)))
 have HK := ak (Kept.of_grown hg HK.out (fun k_ e_ => .inl (.inl ((Kd.S_R T2.out).1 k_ e_).1.1)))
 have BE := ak (blk_grown BE.out hg (Kd.S_away T2.out (g := ge) (fun k_ hk_ e_ => absurd (e_ ▸ hk_.1.2) (Nat.not_lt.2 HGE.out))))
 have BG := ak (blk_grown BG.out hg AW.out)
 have HB := ak hb
 have T4 := ak ho
 clear ho hb hg hat T2 N NB AW
 obtain ⟨A4,c4,e4_⟩ := Kd.S_slice T4.out
 subst e4_
 refine hK.out _ _ ⟨(blk_cell BG.out 0).trans rfl,(blk_cell BG.out 1).trans rfl,(blk_cell BG.out 2).trans rfl,(blk_cell BG.out 3).trans rfl,(blk_cell BE.out 0).trans rfl,(blk_cell BE.out 1).trans rfl,(blk_cell BE.out 2).trans rfl,(blk_cell BE.out 3).trans rfl⟩ (fun hHeld => ?_)
 clear hK K
 refine nr_ (some 12) _ ?_
 refine pure_ (i := 9) (N := some 13) (v := ?_) (a' := ?_) #[true,true,true,true,true,true,true,true,true,true,false,false] rfl rfl (by kernel_rfl) (fun _ _ _ h => h) (Or.inl ⟨by rfl,?_⟩) ?_ ?_
 rotate_left
 ·intro w'
  go_simp
  with_reducible rfl
 rotate_left
 ·simp only [Act.put,q1,q2,q3,i64_w,i32_w]
  rfl
 refine pure_ (i := 10) (N := some 14) (v := ?_) (a' := ?_) #[true,true,true,true,true,true,true,true,true,true,true,false] rfl rfl (by kernel_rfl) (fun _ _ _ h => h) (Or.inl ⟨by rfl,?_⟩) ?_ ?_
 rotate_left
 ·intro w'
  go_simp
  with_reducible rfl
 rotate_left
 ·simp only [Act.put,q1,q2,q3,i64_w,i32_w]
  rfl
 refine last_ (i := 11) (N := none) #[true,true,true,true,true,true,true,true,true,true,true,true] rfl rfl (by kernel_rfl) (by decide) (fun K hK => ?_)
 have hs_ : wz.cell? ⟨gb,2,none⟩ = some (.slice A2 p2.length c2) := (blk_cell BG.out 2).trans rfl
 have hf_ := blk_frozen BG.out 2
 refine skip_ (w1 := ?_) (by rfl) rfl ?_ ?_
 rotate_left
 ·go_simp
  rfl
 refine hK.out _ _ ?_
 clear hK K
 refine done_ (by kernel_rfl) ?_
 clear hs_ hf_ hHeld
 go_wp2
 go_end0
 exact ⟨rfl,A4,c4,(by refine blk_put (cs := #[.bool b,s1,.slice A2 p2.length c2,s3]) ?_ 2 _ (by first|rfl|simp);exact BG.out),Kd.S_far (p := ⟨gb,2,none⟩) (Kd.S_mono (Kd.S_types T4.out BG.out (by decide)) (fun k_ hk_ => hk_)) (fun _ h_ => h_.2) _,below_set HB.out HG.out,(HK.out.mono (fun _ h_ => h_.elim (fun h2_ => .inl h2_) .inr)).setCell (p := ⟨gb,2,none⟩) (.inl (.inr rfl)) _⟩

/-! ### impl_Append: function 21 -/
theorem hold_21 {p : Prop} (h : Aside0 p) : p := h.out
theorem ty_21 {w : World} {k : Nat} {a b : List Nat} (h1 : ∃ q, q ∈ a ∧ ∃ cs, w.heap[k]? = some (.cells cs q (0, 0))) (h2 : ∃ q, q ∈ b ∧ ∃ cs, w.heap[k]? = some (.cells cs q (0, 0))) (hd : ∀ q, q ∈ a → ¬ q ∈ b) : False := by
 obtain ⟨q,hq,cs,h1⟩ := h1
 obtain ⟨q2,hq2,cs2,h2⟩ := h2
 rw [h1] at h2
 injection h2 with h2
 injection h2 with _ h2
 exact hd q hq (h2 ▸ hq2)
def impl_Append.f (k : Nat) (a0_0 : Bool) (l0_1 : List (S83)) (l0_2 : List (S50)) (l0_3 : List Int) (a1_0 a1_1 a1_2 : Int) (l1_3 : List (S119)) : Option (Bool × (List (S83)) × (List (S50)) × List Int × Bool) := (impl_isMachineOk.f k a0_0 l0_1 l0_2 l0_3).bind fun t => if t = true then ((impl_isRecord.f k a1_0 a1_1 a1_2 l1_3).bind fun t2 => if t2 = true then (if (l0_2.length : Int) = 200 then some (false, [], [], [], false) else (impl_cloneMachine.f k a0_0 l0_1 l0_2 l0_3).bind fun c => (impl_Machine_append.f c.2.2.1 a1_0 a1_1 a1_2 l1_3).bind fun q => some (c.1, c.2.1, q, c.2.2.2, true)) else some (false, [], [], [], false)) else some (false, [], [], [], false)
theorem impl_Append.calls (k : Nat) (a0_0 : Bool) (A0_1 : Option Addr) (c0_1 : Nat) (l0_1 : List (S83)) (A0_2 : Option Addr) (c0_2 : Nat) (l0_2 : List (S50)) (A0_3 : Option Addr) (c0_3 : Nat) (l0_3 : List Int) (a1_0 a1_1 a1_2 : Int) (A1_3 : Option Addr) (c1_3 : Nat) (l1_3 : List (S119)) (r1 : Bool) (r2 : List (S83)) (r3 : List (S50)) (r4 : List Int) (r5 : Bool) (w : World) (hr0_1 : Kd.C k83 w A0_1 l0_1.length l0_1) (hc0_1 : l0_1.length ≤ c0_1) (hr0_2 : Kd.C k50 w A0_2 l0_2.length l0_2) (hc0_2 : l0_2.length ≤ c0_2) (hr0_3 : Kd.C (Kd.int .i64) w A0_3 l0_3.length l0_3) (hc0_3 : l0_3.length ≤ c0_3) (hr1_3 : Kd.C k119 w A1_3 l1_3.length l1_3) (hc1_3 : l1_3.length ≤ c1_3) (h : impl_Append.f k a0_0 l0_1 l0_2 l0_3 a1_0 a1_1 a1_2 l1_3 = some (r1, r2, r3, r4, r5)) :
    Calls Tryz.prog 21 #[.agg #[.bool a0_0, .slice A0_1 l0_1.length c0_1, .slice A0_2 l0_2.length c0_2, .slice A0_3 l0_3.length c0_3], .agg #[.int .i64 a1_0, .int .i64 a1_1, .int .i64 a1_2, .slice A1_3 l1_3.length c1_3]] w fun e w' => ∃ v1_ v2_ v3_ : Value, e = .returned (.tuple #[.agg #[.bool r1, v1_, v2_, v3_], .bool r5]) ∧ Kd.S k83 83 w' w.heap.size (fun _ => True) v1_ r2 ∧ Kd.S k50 50 w' w.heap.size (fun _ => True) v2_ r3 ∧ Kd.R (Kd.int .i64) 2 w' w.heap.size (fun _ => True) v3_ r4 ∧ Below w.heap.size w w' := by
 have hu := Tryz.underlying31
 have hu2 := Tryz.underlying50
 have HR1 := ak hr0_1
 have HC1 := ak hc0_1
 clear hr0_1 hc0_1
 have HR2 := ak hr0_2
 have HC2 := ak hc0_2
 clear hr0_2 hc0_2
 have HR3 := ak hr0_3
 have HC3 := ak hc0_3
 clear hr0_3 hc0_3
 have HRR := ak hr1_3
 have HRC := ak hc1_3
 clear hr1_3 hc1_3
 obtain ⟨t,E0,h1⟩ := Option.bind_eq_some_iff.1 h
 clear h
 have H1 := ak h1
 have F0 := ak E0
 clear h1 E0
 go_enter Tryz.func21,Tryz.ntmps21
 go_wp2_with ((with_reducible refine gate_dst (N := 2) rfl ?_);refine bx_ 2 #[.bool a0_0,.slice A0_1 l0_1.length c0_1,.slice A0_2 l0_2.length c0_2,.slice A0_3 l0_3.length c0_3] 31 ?_;intro ga hg w1 hbox hb;have hge := ak (Nat.le_of_eq hg.symm);clear hg;refine hold_21 ?_)
 refine ⟨?_⟩
 have D1 := ak hb
 have BM := ak hbox
 clear hb hbox hge
 go_wp2_with ((with_reducible refine gate_dst (N := 3) rfl ?_);refine bx_ 3 #[.int .i64 a1_0,.int .i64 a1_1,.int .i64 a1_2,.slice A1_3 l1_3.length c1_3] 50 ?_;intro ge hg w1e hbox hb;have hge := ak (Nat.le_of_eq hg.symm);clear hg;refine hold_21 ?_)
 refine ⟨?_⟩
 have D1 := ak (below_step D1.out hb)
 have BM := ak (blk_below BM.out hb)
 have BE := ak hbox
 clear hb hbox hge
 go_wp2_with ((with_reducible refine gate_dst (N := 4) rfl ?_);refine bx_ 4 #[.bool false,.slice none 0 0,.slice none 0 0,.slice none 0 0] 31 ?_;intro gr hg w2 hbox hb;have hge := ak (Nat.le_of_eq hg.symm);clear hg;refine hold_21 ?_)
 refine ⟨?_⟩
 have GR : Aside0 (w.heap.size ≤ gr) := ⟨Nat.le_trans D1.out.size hge.out⟩
 have D2 := ak (below_step D1.out hb)
 have BM := ak (blk_below BM.out hb)
 have BE := ak (blk_below BE.out hb)
 have BR := ak hbox
 clear hb hbox hge
 have hcga2_0 : w2.cell? ⟨ga,0,none⟩ = some (.bool a0_0) := (blk_cell BM.out 0).trans rfl
 have hcga2_1 : w2.cell? ⟨ga,1,none⟩ = some (.slice A0_1 l0_1.length c0_1) := (blk_cell BM.out 1).trans rfl
 have hcga2_2 : w2.cell? ⟨ga,2,none⟩ = some (.slice A0_2 l0_2.length c0_2) := (blk_cell BM.out 2).trans rfl
 have hcga2_3 : w2.cell? ⟨ga,3,none⟩ = some (.slice A0_3 l0_3.length c0_3) := (blk_cell BM.out 3).trans rfl
 go_wp2_with ((with_reducible refine gcal_ (f := 36) rfl ?_);refine gz_ (some 8) Tryz.func36 #[.agg #[.bool a0_0,.slice A0_1 l0_1.length c0_1,.slice A0_2 l0_2.length c0_2,.slice A0_3 l0_3.length c0_3]] ?_;refine (impl_isMachineOk.calls k a0_0 A0_1 c0_1 l0_1 A0_2 c0_2 l0_2 A0_3 c0_3 l0_3 t _ (Kd.C_below HR1.out D2.out) HC1.out (Kd.C_below HR2.out D2.out) HC2.out (Kd.C_below HR3.out D2.out) HC3.out F0.out).mono ?_;rintro e w2b ⟨rfl,B⟩;refine ⟨_,rfl,?_⟩;refine hold_21 ?_)
 refine ⟨?_⟩
 have D3 := ak (below_step D2.out B)
 have BM := ak (blk_below BM.out B)
 have BE := ak (blk_below BE.out B)
 have BR := ak (blk_below BR.out B)
 clear B
 obtain ⟨⟨hcgr3_0,hcgr3_1,hcgr3_2,hcgr3_3⟩,hfr3_0,hfr3_1,hfr3_2,hfr3_3⟩ := cl4_ BR.out
 have hcge3_0 : w2b.cell? ⟨ge,0,none⟩ = some (.int .i64 a1_0) := (blk_cell BE.out 0).trans rfl
 have hcge3_1 : w2b.cell? ⟨ge,1,none⟩ = some (.int .i64 a1_1) := (blk_cell BE.out 1).trans rfl
 have hcge3_2 : w2b.cell? ⟨ge,2,none⟩ = some (.int .i64 a1_2) := (blk_cell BE.out 2).trans rfl
 have hcge3_3 : w2b.cell? ⟨ge,3,none⟩ = some (.slice A1_3 l1_3.length c1_3) := (blk_cell BE.out 3).trans rfl
 have hcga3_0 : w2b.cell? ⟨ga,0,none⟩ = some (.bool a0_0) := (blk_cell BM.out 0).trans rfl
 have hcga3_1 : w2b.cell? ⟨ga,1,none⟩ = some (.slice A0_1 l0_1.length c0_1) := (blk_cell BM.out 1).trans rfl
 have hcga3_2 : w2b.cell? ⟨ga,2,none⟩ = some (.slice A0_2 l0_2.length c0_2) := (blk_cell BM.out 2).trans rfl
 have hcga3_3 : w2b.cell? ⟨ga,3,none⟩ = some (.slice A0_3 l0_3.length c0_3) := (blk_cell BM.out 3).trans rfl
 cases t with
  | false =>
  have h1 := H1.out
  rw [if_neg (by simp)] at h1
  clear H1
  simp only [Option.some.injEq,Prod.mk.injEq] at h1
  obtain ⟨rfl,rfl,rfl,rfl,rfl⟩ := h1
  go_wp2
  refine bodyPost_ret (results_ct rfl _ _ gr 31 #[.bool false,.slice none 0 0,.slice none 0 0,.slice none 0 0] (0,0) _ rfl (pt4_ BR.out _ _ _ _) Tryz.underlying31 rfl (by kernel_rfl)) rfl ?_
  exact ⟨.slice none 0 0,.slice none 0 0,.slice none 0 0,by first|rfl|(simp;done),Kd.S_nil _ _ _ _ _,Kd.S_nil _ _ _ _ _,Kd.R_nil _ _ _ _ _,below_set (below_set (below_set (below_set D3.out GR.out) GR.out) GR.out) GR.out⟩
  | true =>
 have h1 := H1.out
 rw [if_pos rfl] at h1
 clear H1
 obtain ⟨t2,E9,h2⟩ := Option.bind_eq_some_iff.1 h1
 clear h1
 have H1 := ak h2
 have F9 := ak E9
 clear h2 E9
 go_wp2_with (go_at_call 65;refine (impl_isRecord.calls k a1_0 a1_1 a1_2 A1_3 c1_3 l1_3 t2 _ (Kd.C_below HRR.out D3.out) HRC.out F9.out).mono ?_;rintro e w3 ⟨rfl,B⟩;(try dsimp only);refine hold_21 ?_)
 refine ⟨?_⟩
 have D3 := ak (below_step D3.out B)
 have BM := ak (blk_below BM.out B)
 have BE := ak (blk_below BE.out B)
 have BR := ak (blk_below BR.out B)
 clear B
 clear hcgr3_0 hfr3_0 hcge3_0 hcga3_0 hcgr3_1 hfr3_1 hcge3_1 hcga3_1 hcgr3_2 hfr3_2 hcge3_2 hcga3_2 hcgr3_3 hfr3_3 hcge3_3 hcga3_3
 obtain ⟨⟨hcgr4_0,hcgr4_1,hcgr4_2,hcgr4_3⟩,hfr4_0,hfr4_1,hfr4_2,hfr4_3⟩ := cl4_ BR.out
 have hcga4_0 : w3.cell? ⟨ga,0,none⟩ = some (.bool a0_0) := (blk_cell BM.out 0).trans rfl
 have hcga4_1 : w3.cell? ⟨ga,1,none⟩ = some (.slice A0_1 l0_1.length c0_1) := (blk_cell BM.out 1).trans rfl
 have hcga4_2 : w3.cell? ⟨ga,2,none⟩ = some (.slice A0_2 l0_2.length c0_2) := (blk_cell BM.out 2).trans rfl
 have hcga4_3 : w3.cell? ⟨ga,3,none⟩ = some (.slice A0_3 l0_3.length c0_3) := (blk_cell BM.out 3).trans rfl
 cases t2 with
  | false =>
  have h1 := H1.out
  rw [if_neg (by simp)] at h1
  clear H1
  simp only [Option.some.injEq,Prod.mk.injEq] at h1
  obtain ⟨rfl,rfl,rfl,rfl,rfl⟩ := h1
  go_wp2
  refine bodyPost_ret (results_ct rfl _ _ gr 31 #[.bool false,.slice none 0 0,.slice none 0 0,.slice none 0 0] (0,0) _ rfl (pt4_ BR.out _ _ _ _) Tryz.underlying31 rfl (by kernel_rfl)) rfl ?_
  exact ⟨.slice none 0 0,.slice none 0 0,.slice none 0 0,by first|rfl|(simp;done),Kd.S_nil _ _ _ _ _,Kd.S_nil _ _ _ _ _,Kd.R_nil _ _ _ _ _,below_set (below_set (below_set (below_set D3.out GR.out) GR.out) GR.out) GR.out⟩
  | true =>
 have h1 := H1.out
 rw [if_pos rfl] at h1
 clear H1
 by_cases lk : (l0_2.length : Int) = 200
 ·rw [if_pos lk] at h1
  have lkb : ((l0_2.length : Int) == 200) = true := beq_iff_eq.mpr lk
  have lkd : decide ((l0_2.length : Int) = 200) = true := decide_eq_true lk
  clear lk
  simp only [Option.some.injEq,Prod.mk.injEq] at h1
  obtain ⟨rfl,rfl,rfl,rfl,rfl⟩ := h1
  go_wp2
  refine bodyPost_ret (results_ct rfl _ _ gr 31 #[.bool false,.slice none 0 0,.slice none 0 0,.slice none 0 0] (0,0) _ rfl (pt4_ BR.out _ _ _ _) Tryz.underlying31 rfl (by kernel_rfl)) rfl ?_
  exact ⟨.slice none 0 0,.slice none 0 0,.slice none 0 0,by first|rfl|(simp;done),Kd.S_nil _ _ _ _ _,Kd.S_nil _ _ _ _ _,Kd.R_nil _ _ _ _ _,below_set (below_set (below_set (below_set D3.out GR.out) GR.out) GR.out) GR.out⟩
 rw [if_neg lk] at h1
 have lkb : ((l0_2.length : Int) == 200) = false := beq_eq_false_iff_ne.mpr lk
 have lkd : decide ((l0_2.length : Int) = 200) = false := decide_eq_false lk
 clear lk
 obtain ⟨⟨b,p1,p2,p3⟩,E1,h2⟩ := Option.bind_eq_some_iff.1 h1
 clear h1
 obtain ⟨q2,E2,h3⟩ := Option.bind_eq_some_iff.1 h2
 clear h2
 simp only [Option.some.injEq,Prod.mk.injEq] at h3
 obtain ⟨rfl,rfl,rfl,rfl,rfl⟩ := h3
 have F1 := ak E1
 have F2 := ak E2
 clear E1 E2
 go_wp2_with ((with_reducible refine gcal_ (f := 39) rfl ?_);refine gz_ (some 23) Tryz.func39 #[.agg #[.bool a0_0,.slice A0_1 l0_1.length c0_1,.slice A0_2 l0_2.length c0_2,.slice A0_3 l0_3.length c0_3]] ?_;refine (impl_cloneMachine.calls k a0_0 A0_1 c0_1 l0_1 A0_2 c0_2 l0_2 A0_3 c0_3 l0_3 b p1 p2 p3 _ (Kd.C_below HR1.out D3.out) HC1.out (Kd.C_below HR2.out D3.out) HC2.out (Kd.C_below HR3.out D3.out) HC3.out F1.out).mono ?_;rintro e w4 ⟨v1,v2,v3,rfl,S1,S2,S3,B⟩;refine ⟨_,rfl,?_⟩;refine hold_21 ?_)
 refine ⟨?_⟩
 clear lkb lkd hcgr4_0 hfr4_0 hcga4_0 hcgr4_1 hfr4_1 hcga4_1 hcgr4_2 hfr4_2 hcga4_2 hcgr4_3 hfr4_3 hcga4_3
 have T1 := ak S1
 have T2 := ak S2
 have T3 := ak S3
 have LE := ak (blk_lt BE.out)
 have LG := ak (blk_lt BR.out)
 have G := ak B
 have D4 := ak (below_step D3.out B)
 have BR := ak (blk_below BR.out B)
 have BE := ak (blk_below BE.out B)
 clear S1 S2 S3 B BM
 obtain ⟨A1,c1,e1_⟩ := Kd.S_slice T1.out
 subst e1_
 obtain ⟨A2,c2,e2_⟩ := Kd.S_slice T2.out
 subst e2_
 obtain ⟨A3,c3,e3_⟩ := Kd.R_slice T3.out
 subst e3_
 go_wp2_with ((with_reducible refine gate_dst (N := 6) rfl ?_);refine bx_ 6 #[.bool false,.slice none 0 0,.slice none 0 0,.slice none 0 0] 31 ?_;intro go hg w5 hbox hb;have hge := ak (Nat.le_of_eq hg.symm);clear hg;refine hold_21 ?_)
 refine ⟨?_⟩
 have BZ := ak hbox
 have Q0 := ak hb
 have HGE := hge
 clear hbox hb hge
 obtain ⟨⟨hcgoy_0, hcgoy_1, hcgoy_2, hcgoy_3⟩, hfy_0, hfy_1, hfy_2, hfy_3⟩ := cl4_ BZ.out
 go_upto_region 4 with (fail)
 obtain ⟨n0_, n1_⟩ := fl4_ Q0.out HGE.out BZ.out (.bool b) (.slice A1 p1.length c1) (.slice A2 p2.length c2) (.slice A3 p3.length c3)
 clear BZ Q0
 clear hcgoy_0 hfy_0 hcgoy_1 hfy_1 hcgoy_2 hfy_2 hcgoy_3 hfy_3
 generalize ((((w5.setCell ⟨go,0,none⟩ (.bool b)).setCell ⟨go,1,none⟩ (.slice A1 p1.length c1)).setCell ⟨go,2,none⟩ (.slice A2 p2.length c2)).setCell ⟨go,3,none⟩ (.slice A3 p3.length c3)) = w6 at n0_ n1_ ⊢
 have B := n0_.out
 have BG := n1_
 clear n0_ n1_
 have T1 := ak (Kd.S_bound (Kd.S_below T1.out B))
 have T2 := ak (Kd.S_bound (Kd.S_below T2.out B))
 have T3 := ak (Kd.R_bound (Kd.R_below T3.out B))
 have GO : Aside0 (w3.heap.size ≤ go) := ⟨Nat.le_trans G.out.size HGE.out⟩
 have G := ak (below_step G.out B)
 have D6 := ak (below_step D4.out B)
 have BR := ak (blk_below BR.out B)
 have BE := ak (blk_below BE.out B)
 clear B D4
 have NG : Aside0 (gr ≠ go) := ⟨Nat.ne_of_lt (Nat.lt_of_lt_of_le LG.out GO.out)⟩
 have hcge6_0 : w6.cell? ⟨ge,0,none⟩ = some (.int .i64 a1_0) := (blk_cell BE.out 0).trans rfl
 have hcge6_1 : w6.cell? ⟨ge,1,none⟩ = some (.int .i64 a1_1) := (blk_cell BE.out 1).trans rfl
 have hcge6_2 : w6.cell? ⟨ge,2,none⟩ = some (.int .i64 a1_2) := (blk_cell BE.out 2).trans rfl
 have hcge6_3 : w6.cell? ⟨ge,3,none⟩ = some (.slice A1_3 l1_3.length c1_3) := (blk_cell BE.out 3).trans rfl
 go_wp2_with ((with_reducible refine gcal_ (f := 66) rfl ?_);refine gz_ (some 25) Tryz.func66 #[.pointer (some ⟨go,0,none⟩),.agg #[.int .i64 a1_0,.int .i64 a1_1,.int .i64 a1_2,.slice A1_3 l1_3.length c1_3]] ?_;refine (impl_Machine_append.calls (fun k_ => True ∧ w3.heap.size ≤ k_ ∧ k_ < w6.heap.size ∧ ∃ q,q ∈ 50 :: (k50).E ∧ ∃ cells,w6.heap[k_]? = some (.cells cells q (0,0))) go b (.slice A1 p1.length c1) (.slice A3 p3.length c3) A2 c2 p2 a1_0 a1_1 a1_2 A1_3 c1_3 l1_3 q2 w3 _ G.out GO.out BG.out (fun hs_ => ty_21 ⟨31,List.mem_singleton.2 rfl,_,BG.out⟩ hs_.2.2.2 (by decide)) T2.out (Kd.C_below HRR.out D6.out) HRC.out F2.out).mono ?_;rintro e w7 ⟨rfl,A4,c4,BG2,S,B,K⟩;refine ⟨_,rfl,?_⟩;refine hold_21 ?_)
 refine ⟨?_⟩
 have T1 := ak (Kd.S_kept T1.out K (fun k_ hk_ hs_ => hs_.elim (fun h_ => ty_21 hk_.2.2.2 h_.2.2.2 (by decide)) (fun e_ => ty_21 (e_ ▸ hk_.2.2.2) ⟨31,List.mem_singleton.2 rfl,_,BG.out⟩ (by decide))))
 have T3 := ak (Kd.R_kept T3.out K (fun k_ hk_ hs_ => hs_.elim (fun h_ => ty_21 hk_.2.2.2 h_.2.2.2 (by decide)) (fun e_ => ty_21 (e_ ▸ hk_.2.2.2) ⟨31,List.mem_singleton.2 rfl,_,BG.out⟩ (by decide))))
 have T4 := ak S
 have BR2 := ak (blk_kept BR.out K (fun hs_ => hs_.elim (fun hs_ => ty_21 ⟨31,List.mem_singleton.2 rfl,_,BR.out⟩ hs_.2.2.2 (by decide)) NG.out))
 have BG := ak BG2
 have D7 := ak (below_step D3.out B)
 clear S B K BG2 BR
 have BR := BR2
 clear BR2
 have hcgo7_0 : w7.cell? ⟨go,0,none⟩ = some (.bool b) := (blk_cell BG.out 0).trans rfl
 have hcgo7_1 : w7.cell? ⟨go,1,none⟩ = some (.slice A1 p1.length c1) := (blk_cell BG.out 1).trans rfl
 have hcgo7_2 : w7.cell? ⟨go,2,none⟩ = some (.slice A4 q2.length c4) := (blk_cell BG.out 2).trans rfl
 have hcgo7_3 : w7.cell? ⟨go,3,none⟩ = some (.slice A3 p3.length c3) := (blk_cell BG.out 3).trans rfl
 obtain ⟨⟨hcgr7_0,hcgr7_1,hcgr7_2,hcgr7_3⟩,hfr7_0,hfr7_1,hfr7_2,hfr7_3⟩ := cl4_ BR.out
 go_wp2
 refine bodyPost_ret (results_ct rfl _ _ gr 31 #[.bool b,.slice A1 p1.length c1,.slice A4 q2.length c4,.slice A3 p3.length c3] (0,0) _ rfl (pt4_ BR.out _ _ _ _) Tryz.underlying31 rfl (by kernel_rfl)) rfl ?_
 exact ⟨.slice A1 p1.length c1,.slice A4 q2.length c4,.slice A3 p3.length c3,by first|rfl|(simp;done),Kd.S_mono (Kd.S_far (p := ⟨gr,3,none⟩) (Kd.S_far (p := ⟨gr,2,none⟩) (Kd.S_far (p := ⟨gr,1,none⟩) (Kd.S_far (p := ⟨gr,0,none⟩) (Kd.S_types (Kd.S_lower T1.out D3.out.size) BR.out (by decide)) (fun _ h_ => h_.2) (.bool b)) (fun _ h_ => h_.2) (.slice A1 p1.length c1)) (fun _ h_ => h_.2) (.slice A4 q2.length c4)) (fun _ h_ => h_.2) (.slice A3 p3.length c3)) (fun _ _ => trivial),Kd.S_mono (Kd.S_far (p := ⟨gr,3,none⟩) (Kd.S_far (p := ⟨gr,2,none⟩) (Kd.S_far (p := ⟨gr,1,none⟩) (Kd.S_far (p := ⟨gr,0,none⟩) (Kd.S_types (Kd.S_lower T4.out D3.out.size) BR.out (by decide)) (fun _ h_ => h_.2) (.bool b)) (fun _ h_ => h_.2) (.slice A1 p1.length c1)) (fun _ h_ => h_.2) (.slice A4 q2.length c4)) (fun _ h_ => h_.2) (.slice A3 p3.length c3)) (fun _ _ => trivial),Kd.R_mono (Kd.R_far (p := ⟨gr,3,none⟩) (Kd.R_far (p := ⟨gr,2,none⟩) (Kd.R_far (p := ⟨gr,1,none⟩) (Kd.R_far (p := ⟨gr,0,none⟩) (Kd.R_types (Kd.R_lower T3.out D3.out.size) BR.out (by decide)) (fun _ h_ => h_.2) (.bool b)) (fun _ h_ => h_.2) (.slice A1 p1.length c1)) (fun _ h_ => h_.2) (.slice A4 q2.length c4)) (fun _ h_ => h_.2) (.slice A3 p3.length c3)) (fun _ _ => trivial),below_set (below_set (below_set (below_set D7.out GR.out) GR.out) GR.out) GR.out⟩

/-! ### spec_Append: function 22 -/
theorem hold_22 {p : Prop} (h : Aside0 p) : p := h.out
theorem ty_22 {w : World} {k : Nat} {a b : List Nat} (h1 : ∃ q, q ∈ a ∧ ∃ cs, w.heap[k]? = some (.cells cs q (0, 0))) (h2 : ∃ q, q ∈ b ∧ ∃ cs, w.heap[k]? = some (.cells cs q (0, 0))) (hd : ∀ q, q ∈ a → ¬ q ∈ b) : False := by
 obtain ⟨q,hq,cs,h1⟩ := h1
 obtain ⟨q2,hq2,cs2,h2⟩ := h2
 rw [h1] at h2
 injection h2 with h2
 injection h2 with _ h2
 exact hd q hq (h2 ▸ hq2)
def spec_Append.f (k : Nat) (a0_0 : Bool) (l0_1 : List (S83)) (l0_2 : List (S50)) (l0_3 : List Int) (a1_0 a1_1 a1_2 : Int) (l1_3 : List (S119)) : Option (Bool × (List (S83)) × (List (S50)) × List Int × Bool) := (spec_MachineOk.f k a0_0 l0_1 l0_2 l0_3).bind fun t => if t = true then ((spec_RecordOk.f k a1_0 a1_1 a1_2 l1_3).bind fun t2 => if t2 = true then (if (l0_2.length : Int) = 200 then some (false, [], [], [], false) else (spec_l6Copy.f k a0_0 l0_1 l0_2 l0_3).bind fun c => (spec_l6Record.f a1_0 a1_1 a1_2 l1_3).bind fun e => if c.2.2.1.length < 2932031007402 then some (c.1, c.2.1, c.2.2.1 ++ [(⟨e.1, e.2.1, e.2.2.1, e.2.2.2⟩ : S50)], c.2.2.2, true) else none) else some (false, [], [], [], false)) else some (false, [], [], [], false)
theorem spec_Append.calls (k : Nat) (a0_0 : Bool) (A0_1 : Option Addr) (c0_1 : Nat) (l0_1 : List (S83)) (A0_2 : Option Addr) (c0_2 : Nat) (l0_2 : List (S50)) (A0_3 : Option Addr) (c0_3 : Nat) (l0_3 : List Int) (a1_0 a1_1 a1_2 : Int) (A1_3 : Option Addr) (c1_3 : Nat) (l1_3 : List (S119)) (r1 : Bool) (r2 : List (S83)) (r3 : List (S50)) (r4 : List Int) (r5 : Bool) (w : World) (hr0_1 : Kd.C k83 w A0_1 l0_1.length l0_1) (hc0_1 : l0_1.length ≤ c0_1) (hr0_2 : Kd.C k50 w A0_2 l0_2.length l0_2) (hc0_2 : l0_2.length ≤ c0_2) (hr0_3 : Kd.C (Kd.int .i64) w A0_3 l0_3.length l0_3) (hc0_3 : l0_3.length ≤ c0_3) (hr1_3 : Kd.C k119 w A1_3 l1_3.length l1_3) (hc1_3 : l1_3.length ≤ c1_3) (h : spec_Append.f k a0_0 l0_1 l0_2 l0_3 a1_0 a1_1 a1_2 l1_3 = some (r1, r2, r3, r4, r5)) :
    Calls Tryz.prog 22 #[.agg #[.bool a0_0, .slice A0_1 l0_1.length c0_1, .slice A0_2 l0_2.length c0_2, .slice A0_3 l0_3.length c0_3], .agg #[.int .i64 a1_0, .int .i64 a1_1, .int .i64 a1_2, .slice A1_3 l1_3.length c1_3]] w fun e w' => ∃ v1_ v2_ v3_ : Value, e = .returned (.tuple #[.agg #[.bool r1, v1_, v2_, v3_], .bool r5]) ∧ Kd.S k83 83 w' w.heap.size (fun _ => True) v1_ r2 ∧ Kd.S k50 50 w' w.heap.size (fun _ => True) v2_ r3 ∧ Kd.R (Kd.int .i64) 2 w' w.heap.size (fun _ => True) v3_ r4 ∧ Below w.heap.size w w' := by
 have hu := Tryz.underlying31
 have hu2 := Tryz.underlying50
 have HR1 := ak hr0_1
 have HC1 := ak hc0_1
 clear hr0_1 hc0_1
 have HR2 := ak hr0_2
 have HC2 := ak hc0_2
 clear hr0_2 hc0_2
 have HR3 := ak hr0_3
 have HC3 := ak hc0_3
 clear hr0_3 hc0_3
 have HRR := ak hr1_3
 have HRC := ak hc1_3
 clear hr1_3 hc1_3
 obtain ⟨t,E0,h1⟩ := Option.bind_eq_some_iff.1 h
 clear h
 have H1 := ak h1
 have F0 := ak E0
 clear h1 E0
 go_enter Tryz.func22,Tryz.ntmps22
 go_wp2_with ((with_reducible refine gate_dst (N := 2) rfl ?_);refine bx_ 2 #[.bool a0_0,.slice A0_1 l0_1.length c0_1,.slice A0_2 l0_2.length c0_2,.slice A0_3 l0_3.length c0_3] 31 ?_;intro ga hg w1 hbox hb;have hge := ak (Nat.le_of_eq hg.symm);clear hg;refine hold_22 ?_)
 refine ⟨?_⟩
 have D1 := ak hb
 have BM := ak hbox
 clear hb hbox hge
 go_wp2_with ((with_reducible refine gate_dst (N := 3) rfl ?_);refine bx_ 3 #[.int .i64 a1_0,.int .i64 a1_1,.int .i64 a1_2,.slice A1_3 l1_3.length c1_3] 50 ?_;intro ge hg w1e hbox hb;have hge := ak (Nat.le_of_eq hg.symm);clear hg;refine hold_22 ?_)
 refine ⟨?_⟩
 have D1 := ak (below_step D1.out hb)
 have BM := ak (blk_below BM.out hb)
 have BE := ak hbox
 clear hb hbox hge
 go_wp2_with ((with_reducible refine gate_dst (N := 4) rfl ?_);refine bx_ 4 #[.bool false,.slice none 0 0,.slice none 0 0,.slice none 0 0] 31 ?_;intro gr hg w2 hbox hb;have hge := ak (Nat.le_of_eq hg.symm);clear hg;refine hold_22 ?_)
 refine ⟨?_⟩
 have GR : Aside0 (w.heap.size ≤ gr) := ⟨Nat.le_trans D1.out.size hge.out⟩
 have D2 := ak (below_step D1.out hb)
 have BM := ak (blk_below BM.out hb)
 have BE := ak (blk_below BE.out hb)
 have BR := ak hbox
 clear hb hbox hge
 have hcga2_0 : w2.cell? ⟨ga,0,none⟩ = some (.bool a0_0) := (blk_cell BM.out 0).trans rfl
 have hcga2_1 : w2.cell? ⟨ga,1,none⟩ = some (.slice A0_1 l0_1.length c0_1) := (blk_cell BM.out 1).trans rfl
 have hcga2_2 : w2.cell? ⟨ga,2,none⟩ = some (.slice A0_2 l0_2.length c0_2) := (blk_cell BM.out 2).trans rfl
 have hcga2_3 : w2.cell? ⟨ga,3,none⟩ = some (.slice A0_3 l0_3.length c0_3) := (blk_cell BM.out 3).trans rfl
 go_wp2_with ((with_reducible refine gcal_ (f := 28) rfl ?_);refine gz_ (some 8) Tryz.func28 #[.agg #[.bool a0_0,.slice A0_1 l0_1.length c0_1,.slice A0_2 l0_2.length c0_2,.slice A0_3 l0_3.length c0_3]] ?_;refine (spec_MachineOk.calls k a0_0 A0_1 c0_1 l0_1 A0_2 c0_2 l0_2 A0_3 c0_3 l0_3 t _ (Kd.C_below HR1.out D2.out) HC1.out (Kd.C_below HR2.out D2.out) HC2.out (Kd.C_below HR3.out D2.out) HC3.out F0.out).mono ?_;rintro e w2b ⟨rfl,B⟩;refine ⟨_,rfl,?_⟩;refine hold_22 ?_)
 refine ⟨?_⟩
 have D3 := ak (below_step D2.out B)
 have BM := ak (blk_below BM.out B)
 have BE := ak (blk_below BE.out B)
 have BR := ak (blk_below BR.out B)
 clear B
 obtain ⟨⟨hcgr3_0,hcgr3_1,hcgr3_2,hcgr3_3⟩,hfr3_0,hfr3_1,hfr3_2,hfr3_3⟩ := cl4_ BR.out
 have hcge3_0 : w2b.cell? ⟨ge,0,none⟩ = some (.int .i64 a1_0) := (blk_cell BE.out 0).trans rfl
 have hcge3_1 : w2b.cell? ⟨ge,1,none⟩ = some (.int .i64 a1_1) := (blk_cell BE.out 1).trans rfl
 have hcge3_2 : w2b.cell? ⟨ge,2,none⟩ = some (.int .i64 a1_2) := (blk_cell BE.out 2).trans rfl
 have hcge3_3 : w2b.cell? ⟨ge,3,none⟩ = some (.slice A1_3 l1_3.length c1_3) := (blk_cell BE.out 3).trans rfl
 have hcga3_0 : w2b.cell? ⟨ga,0,none⟩ = some (.bool a0_0) := (blk_cell BM.out 0).trans rfl
 have hcga3_1 : w2b.cell? ⟨ga,1,none⟩ = some (.slice A0_1 l0_1.length c0_1) := (blk_cell BM.out 1).trans rfl
 have hcga3_2 : w2b.cell? ⟨ga,2,none⟩ = some (.slice A0_2 l0_2.length c0_2) := (blk_cell BM.out 2).trans rfl
 have hcga3_3 : w2b.cell? ⟨ga,3,none⟩ = some (.slice A0_3 l0_3.length c0_3) := (blk_cell BM.out 3).trans rfl
 cases t with
  | false =>
  have h1 := H1.out
  rw [if_neg (by simp)] at h1
  clear H1
  simp only [Option.some.injEq,Prod.mk.injEq] at h1
  obtain ⟨rfl,rfl,rfl,rfl,rfl⟩ := h1
  go_wp2
  refine bodyPost_ret (results_ct rfl _ _ gr 31 #[.bool false,.slice none 0 0,.slice none 0 0,.slice none 0 0] (0,0) _ rfl (pt4_ BR.out _ _ _ _) Tryz.underlying31 rfl (by kernel_rfl)) rfl ?_
  exact ⟨.slice none 0 0,.slice none 0 0,.slice none 0 0,by first|rfl|(simp;done),Kd.S_nil _ _ _ _ _,Kd.S_nil _ _ _ _ _,Kd.R_nil _ _ _ _ _,below_set (below_set (below_set (below_set D3.out GR.out) GR.out) GR.out) GR.out⟩
  | true =>
 have h1 := H1.out
 rw [if_pos rfl] at h1
 clear H1
 obtain ⟨t2,E9,h2⟩ := Option.bind_eq_some_iff.1 h1
 clear h1
 have H1 := ak h2
 have F9 := ak E9
 clear h2 E9
 go_wp2_with (go_at_call 67;refine (spec_RecordOk.calls k a1_0 a1_1 a1_2 A1_3 c1_3 l1_3 t2 _ (Kd.C_below HRR.out D3.out) HRC.out F9.out).mono ?_;rintro e w3 ⟨rfl,B⟩;(try dsimp only);refine hold_22 ?_)
 refine ⟨?_⟩
 have D3 := ak (below_step D3.out B)
 have BM := ak (blk_below BM.out B)
 have BE := ak (blk_below BE.out B)
 have BR := ak (blk_below BR.out B)
 clear B
 clear hcgr3_0 hfr3_0 hcge3_0 hcga3_0 hcgr3_1 hfr3_1 hcge3_1 hcga3_1 hcgr3_2 hfr3_2 hcge3_2 hcga3_2 hcgr3_3 hfr3_3 hcge3_3 hcga3_3
 obtain ⟨⟨hcgr4_0,hcgr4_1,hcgr4_2,hcgr4_3⟩,hfr4_0,hfr4_1,hfr4_2,hfr4_3⟩ := cl4_ BR.out
 have hcga4_0 : w3.cell? ⟨ga,0,none⟩ = some (.bool a0_0) := (blk_cell BM.out 0).trans rfl
 have hcga4_1 : w3.cell? ⟨ga,1,none⟩ = some (.slice A0_1 l0_1.length c0_1) := (blk_cell BM.out 1).trans rfl
 have hcga4_2 : w3.cell? ⟨ga,2,none⟩ = some (.slice A0_2 l0_2.length c0_2) := (blk_cell BM.out 2).trans rfl
 have hcga4_3 : w3.cell? ⟨ga,3,none⟩ = some (.slice A0_3 l0_3.length c0_3) := (blk_cell BM.out 3).trans rfl
 cases t2 with
  | false =>
  have h1 := H1.out
  rw [if_neg (by simp)] at h1
  clear H1
  simp only [Option.some.injEq,Prod.mk.injEq] at h1
  obtain ⟨rfl,rfl,rfl,rfl,rfl⟩ := h1
  go_wp2
  refine bodyPost_ret (results_ct rfl _ _ gr 31 #[.bool false,.slice none 0 0,.slice none 0 0,.slice none 0 0] (0,0) _ rfl (pt4_ BR.out _ _ _ _) Tryz.underlying31 rfl (by kernel_rfl)) rfl ?_
  exact ⟨.slice none 0 0,.slice none 0 0,.slice none 0 0,by first|rfl|(simp;done),Kd.S_nil _ _ _ _ _,Kd.S_nil _ _ _ _ _,Kd.R_nil _ _ _ _ _,below_set (below_set (below_set (below_set D3.out GR.out) GR.out) GR.out) GR.out⟩
  | true =>
 have h1 := H1.out
 rw [if_pos rfl] at h1
 clear H1
 by_cases lk : (l0_2.length : Int) = 200
 ·rw [if_pos lk] at h1
  have lkb : ((l0_2.length : Int) == 200) = true := beq_iff_eq.mpr lk
  have lkd : decide ((l0_2.length : Int) = 200) = true := decide_eq_true lk
  clear lk
  simp only [Option.some.injEq,Prod.mk.injEq] at h1
  obtain ⟨rfl,rfl,rfl,rfl,rfl⟩ := h1
  go_wp2
  refine bodyPost_ret (results_ct rfl _ _ gr 31 #[.bool false,.slice none 0 0,.slice none 0 0,.slice none 0 0] (0,0) _ rfl (pt4_ BR.out _ _ _ _) Tryz.underlying31 rfl (by kernel_rfl)) rfl ?_
  exact ⟨.slice none 0 0,.slice none 0 0,.slice none 0 0,by first|rfl|(simp;done),Kd.S_nil _ _ _ _ _,Kd.S_nil _ _ _ _ _,Kd.R_nil _ _ _ _ _,below_set (below_set (below_set (below_set D3.out GR.out) GR.out) GR.out) GR.out⟩
 rw [if_neg lk] at h1
 have lkb : ((l0_2.length : Int) == 200) = false := beq_eq_false_iff_ne.mpr lk
 have lkd : decide ((l0_2.length : Int) = 200) = false := decide_eq_false lk
 clear lk
 obtain ⟨⟨b,p1,p2,p3⟩,E1,h2⟩ := Option.bind_eq_some_iff.1 h1
 clear h1
 obtain ⟨⟨e0,e1,e2,e3⟩,E2,h3⟩ := Option.bind_eq_some_iff.1 h2
 clear h2
 by_cases lm : p2.length < 2932031007402
 rotate_left
 ·rw [if_neg lm] at h3;cases h3
 rw [if_pos lm] at h3
 have LM := ak lm
 clear lm
 simp only [Option.some.injEq,Prod.mk.injEq] at h3
 obtain ⟨rfl,rfl,rfl,rfl,rfl⟩ := h3
 have F1 := ak E1
 have FC := ak E2
 clear E1 E2
 go_wp2_with ((with_reducible refine gcal_ (f := 31) rfl ?_);refine gz_ (some 23) Tryz.func31 #[.agg #[.bool a0_0,.slice A0_1 l0_1.length c0_1,.slice A0_2 l0_2.length c0_2,.slice A0_3 l0_3.length c0_3]] ?_;refine (spec_l6Copy.calls k a0_0 A0_1 c0_1 l0_1 A0_2 c0_2 l0_2 A0_3 c0_3 l0_3 b p1 p2 p3 _ (Kd.C_below HR1.out D3.out) HC1.out (Kd.C_below HR2.out D3.out) HC2.out (Kd.C_below HR3.out D3.out) HC3.out F1.out).mono ?_;rintro e w4 ⟨v1,v2,v3,rfl,S1,S2,S3,B⟩;refine ⟨_,rfl,?_⟩;refine hold_22 ?_)
 refine ⟨?_⟩
 clear lkb lkd hcgr4_0 hfr4_0 hcga4_0 hcgr4_1 hfr4_1 hcga4_1 hcgr4_2 hfr4_2 hcga4_2 hcgr4_3 hfr4_3 hcga4_3
 have T1 := ak S1
 have T2 := ak S2
 have T3 := ak S3
 have LE := ak (blk_lt BE.out)
 have LG := ak (blk_lt BR.out)
 have G := ak B
 have D4 := ak (below_step D3.out B)
 have BR := ak (blk_below BR.out B)
 have BE := ak (blk_below BE.out B)
 clear S1 S2 S3 B BM
 obtain ⟨A1,c1,e1_⟩ := Kd.S_slice T1.out
 subst e1_
 obtain ⟨A2,c2,e2_⟩ := Kd.S_slice T2.out
 subst e2_
 obtain ⟨A3,c3,e3_⟩ := Kd.R_slice T3.out
 subst e3_
 go_wp2_with ((with_reducible refine gate_dst (N := 6) rfl ?_);refine bx_ 6 #[.bool false,.slice none 0 0,.slice none 0 0,.slice none 0 0] 31 ?_;intro go hg w5 hbox hb;have hge := ak (Nat.le_of_eq hg.symm);clear hg;refine hold_22 ?_)
 refine ⟨?_⟩
 have BZ := ak hbox
 have Q0 := ak hb
 have HGE := hge
 clear hbox hb hge
 obtain ⟨⟨hcgoy_0, hcgoy_1, hcgoy_2, hcgoy_3⟩, hfy_0, hfy_1, hfy_2, hfy_3⟩ := cl4_ BZ.out
 go_upto_region 4 with (fail)
 obtain ⟨n0_, n1_⟩ := fl4_ Q0.out HGE.out BZ.out (.bool b) (.slice A1 p1.length c1) (.slice A2 p2.length c2) (.slice A3 p3.length c3)
 clear BZ Q0
 clear hcgoy_0 hfy_0 hcgoy_1 hfy_1 hcgoy_2 hfy_2 hcgoy_3 hfy_3
 generalize ((((w5.setCell ⟨go,0,none⟩ (.bool b)).setCell ⟨go,1,none⟩ (.slice A1 p1.length c1)).setCell ⟨go,2,none⟩ (.slice A2 p2.length c2)).setCell ⟨go,3,none⟩ (.slice A3 p3.length c3)) = w6 at n0_ n1_ ⊢
 have B := n0_.out
 have BG := n1_
 clear n0_ n1_
 have T1 := ak (Kd.S_bound (Kd.S_below T1.out B))
 have T2 := ak (Kd.S_bound (Kd.S_below T2.out B))
 have T3 := ak (Kd.R_bound (Kd.R_below T3.out B))
 have GO : Aside0 (w3.heap.size ≤ go) := ⟨Nat.le_trans G.out.size HGE.out⟩
 have G := ak (below_step G.out B)
 have D6 := ak (below_step D4.out B)
 have BR := ak (blk_below BR.out B)
 have BE := ak (blk_below BE.out B)
 clear B D4
 have NG : Aside0 (gr ≠ go) := ⟨Nat.ne_of_lt (Nat.lt_of_lt_of_le LG.out GO.out)⟩
 have B : Below w6.heap.size w6 w6.drew := below_drew1 (Below.refl _ _)
 have HP : Aside0 (¬ (fun k_ => True ∧ w3.heap.size ≤ k_ ∧ k_ < w6.heap.size ∧ ∃ q,q ∈ 50 :: (k50).E ∧ ∃ cells,w6.heap[k_]? = some (.cells cells q (0,0))) go) := ⟨(fun hs_ => ty_22 ⟨31,List.mem_singleton.2 rfl,_,BG.out⟩ hs_.2.2.2 (by decide))⟩
 have HK : Aside0 (Kept w6 w6 (fun k_ => (fun k_ => True ∧ w3.heap.size ≤ k_ ∧ k_ < w6.heap.size ∧ ∃ q,q ∈ 50 :: (k50).E ∧ ∃ cells,w6.heap[k_]? = some (.cells cells q (0,0))) k_ ∨ k_ = go)) := ⟨Kept.refl _ _⟩
 have BG := ak (blk_below BG.out B)
 have BE := ak (blk_below BE.out B)
 have BR := ak (blk_below BR.out B)
 have T1 := ak (Kd.S_below T1.out B)
 have T2 := ak (Kd.S_below T2.out B)
 have T3 := ak (Kd.R_below T3.out B)
 have HRR := ak (Kd.C_below HRR.out (below_step D6.out B))
 have HB := ak (below_step G.out B)
 have HK := ak (HK.out.below B)
 clear B
 refine start_ (n := 8) (S := fun w' => w'.cell? ⟨go,0,none⟩ = some (.bool b) ∧ w'.cell? ⟨go,1,none⟩ = some (.slice A1 p1.length c1) ∧ w'.cell? ⟨go,2,none⟩ = some (.slice A2 p2.length c2) ∧ w'.cell? ⟨go,3,none⟩ = some (.slice A3 p3.length c3) ∧ w'.cell? ⟨ge,0,none⟩ = some (.int .i64 a1_0) ∧ w'.cell? ⟨ge,1,none⟩ = some (.int .i64 a1_1) ∧ w'.cell? ⟨ge,2,none⟩ = some (.int .i64 a1_2) ∧ w'.cell? ⟨ge,3,none⟩ = some (.slice A1_3 l1_3.length c1_3)) (ds := [7]) #[false,false,false,false,false,false,false,false] (by kernel_rfl) rfl rfl ⟨(blk_cell BG.out 0).trans rfl,(blk_cell BG.out 1).trans rfl,(blk_cell BG.out 2).trans rfl,(blk_cell BG.out 3).trans rfl,(blk_cell BE.out 0).trans rfl,(blk_cell BE.out 1).trans rfl,(blk_cell BE.out 2).trans rfl,(blk_cell BE.out 3).trans rfl⟩ (fun hHeld => ?_)
 generalize w6.drew = wc at BE BG BR T1 T2 T3 HRR HB HK hHeld ⊢
 have HZW := ak HK.out.1
 have HWB := ak HB.out.size
 refine pure_ (i := 0) (N := some 24) (v := ?_) (a' := ?_) #[true,false,false,false,false,false,false,false] rfl rfl (by kernel_rfl) (fun _ _ _ h => h) (Or.inl ⟨by rfl,?_⟩) ?_ ?_
 rotate_left
 ·intro w'
  go_simp
  with_reducible rfl
 rotate_left
 ·simp only [Act.put,q1,q2,q3,i64_w,i32_w]
  rfl
 refine take_ (i := 1) (N := some 25) (v := ?_) (a' := ?_) #[true,true,false,false,false,false,false,false] rfl rfl (by kernel_rfl) (fun _ _ _ h => h) (Or.inl ⟨by rfl,?_⟩) hHeld ?_ ?_
 rotate_left
 ·rintro w' ⟨s0,s1,s2,s3,s4,s5,s6,s7⟩
  go_simp
  with_reducible rfl
 rotate_left
 ·simp only [Act.put,q1,q2,q3,i64_w,i32_w]
  rfl
 refine take_ (i := 2) (N := some 26) (v := ?_) (a' := ?_) #[true,true,true,false,false,false,false,false] rfl rfl (by kernel_rfl) (fun _ _ _ h => h) (Or.inl ⟨by rfl,?_⟩) hHeld ?_ ?_
 rotate_left
 ·rintro w' ⟨s0,s1,s2,s3,s4,s5,s6,s7⟩
  go_simp
  with_reducible rfl
 rotate_left
 ·simp only [Act.put,q1,q2,q3,i64_w,i32_w]
  rfl
 refine one_ (i := 3) (N := some 27) #[true,true,true,true,false,false,false,false] rfl rfl (by kernel_rfl) (by decide) (fun K hK => ?_)
 refine goes_ Tryz.func68 (by kernel_rfl) rfl #[.agg #[.int .i64 a1_0,.int .i64 a1_1,.int .i64 a1_2,.slice A1_3 l1_3.length c1_3]] (by rfl) rfl rfl (by (try simp only [List.map_toArray,List.map_cons,List.map_nil]);first|done|rfl) ?_
 refine (spec_l6Record.calls a1_0 a1_1 a1_2 A1_3 c1_3 l1_3 e0 e1 e2 e3 _ HRR.out HRC.out FC.out).mono ?_
 rintro e wq ⟨vn,rfl,S,B⟩
 refine ⟨_,rfl,?_⟩
 have N := ak S
 have NB := ak (Kd.R_base S)
 have T2 := ak (Kd.S_below (Kd.S_bound T2.out) B)
 have BG := ak (blk_below BG.out B)
 have BE := ak (blk_below BE.out B)
 have T1 := ak (Kd.S_below T1.out B)
 have T3 := ak (Kd.R_below T3.out B)
 have BR := ak (blk_below BR.out B)
 have HB := ak (below_step HB.out B)
 have HK := ak (HK.out.below B)
 have HZ2 := ak (HB.out.size)
 clear S B
 obtain ⟨An,cn,en⟩ := Kd.R_slice N.out
 subst en
 refine hK.out _ _ ⟨(blk_cell BG.out 0).trans rfl,(blk_cell BG.out 1).trans rfl,(blk_cell BG.out 2).trans rfl,(blk_cell BG.out 3).trans rfl,(blk_cell BE.out 0).trans rfl,(blk_cell BE.out 1).trans rfl,(blk_cell BE.out 2).trans rfl,(blk_cell BE.out 3).trans rfl⟩ (fun hHeld => ?_)
 clear hK K
 refine nr_ (some 27) _ ?_
 refine one_ (i := 4) (N := some 28) #[true,true,true,true,true,false,false,false] rfl rfl (by kernel_rfl) (by decide) (fun K hK => ?_)
 refine value_ (w1 := ?_) (v := ?_) (by rfl) rfl ?_ ?_
 rotate_left 2
 ·go_simp
  constructor
  ·rfl
  ·rfl
 refine hK.out _ _ ⟨(blk_cell (blk_alloc BG.out _) 0).trans rfl,(blk_cell (blk_alloc BG.out _) 1).trans rfl,(blk_cell (blk_alloc BG.out _) 2).trans rfl,(blk_cell (blk_alloc BG.out _) 3).trans rfl,(blk_cell (blk_alloc BE.out _) 0).trans rfl,(blk_cell (blk_alloc BE.out _) 1).trans rfl,(blk_cell (blk_alloc BE.out _) 2).trans rfl,(blk_cell (blk_alloc BE.out _) 3).trans rfl⟩ (fun hHeld => ?_)
 clear hK K
 refine nr_ (some 28) _ ?_
 refine one_ (i := 5) (N := some 29) #[true,true,true,true,true,true,false,false] rfl rfl (by kernel_rfl) (by decide) (fun K hK => ?_)
 refine Kd.S_append_step k50 (w0 := w3) w3.heap.size (by rfl) (.tmp 25) (.tmp 28) 29 50 (.agg #[.int .i64 0,.int .i64 0,.int .i64 0,.slice none 0 0]) 48 rfl Tryz.underlying29 info50 rfl (by decide) (by omega) (.slice A2 p2.length c2) p2 (⟨e0,e1,e2,e3⟩ : S50) [.int .i64 e0,.int .i64 e1,.int .i64 e2,.slice An e3.length cn] (fun k_ => (fun k_ => True ∧ w3.heap.size ≤ k_ ∧ k_ < w6.heap.size ∧ ∃ q,q ∈ 50 :: (k50).E ∧ ∃ cells,w6.heap[k_]? = some (.cells cells q (0,0))) k_ ∨ w6.heap.size ≤ k_) (fun k_ => some k_ = (.slice An e3.length cn : Value).ownBlock) rfl rfl ?aP (fun k_ hk_ => (⟨.inr (Nat.le_trans HZW.out (NB.out k_ hk_.symm)),fun e_ => absurd ((Kd.S_R T2.out).1 k_ e_.symm).2.2.1 (Nat.not_lt.2 (NB.out k_ hk_.symm))⟩ : ((fun k_ => True ∧ w3.heap.size ≤ k_ ∧ k_ < w6.heap.size ∧ ∃ q,q ∈ 50 :: (k50).E ∧ ∃ cells,w6.heap[k_]? = some (.cells cells q (0,0))) k_ ∨ w6.heap.size ≤ k_) ∧ some k_ ≠ (.slice A2 p2.length c2 : Value).ownBlock)) ?aF ?aO ?aB ?aS ?aL ?_
 (case aP => exact k50_mkM _ _ _ (⟨e0,e1,e2,e3⟩ : S50) (Kd.R_tight rfl (Kd.R_lower N.out HWB.out)))
 (case aB => exact HB.out)
 (case aF => exact (fun k_ hk => .inr (Nat.le_trans HK.out.1 hk)))
 (case aO => exact (Kd.S_mono T2.out (fun k_ hk => ⟨.inl hk.1,fun e_ => absurd hk.2.2.1 (Nat.not_lt.2 (NB.out k_ e_.symm))⟩)))
 (case aS => exact HZ2.out)
 (case aL => have := LM.out;omega)
 intro v4 wz ho hb hg hat
 have AW := ak (Kd.S_away T2.out (g := go) (fun k_ hk_ e_ => HP.out (e_ ▸ hk_.1)))
 have HK := ak (Kept.of_grown hg HK.out (fun k_ e_ => .inl (.inl ((Kd.S_R T2.out).1 k_ e_).1)))
 have BE := ak (blk_grown BE.out hg (Kd.S_away T2.out (g := ge) (fun k_ hk_ e_ => absurd hk_.1.2.1 (Nat.not_le.2 (by rw [e_];exact LE.out)))))
 have T1 := ak (Kd.S_over' T1.out (Kd.S_typed T2.out) (by decide) hg)
 have T3 := ak (Kd.R_over' T3.out (Kd.S_typed T2.out) (by decide) hg)
 have BR := ak (blk_grown BR.out hg (Kd.S_ne T2.out BR.out (by decide)))
 have BG := ak (blk_grown BG.out hg AW.out)
 have HB := ak hb
 have T4 := ak ho
 clear ho hb hg hat T2 N NB AW
 obtain ⟨A4,c4,e4_⟩ := Kd.S_slice T4.out
 subst e4_
 refine hK.out _ _ ⟨(blk_cell BG.out 0).trans rfl,(blk_cell BG.out 1).trans rfl,(blk_cell BG.out 2).trans rfl,(blk_cell BG.out 3).trans rfl,(blk_cell BE.out 0).trans rfl,(blk_cell BE.out 1).trans rfl,(blk_cell BE.out 2).trans rfl,(blk_cell BE.out 3).trans rfl⟩ (fun hHeld => ?_)
 clear hK K
 refine nr_ (some 29) _ ?_
 refine pure_ (i := 6) (N := some 30) (v := ?_) (a' := ?_) #[true,true,true,true,true,true,true,false] rfl rfl (by kernel_rfl) (fun _ _ _ h => h) (Or.inl ⟨by rfl,?_⟩) ?_ ?_
 rotate_left
 ·intro w'
  go_simp
  with_reducible rfl
 rotate_left
 ·simp only [Act.put,q1,q2,q3,i64_w,i32_w]
  rfl
 refine last_ (i := 7) (N := none) #[true,true,true,true,true,true,true,true] rfl rfl (by kernel_rfl) (by decide) (fun K hK => ?_)
 have hs_ : wz.cell? ⟨go,2,none⟩ = some (.slice A2 p2.length c2) := (blk_cell BG.out 2).trans rfl
 have hf_ := blk_frozen BG.out 2
 refine skip_ (w1 := (wz.setCell ⟨go,2,none⟩ (.slice A4 (p2 ++ [(⟨e0,e1,e2,e3⟩ : S50)]).length c4))) (by rfl) rfl ?_ ?_
 ·first|(go_simp;done)|(go_simp;rfl)|(go_simp;simp)
 refine hK.out _ _ ?_
 clear hK K
 refine done_ (by kernel_rfl) ?_
 clear hs_ hf_ hHeld
 have n0_ : Aside0 ((wz.setCell ⟨go,2,none⟩ (.slice A4 (p2 ++ [(⟨e0,e1,e2,e3⟩ : S50)]).length c4)).heap[go]? = some (.cells #[.bool b,.slice A1 p1.length c1,.slice A4 (p2 ++ [(⟨e0,e1,e2,e3⟩ : S50)]).length c4,.slice A3 p3.length c3] 31 (0,0))) := ⟨by refine blk_put (cs := #[.bool b,.slice A1 p1.length c1,.slice A2 p2.length c2,.slice A3 p3.length c3]) ?_ 2 _ (by first|rfl|simp);exact BG.out⟩
 have n1_ : Aside0 ((wz.setCell ⟨go,2,none⟩ (.slice A4 (p2 ++ [(⟨e0,e1,e2,e3⟩ : S50)]).length c4)).heap[gr]? = some (.cells #[.bool false,.slice none 0 0,.slice none 0 0,.slice none 0 0] 31 (0,0))) := ⟨blk_far BR.out NG.out _⟩
 have n2_ := ak (Kd.S_far (p := ⟨go,2,none⟩) (Kd.S_types T1.out BG.out (by decide)) (fun _ h_ => h_.2) (.slice A4 (p2 ++ [(⟨e0,e1,e2,e3⟩ : S50)]).length c4))
 have n3_ := ak (Kd.S_far (p := ⟨go,2,none⟩) (Kd.S_types T4.out BG.out (by decide)) (fun _ h_ => h_.2) (.slice A4 (p2 ++ [(⟨e0,e1,e2,e3⟩ : S50)]).length c4))
 have n4_ := ak (Kd.R_far (p := ⟨go,2,none⟩) (Kd.R_types T3.out BG.out (by decide)) (fun _ h_ => h_.2) (.slice A4 (p2 ++ [(⟨e0,e1,e2,e3⟩ : S50)]).length c4))
 have n5_ : Aside0 (Below w3.heap.size w3 (wz.setCell ⟨go,2,none⟩ (.slice A4 (p2 ++ [(⟨e0,e1,e2,e3⟩ : S50)]).length c4))) := ⟨below_set HB.out GO.out⟩
 clear T1 T4 T3 BR BG HB HK
 generalize (wz.setCell ⟨go,2,none⟩ (.slice A4 (p2 ++ [(⟨e0,e1,e2,e3⟩ : S50)]).length c4)) = w7 at n0_ n1_ n2_ n3_ n4_ n5_ ⊢
 have BG := n0_
 have BR := n1_
 have T1 := n2_
 have T4 := n3_
 have T3 := n4_
 have D7 := ak (below_step D3.out n5_.out)
 clear n0_ n1_ n2_ n3_ n4_ n5_
 have e4_ : (p2 ++ [(⟨e0,e1,e2,e3⟩ : S50)]).length = p2.length + 1 := by simp
 replace BG := BG.out
 replace T4 := T4.out
 rw [e4_] at T4 BG
 replace BG := ak BG
 replace T4 := ak T4
 clear e4_
 have hcgo7_0 : w7.cell? ⟨go,0,none⟩ = some (.bool b) := (blk_cell BG.out 0).trans rfl
 have hcgo7_1 : w7.cell? ⟨go,1,none⟩ = some (.slice A1 p1.length c1) := (blk_cell BG.out 1).trans rfl
 have hcgo7_2 : w7.cell? ⟨go,2,none⟩ = some (.slice A4 (p2.length + 1) c4) := (blk_cell BG.out 2).trans rfl
 have hcgo7_3 : w7.cell? ⟨go,3,none⟩ = some (.slice A3 p3.length c3) := (blk_cell BG.out 3).trans rfl
 obtain ⟨⟨hcgr7_0,hcgr7_1,hcgr7_2,hcgr7_3⟩,hfr7_0,hfr7_1,hfr7_2,hfr7_3⟩ := cl4_ BR.out
 go_wp2
 refine bodyPost_ret (results_ct rfl _ _ gr 31 #[.bool b,.slice A1 p1.length c1,.slice A4 (p2.length + 1) c4,.slice A3 p3.length c3] (0,0) _ rfl (pt4_ BR.out _ _ _ _) Tryz.underlying31 rfl (by kernel_rfl)) rfl ?_
 exact ⟨.slice A1 p1.length c1,.slice A4 (p2.length + 1) c4,.slice A3 p3.length c3,by first|rfl|(simp;done),Kd.S_mono (Kd.S_far (p := ⟨gr,3,none⟩) (Kd.S_far (p := ⟨gr,2,none⟩) (Kd.S_far (p := ⟨gr,1,none⟩) (Kd.S_far (p := ⟨gr,0,none⟩) (Kd.S_types (Kd.S_lower T1.out D3.out.size) BR.out (by decide)) (fun _ h_ => h_.2) (.bool b)) (fun _ h_ => h_.2) (.slice A1 p1.length c1)) (fun _ h_ => h_.2) (.slice A4 (p2.length + 1) c4)) (fun _ h_ => h_.2) (.slice A3 p3.length c3)) (fun _ _ => trivial),Kd.S_mono (Kd.S_far (p := ⟨gr,3,none⟩) (Kd.S_far (p := ⟨gr,2,none⟩) (Kd.S_far (p := ⟨gr,1,none⟩) (Kd.S_far (p := ⟨gr,0,none⟩) (Kd.S_types (Kd.S_lower T4.out D3.out.size) BR.out (by decide)) (fun _ h_ => h_.2) (.bool b)) (fun _ h_ => h_.2) (.slice A1 p1.length c1)) (fun _ h_ => h_.2) (.slice A4 (p2.length + 1) c4)) (fun _ h_ => h_.2) (.slice A3 p3.length c3)) (fun _ _ => trivial),Kd.R_mono (Kd.R_far (p := ⟨gr,3,none⟩) (Kd.R_far (p := ⟨gr,2,none⟩) (Kd.R_far (p := ⟨gr,1,none⟩) (Kd.R_far (p := ⟨gr,0,none⟩) (Kd.R_types (Kd.R_lower T3.out D3.out.size) BR.out (by decide)) (fun _ h_ => h_.2) (.bool b)) (fun _ h_ => h_.2) (.slice A1 p1.length c1)) (fun _ h_ => h_.2) (.slice A4 (p2.length + 1) c4)) (fun _ h_ => h_.2) (.slice A3 p3.length c3)) (fun _ _ => trivial),below_set (below_set (below_set (below_set D7.out GR.out) GR.out) GR.out) GR.out⟩

/-! ### impl_Machine_logged_1: function 117 -/
theorem impl_Machine_logged_1.calls (a0_0 a0_1 a0_2 : Int) (A0_3 : Option Addr) (c0_3 : Nat) (l0_3 : List (S119)) (g1 g2 g3 : Nat) (q1 q2 q3 : Int) (w : World) (h1 : w.cell? ⟨g1, 0, none⟩ = some (.int .i64 q1)) (h2 : w.cell? ⟨g2, 0, none⟩ = some (.int .i64 q2)) (h3 : w.cell? ⟨g3, 0, none⟩ = some (.int .i64 q3)) :
    Calls Tryz.prog 117 (#[.agg #[.int .i64 a0_0, .int .i64 a0_1, .int .i64 a0_2, .slice A0_3 l0_3.length c0_3]] ++ #[.pointer (some ⟨g1, 0, none⟩), .pointer (some ⟨g2, 0, none⟩), .pointer (some ⟨g3, 0, none⟩)]) w fun e w' => e = .returned (.bool ((a0_1 == q1) && ((a0_2 == q2) && (a0_0 == q3)))) ∧ Below w.heap.size w w' := by
 have hu := Tryz.underlying50
 have l1 : g1 < w.heap.size := World.block_lt_of_cell? w _ h1
 have l2 : g2 < w.heap.size := World.block_lt_of_cell? w _ h2
 have l3 : g3 < w.heap.size := World.block_lt_of_cell? w _ h3
 have n1 : g1 ≠ w.heap.size := Nat.ne_of_lt l1
 have n2 : g2 ≠ w.heap.size := Nat.ne_of_lt l2
 have n3 : g3 ≠ w.heap.size := Nat.ne_of_lt l3
 show Calls Tryz.prog 117 #[.agg #[.int .i64 a0_0,.int .i64 a0_1,.int .i64 a0_2,.slice A0_3 l0_3.length c0_3],.pointer (some ⟨g1,0,none⟩),.pointer (some ⟨g2,0,none⟩),.pointer (some ⟨g3,0,none⟩)] w _
 by_cases e1 : a0_1 = q1
 ·subst e1
  by_cases e2 : a0_2 = q2
  ·subst e2
   by_cases e3 : a0_0 = q3
   ·subst e3
    go_enter Tryz.func117,Tryz.ntmps117
    go_wp2
    go_ret
    exact ⟨by simp,(Below.refl _ _).alloc (Nat.le_refl _) _⟩
   ·have f3 : (a0_0 == q3) = false := by simpa using e3
    go_enter Tryz.func117,Tryz.ntmps117
    go_wp2
    go_ret
    exact ⟨by simp [e3],(Below.refl _ _).alloc (Nat.le_refl _) _⟩
  ·have f2 : (a0_2 == q2) = false := by simpa using e2
   go_enter Tryz.func117,Tryz.ntmps117
   go_wp2
   go_ret
   exact ⟨by simp [e2],(Below.refl _ _).alloc (Nat.le_refl _) _⟩
 ·have f1 : (a0_1 == q1) = false := by simpa using e1
  go_enter Tryz.func117,Tryz.ntmps117
  go_wp2
  go_ret
  exact ⟨by simp [e1],(Below.refl _ _).alloc (Nat.le_refl _) _⟩

/-! ### impl_Machine_logged: function 69 -/
theorem hold_69 {p : Prop} (h : Aside0 p) : p := h.out
def impl_Machine_logged.f (l2 : List (S50)) (a1 a2 a3 : Int) : Option (Int) := idxFrom (fun x : S50 => some ((x.f1 == a1) && ((x.f2 == a2) && (x.f0 == a3)))) l2 0
theorem impl_Machine_logged.calls (g : Nat) (A2 : Option Addr) (c2 : Nat) (l2 : List (S50)) (a1 a2 a3 : Int) (r : Int) (w : World) (hg2 : w.cell? ⟨g, 2, none⟩ = some (.slice A2 l2.length c2)) (hr2 : Kd.C k50 w A2 l2.length l2) (hc2 : l2.length ≤ c2) (h : impl_Machine_logged.f l2 a1 a2 a3 = some r) :
    Calls Tryz.prog 69 #[.pointer (some ⟨g, 0, none⟩), .int .i64 a1, .int .i64 a2, .int .i64 a3] w fun e w' => e = .returned (.int .i64 r) ∧ Below w.heap.size w w' := by
 have HG := ak hg2
 have HR := ak hr2
 have HC := ak hc2
 have H := ak h
 clear hg2 hr2 hc2 h
 go_enter Tryz.func69,Tryz.ntmps69
 go_wp2_with ((with_reducible refine gate_dst (N := 5) rfl ?_);refine bx_ 5 #[.int .i64 a1] 2 ?_;intro g1 hg w1 hbox hb;have hge := ak (Nat.le_of_eq hg.symm);clear hg;refine hold_69 ?_)
 refine ⟨?_⟩
 have D1 := ak hb
 have X1 := ak hbox
 clear hb hbox hge
 go_wp2_with ((with_reducible refine gate_dst (N := 6) rfl ?_);refine bx_ 6 #[.int .i64 a2] 2 ?_;intro g2 hg w2 hbox hb;have hge := ak (Nat.le_of_eq hg.symm);clear hg;refine hold_69 ?_)
 refine ⟨?_⟩
 have D2 := ak (below_step D1.out hb)
 have X1 := ak (blk_below X1.out hb)
 have X2 := ak hbox
 clear hb hbox hge
 go_wp2_with ((with_reducible refine gate_dst (N := 7) rfl ?_);refine bx_ 7 #[.int .i64 a3] 2 ?_;intro g3 hg w3 hbox hb;have hge := ak (Nat.le_of_eq hg.symm);clear hg;refine hold_69 ?_)
 refine ⟨?_⟩
 have D3 := ak (below_step D2.out hb)
 have X1 := ak (blk_below X1.out hb)
 have X2 := ak (blk_below X2.out hb)
 have X3 := ak hbox
 clear hb hbox hge
 have hi := impl_Record_116.idx (fun x : S50 => some ((x.f1 == a1) && ((x.f2 == a2) && (x.f0 == a3)))) 117 #[.pointer (some ⟨g1,0,none⟩),.pointer (some ⟨g2,0,none⟩),.pointer (some ⟨g3,0,none⟩)] (enters_of Tryz.func117 (by kernel_rfl) rfl) A2 c2 l2 w3 (fun x A3 c3 b W hb_ hB_ hL_ hC_ => by obtain rfl := Option.some.inj hb_;exact (impl_Machine_logged_1.calls x.f0 x.f1 x.f2 A3 c3 x.f3 g1 g2 g3 a1 a2 a3 W ((blk_cell (blk_below X1.out hB_) 0).trans rfl) ((blk_cell (blk_below X2.out hB_) 0).trans rfl) ((blk_cell (blk_below X3.out hB_) 0).trans rfl)).mono fun e w' hh => ⟨hh.1,below_step hB_ hh.2⟩) (Kd.C_below HR.out D3.out) HC.out r H.out
 have hcz : w3.cell? ⟨g,2,none⟩ = some (.slice A2 l2.length c2) := (D3.out.cell (World.block_lt_of_cell? _ _ HG.out)).trans HG.out
 go_wp2_with (go_at_call 116;refine hi.mono ?_;rintro e w' ⟨rfl,hb⟩)
 go_ret
 exact ⟨rfl,below_step D3.out hb⟩

/-! ### impl_Logged: function 23 -/
theorem hold_23 {p : Prop} (h : Aside0 p) : p := h.out
def impl_Logged.f (k : Nat) (a0_0 : Bool) (l0_1 : List (S83)) (l0_2 : List (S50)) (l0_3 : List Int) (a1 a2 a3 : Int) : Option (Int × Int × Int × (List (S119)) × Bool) := (impl_isMachineOk.f k a0_0 l0_1 l0_2 l0_3).bind fun t => if t = true then ((impl_Machine_logged.f l0_2 a1 a2 a3).bind fun i => if i < 0 then some (0, 0, 0, [], false) else if i < (l0_2.length : Int) then ((impl_cloneRecord.f (rd_T50 l0_2 i).f0 (rd_T50 l0_2 i).f1 (rd_T50 l0_2 i).f2 (rd_T50 l0_2 i).f3).bind fun c => some (c.1, c.2.1, c.2.2.1, c.2.2.2, true)) else none) else some (0, 0, 0, [], false)
theorem impl_Logged.calls (k : Nat) (a0_0 : Bool) (A0_1 : Option Addr) (c0_1 : Nat) (l0_1 : List (S83)) (A0_2 : Option Addr) (c0_2 : Nat) (l0_2 : List (S50)) (A0_3 : Option Addr) (c0_3 : Nat) (l0_3 : List Int) (a1 a2 a3 : Int) (r1 r2 r3 : Int) (r4 : List (S119)) (r5 : Bool) (w : World) (hr0_1 : Kd.C k83 w A0_1 l0_1.length l0_1) (hc0_1 : l0_1.length ≤ c0_1) (hr0_2 : Kd.C k50 w A0_2 l0_2.length l0_2) (hc0_2 : l0_2.length ≤ c0_2) (hr0_3 : Kd.C (Kd.int .i64) w A0_3 l0_3.length l0_3) (hc0_3 : l0_3.length ≤ c0_3) (h : impl_Logged.f k a0_0 l0_1 l0_2 l0_3 a1 a2 a3 = some (r1, r2, r3, r4, r5)) :
    Calls Tryz.prog 23 #[.agg #[.bool a0_0, .slice A0_1 l0_1.length c0_1, .slice A0_2 l0_2.length c0_2, .slice A0_3 l0_3.length c0_3], .int .i64 a1, .int .i64 a2, .int .i64 a3] w fun e w' => ∃ v3_ : Value, e = .returned (.tuple #[.agg #[.int .i64 r1, .int .i64 r2, .int .i64 r3, v3_], .bool r5]) ∧ Kd.R k119 119 w' w.heap.size (fun _ => True) v3_ r4 ∧ Below w.heap.size w w' := by
 have hu := Tryz.underlying31
 have hu2 := Tryz.underlying50
 have HR1 := ak hr0_1
 have HC1 := ak hc0_1
 have HR2 := ak hr0_2
 have HC2 := ak hc0_2
 have HR3 := ak hr0_3
 have HC3 := ak hc0_3
 clear hr0_1 hc0_1 hr0_2 hc0_2 hr0_3 hc0_3
 obtain ⟨t,E0,h1⟩ := Option.bind_eq_some_iff.1 h
 clear h
 have H1 := ak h1
 have F0 := ak E0
 clear h1 E0
 go_enter Tryz.func23,Tryz.ntmps23
 go_wp2_with ((with_reducible refine gate_dst (N := 4) rfl ?_);refine bx_ 4 #[.bool a0_0,.slice A0_1 l0_1.length c0_1,.slice A0_2 l0_2.length c0_2,.slice A0_3 l0_3.length c0_3] 31 ?_;intro gm hg w1 hbox hb;have hge := ak (Nat.le_of_eq hg.symm);clear hg;refine hold_23 ?_)
 refine ⟨?_⟩
 have D1 := ak hb
 have BM := ak hbox
 clear hb hbox hge
 go_wp2_with ((with_reducible refine gate_dst (N := 8) rfl ?_);refine bx_ 8 #[.int .i64 0,.int .i64 0,.int .i64 0,.slice none 0 0] 50 ?_;intro gr hg w2 hbox hb;have hge := ak (Nat.le_of_eq hg.symm);clear hg;refine hold_23 ?_)
 refine ⟨?_⟩
 have GR : Aside0 (w.heap.size ≤ gr) := ⟨Nat.le_trans D1.out.size hge.out⟩
 have D2 := ak (below_step D1.out hb)
 have BM := ak (blk_below BM.out hb)
 have BR := ak hbox
 clear hb hbox hge
 have hcm2_0 : w2.cell? ⟨gm,0,none⟩ = some (.bool a0_0) := (blk_cell BM.out 0).trans rfl
 have hcm2_1 : w2.cell? ⟨gm,1,none⟩ = some (.slice A0_1 l0_1.length c0_1) := (blk_cell BM.out 1).trans rfl
 have hcm2_2 : w2.cell? ⟨gm,2,none⟩ = some (.slice A0_2 l0_2.length c0_2) := (blk_cell BM.out 2).trans rfl
 have hcm2_3 : w2.cell? ⟨gm,3,none⟩ = some (.slice A0_3 l0_3.length c0_3) := (blk_cell BM.out 3).trans rfl
 go_wp2_with ((with_reducible refine gcal_ (f := 36) rfl ?_);refine gz_ (some 12) Tryz.func36 #[.agg #[.bool a0_0,.slice A0_1 l0_1.length c0_1,.slice A0_2 l0_2.length c0_2,.slice A0_3 l0_3.length c0_3]] ?_;refine (impl_isMachineOk.calls k a0_0 A0_1 c0_1 l0_1 A0_2 c0_2 l0_2 A0_3 c0_3 l0_3 t _ (Kd.C_below HR1.out D2.out) HC1.out (Kd.C_below HR2.out D2.out) HC2.out (Kd.C_below HR3.out D2.out) HC3.out F0.out).mono ?_;rintro e w3 ⟨rfl,B⟩;refine ⟨_,rfl,?_⟩;refine hold_23 ?_)
 refine ⟨?_⟩
 have D3 := ak (below_step D2.out B)
 have BM := ak (blk_below BM.out B)
 have BR := ak (blk_below BR.out B)
 clear B
 obtain ⟨⟨hcr3_0,hcr3_1,hcr3_2,hcr3_3⟩,hfr3_0,hfr3_1,hfr3_2,hfr3_3⟩ := cl4_ BR.out
 cases t with
  | false =>
  have h1 := H1.out
  rw [if_neg (by simp)] at h1
  simp only [Option.some.injEq,Prod.mk.injEq] at h1
  obtain ⟨rfl,rfl,rfl,rfl,rfl⟩ := h1
  clear H1
  go_wp2
  refine bodyPost_ret (results_ct rfl _ _ gr 50 #[.int .i64 0,.int .i64 0,.int .i64 0,.slice none 0 0] (0,0) _ rfl (pt4_ BR.out _ _ _ _) Tryz.underlying50 rfl (by kernel_rfl)) rfl ?_
  exact ⟨.slice none 0 0,by first|rfl|(simp;done),Kd.R_nil _ _ _ _ _,below_set (below_set (below_set (below_set D3.out GR.out) GR.out) GR.out) GR.out⟩
  | true =>
 have h1 := H1.out
 rw [if_pos rfl] at h1
 clear H1
 obtain ⟨i,E1,h2⟩ := Option.bind_eq_some_iff.1 h1
 clear h1
 have H2 := ak h2
 have F1 := ak E1
 clear h2 E1
 go_wp2_with ((with_reducible refine gcal_ (f := 69) rfl ?_);refine gz_ (some 18) Tryz.func69 #[.pointer (some ⟨gm,0,none⟩),.int .i64 a1,.int .i64 a2,.int .i64 a3] ?_;refine (impl_Machine_logged.calls gm A0_2 c0_2 l0_2 a1 a2 a3 i _ ((blk_cell BM.out 2).trans rfl) (Kd.C_below HR2.out D3.out) HC2.out F1.out).mono ?_;rintro e w4 ⟨rfl,B⟩;refine ⟨_,rfl,?_⟩;refine hold_23 ?_)
 refine ⟨?_⟩
 have D4 := ak (below_step D3.out B)
 have BM := ak (blk_below BM.out B)
 have BR := ak (blk_below BR.out B)
 clear B
 obtain ⟨⟨hcr4_0,hcr4_1,hcr4_2,hcr4_3⟩,hfr4_0,hfr4_1,hfr4_2,hfr4_3⟩ := cl4_ BR.out
 have hcm4_0 : w4.cell? ⟨gm,0,none⟩ = some (.bool a0_0) := (blk_cell BM.out 0).trans rfl
 have hcm4_1 : w4.cell? ⟨gm,1,none⟩ = some (.slice A0_1 l0_1.length c0_1) := (blk_cell BM.out 1).trans rfl
 have hcm4_2 : w4.cell? ⟨gm,2,none⟩ = some (.slice A0_2 l0_2.length c0_2) := (blk_cell BM.out 2).trans rfl
 have hcm4_3 : w4.cell? ⟨gm,3,none⟩ = some (.slice A0_3 l0_3.length c0_3) := (blk_cell BM.out 3).trans rfl
 by_cases ci : i < 0
 ·have h2 := H2.out
  rw [if_pos ci] at h2
  simp only [Option.some.injEq,Prod.mk.injEq] at h2
  obtain ⟨rfl,rfl,rfl,rfl,rfl⟩ := h2
  clear H2
  have cib : decide (i < 0) = true := decide_eq_true ci
  go_wp2
  refine bodyPost_ret (results_ct rfl _ _ gr 50 #[.int .i64 0,.int .i64 0,.int .i64 0,.slice none 0 0] (0,0) _ rfl (pt4_ BR.out _ _ _ _) Tryz.underlying50 rfl (by kernel_rfl)) rfl ?_
  exact ⟨.slice none 0 0,by first|rfl|(simp;done),Kd.R_nil _ _ _ _ _,below_set (below_set (below_set (below_set D4.out GR.out) GR.out) GR.out) GR.out⟩
 ·have h2 := H2.out
  rw [if_neg ci] at h2
  clear H2
  have cib : decide (i < 0) = false := decide_eq_false ci
  by_cases cj : i < (l0_2.length : Int)
  ·rw [if_pos cj] at h2
   obtain ⟨⟨n1,n2,n3,n4⟩,E2,h3⟩ := Option.bind_eq_some_iff.1 h2
   clear h2
   simp only [Option.some.injEq,Prod.mk.injEq] at h3
   obtain ⟨rfl,rfl,rfl,rfl,rfl⟩ := h3
   have F2 := ak E2
   clear E2
   have ci0 : 0 ≤ i := Int.not_lt.1 ci
   obtain ⟨ad1,Ae,ce,e1,hx1_0,hx1_1,hx1_2,hx1_3,hl1,hi1⟩ := at_T50 (Kd.C_below HR2.out D4.out) i ci0 cj
   cases e1
   have p1 : (0 ≤ i) = True := eq_true ci0
   have q1 : (i < (l0_2.length : Int)) = True := eq_true cj
   have HI := ak hi1
   have HL := ak hl1
   clear ci ci0 cj hi1 hl1
   go_wp2_with ((with_reducible refine gcal_ (f := 70) rfl ?_);refine gz_ (some 27) Tryz.func70 #[.agg #[.int .i64 (rd_T50 l0_2 i).f0,.int .i64 (rd_T50 l0_2 i).f1,.int .i64 (rd_T50 l0_2 i).f2,.slice Ae ((rd_T50 l0_2 i).f3).length ce]] ?_;refine (impl_cloneRecord.calls _ _ _ Ae ce ((rd_T50 l0_2 i).f3) n1 n2 n3 n4 _ HI.out HL.out F2.out).mono ?_;rintro e w5 ⟨vn,rfl,S,B⟩;refine ⟨_,rfl,?_⟩;refine hold_23 ?_)
   refine ⟨?_⟩
   have D5 := ak (below_step D4.out B)
   have BR := ak (blk_below BR.out B)
   have N := ak (Kd.R_lower S D4.out.size)
   clear S B
   obtain ⟨⟨hcr5_0,hcr5_1,hcr5_2,hcr5_3⟩,hfr5_0,hfr5_1,hfr5_2,hfr5_3⟩ := cl4_ BR.out
   obtain ⟨An,cn,en⟩ := Kd.R_slice N.out
   subst en
   go_wp2
   refine bodyPost_ret (results_ct rfl _ _ gr 50 #[.int .i64 (n1),.int .i64 (n2),.int .i64 (n3),.slice An n4.length cn] (0,0) _ rfl (pt4_ BR.out _ _ _ _) Tryz.underlying50 rfl (by kernel_rfl)) rfl ?_
   exact ⟨.slice An n4.length cn,by first|rfl|(simp;done),Kd.R_mono (Kd.R_far (p := ⟨gr,3,none⟩) (Kd.R_far (p := ⟨gr,2,none⟩) (Kd.R_far (p := ⟨gr,1,none⟩) (Kd.R_far (p := ⟨gr,0,none⟩) (Kd.R_types N.out BR.out (by decide)) (fun _ h_ => h_.2) (.int .i64 (n1))) (fun _ h_ => h_.2) (.int .i64 (n2))) (fun _ h_ => h_.2) (.int .i64 (n3))) (fun _ h_ => h_.2) (.slice An n4.length cn)) (fun _ _ => trivial),below_set (below_set (below_set (below_set D5.out GR.out) GR.out) GR.out) GR.out⟩
  ·rw [if_neg cj] at h2
   cases h2

end Go.Proofs.YthplaakckfhaaaaGreat.XMs
