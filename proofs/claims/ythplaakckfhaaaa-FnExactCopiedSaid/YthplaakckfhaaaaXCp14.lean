/- Proved: of each Go function here that a call comes to what the Lean function of its name tells. Written by a program of this session over the translation. No conditions beyond each theorem's own. -/
import Derived.Test.YthplaakckfhaaaaXCp0
import Derived.Test.YthplaakckfhaaaaXCp13
namespace Go.Proofs.Ythplaakckfhaaaa.XCp
open Go.RowKit Go.Proofs.Ythplaakckfhaaaa.Aid Go.Proofs.YthplaakckfhaaaaW.PrintWords Go.Proofs.YthplaakckfhaaaaW.PrintLast Go.Proofs.YthplaakckfhaaaaW.PrintMore
set_option linter.unusedVariables false
set_option linter.unusedSimpArgs false

/-! ### impl_Machine_cells: function 59 -/
def impl_Machine_cells.l0 : Nat → List (S79) → Int → Int → Option (List (S92))
  | 0, _, _, _ => none
  | k + 1, x0, x1, x12 => if x12 < (x0.length : Int) then (if 0 ≤ x12 then (if (rd_T79 x0 x12).f0 = x1 then (some ((rd_T79 x0 x12).f1)) else (impl_Machine_cells.l0 k x0 x1 (wrap64 (x12 + 1)))) else (none)) else (some [])
def impl_Machine_cells.f (k : Nat) (l1 : List (S79)) (a1 : Int) : Option (List (S92)) := impl_Machine_cells.l0 k l1 a1 0
set_option maxHeartbeats 8000000 in
set_option maxRecDepth 100000 in
theorem impl_Machine_cells.calls (k : Nat) (g : Nat) (A1 : Option Addr) (c1 : Nat) (l1 : List (S79)) (a1 : Int) (r : List (S92)) (w : World) (hg1 : w.cell? ⟨g, 1, none⟩ = some (.slice A1 l1.length c1)) (hr1 : Kd.C k79 w A1 l1.length l1) (hc1 : l1.length ≤ c1) (h : impl_Machine_cells.f k l1 a1 = some r) :
    Calls Try.prog 59 #[.pointer (some ⟨g, 0, none⟩), .int .i64 a1] w fun e w' => ∃ (A : Option Addr) (c : Nat), e = .returned (.slice A r.length c) ∧ r.length ≤ c ∧ Kd.C k92 w' A r.length r ∧ Below w.heap.size w w' := by
 have hu := Try.underlying79
 have HR := Aside0.mk hr1
 clear hr1
 have H' : Aside0 (impl_Machine_cells.l0 k l1 a1 0 = some r) := ⟨h⟩
 clear h
 go_enter Try.func59,Try.ntmps59
 go_wp2
 go_loopg [12] k (fun kq v12 w' => ∃ (x12_1 : Int),v12 = .int .i64 x12_1 ∧ Aside0 (impl_Machine_cells.l0 kq l1 a1 x12_1 = some r) ∧ Aside0 (kq ≤ k) ∧ Aside0 (Below w.heap.size w w'))
 case atStart => exact ⟨0,(by first|rfl|(simp;done)),H',⟨Nat.le_refl _⟩,⟨Below.refl _ _⟩⟩
 case round =>
  clear H' hg1
  obtain ⟨x12_1,rfl,HA,HK1,HB⟩ := hrel
  cases gk with
    | zero => exact absurd HA.out (by simp [impl_Machine_cells.l0])
    | succ k1 =>
   have H := HA.out
   clear HA
   simp only [impl_Machine_cells.l0] at H
   by_cases c3 : x12_1 < (l1.length : Int)
   ·rw [if_pos c3] at H
    have c3b0 : decide (x12_1 < (l1.length : Int)) = true := decide_eq_true c3
    by_cases c4 : 0 ≤ x12_1
    ·rw [if_pos c4] at H
     obtain ⟨ad1,Ae,ce,e1,hx1_0,hx1_1,hl1,hi1⟩ := at_T79 (Kd.C_below HR.out HB.out) x12_1 c4 c3
     cases e1
     have p1 := eq_true c4
     have q1 := eq_true c3
     have HI := Aside0.mk hi1
     have HL := Aside0.mk hl1
     clear c3 c4 hi1 hl1
     by_cases c5 : (rd_T79 l1 x12_1).f0 = a1
     ·rw [if_pos c5] at H
      have c5b0 : ((rd_T79 l1 x12_1).f0 == a1) = true := beq_iff_eq.mpr c5
      have c5b1 : decide ((rd_T79 l1 x12_1).f0 = a1) = true := decide_eq_true c5
      obtain rfl := Option.some.inj H
      clear H
      have HI2 : Aside0 (∀ W : World,Below w.heap.size w W → Below wr.heap.size wr W → Kd.C k92 W Ae ((rd_T79 l1 x12_1).f1).length ((rd_T79 l1 x12_1).f1)) := ⟨fun W _ hB => Kd.C_below HI.out hB⟩
      have HW := Aside0.mk (Below.refl wr.heap.size wr)
      have HB0 := HB
      clear c5
      go_wp2_with (first|((with_reducible refine gate_dst (N := 6) rfl ?_);refine box_event ?hg (N := 6) ?hd (cs := #[.int .i64 0,.slice none 0 0]) (t := 79) ?hr ?_;(case hd => rfl);(case hg => rfl);(case hr => first|(go_simp;done)|(go_simp;rfl));intro gb hg w14 hbox hb;have n0_ := Aside0.mk (below_step HB.out hb);have GE : Aside0 (w.heap.size ≤ gb) := ⟨by rw [hg];exact HB.out.size⟩;clear HB;have HB := n0_;clear n0_;have n1_ := Aside0.mk (below_step HW.out hb);have GW : Aside0 (wr.heap.size ≤ gb) := ⟨Nat.le_of_eq hg.symm⟩;clear HW;have HW := n1_;clear n1_;have hcz_0 : w14.cell? ⟨gb,0,none⟩ = some (.int .i64 0) := (blk_cell hbox 0).trans rfl;have hcz_1 : w14.cell? ⟨gb,1,none⟩ = some (.slice none 0 0) := (blk_cell hbox 1).trans rfl;have hfz_0 := blk_frozen hbox 0;have hfz_1 := blk_frozen hbox 1;clear hbox hb hg))
      go_ret
      exact ⟨Ae,ce,by first|rfl|(simp;done)|(simp [*];done),HL.out,HI2.out _ (by repeat (first|(with_reducible first|exact HB.out|apply below_alloc|apply pw_below_drewN|apply below_drew1|refine below_set ?_ GE.out)|exact HB.out)) (by repeat (first|(with_reducible first|exact HW.out|apply below_alloc|apply pw_below_drewN|apply below_drew1|refine below_set ?_ GW.out)|exact HW.out)),(by repeat (first|(with_reducible first|exact HB.out|apply below_alloc|apply pw_below_drewN|apply below_drew1|refine below_set ?_ GE.out)|exact HB.out))⟩
     ·rw [if_neg c5] at H
      have c5b0 : ((rd_T79 l1 x12_1).f0 == a1) = false := beq_eq_false_iff_ne.mpr c5
      have c5b1 : decide ((rd_T79 l1 x12_1).f0 = a1) = false := decide_eq_false c5
      have H' := Aside0.mk H
      clear H c5
      go_wp2_with (first|((with_reducible refine gate_dst (N := 6) rfl ?_);refine box_event ?hg (N := 6) ?hd (cs := #[.int .i64 0,.slice none 0 0]) (t := 79) ?hr ?_;(case hd => rfl);(case hg => rfl);(case hr => first|(go_simp;done)|(go_simp;rfl));intro gb hg w14 hbox hb;have n0_ := Aside0.mk (below_step HB.out hb);have GE : Aside0 (w.heap.size ≤ gb) := ⟨by rw [hg];exact HB.out.size⟩;clear HB;have HB := n0_;clear n0_;have hcz_0 : w14.cell? ⟨gb,0,none⟩ = some (.int .i64 0) := (blk_cell hbox 0).trans rfl;have hcz_1 : w14.cell? ⟨gb,1,none⟩ = some (.slice none 0 0) := (blk_cell hbox 1).trans rfl;have hfz_0 := blk_frozen hbox 0;have hfz_1 := blk_frozen hbox 1;clear hbox hb hg))
      go_roundg k1
      case measure => have := HK1.out;omega
      case rel => exact ⟨(wrap64 (x12_1 + 1)),(by first|rfl|(simp;done)|(simp [*];done)),H',⟨by have := HK1.out;omega⟩,⟨(by repeat (first|(with_reducible first|exact HB.out|apply below_alloc|apply pw_below_drewN|apply below_drew1|refine below_set ?_ GE.out)|exact HB.out))⟩⟩
    ·rw [if_neg c4] at H
     exact absurd H (by simp)
   ·rw [if_neg c3] at H
    have c3b0 : decide (x12_1 < (l1.length : Int)) = false := decide_eq_false c3
    clear c3
    obtain rfl := Option.some.inj H
    go_wp2
    go_ret
    have hN : Kd.C k92 wr none 0 [] := (Kd.R_reads' (Kd.R_nil k92 92 wr 0 (fun _ => True))).2.2
    first|exact ⟨none,0,rfl,Nat.le_refl _,hN,HB.out⟩|exact ⟨none,⟨0,rfl⟩,hN,HB.out⟩

/-! ### impl_Cell_60: function 60 -/
def impl_Cell_60.f (l0 : List (S92)) : Option ((List (S92))) := (some (([] : List (S92)) : List (S92))).bind fun y316 => (if y316.length + l0.length < 8796093022208 then (some (y316 ++ l0)) else (none))
set_option maxHeartbeats 8000000 in
set_option maxRecDepth 100000 in
theorem impl_Cell_60.calls (A0 : Option Addr) (c0 : Nat) (l0 : List (S92)) (r : List (S92)) (w : World) (hr0 : Kd.C k92 w A0 l0.length l0) (hc0 : l0.length ≤ c0) (h : impl_Cell_60.f l0 = some r) :
    Calls Try.prog 60 #[.slice A0 l0.length c0] w fun e w' => ∃ v0_ : Value, e = .returned (v0_) ∧ Kd.R k92 92 w' w.heap.size (fun _ => True) v0_ r ∧ Below w.heap.size w w' := by
 cases A0 with
  | none =>
  have hnil := fun (W : World) => Go.Lib.run_eql_slice_nil (P := Try.prog) W 36 92 none l0.length c0 0 0 Try.underlying36
  simp only [Option.isNone_none] at hnil
  have hl : l0 = [] := by
   rcases Nat.eq_zero_or_pos l0.length with h1 | h1
   ·exact List.length_eq_zero_iff.1 h1
   ·obtain ⟨_,e,_⟩ := hr0.2.2 h1
    cases e
  have hr : r = [] := by
   subst hl
   have h2 : some ([] : List _) = some r := by rw [← h];simp [impl_Cell_60.f]
   exact (Option.some.inj h2).symm
  subst hr
  clear h hr0
  subst hl
  simp only [List.length_nil] at hnil
  go_enter Try.func60,Try.ntmps60
  go_wp2
  go_ret
  exact ⟨_,rfl,Kd.R_nil _ _ _ _ _,Below.refl _ _⟩
  | some ad0 =>
  have hnil := fun (W : World) => Go.Lib.run_eql_slice_nil (P := Try.prog) W 36 92 (some ad0) l0.length c0 0 0 Try.underlying36
  simp only [Option.isNone_some] at hnil
  have HR0 := Aside0.mk hr0
  have HC0 := Aside0.mk hc0
  clear hr0 hc0
  have HB := Aside0.mk (Below.refl w.heap.size w)
  have H : ((some (([] : List (S92)) : List (S92))).bind fun y316 => (if y316.length + l0.length < 8796093022208 then (some (y316 ++ l0)) else (none))) = some r := h
  clear h
  obtain ⟨y316,hy316⟩ : ∃ y_ : List (S92),y_ = (([] : List (S92))) := ⟨_,rfl⟩
  replace H : (if y316.length + l0.length < 8796093022208 then (some (y316 ++ l0)) else (none)) = some r := by first|(rw [hy316];with_reducible exact H)|(have H2_ := (Option.bind_some _ _).symm.trans H;rw [hy316];with_reducible exact H2_)|(have H2_ := (Option.bind_some _ _).symm.trans H;with_reducible exact H2_)|with_reducible exact H|(rw [hy316];exact H)|exact H
  have Ny316 := Aside0.mk hy316
  clear hy316
  by_cases c2 : y316.length + l0.length < 8796093022208
  ·rw [if_pos c2] at H
   have LMc2 := Aside0.mk c2
   clear c2
   obtain ⟨y319,hy319⟩ : ∃ y_ : List (S92),y_ = (y316 ++ l0) := ⟨_,rfl⟩
   replace H : (some y319) = some r := by first|(rw [hy319];with_reducible exact H)|(have H2_ := (Option.bind_some _ _).symm.trans H;rw [hy319];with_reducible exact H2_)|(have H2_ := (Option.bind_some _ _).symm.trans H;with_reducible exact H2_)|with_reducible exact H|(rw [hy319];exact H)|exact H
   have Ny319 := Aside0.mk hy319
   clear hy319
   obtain rfl := Option.some.inj H
   go_enter Try.func60,Try.ntmps60
   go_wp2_with (first|((with_reducible refine gate_dst (N := 5) rfl ?_);refine Kd.R_lit k92 _ 92 ?hg (N := 5) ?hd (xs := ([] : List (S92))) (inner := []) (ok := fun _ => True) (okp := fun _ => True) ?hr ?hp (fun _ hk => hk) trivial (Below.refl _ _) (Nat.le_refl _) (by simp) ?_;(case hd => rfl);(case hg => rfl);(case hr => first|(go_simp;done)|(go_simp;rfl));(case hp => exact (Reps.none _ _));intro v317 w3 ho4 hb hg_ hnew_;clear hg_ hnew_;(first|rw [← Ny316.out] at ho4|(simp only [Int.reduceToNat] at ho4;rw [← Ny316.out] at ho4));have n0_ := Aside0.mk (Kd.R_lower ho4 (below_size (by repeat (first|(with_reducible first|exact HB.out|apply below_alloc|apply pw_below_drewN|apply below_drew1)|exact HB.out))));have n1_ := Aside0.mk (below_step (by repeat (first|(with_reducible first|exact HB.out|apply below_alloc|apply pw_below_drewN|apply below_drew1)|exact HB.out)) hb);clear HB;have HO318 := n0_;have HB := n1_;clear n0_ n1_;clear hb ho4)|((with_reducible refine gblt_ (b := .append) (xs := #[.tmp 5,.tmp 6]) rfl ?_);at_builtin;refine Kd.R_append_rows k92 (w0 := w) w.heap.size rfl (.tmp 5) (.tmp 6) 36 92 (.agg #[(.int .i64 0),(.int .i64 0)]) 16 rfl Try.underlying36 info92 rfl (by decide) (by omega) v317 y316 l0 _ _ _ (fun _ => True) (fun _ => False) rfl rfl ?aO ?aR (fun _ _ h => h) (fun _ h => h.elim) ?aF ?aB ?aS ?aL ?_;(case aR => repeat (first|exact (Kd.C_below HR0.out HB.out)|(with_reducible refine Kd.C_alloc ?_ _)|(with_reducible refine Kd.C_drewN ?_ _)|(with_reducible refine Kd.C_drew ?_)));(case aB => exact (by repeat (first|(with_reducible first|exact HB.out|apply below_alloc|apply pw_below_drewN|apply below_drew1)|exact HB.out)));(case aF => exact (fun _ _ => trivial));(case aO => exact (by (with_reducible repeat (first|apply Kd.R_alloc|apply Kd.R_drewN|apply Kd.R_drew));exact HO318.out));(case aS => exact (below_size (by repeat (first|(with_reducible first|exact HB.out|apply below_alloc|apply pw_below_drewN|apply below_drew1)|exact HB.out))));(case aL => have := LMc2.out;omega);intro v320 w5 ho hb hg hat;rw [← Ny319.out] at ho;have n0_ := Aside0.mk (hb);have n1_ := Aside0.mk (ho);clear HB;clear HO318;have HB := n0_;have HO321 := n1_;clear n0_ n1_;clear ho hb hg hat))
   go_ret
   exact ⟨_,by first|rfl|(simp [errW_none,errW_some] <;> rfl)|(simp [*,errW_none,errW_some] <;> rfl),by (with_reducible repeat (first|apply Kd.R_alloc|apply Kd.R_drewN|apply Kd.R_drew));exact HO321.out,by repeat (first|(with_reducible first|exact HB.out|apply below_alloc|apply pw_below_drewN|apply below_drew1)|exact HB.out)⟩
  ·rw [if_neg c2] at H
   exact absurd H (by simp)

/-! ### impl_Copied: function 16 -/
theorem hold_16 {p : Prop} (h : Aside0 p) : p := h.out
def impl_Copied.f (k : Nat) (a0_0 : Bool) (l0_1 : List (S79)) (l0_2 : List (S45)) (l0_3 : List Int) (a1 : Int) : Option ((List (S92)) × Bool) := (impl_isMachineOk.f k a0_0 l0_1 l0_2 l0_3).bind fun t => if t = true then ((impl_Machine_cells.f k l0_1 a1).bind fun c => (impl_Cell_60.f c).bind fun d => some (d, decide ((c.length : Int) > 0))) else some ([], false)
set_option maxHeartbeats 8000000 in
set_option maxRecDepth 100000 in
theorem impl_Copied.calls (k : Nat) (a0_0 : Bool) (A0_1 : Option Addr) (c0_1 : Nat) (l0_1 : List (S79)) (A0_2 : Option Addr) (c0_2 : Nat) (l0_2 : List (S45)) (A0_3 : Option Addr) (c0_3 : Nat) (l0_3 : List Int) (a1 : Int) (r1 : List (S92)) (r2 : Bool) (w : World) (hr0_1 : Kd.C k79 w A0_1 l0_1.length l0_1) (hc0_1 : l0_1.length ≤ c0_1) (hr0_2 : Kd.C k45 w A0_2 l0_2.length l0_2) (hc0_2 : l0_2.length ≤ c0_2) (hr0_3 : Kd.C (Kd.int .i64) w A0_3 l0_3.length l0_3) (hc0_3 : l0_3.length ≤ c0_3) (h : impl_Copied.f k a0_0 l0_1 l0_2 l0_3 a1 = some (r1, r2)) :
    Calls Try.prog 16 #[.agg #[.bool a0_0, .slice A0_1 l0_1.length c0_1, .slice A0_2 l0_2.length c0_2, .slice A0_3 l0_3.length c0_3], .int .i64 a1] w fun e w' => ∃ v0_ : Value, e = .returned (.tuple #[v0_, .bool r2]) ∧ Kd.R k92 92 w' w.heap.size (fun _ => True) v0_ r1 ∧ Below w.heap.size w w' := by
 have hu := Try.underlying32
 have HR1 := Aside0.mk hr0_1
 have HC1 := Aside0.mk hc0_1
 have HR2 := Aside0.mk hr0_2
 have HC2 := Aside0.mk hc0_2
 have HR3 := Aside0.mk hr0_3
 have HC3 := Aside0.mk hc0_3
 clear hr0_1 hc0_1 hr0_2 hc0_2 hr0_3 hc0_3
 obtain ⟨t,E0,h1⟩ := Option.bind_eq_some_iff.1 h
 clear h
 have H1 := Aside0.mk h1
 have F0 := Aside0.mk E0
 clear h1 E0
 go_enter Try.func16,Try.ntmps16
 go_wp2_with ((with_reducible refine gate_dst (N := 2) rfl ?_);refine box_event ?hg (N := 2) ?hd (cs := #[.bool a0_0,.slice A0_1 l0_1.length c0_1,.slice A0_2 l0_2.length c0_2,.slice A0_3 l0_3.length c0_3]) (t := 32) ?hr ?_;(case hd => rfl);(case hg => rfl);(case hr => first|(go_simp;done)|(go_simp;rfl));intro gb hg w1 hbox hb;clear hg;refine hold_16 ?_)
 refine ⟨?_⟩
 have D1 := Aside0.mk hb
 have BX := Aside0.mk hbox
 have hcz_0 : w1.cell? ⟨gb,0,none⟩ = some (.bool a0_0) := (blk_cell hbox 0).trans rfl
 have hfz_0 := blk_frozen hbox 0
 have hcz_1 : w1.cell? ⟨gb,1,none⟩ = some (.slice A0_1 l0_1.length c0_1) := (blk_cell hbox 1).trans rfl
 have hfz_1 := blk_frozen hbox 1
 have hcz_2 : w1.cell? ⟨gb,2,none⟩ = some (.slice A0_2 l0_2.length c0_2) := (blk_cell hbox 2).trans rfl
 have hfz_2 := blk_frozen hbox 2
 have hcz_3 : w1.cell? ⟨gb,3,none⟩ = some (.slice A0_3 l0_3.length c0_3) := (blk_cell hbox 3).trans rfl
 have hfz_3 := blk_frozen hbox 3
 clear hbox hb
 go_wp2_with ((with_reducible refine gcal_ (f := 53) rfl ?_);refine goesL_ (some 8) rfl rfl Try.func53 (by kernel_rfl) rfl #[.agg #[.bool a0_0,.slice A0_1 l0_1.length c0_1,.slice A0_2 l0_2.length c0_2,.slice A0_3 l0_3.length c0_3]] rfl (by (try simp only [List.map_toArray,List.map_cons,List.map_nil]);first|done|rfl) ?_;refine (impl_isMachineOk.calls k a0_0 A0_1 c0_1 l0_1 A0_2 c0_2 l0_2 A0_3 c0_3 l0_3 t _ (Kd.C_below HR1.out D1.out) HC1.out (Kd.C_below HR2.out D1.out) HC2.out (Kd.C_below HR3.out D1.out) HC3.out F0.out).mono ?_;rintro e w2 ⟨rfl,B⟩;refine ⟨_,rfl,?_⟩;refine hold_16 ?_)
 refine ⟨?_⟩
 have D2 := Aside0.mk (below_step D1.out B)
 have BX2 := Aside0.mk (blk_below BX.out B)
 clear B
 clear hcz_0 hcz_1 hcz_2 hcz_3 hfz_0 hfz_1 hfz_2 hfz_3
 cases t with
  | false =>
  have h1 := H1.out
  rw [if_neg (by simp)] at h1
  simp only [Option.some.injEq,Prod.mk.injEq] at h1
  obtain ⟨rfl,rfl⟩ := h1
  clear H1
  go_wp2
  go_ret2
  exact ⟨.slice none 0 0,rfl,Kd.R_nil _ _ _ _ _,D2.out⟩
  | true =>
 have h1 := H1.out
 rw [if_pos rfl] at h1
 clear H1
 obtain ⟨cs,E1,h2⟩ := Option.bind_eq_some_iff.1 h1
 clear h1
 obtain ⟨ds,E2,h3⟩ := Option.bind_eq_some_iff.1 h2
 clear h2
 simp only [Option.some.injEq,Prod.mk.injEq] at h3
 obtain ⟨rfl,rfl⟩ := h3
 have F1 := Aside0.mk E1
 have F2 := Aside0.mk E2
 clear E1 E2
 go_wp2_with ((with_reducible refine gcal_ (f := 59) rfl ?_);refine goesL_ (some 11) rfl rfl Try.func59 (by kernel_rfl) rfl #[.pointer (some ⟨gb,0,none⟩),.int .i64 a1] rfl (by (try simp only [List.map_toArray,List.map_cons,List.map_nil]);first|done|rfl) ?_;refine (impl_Machine_cells.calls k gb A0_1 c0_1 l0_1 a1 cs _ ((blk_cell BX2.out 1).trans rfl) (Kd.C_below HR1.out D2.out) HC1.out F1.out).mono ?_;rintro e w3 ⟨Ac,cc,rfl,hl,hC,B⟩;refine ⟨_,rfl,?_⟩;refine hold_16 ?_)
 refine ⟨?_⟩
 have D3 := Aside0.mk (below_step D2.out B)
 have HL := Aside0.mk hl
 have HQ := Aside0.mk hC
 clear B hl hC
 go_wp2_with ((with_reducible refine gcal_ (f := 60) rfl ?_);refine goesL_ (some 13) rfl rfl Try.func60 (by kernel_rfl) rfl #[.slice Ac cs.length cc] rfl (by (try simp only [List.map_toArray,List.map_cons,List.map_nil]);first|done|rfl) ?_;refine (impl_Cell_60.calls Ac cc cs ds _ HQ.out HL.out F2.out).mono ?_;rintro e w4 ⟨v,rfl,S,B⟩;refine ⟨_,rfl,?_⟩;refine hold_16 ?_)
 refine ⟨?_⟩
 have D4 := Aside0.mk (below_step D3.out B)
 have T := Aside0.mk S
 clear S B
 go_wp2
 go_ret2
 exact ⟨v,by first|rfl|(simp;done),Kd.R_lower T.out D3.out.size,D4.out⟩

/-! ### laws_markCellS: function 19 -/
def laws_markCellS.l0 : Nat → List (S92) → Int → Int → Option (Int × (List (S92)))
  | 0, _, _, _ => none
  | k + 1, x0, x1, x5 => if x5 < (x0.length : Int) then (if 0 ≤ x5 then ((some (x0.set (x5 : Int).toNat (⟨x1, (rd_T92 x0 x5).f1⟩ : S92) : List (S92))).bind fun y322 => (laws_markCellS.l0 k (y322.set (x5 : Int).toNat (⟨(rd_T92 y322 x5).f0, wrap64 (x1 + 1)⟩ : S92)) (wrap64 ((wrap64 (x1 + 1)) + 1)) (wrap64 (x5 + 1)))) else (none)) else (some (x1, x0))
def laws_markCellS.f (k : Nat) (l0 : List (S92)) (a1 : Int) : Option (Int × (List (S92))) := laws_markCellS.l0 k l0 a1 0

set_option maxHeartbeats 8000000 in
set_option maxRecDepth 100000 in
theorem laws_markCellS.calls (k : Nat) (P0_ : Nat → Prop) (u9000_ : Value) (l0 : List (S92)) (a1 : Int) (r1 : Int) (r2 : List (S92)) (w0 w : World) (hB : Below w0.heap.size w0 w) (ho0 : Kd.R k92 92 w w0.heap.size P0_ u9000_ l0) (h : laws_markCellS.f k l0 a1 = some (r1, r2)) :
    Calls Try.prog 19 #[u9000_, .int .i64 a1] w fun e w' => e = .returned (.int .i64 r1) ∧ Kd.R k92 92 w' w0.heap.size (fun k_ => (P0_ k_ ∨ w.heap.size ≤ k_)) u9000_ r2 ∧ Below w0.heap.size w0 w' ∧ Kept w w' (fun k_ => P0_ k_) := by
 have HO0 := Aside0.mk (show Kd.R k92 92 w w0.heap.size (fun k_ => (P0_ k_ ∨ w.heap.size ≤ k_)) u9000_ l0 from Kd.R_mono ho0 (fun k_ hk => (.inl hk)))
 have HK := Aside0.mk (Kept.refl w (fun k_ => P0_ k_))
 have HW0 := Aside0.mk hB.size
 have HB := Aside0.mk hB
 clear hB
 have H : (laws_markCellS.l0 k l0 a1 0) = some (r1,r2) := h
 clear h
 have H' := Aside0.mk H
 clear H
 go_enter Try.func19,Try.ntmps19
 go_wp2
 go_loopg [1,5] k (fun kq v1 v5 w' => ∃ (x0_1 : List (S92)) (x1_1 : Int) (x5_1 : Int),v1 = .int .i64 x1_1 ∧ v5 = .int .i64 x5_1 ∧ Aside0 (laws_markCellS.l0 kq x0_1 x1_1 x5_1 = some (r1,r2)) ∧ Aside0 (kq ≤ k) ∧ Aside0 (Kd.R k92 92 w' w0.heap.size (fun k_ => (P0_ k_ ∨ w.heap.size ≤ k_)) u9000_ x0_1) ∧ Aside0 (Kept w w' (fun k_ => P0_ k_)) ∧ Aside0 (Below w0.heap.size w0 w'))
 case atStart => exact ⟨(l0),(a1),(0),(by first|rfl|(simp;done)|(simp [*];done)),(by first|rfl|(simp;done)|(simp [*];done)),H',⟨Nat.le_refl _⟩,⟨by (with_reducible repeat (first|apply Kd.R_alloc|apply Kd.R_drewN|apply Kd.R_drew));exact HO0.out⟩,⟨by repeat (first|(with_reducible first|exact HK.out|apply Kept.alloc|apply Kept.drewN|apply Kept.drew)|exact HK.out)⟩,⟨by repeat (first|(with_reducible first|exact HB.out|apply below_alloc|apply pw_below_drewN|apply below_drew1)|exact HB.out)⟩⟩
 case round =>
  clear H'
  try clear c1
  try clear p2
  obtain ⟨x0_1,x1_1,x5_1,rfl,rfl,HA,HK1,HO_0,HK,HB⟩ := hrel
  cases gk with
    | zero => exact absurd HA.out (by simp [laws_markCellS.l0])
    | succ k1 =>
   have H := HA.out
   clear HA
   simp only [laws_markCellS.l0] at H
   by_cases c3 : x5_1 < (x0_1.length : Int)
   ·rw [if_pos c3] at H
    have c3b0 : decide (x5_1 < (x0_1.length : Int)) = true := decide_eq_true c3
    clear c3
    by_cases c4 : 0 ≤ x5_1
    ·rw [if_pos c4] at H
     have c4b0 : decide (0 ≤ x5_1) = true := decide_eq_true c4
     clear c4
     obtain ⟨y322,hy322⟩ : ∃ y_ : List (S92),y_ = (x0_1.set (x5_1 : Int).toNat (⟨x1_1,(rd_T92 x0_1 x5_1).f1⟩ : S92)) := ⟨_,rfl⟩
     replace H : (laws_markCellS.l0 k1 (y322.set (x5_1 : Int).toNat (⟨(rd_T92 y322 x5_1).f0,wrap64 (x1_1 + 1)⟩ : S92)) (wrap64 ((wrap64 (x1_1 + 1)) + 1)) (wrap64 (x5_1 + 1))) = some (r1,r2) := by first|(rw [hy322];with_reducible exact H)|(have H2_ := (Option.bind_some _ _).symm.trans H;rw [hy322];with_reducible exact H2_)|(have H2_ := (Option.bind_some _ _).symm.trans H;with_reducible exact H2_)|with_reducible exact H|(rw [hy322];exact H)|exact H
     have Ny322 := Aside0.mk hy322
     clear hy322
     obtain ⟨y323,hy323⟩ : ∃ y_ : List (S92),y_ = (y322.set (x5_1 : Int).toNat (⟨(rd_T92 y322 x5_1).f0,wrap64 (x1_1 + 1)⟩ : S92)) := ⟨_,rfl⟩
     replace H : (laws_markCellS.l0 k1 y323 (wrap64 ((wrap64 (x1_1 + 1)) + 1)) (wrap64 (x5_1 + 1))) = some (r1,r2) := by first|(rw [hy323];with_reducible exact H)|(have H2_ := (Option.bind_some _ _).symm.trans H;rw [hy323];with_reducible exact H2_)|(have H2_ := (Option.bind_some _ _).symm.trans H;with_reducible exact H2_)|with_reducible exact H|(rw [hy323];exact H)|exact H
     have Ny323 := Aside0.mk hy323
     clear hy323
     have H' := Aside0.mk H
     clear H
     obtain ⟨Ao7,co7,eo7⟩ := Kd.R_slice HO_0.out
     subst eo7
     have p5 : 0 ≤ (x5_1 : Int) := of_decide_eq_true (by first|(with_reducible assumption)|assumption)
     have q5 : (x5_1 : Int) < ((x0_1.length : Int) : Int) := of_decide_eq_true (by first|(with_reducible assumption)|assumption)
     obtain ⟨go5,co5,eo5,gb5,gl5,cl5,HG5⟩ := Kd.R_form HO_0.out (by omega)
     (first|cases eo5|(injection eo5 with ea_ en_ ec_;(first|subst ea_|(injection ea_ with ea_;subst ea_));subst ec_;clear en_))
     have GB5 := Aside0.mk gb5
     have GG5 := Aside0.mk HG5
     clear gb5 gl5 HG5
     have HMgo5 := Aside0.mk (show (P0_ go5 ∨ w.heap.size ≤ go5) from (HO_0.out.1 _ rfl))
     obtain ⟨ce5,hcl5,hM5,hcc5,hfr5⟩ := Kd.R_elem HO_0.out z92 (x5_1 : Int) p5 q5
     obtain rfl := k92_openM hM5
     have hx5_0 : wr.cell? ⟨go5,(x5_1 : Int).toNat * 2,none⟩ = some (.int .i64 ((rd_T92 x0_1 x5_1).f0)) := hcc5 0 _ rfl
     have hx5_1 : wr.cell? ⟨go5,(x5_1 : Int).toNat * 2 + 1,none⟩ = some (.int .i64 ((rd_T92 x0_1 x5_1).f1)) := hcc5 1 _ rfl
     have hf5_0 : wr.frozen? ⟨go5,(x5_1 : Int).toNat * 2,none⟩ = false := hfr5 0
     have hf5_1 : wr.frozen? ⟨go5,(x5_1 : Int).toNat * 2 + 1,none⟩ = false := hfr5 1
     clear hcl5 hcc5 hfr5 hM5
     replace p5 := eq_true p5
     replace q5 := eq_true q5
     have HX8 := Aside0.mk (show Kd.R k92 92 wr w0.heap.size (fun k_ => (P0_ k_ ∨ w.heap.size ≤ k_)) (.slice (some ⟨go5,0,none⟩) x0_1.length co7) x0_1 from (by (with_reducible repeat (first|apply Kd.R_alloc|apply Kd.R_drewN|apply Kd.R_drew));exact HO_0.out))
     obtain ⟨ce8,hcl8,hM8,hcc8,hfr8⟩ := Kd.R_elem HX8.out z92 (x5_1 : Int) (of_decide_eq_true (by first|(with_reducible assumption)|assumption)) (by have h_ : (x5_1 : Int) < ((x0_1.length : Int) : Int) := of_decide_eq_true (by first|(with_reducible assumption)|assumption);first|exact h_|(have e_ := (Kd.R_reads' HO_0.out).1;omega)|simpa using h_)
     obtain rfl := k92_openM hM8
     have HP8 := Kd.R_seg HX8.out (x5_1 : Int) (of_decide_eq_true (by first|(with_reducible assumption)|assumption)) (by have h_ : (x5_1 : Int) < ((x0_1.length : Int) : Int) := of_decide_eq_true (by first|(with_reducible assumption)|assumption);first|exact h_|(have e_ := (Kd.R_reads' HO_0.out).1;omega)|simpa using h_) (seg := [.int .i64 x1_1]) (j := 0) hcl8 hcc8 (show 1 ≤ 2 from by decide) (x' := (⟨x1_1,(rd_T92 x0_1 x5_1).f1⟩ : S92)) (k92_mkM _ _ _ (⟨x1_1,(rd_T92 x0_1 x5_1).f1⟩ : S92) ) (fun _ hk => hk)
     have hx8_0 := hcc8 0 _ rfl
     (try simp only [show (k92).sz = 2 from rfl,Nat.mul_one,Nat.add_zero] at hx8_0)
     have hf8_0 := hfr8 0
     (try simp only [show (k92).sz = 2 from rfl,Nat.mul_one,Nat.add_zero] at hf8_0)
     clear hcl8 hcc8 hfr8 hM8
     go_wp2_with (first|((with_reducible refine gate_store (t := 2) (p := 16) rfl ?_);refine store_event (t := 2) (p := 16) (v := ?vo_w9) (w1 := (wr.setCell ⟨go5,(x5_1 : Int).toNat * 2,none⟩ (.int .i64 x1_1))) ?hg ?ho ?hn ?hr ?_;(case ho => rfl);(case hg => rfl);(case hn => rfl);(case hr => first|(go_simp;done)|(go_simp;rfl)|(obtain ⟨_,_,e_⟩ := Kd.R_slice HO_0.out;subst e_;first|(go_simp;done)|(go_simp;rfl)));intro w9 hw;have hg : wr.grownBy w9 (some go5) := (by rw [hw];exact HP8.2);have hp_ : Kd.R k92 92 w9 w0.heap.size (fun k_ => (P0_ k_ ∨ w.heap.size ≤ k_)) (.slice (some ⟨go5,0,none⟩) x0_1.length co7) y322 := (by rw [hw,Ny322.out];exact HP8.1);clear HP8;have n0_ := Aside0.mk (hp_);have n1_ := Aside0.mk ((by rw [hw];exact below_set (HB.out) GB5.out : Below w0.heap.size w0 w9));have n2_ := Aside0.mk (Kept.of_grown (S := (fun k_ => P0_ k_)) hg (by repeat (first|(with_reducible first|exact HK.out|apply Kept.alloc|apply Kept.drewN|apply Kept.drew)|exact HK.out)) (fun k_ e_ => (HO_0.out.1 k_ e_)));clear HO_0;clear HB;clear HK;have HO_0 := n0_;have HB := n1_;have HK := n2_;clear n0_ n1_ n2_;clear hg hw hp_;have p6 : 0 ≤ (x5_1 : Int) := of_decide_eq_true (by first|(with_reducible assumption)|assumption);have q6 : (x5_1 : Int) < ((x0_1.length : Int) : Int) := of_decide_eq_true (by first|(with_reducible assumption)|assumption);obtain ⟨ce6,hcl6,hM6,hcc6,hfr6⟩ := Kd.R_elem HO_0.out z92 (x5_1 : Int) p6 q6;obtain rfl := k92_openM hM6;have hx6_0 : w9.cell? ⟨go5,(x5_1 : Int).toNat * 2,none⟩ = some (.int .i64 ((rd_T92 y322 x5_1).f0)) := hcc6 0 _ rfl;have hx6_1 : w9.cell? ⟨go5,(x5_1 : Int).toNat * 2 + 1,none⟩ = some (.int .i64 ((rd_T92 y322 x5_1).f1)) := hcc6 1 _ rfl;have hf6_0 : w9.frozen? ⟨go5,(x5_1 : Int).toNat * 2,none⟩ = false := hfr6 0;have hf6_1 : w9.frozen? ⟨go5,(x5_1 : Int).toNat * 2 + 1,none⟩ = false := hfr6 1;clear hcl6 hcc6 hfr6 hM6;replace p6 := eq_true p6;replace q6 := eq_true q6;have HX10 := Aside0.mk (show Kd.R k92 92 w9 w0.heap.size (fun k_ => (P0_ k_ ∨ w.heap.size ≤ k_)) (.slice (some ⟨go5,0,none⟩) x0_1.length co7) y322 from (by (with_reducible repeat (first|apply Kd.R_alloc|apply Kd.R_drewN|apply Kd.R_drew));exact HO_0.out));obtain ⟨ce10,hcl10,hM10,hcc10,hfr10⟩ := Kd.R_elem HX10.out z92 (x5_1 : Int) (of_decide_eq_true (by first|(with_reducible assumption)|assumption)) (by have h_ : (x5_1 : Int) < ((x0_1.length : Int) : Int) := of_decide_eq_true (by first|(with_reducible assumption)|assumption);first|exact h_|(have e_ := (Kd.R_reads' HO_0.out).1;omega)|simpa using h_);obtain rfl := k92_openM hM10;have HP10 := Kd.R_seg HX10.out (x5_1 : Int) (of_decide_eq_true (by first|(with_reducible assumption)|assumption)) (by have h_ : (x5_1 : Int) < ((x0_1.length : Int) : Int) := of_decide_eq_true (by first|(with_reducible assumption)|assumption);first|exact h_|(have e_ := (Kd.R_reads' HO_0.out).1;omega)|simpa using h_) (seg := [.int .i64 (wrap64 (x1_1 + 1))]) (j := 1) hcl10 hcc10 (show 2 ≤ 2 from by decide) (x' := (⟨(rd_T92 y322 x5_1).f0,wrap64 (x1_1 + 1)⟩ : S92)) (k92_mkM _ _ _ (⟨(rd_T92 y322 x5_1).f0,wrap64 (x1_1 + 1)⟩ : S92) ) (fun _ hk => hk);have hx10_1 := hcc10 1 _ rfl;(try simp only [show (k92).sz = 2 from rfl,Nat.mul_one,Nat.add_zero] at hx10_1);have hf10_1 := hfr10 1;(try simp only [show (k92).sz = 2 from rfl,Nat.mul_one,Nat.add_zero] at hf10_1);clear hcl10 hcc10 hfr10 hM10)|((with_reducible refine gate_store (t := 2) (p := 23) rfl ?_);refine store_event (t := 2) (p := 23) (v := ?vo_w11) (w1 := (w9.setCell ⟨go5,(x5_1 : Int).toNat * 2 + 1,none⟩ (.int .i64 (wrap64 (x1_1 + 1))))) ?hg ?ho ?hn ?hr ?_;(case ho => rfl);(case hg => rfl);(case hn => rfl);(case hr => first|(go_simp;done)|(go_simp;rfl)|(obtain ⟨_,_,e_⟩ := Kd.R_slice HO_0.out;subst e_;first|(go_simp;done)|(go_simp;rfl)));intro w11 hw;have hg : w9.grownBy w11 (some go5) := (by rw [hw];exact HP10.2);have hp_ : Kd.R k92 92 w11 w0.heap.size (fun k_ => (P0_ k_ ∨ w.heap.size ≤ k_)) (.slice (some ⟨go5,0,none⟩) x0_1.length co7) y323 := (by rw [hw,Ny323.out];exact HP10.1);clear HP10;have n0_ := Aside0.mk (hp_);have n1_ := Aside0.mk ((by rw [hw];exact below_set (HB.out) GB5.out : Below w0.heap.size w0 w11));have n2_ := Aside0.mk (Kept.of_grown (S := (fun k_ => P0_ k_)) hg (by repeat (first|(with_reducible first|exact HK.out|apply Kept.alloc|apply Kept.drewN|apply Kept.drew)|exact HK.out)) (fun k_ e_ => (HO_0.out.1 k_ e_)));clear HO_0;clear HB;clear HK;have HO_0 := n0_;have HB := n1_;have HK := n2_;clear n0_ n1_ n2_;clear hg hw hp_))
     go_roundg k1
     case measure => have := HK1.out;omega
     case rel => exact ⟨(y323),(wrap64 ((wrap64 (x1_1 + 1)) + 1)),(wrap64 (x5_1 + 1)),(by first|rfl|(simp;done)|(simp [*];done)),(by first|rfl|(simp;done)|(simp [*];done)),H',⟨by have := HK1.out;omega⟩,⟨by (with_reducible repeat (first|apply Kd.R_alloc|apply Kd.R_drewN|apply Kd.R_drew));exact HO_0.out⟩,⟨by repeat (first|(with_reducible first|exact HK.out|apply Kept.alloc|apply Kept.drewN|apply Kept.drew)|exact HK.out)⟩,⟨by repeat (first|(with_reducible first|exact HB.out|apply below_alloc|apply pw_below_drewN|apply below_drew1)|exact HB.out)⟩⟩
    ·rw [if_neg c4] at H
     exact absurd H (by simp)
   ·rw [if_neg c3] at H
    have c3b0 : decide (x5_1 < (x0_1.length : Int)) = false := decide_eq_false c3
    clear c3
    simp only [Option.some.injEq,Prod.mk.injEq] at H
    obtain ⟨rfl,rfl⟩ := H
    obtain ⟨Ao12,co12,eo12⟩ := Kd.R_slice HO_0.out
    subst eo12
    go_wp2
    go_ret
    exact ⟨by first|rfl|(simp [errW_none,errW_some] <;> rfl)|(simp [*,errW_none,errW_some] <;> rfl),by (with_reducible repeat (first|apply Kd.R_alloc|apply Kd.R_drewN|apply Kd.R_drew));exact HO_0.out,by repeat (first|(with_reducible first|exact HB.out|apply below_alloc|apply pw_below_drewN|apply below_drew1)|exact HB.out),by repeat (first|(with_reducible first|exact HK.out|apply Kept.alloc|apply Kept.drewN|apply Kept.drew)|exact HK.out)⟩

/-! ### laws_markCopyS: function 62 -/
def laws_markCopyS.l0 : Nat → List (S79) → Int → Int → Option (Int × (List (S79)))
  | 0, _, _, _ => none
  | k + 1, x0, x1, x5 => if x5 < (x0.length : Int) then (if 0 ≤ x5 then ((laws_markCellS.f k ((rd_T79 x0 x5).f1) (wrap64 (x1 + 1))).bind fun bt => (laws_markCopyS.l0 k (x0.set (x5 : Int).toNat (⟨x1, bt.2⟩ : S79)) bt.1 (wrap64 (x5 + 1)))) else (none)) else (some (x1, x0))
def laws_markCopyS.f (k : Nat) (l0 : List (S79)) (a1 : Int) : Option (Int × (List (S79))) := laws_markCopyS.l0 k l0 a1 0

set_option maxHeartbeats 8000000 in
set_option maxRecDepth 100000 in
theorem laws_markCopyS.calls (k : Nat) (P0_ : Nat → Prop) (u9000_ : Value) (l0 : List (S79)) (a1 : Int) (r1 : Int) (r2 : List (S79)) (w0 w : World) (hB : Below w0.heap.size w0 w) (ho0 : Kd.S k79 79 w w0.heap.size P0_ u9000_ l0) (h : laws_markCopyS.f k l0 a1 = some (r1, r2)) :
    Calls Try.prog 62 #[u9000_, .int .i64 a1] w fun e w' => e = .returned (.int .i64 r1) ∧ Kd.S k79 79 w' w0.heap.size (fun k_ => (P0_ k_ ∨ w.heap.size ≤ k_)) u9000_ r2 ∧ Below w0.heap.size w0 w' ∧ Kept w w' (fun k_ => P0_ k_) := by
 have HO0 := Aside0.mk (show Kd.S k79 79 w w0.heap.size (fun k_ => (P0_ k_ ∨ w.heap.size ≤ k_)) u9000_ l0 from Kd.S_mono ho0 (fun k_ hk => (.inl hk)))
 have HK := Aside0.mk (Kept.refl w (fun k_ => P0_ k_))
 have HB := Aside0.mk hB
 clear hB ho0
 have H : (laws_markCopyS.l0 k l0 a1 0) = some (r1,r2) := h
 clear h
 have H' := Aside0.mk H
 clear H
 go_enter Try.func62,Try.ntmps62
 go_wp2
 go_loopg [1,5] k (fun kq v1 v5 w' => ∃ (x0_1 : List (S79)) (x1_1 : Int) (x5_1 : Int),v1 = .int .i64 x1_1 ∧ v5 = .int .i64 x5_1 ∧ Aside0 (laws_markCopyS.l0 kq x0_1 x1_1 x5_1 = some (r1,r2)) ∧ Aside0 (kq ≤ k) ∧ Aside0 (Kd.S k79 79 w' w0.heap.size (fun k_ => (P0_ k_ ∨ w.heap.size ≤ k_)) u9000_ x0_1) ∧ Aside0 (Kept w w' (fun k_ => P0_ k_)) ∧ Aside0 (Below w0.heap.size w0 w'))
 case atStart => exact ⟨l0,a1,0,(by first|rfl|(simp;done)),(by first|rfl|(simp;done)),H',⟨Nat.le_refl _⟩,⟨HO0.out⟩,⟨HK.out⟩,⟨HB.out⟩⟩
 case round =>
  clear H' HO0 HK HB
  obtain ⟨x0_1,x1_1,x5_1,rfl,rfl,HA,HK1,HO_0,HK,HB⟩ := hrel
  cases gk with
    | zero => exact absurd HA.out (by simp [laws_markCopyS.l0])
    | succ k1 =>
   have H := HA.out
   clear HA
   simp only [laws_markCopyS.l0] at H
   by_cases c3 : x5_1 < (x0_1.length : Int)
   ·rw [if_pos c3] at H
    have c3b0 : decide (x5_1 < (x0_1.length : Int)) = true := decide_eq_true c3
    by_cases c4 : 0 ≤ x5_1
    ·rw [if_pos c4] at H
     have c4b0 : decide (0 ≤ x5_1) = true := decide_eq_true c4
     replace H := Option.bind_eq_some_iff.mp H
     obtain ⟨⟨t1,t2⟩,A30,H⟩ := H
     replace H : laws_markCopyS.l0 k1 (x0_1.set (x5_1 : Int).toNat (⟨x1_1,t2⟩ : S79)) t1 (wrap64 (x5_1 + 1)) = some (r1,r2) := H
     have H' := Aside0.mk H
     have A3 := Aside0.mk A30
     clear H A30
     obtain ⟨Ao7,co7,eo7⟩ := Kd.S_slice HO_0.out
     subst eo7
     obtain ⟨go5,co5,eo5,gb5,gl5,cl5,HG5⟩ := Kd.S_form HO_0.out (by omega)
     obtain rfl : Ao7 = some ⟨go5,0,none⟩ := (by injection eo5)
     obtain rfl : co7 = co5 := (by injection eo5)
     have GB := Aside0.mk gb5
     have HM : Aside0 (P0_ go5 ∨ w.heap.size ≤ go5) := ⟨(Kd.S_R HO_0.out).1 _ rfl⟩
     clear gb5 gl5 HG5 eo5
     have HX := Kd.S_mono (ok' := fun k_ => (P0_ k_ ∨ w.heap.size ≤ k_) ∧ ¬ wr.heap.size ≤ k_) (Kd.S_bound HO_0.out) (fun k_ hk => ⟨hk.1,Nat.not_le.2 hk.2.2.1⟩)
     obtain ⟨oki,ce,hcl,hM,hcc,hfr,hoki,hH⟩ := Kd.S_elem HX z79 (x5_1 : Int) c4 c3
     obtain ⟨v0,rfl,hv⟩ := k79_openM hM
     obtain ⟨A1,c1,e1⟩ := Kd.R_slice hv
     subst e1
     have hx19_0 : wr.cell? ⟨go5,(x5_1 : Int).toNat * 2,none⟩ = some (.int .i64 (rd_T79 x0_1 x5_1).f0) := by (have h_ := hcc 0 _ rfl;exact h_)
     have hx19_1 : wr.cell? ⟨go5,(x5_1 : Int).toNat * 2 + 1,none⟩ = some (.slice A1 ((rd_T79 x0_1 x5_1).f1).length c1) := by (have h_ := hcc 1 _ rfl;exact h_)
     have hf19_0 : wr.frozen? ⟨go5,(x5_1 : Int).toNat * 2,none⟩ = false := by (have h_ := hfr 0;exact h_)
     have hf19_1 : wr.frozen? ⟨go5,(x5_1 : Int).toNat * 2 + 1,none⟩ = false := by (have h_ := hfr 1;exact h_)
     have P5 := Aside0.mk c4
     have Q5 : Aside0 ((x5_1 : Int) < (x0_1.length : Int)) := ⟨c3⟩
     have HV : Aside0 (Kd.R k92 92 wr w0.heap.size oki (.slice A1 ((rd_T79 x0_1 x5_1).f1).length c1) ((rd_T79 x0_1 x5_1).f1)) := ⟨hv⟩
     have HH : Aside0 (Kd.H k79 79 wr w0.heap.size (fun k_ => ((P0_ k_ ∨ w.heap.size ≤ k_) ∧ ¬ wr.heap.size ≤ k_)) (.slice (some ⟨go5,0,none⟩) x0_1.length co7) x0_1 (x5_1 : Int) oki [.int .i64 (rd_T79 x0_1 x5_1).f0,.slice A1 ((rd_T79 x0_1 x5_1).f1).length c1]) := ⟨hH⟩
     have HI := Aside0.mk hoki
     have HZ := Aside0.mk (Nat.le_refl wr.heap.size)
     have HKR := Aside0.mk HK.out.1
     clear hcl hcc hfr hoki hH hv HX hM
     clear HO_0
     have p5 : (0 ≤ (x5_1 : Int)) = True := eq_true c4
     have q5 : ((x5_1 : Int) < (x0_1.length : Int)) = True := eq_true c3
     clear c3 c4
     go_wp2_with (first|((with_reducible refine gcal_ (f := 19) rfl ?_);refine goesL_ (some 25) rfl rfl Try.func19 (by kernel_rfl) rfl #[.slice A1 ((rd_T79 x0_1 x5_1).f1).length c1,.int .i64 (wrap64 (x1_1 + 1))] rfl (by (try simp only [List.map_toArray,List.map_cons,List.map_nil]);first|done|rfl) ?_;have h0_ := Kd.H_seg (j := 0) (seg := [.int .i64 (x1_1)]) HH.out P5.out Q5.out (show 0 + 1 ≤ 2 from by decide) (by intro q_ hq_;rw [List.mem_singleton.1 hq_];rfl);have hg : wr.grownBy (wr.setCell ⟨go5,(x5_1 : Int).toNat * 2,none⟩ (.int .i64 (x1_1))) (some go5) := h0_.2;have n0_ : Aside0 (Kd.H k79 79 (wr.setCell ⟨go5,(x5_1 : Int).toNat * 2,none⟩ (.int .i64 (x1_1))) w0.heap.size (fun k_ => ((P0_ k_ ∨ w.heap.size ≤ k_) ∧ ¬ wr.heap.size ≤ k_)) (.slice (some ⟨go5,0,none⟩) x0_1.length co7) x0_1 (x5_1 : Int) oki [.int .i64 (x1_1),.slice A1 ((rd_T79 x0_1 x5_1).f1).length c1]) := ⟨h0_.1⟩;clear h0_;have n1_ := Aside0.mk (Kd.R_grown HV.out hg (fun k_ hk_ he_ => (HI.out k_ hk_).2 (by injection he_)));have n2_ : Aside0 (Below w0.heap.size w0 (wr.setCell ⟨go5,(x5_1 : Int).toNat * 2,none⟩ (.int .i64 (x1_1)))) := ⟨below_set HB.out GB.out⟩;have n3_ : Aside0 (Kept w (wr.setCell ⟨go5,(x5_1 : Int).toNat * 2,none⟩ (.int .i64 (x1_1))) (fun k_ => P0_ k_)) := ⟨Kept.of_grown (S := (fun k_ => P0_ k_)) hg HK.out (fun k_ e_ => (by injection e_ with e2_;subst e2_;exact HM.out))⟩;have n4_ : Aside0 (wr.heap.size ≤ (wr.setCell ⟨go5,(x5_1 : Int).toNat * 2,none⟩ (.int .i64 (x1_1))).heap.size) := ⟨Nat.le_trans HZ.out hg.size⟩;clear hg;clear HH HV HB HK HZ;have HH := n0_;have HV := n1_;have HB := n2_;have HK := n3_;have HZ := n4_;clear n0_ n1_ n2_ n3_ n4_;refine (laws_markCellS.calls k1 oki (.slice A1 ((rd_T79 x0_1 x5_1).f1).length c1) ((rd_T79 x0_1 x5_1).f1) (wrap64 (x1_1 + 1)) t1 t2 w0 _ HB.out HV.out A3.out).mono ?_;rintro e w12 ⟨rfl,ho,hb,hk⟩;refine ⟨_,rfl,?_⟩;have hH1 := Kd.H_step (w1 := w12) HH.out (fun k_ _ hn hlt => hk.2 k_ hlt hn);have hH2 := Kd.H_more (okg := fun k_ => wr.heap.size ≤ k_) hH1 (fun k_ hk_ => .inr (Nat.le_trans HKR.out hk_));have n0_ := Aside0.mk (Kd.H_back hH2 (k79_mkM _ _ _ (⟨x1_1,t2⟩ : S79) (Kd.R_mono (ok' := fun k_ => oki k_ ∨ wr.heap.size ≤ k_) ho (fun k_ h_ => h_.elim Or.inl (fun h2_ => .inr (Nat.le_trans HZ.out h2_))))) (fun _ h_ => h_));have n1_ := Aside0.mk hb;have n2_ : Aside0 (Kept w w12 (fun k_ => P0_ k_)) := ⟨⟨Nat.le_trans HK.out.1 hk.1,fun k_ h1_ h2_ => (hk.2 k_ (Nat.lt_of_lt_of_le h1_ HK.out.1) (fun h3_ => ((HI.out k_ h3_).1.1.elim h2_ (fun h4_ => absurd h1_ (Nat.not_lt.2 h4_))))).trans (HK.out.2 k_ h1_ h2_)⟩⟩;clear HB HK HH HV HI hH1 hH2 ho hb hk;have HO_0 := n0_;have HB := n1_;have HK := n2_;clear n0_ n1_ n2_))
     go_roundg k1
     case measure => have := HK1.out;omega
     case rel => exact ⟨_,t1,(wrap64 (x5_1 + 1)),(by first|rfl|(simp;done)),(by first|rfl|(simp;done)),H',⟨by have := HK1.out;omega⟩,⟨HO_0.out⟩,⟨HK.out⟩,⟨HB.out⟩⟩
    ·rw [if_neg c4] at H
     exact absurd H (by simp)
   ·rw [if_neg c3] at H
    have c3b0 : decide (x5_1 < (x0_1.length : Int)) = false := decide_eq_false c3
    clear c3
    simp only [Option.some.injEq,Prod.mk.injEq] at H
    obtain ⟨rfl,rfl⟩ := H
    obtain ⟨Ao12,co12,eo12⟩ := Kd.S_slice HO_0.out
    subst eo12
    go_wp2
    go_ret
    exact ⟨rfl,HO_0.out,HB.out,HK.out⟩

/-! ### laws_markSetS: function 70 -/
def laws_markSetS.l0 : Nat → List (S127) → Int → Int → Option (Int × (List (S127)))
  | 0, _, _, _ => none
  | k + 1, x0, x1, x5 => if x5 < (x0.length : Int) then (if 0 ≤ x5 then ((some (x0.set (x5 : Int).toNat (⟨x1, (rd_T127 x0 x5).f1, (rd_T127 x0 x5).f2, (rd_T127 x0 x5).f3, (rd_T127 x0 x5).f4⟩ : S127) : List (S127))).bind fun y324 => ((some (y324.set (x5 : Int).toNat (⟨(rd_T127 y324 x5).f0, wrap64 (x1 + 1), (rd_T127 y324 x5).f2, (rd_T127 y324 x5).f3, (rd_T127 y324 x5).f4⟩ : S127) : List (S127))).bind fun y325 => ((some (y325.set (x5 : Int).toNat (⟨(rd_T127 y325 x5).f0, (rd_T127 y325 x5).f1, wrap64 ((wrap64 (x1 + 1)) + 1), (rd_T127 y325 x5).f3, (rd_T127 y325 x5).f4⟩ : S127) : List (S127))).bind fun y326 => ((some (y326.set (x5 : Int).toNat (⟨(rd_T127 y326 x5).f0, (rd_T127 y326 x5).f1, (rd_T127 y326 x5).f2, ((Int.tmod (wrap64 ((wrap64 ((wrap64 (x1 + 1)) + 1)) + 1)) 3) == 0), (rd_T127 y326 x5).f4⟩ : S127) : List (S127))).bind fun y327 => (laws_markSetS.l0 k (y327.set (x5 : Int).toNat (⟨(rd_T127 y327 x5).f0, (rd_T127 y327 x5).f1, (rd_T127 y327 x5).f2, (rd_T127 y327 x5).f3, wrap64 ((wrap64 ((wrap64 ((wrap64 (x1 + 1)) + 1)) + 1)) + 1)⟩ : S127)) (wrap64 ((wrap64 ((wrap64 ((wrap64 ((wrap64 (x1 + 1)) + 1)) + 1)) + 1)) + 1)) (wrap64 (x5 + 1))))))) else (none)) else (some (x1, x0))
def laws_markSetS.f (k : Nat) (l0 : List (S127)) (a1 : Int) : Option (Int × (List (S127))) := laws_markSetS.l0 k l0 a1 0

set_option maxHeartbeats 8000000 in
set_option maxRecDepth 100000 in
theorem laws_markSetS.calls (k : Nat) (P0_ : Nat → Prop) (u9000_ : Value) (l0 : List (S127)) (a1 : Int) (r1 : Int) (r2 : List (S127)) (w0 w : World) (hB : Below w0.heap.size w0 w) (ho0 : Kd.R k127 127 w w0.heap.size P0_ u9000_ l0) (h : laws_markSetS.f k l0 a1 = some (r1, r2)) :
    Calls Try.prog 70 #[u9000_, .int .i64 a1] w fun e w' => e = .returned (.int .i64 r1) ∧ Kd.R k127 127 w' w0.heap.size (fun k_ => (P0_ k_ ∨ w.heap.size ≤ k_)) u9000_ r2 ∧ Below w0.heap.size w0 w' ∧ Kept w w' (fun k_ => P0_ k_) := by
 have HO0 := Aside0.mk (show Kd.R k127 127 w w0.heap.size (fun k_ => (P0_ k_ ∨ w.heap.size ≤ k_)) u9000_ l0 from Kd.R_mono ho0 (fun k_ hk => (.inl hk)))
 have HK := Aside0.mk (Kept.refl w (fun k_ => P0_ k_))
 have HW0 := Aside0.mk hB.size
 have HB := Aside0.mk hB
 clear hB
 have H : (laws_markSetS.l0 k l0 a1 0) = some (r1,r2) := h
 clear h
 have H' := Aside0.mk H
 clear H
 go_enter Try.func70,Try.ntmps70
 go_wp2
 go_loopg [1,5] k (fun kq v1 v5 w' => ∃ (x0_1 : List (S127)) (x1_1 : Int) (x5_1 : Int),v1 = .int .i64 x1_1 ∧ v5 = .int .i64 x5_1 ∧ Aside0 (laws_markSetS.l0 kq x0_1 x1_1 x5_1 = some (r1,r2)) ∧ Aside0 (kq ≤ k) ∧ Aside0 (Kd.R k127 127 w' w0.heap.size (fun k_ => (P0_ k_ ∨ w.heap.size ≤ k_)) u9000_ x0_1) ∧ Aside0 (Kept w w' (fun k_ => P0_ k_)) ∧ Aside0 (Below w0.heap.size w0 w'))
 case atStart => exact ⟨(l0),(a1),(0),(by first|rfl|(simp;done)|(simp [*];done)),(by first|rfl|(simp;done)|(simp [*];done)),H',⟨Nat.le_refl _⟩,⟨by (with_reducible repeat (first|apply Kd.R_alloc|apply Kd.R_drewN|apply Kd.R_drew));exact HO0.out⟩,⟨by repeat (first|(with_reducible first|exact HK.out|apply Kept.alloc|apply Kept.drewN|apply Kept.drew)|exact HK.out)⟩,⟨by repeat (first|(with_reducible first|exact HB.out|apply below_alloc|apply pw_below_drewN|apply below_drew1)|exact HB.out)⟩⟩
 case round =>
  clear H'
  try clear p2
  obtain ⟨x0_1,x1_1,x5_1,rfl,rfl,HA,HK1,HO_0,HK,HB⟩ := hrel
  cases gk with
    | zero => exact absurd HA.out (by simp [laws_markSetS.l0])
    | succ k1 =>
   have H := HA.out
   clear HA
   simp only [laws_markSetS.l0] at H
   by_cases c3 : x5_1 < (x0_1.length : Int)
   ·rw [if_pos c3] at H
    have c3b0 : decide (x5_1 < (x0_1.length : Int)) = true := decide_eq_true c3
    clear c3
    by_cases c4 : 0 ≤ x5_1
    ·rw [if_pos c4] at H
     have c4b0 : decide (0 ≤ x5_1) = true := decide_eq_true c4
     clear c4
     obtain ⟨y324,hy324⟩ : ∃ y_ : List (S127),y_ = (x0_1.set (x5_1 : Int).toNat (⟨x1_1,(rd_T127 x0_1 x5_1).f1,(rd_T127 x0_1 x5_1).f2,(rd_T127 x0_1 x5_1).f3,(rd_T127 x0_1 x5_1).f4⟩ : S127)) := ⟨_,rfl⟩
     replace H : ((some (y324.set (x5_1 : Int).toNat (⟨(rd_T127 y324 x5_1).f0,wrap64 (x1_1 + 1),(rd_T127 y324 x5_1).f2,(rd_T127 y324 x5_1).f3,(rd_T127 y324 x5_1).f4⟩ : S127) : List (S127))).bind fun y325 => ((some (y325.set (x5_1 : Int).toNat (⟨(rd_T127 y325 x5_1).f0,(rd_T127 y325 x5_1).f1,wrap64 ((wrap64 (x1_1 + 1)) + 1),(rd_T127 y325 x5_1).f3,(rd_T127 y325 x5_1).f4⟩ : S127) : List (S127))).bind fun y326 => ((some (y326.set (x5_1 : Int).toNat (⟨(rd_T127 y326 x5_1).f0,(rd_T127 y326 x5_1).f1,(rd_T127 y326 x5_1).f2,((Int.tmod (wrap64 ((wrap64 ((wrap64 (x1_1 + 1)) + 1)) + 1)) 3) == 0),(rd_T127 y326 x5_1).f4⟩ : S127) : List (S127))).bind fun y327 => (laws_markSetS.l0 k1 (y327.set (x5_1 : Int).toNat (⟨(rd_T127 y327 x5_1).f0,(rd_T127 y327 x5_1).f1,(rd_T127 y327 x5_1).f2,(rd_T127 y327 x5_1).f3,wrap64 ((wrap64 ((wrap64 ((wrap64 (x1_1 + 1)) + 1)) + 1)) + 1)⟩ : S127)) (wrap64 ((wrap64 ((wrap64 ((wrap64 ((wrap64 (x1_1 + 1)) + 1)) + 1)) + 1)) + 1)) (wrap64 (x5_1 + 1)))))) = some (r1,r2) := by first|(rw [hy324];with_reducible exact H)|(have H2_ := (Option.bind_some _ _).symm.trans H;rw [hy324];with_reducible exact H2_)|(have H2_ := (Option.bind_some _ _).symm.trans H;with_reducible exact H2_)|with_reducible exact H|(rw [hy324];exact H)|exact H
     have Ny324 := Aside0.mk hy324
     clear hy324
     obtain ⟨y325,hy325⟩ : ∃ y_ : List (S127),y_ = (y324.set (x5_1 : Int).toNat (⟨(rd_T127 y324 x5_1).f0,wrap64 (x1_1 + 1),(rd_T127 y324 x5_1).f2,(rd_T127 y324 x5_1).f3,(rd_T127 y324 x5_1).f4⟩ : S127)) := ⟨_,rfl⟩
     replace H : ((some (y325.set (x5_1 : Int).toNat (⟨(rd_T127 y325 x5_1).f0,(rd_T127 y325 x5_1).f1,wrap64 ((wrap64 (x1_1 + 1)) + 1),(rd_T127 y325 x5_1).f3,(rd_T127 y325 x5_1).f4⟩ : S127) : List (S127))).bind fun y326 => ((some (y326.set (x5_1 : Int).toNat (⟨(rd_T127 y326 x5_1).f0,(rd_T127 y326 x5_1).f1,(rd_T127 y326 x5_1).f2,((Int.tmod (wrap64 ((wrap64 ((wrap64 (x1_1 + 1)) + 1)) + 1)) 3) == 0),(rd_T127 y326 x5_1).f4⟩ : S127) : List (S127))).bind fun y327 => (laws_markSetS.l0 k1 (y327.set (x5_1 : Int).toNat (⟨(rd_T127 y327 x5_1).f0,(rd_T127 y327 x5_1).f1,(rd_T127 y327 x5_1).f2,(rd_T127 y327 x5_1).f3,wrap64 ((wrap64 ((wrap64 ((wrap64 (x1_1 + 1)) + 1)) + 1)) + 1)⟩ : S127)) (wrap64 ((wrap64 ((wrap64 ((wrap64 ((wrap64 (x1_1 + 1)) + 1)) + 1)) + 1)) + 1)) (wrap64 (x5_1 + 1))))) = some (r1,r2) := by first|(rw [hy325];with_reducible exact H)|(have H2_ := (Option.bind_some _ _).symm.trans H;rw [hy325];with_reducible exact H2_)|(have H2_ := (Option.bind_some _ _).symm.trans H;with_reducible exact H2_)|with_reducible exact H|(rw [hy325];exact H)|exact H
     have Ny325 := Aside0.mk hy325
     clear hy325
     obtain ⟨y326,hy326⟩ : ∃ y_ : List (S127),y_ = (y325.set (x5_1 : Int).toNat (⟨(rd_T127 y325 x5_1).f0,(rd_T127 y325 x5_1).f1,wrap64 ((wrap64 (x1_1 + 1)) + 1),(rd_T127 y325 x5_1).f3,(rd_T127 y325 x5_1).f4⟩ : S127)) := ⟨_,rfl⟩
     replace H : ((some (y326.set (x5_1 : Int).toNat (⟨(rd_T127 y326 x5_1).f0,(rd_T127 y326 x5_1).f1,(rd_T127 y326 x5_1).f2,((Int.tmod (wrap64 ((wrap64 ((wrap64 (x1_1 + 1)) + 1)) + 1)) 3) == 0),(rd_T127 y326 x5_1).f4⟩ : S127) : List (S127))).bind fun y327 => (laws_markSetS.l0 k1 (y327.set (x5_1 : Int).toNat (⟨(rd_T127 y327 x5_1).f0,(rd_T127 y327 x5_1).f1,(rd_T127 y327 x5_1).f2,(rd_T127 y327 x5_1).f3,wrap64 ((wrap64 ((wrap64 ((wrap64 (x1_1 + 1)) + 1)) + 1)) + 1)⟩ : S127)) (wrap64 ((wrap64 ((wrap64 ((wrap64 ((wrap64 (x1_1 + 1)) + 1)) + 1)) + 1)) + 1)) (wrap64 (x5_1 + 1)))) = some (r1,r2) := by first|(rw [hy326];with_reducible exact H)|(have H2_ := (Option.bind_some _ _).symm.trans H;rw [hy326];with_reducible exact H2_)|(have H2_ := (Option.bind_some _ _).symm.trans H;with_reducible exact H2_)|with_reducible exact H|(rw [hy326];exact H)|exact H
     have Ny326 := Aside0.mk hy326
     clear hy326
     obtain ⟨y327,hy327⟩ : ∃ y_ : List (S127),y_ = (y326.set (x5_1 : Int).toNat (⟨(rd_T127 y326 x5_1).f0,(rd_T127 y326 x5_1).f1,(rd_T127 y326 x5_1).f2,((Int.tmod (wrap64 ((wrap64 ((wrap64 (x1_1 + 1)) + 1)) + 1)) 3) == 0),(rd_T127 y326 x5_1).f4⟩ : S127)) := ⟨_,rfl⟩
     replace H : (laws_markSetS.l0 k1 (y327.set (x5_1 : Int).toNat (⟨(rd_T127 y327 x5_1).f0,(rd_T127 y327 x5_1).f1,(rd_T127 y327 x5_1).f2,(rd_T127 y327 x5_1).f3,wrap64 ((wrap64 ((wrap64 ((wrap64 (x1_1 + 1)) + 1)) + 1)) + 1)⟩ : S127)) (wrap64 ((wrap64 ((wrap64 ((wrap64 ((wrap64 (x1_1 + 1)) + 1)) + 1)) + 1)) + 1)) (wrap64 (x5_1 + 1))) = some (r1,r2) := by first|(rw [hy327];with_reducible exact H)|(have H2_ := (Option.bind_some _ _).symm.trans H;rw [hy327];with_reducible exact H2_)|(have H2_ := (Option.bind_some _ _).symm.trans H;with_reducible exact H2_)|with_reducible exact H|(rw [hy327];exact H)|exact H
     have Ny327 := Aside0.mk hy327
     clear hy327
     obtain ⟨y328,hy328⟩ : ∃ y_ : List (S127),y_ = (y327.set (x5_1 : Int).toNat (⟨(rd_T127 y327 x5_1).f0,(rd_T127 y327 x5_1).f1,(rd_T127 y327 x5_1).f2,(rd_T127 y327 x5_1).f3,wrap64 ((wrap64 ((wrap64 ((wrap64 (x1_1 + 1)) + 1)) + 1)) + 1)⟩ : S127)) := ⟨_,rfl⟩
     replace H : (laws_markSetS.l0 k1 y328 (wrap64 ((wrap64 ((wrap64 ((wrap64 ((wrap64 (x1_1 + 1)) + 1)) + 1)) + 1)) + 1)) (wrap64 (x5_1 + 1))) = some (r1,r2) := by first|(rw [hy328];with_reducible exact H)|(have H2_ := (Option.bind_some _ _).symm.trans H;rw [hy328];with_reducible exact H2_)|(have H2_ := (Option.bind_some _ _).symm.trans H;with_reducible exact H2_)|with_reducible exact H|(rw [hy328];exact H)|exact H
     have Ny328 := Aside0.mk hy328
     clear hy328
     have H' := Aside0.mk H
     clear H
     obtain ⟨Ao10,co10,eo10⟩ := Kd.R_slice HO_0.out
     subst eo10
     have p5 : 0 ≤ (x5_1 : Int) := of_decide_eq_true (by first|(with_reducible assumption)|assumption)
     have q5 : (x5_1 : Int) < ((x0_1.length : Int) : Int) := of_decide_eq_true (by first|(with_reducible assumption)|assumption)
     obtain ⟨go5,co5,eo5,gb5,gl5,cl5,HG5⟩ := Kd.R_form HO_0.out (by omega)
     (first|cases eo5|(injection eo5 with ea_ en_ ec_;(first|subst ea_|(injection ea_ with ea_;subst ea_));subst ec_;clear en_))
     have GB5 := Aside0.mk gb5
     have GG5 := Aside0.mk HG5
     clear gb5 gl5 HG5
     have HMgo5 := Aside0.mk (show (P0_ go5 ∨ w.heap.size ≤ go5) from (HO_0.out.1 _ rfl))
     obtain ⟨ce5,hcl5,hM5,hcc5,hfr5⟩ := Kd.R_elem HO_0.out z127 (x5_1 : Int) p5 q5
     obtain rfl := k127_openM hM5
     have hx5_0 : wr.cell? ⟨go5,(x5_1 : Int).toNat * 5,none⟩ = some (.int .i64 ((rd_T127 x0_1 x5_1).f0)) := hcc5 0 _ rfl
     have hx5_1 : wr.cell? ⟨go5,(x5_1 : Int).toNat * 5 + 1,none⟩ = some (.int .i64 ((rd_T127 x0_1 x5_1).f1)) := hcc5 1 _ rfl
     have hx5_2 : wr.cell? ⟨go5,(x5_1 : Int).toNat * 5 + 2,none⟩ = some (.int .i64 ((rd_T127 x0_1 x5_1).f2)) := hcc5 2 _ rfl
     have hx5_3 : wr.cell? ⟨go5,(x5_1 : Int).toNat * 5 + 3,none⟩ = some (.bool ((rd_T127 x0_1 x5_1).f3)) := hcc5 3 _ rfl
     have hx5_4 : wr.cell? ⟨go5,(x5_1 : Int).toNat * 5 + 4,none⟩ = some (.int .i64 ((rd_T127 x0_1 x5_1).f4)) := hcc5 4 _ rfl
     have hf5_0 : wr.frozen? ⟨go5,(x5_1 : Int).toNat * 5,none⟩ = false := hfr5 0
     have hf5_1 : wr.frozen? ⟨go5,(x5_1 : Int).toNat * 5 + 1,none⟩ = false := hfr5 1
     have hf5_2 : wr.frozen? ⟨go5,(x5_1 : Int).toNat * 5 + 2,none⟩ = false := hfr5 2
     have hf5_3 : wr.frozen? ⟨go5,(x5_1 : Int).toNat * 5 + 3,none⟩ = false := hfr5 3
     have hf5_4 : wr.frozen? ⟨go5,(x5_1 : Int).toNat * 5 + 4,none⟩ = false := hfr5 4
     clear hcl5 hcc5 hfr5 hM5
     replace p5 := eq_true p5
     replace q5 := eq_true q5
     have HX11 := Aside0.mk (show Kd.R k127 127 wr w0.heap.size (fun k_ => (P0_ k_ ∨ w.heap.size ≤ k_)) (.slice (some ⟨go5,0,none⟩) x0_1.length co10) x0_1 from (by (with_reducible repeat (first|apply Kd.R_alloc|apply Kd.R_drewN|apply Kd.R_drew));exact HO_0.out))
     obtain ⟨ce11,hcl11,hM11,hcc11,hfr11⟩ := Kd.R_elem HX11.out z127 (x5_1 : Int) (of_decide_eq_true (by first|(with_reducible assumption)|assumption)) (by have h_ : (x5_1 : Int) < ((x0_1.length : Int) : Int) := of_decide_eq_true (by first|(with_reducible assumption)|assumption);first|exact h_|(have e_ := (Kd.R_reads' HO_0.out).1;omega)|simpa using h_)
     obtain rfl := k127_openM hM11
     have HP11 := Kd.R_seg HX11.out (x5_1 : Int) (of_decide_eq_true (by first|(with_reducible assumption)|assumption)) (by have h_ : (x5_1 : Int) < ((x0_1.length : Int) : Int) := of_decide_eq_true (by first|(with_reducible assumption)|assumption);first|exact h_|(have e_ := (Kd.R_reads' HO_0.out).1;omega)|simpa using h_) (seg := [.int .i64 x1_1]) (j := 0) hcl11 hcc11 (show 1 ≤ 5 from by decide) (x' := (⟨x1_1,(rd_T127 x0_1 x5_1).f1,(rd_T127 x0_1 x5_1).f2,(rd_T127 x0_1 x5_1).f3,(rd_T127 x0_1 x5_1).f4⟩ : S127)) (k127_mkM _ _ _ (⟨x1_1,(rd_T127 x0_1 x5_1).f1,(rd_T127 x0_1 x5_1).f2,(rd_T127 x0_1 x5_1).f3,(rd_T127 x0_1 x5_1).f4⟩ : S127) ) (fun _ hk => hk)
     have hx11_0 := hcc11 0 _ rfl
     (try simp only [show (k127).sz = 5 from rfl,Nat.mul_one,Nat.add_zero] at hx11_0)
     have hf11_0 := hfr11 0
     (try simp only [show (k127).sz = 5 from rfl,Nat.mul_one,Nat.add_zero] at hf11_0)
     clear hcl11 hcc11 hfr11 hM11
     go_wp2_with (first|((with_reducible refine gate_store (t := 2) (p := 16) rfl ?_);refine store_event (t := 2) (p := 16) (v := ?vo_w12) (w1 := (wr.setCell ⟨go5,(x5_1 : Int).toNat * 5,none⟩ (.int .i64 x1_1))) ?hg ?ho ?hn ?hr ?_;(case ho => rfl);(case hg => rfl);(case hn => rfl);(case hr => first|(go_simp;done)|(go_simp;rfl)|(obtain ⟨_,_,e_⟩ := Kd.R_slice HO_0.out;subst e_;first|(go_simp;done)|(go_simp;rfl)));intro w12 hw;have hg : wr.grownBy w12 (some go5) := (by rw [hw];exact HP11.2);have hp_ : Kd.R k127 127 w12 w0.heap.size (fun k_ => (P0_ k_ ∨ w.heap.size ≤ k_)) (.slice (some ⟨go5,0,none⟩) x0_1.length co10) y324 := (by rw [hw,Ny324.out];exact HP11.1);clear HP11;have n0_ := Aside0.mk (hp_);have n1_ := Aside0.mk ((by rw [hw];exact below_set (HB.out) GB5.out : Below w0.heap.size w0 w12));have n2_ := Aside0.mk (Kept.of_grown (S := (fun k_ => P0_ k_)) hg (by repeat (first|(with_reducible first|exact HK.out|apply Kept.alloc|apply Kept.drewN|apply Kept.drew)|exact HK.out)) (fun k_ e_ => (HO_0.out.1 k_ e_)));clear HO_0;clear HB;clear HK;have HO_0 := n0_;have HB := n1_;have HK := n2_;clear n0_ n1_ n2_;clear hg hw hp_;have p6 : 0 ≤ (x5_1 : Int) := of_decide_eq_true (by first|(with_reducible assumption)|assumption);have q6 : (x5_1 : Int) < ((x0_1.length : Int) : Int) := of_decide_eq_true (by first|(with_reducible assumption)|assumption);obtain ⟨ce6,hcl6,hM6,hcc6,hfr6⟩ := Kd.R_elem HO_0.out z127 (x5_1 : Int) p6 q6;obtain rfl := k127_openM hM6;have hx6_0 : w12.cell? ⟨go5,(x5_1 : Int).toNat * 5,none⟩ = some (.int .i64 ((rd_T127 y324 x5_1).f0)) := hcc6 0 _ rfl;have hx6_1 : w12.cell? ⟨go5,(x5_1 : Int).toNat * 5 + 1,none⟩ = some (.int .i64 ((rd_T127 y324 x5_1).f1)) := hcc6 1 _ rfl;have hx6_2 : w12.cell? ⟨go5,(x5_1 : Int).toNat * 5 + 2,none⟩ = some (.int .i64 ((rd_T127 y324 x5_1).f2)) := hcc6 2 _ rfl;have hx6_3 : w12.cell? ⟨go5,(x5_1 : Int).toNat * 5 + 3,none⟩ = some (.bool ((rd_T127 y324 x5_1).f3)) := hcc6 3 _ rfl;have hx6_4 : w12.cell? ⟨go5,(x5_1 : Int).toNat * 5 + 4,none⟩ = some (.int .i64 ((rd_T127 y324 x5_1).f4)) := hcc6 4 _ rfl;have hf6_0 : w12.frozen? ⟨go5,(x5_1 : Int).toNat * 5,none⟩ = false := hfr6 0;have hf6_1 : w12.frozen? ⟨go5,(x5_1 : Int).toNat * 5 + 1,none⟩ = false := hfr6 1;have hf6_2 : w12.frozen? ⟨go5,(x5_1 : Int).toNat * 5 + 2,none⟩ = false := hfr6 2;have hf6_3 : w12.frozen? ⟨go5,(x5_1 : Int).toNat * 5 + 3,none⟩ = false := hfr6 3;have hf6_4 : w12.frozen? ⟨go5,(x5_1 : Int).toNat * 5 + 4,none⟩ = false := hfr6 4;clear hcl6 hcc6 hfr6 hM6;replace p6 := eq_true p6;replace q6 := eq_true q6;have HX13 := Aside0.mk (show Kd.R k127 127 w12 w0.heap.size (fun k_ => (P0_ k_ ∨ w.heap.size ≤ k_)) (.slice (some ⟨go5,0,none⟩) x0_1.length co10) y324 from (by (with_reducible repeat (first|apply Kd.R_alloc|apply Kd.R_drewN|apply Kd.R_drew));exact HO_0.out));obtain ⟨ce13,hcl13,hM13,hcc13,hfr13⟩ := Kd.R_elem HX13.out z127 (x5_1 : Int) (of_decide_eq_true (by first|(with_reducible assumption)|assumption)) (by have h_ : (x5_1 : Int) < ((x0_1.length : Int) : Int) := of_decide_eq_true (by first|(with_reducible assumption)|assumption);first|exact h_|(have e_ := (Kd.R_reads' HO_0.out).1;omega)|simpa using h_);obtain rfl := k127_openM hM13;have HP13 := Kd.R_seg HX13.out (x5_1 : Int) (of_decide_eq_true (by first|(with_reducible assumption)|assumption)) (by have h_ : (x5_1 : Int) < ((x0_1.length : Int) : Int) := of_decide_eq_true (by first|(with_reducible assumption)|assumption);first|exact h_|(have e_ := (Kd.R_reads' HO_0.out).1;omega)|simpa using h_) (seg := [.int .i64 (wrap64 (x1_1 + 1))]) (j := 1) hcl13 hcc13 (show 2 ≤ 5 from by decide) (x' := (⟨(rd_T127 y324 x5_1).f0,wrap64 (x1_1 + 1),(rd_T127 y324 x5_1).f2,(rd_T127 y324 x5_1).f3,(rd_T127 y324 x5_1).f4⟩ : S127)) (k127_mkM _ _ _ (⟨(rd_T127 y324 x5_1).f0,wrap64 (x1_1 + 1),(rd_T127 y324 x5_1).f2,(rd_T127 y324 x5_1).f3,(rd_T127 y324 x5_1).f4⟩ : S127) ) (fun _ hk => hk);have hx13_1 := hcc13 1 _ rfl;(try simp only [show (k127).sz = 5 from rfl,Nat.mul_one,Nat.add_zero] at hx13_1);have hf13_1 := hfr13 1;(try simp only [show (k127).sz = 5 from rfl,Nat.mul_one,Nat.add_zero] at hf13_1);clear hcl13 hcc13 hfr13 hM13)|((with_reducible refine gate_store (t := 2) (p := 23) rfl ?_);refine store_event (t := 2) (p := 23) (v := ?vo_w14) (w1 := (w12.setCell ⟨go5,(x5_1 : Int).toNat * 5 + 1,none⟩ (.int .i64 (wrap64 (x1_1 + 1))))) ?hg ?ho ?hn ?hr ?_;(case ho => rfl);(case hg => rfl);(case hn => rfl);(case hr => first|(go_simp;done)|(go_simp;rfl)|(obtain ⟨_,_,e_⟩ := Kd.R_slice HO_0.out;subst e_;first|(go_simp;done)|(go_simp;rfl)));intro w14 hw;have hg : w12.grownBy w14 (some go5) := (by rw [hw];exact HP13.2);have hp_ : Kd.R k127 127 w14 w0.heap.size (fun k_ => (P0_ k_ ∨ w.heap.size ≤ k_)) (.slice (some ⟨go5,0,none⟩) x0_1.length co10) y325 := (by rw [hw,Ny325.out];exact HP13.1);clear HP13;have n0_ := Aside0.mk (hp_);have n1_ := Aside0.mk ((by rw [hw];exact below_set (HB.out) GB5.out : Below w0.heap.size w0 w14));have n2_ := Aside0.mk (Kept.of_grown (S := (fun k_ => P0_ k_)) hg (by repeat (first|(with_reducible first|exact HK.out|apply Kept.alloc|apply Kept.drewN|apply Kept.drew)|exact HK.out)) (fun k_ e_ => (HO_0.out.1 k_ e_)));clear HO_0;clear HB;clear HK;have HO_0 := n0_;have HB := n1_;have HK := n2_;clear n0_ n1_ n2_;clear hg hw hp_;have p7 : 0 ≤ (x5_1 : Int) := of_decide_eq_true (by first|(with_reducible assumption)|assumption);have q7 : (x5_1 : Int) < ((x0_1.length : Int) : Int) := of_decide_eq_true (by first|(with_reducible assumption)|assumption);obtain ⟨ce7,hcl7,hM7,hcc7,hfr7⟩ := Kd.R_elem HO_0.out z127 (x5_1 : Int) p7 q7;obtain rfl := k127_openM hM7;have hx7_0 : w14.cell? ⟨go5,(x5_1 : Int).toNat * 5,none⟩ = some (.int .i64 ((rd_T127 y325 x5_1).f0)) := hcc7 0 _ rfl;have hx7_1 : w14.cell? ⟨go5,(x5_1 : Int).toNat * 5 + 1,none⟩ = some (.int .i64 ((rd_T127 y325 x5_1).f1)) := hcc7 1 _ rfl;have hx7_2 : w14.cell? ⟨go5,(x5_1 : Int).toNat * 5 + 2,none⟩ = some (.int .i64 ((rd_T127 y325 x5_1).f2)) := hcc7 2 _ rfl;have hx7_3 : w14.cell? ⟨go5,(x5_1 : Int).toNat * 5 + 3,none⟩ = some (.bool ((rd_T127 y325 x5_1).f3)) := hcc7 3 _ rfl;have hx7_4 : w14.cell? ⟨go5,(x5_1 : Int).toNat * 5 + 4,none⟩ = some (.int .i64 ((rd_T127 y325 x5_1).f4)) := hcc7 4 _ rfl;have hf7_0 : w14.frozen? ⟨go5,(x5_1 : Int).toNat * 5,none⟩ = false := hfr7 0;have hf7_1 : w14.frozen? ⟨go5,(x5_1 : Int).toNat * 5 + 1,none⟩ = false := hfr7 1;have hf7_2 : w14.frozen? ⟨go5,(x5_1 : Int).toNat * 5 + 2,none⟩ = false := hfr7 2;have hf7_3 : w14.frozen? ⟨go5,(x5_1 : Int).toNat * 5 + 3,none⟩ = false := hfr7 3;have hf7_4 : w14.frozen? ⟨go5,(x5_1 : Int).toNat * 5 + 4,none⟩ = false := hfr7 4;clear hcl7 hcc7 hfr7 hM7;replace p7 := eq_true p7;replace q7 := eq_true q7;have HX15 := Aside0.mk (show Kd.R k127 127 w14 w0.heap.size (fun k_ => (P0_ k_ ∨ w.heap.size ≤ k_)) (.slice (some ⟨go5,0,none⟩) x0_1.length co10) y325 from (by (with_reducible repeat (first|apply Kd.R_alloc|apply Kd.R_drewN|apply Kd.R_drew));exact HO_0.out));obtain ⟨ce15,hcl15,hM15,hcc15,hfr15⟩ := Kd.R_elem HX15.out z127 (x5_1 : Int) (of_decide_eq_true (by first|(with_reducible assumption)|assumption)) (by have h_ : (x5_1 : Int) < ((x0_1.length : Int) : Int) := of_decide_eq_true (by first|(with_reducible assumption)|assumption);first|exact h_|(have e_ := (Kd.R_reads' HO_0.out).1;omega)|simpa using h_);obtain rfl := k127_openM hM15;have HP15 := Kd.R_seg HX15.out (x5_1 : Int) (of_decide_eq_true (by first|(with_reducible assumption)|assumption)) (by have h_ : (x5_1 : Int) < ((x0_1.length : Int) : Int) := of_decide_eq_true (by first|(with_reducible assumption)|assumption);first|exact h_|(have e_ := (Kd.R_reads' HO_0.out).1;omega)|simpa using h_) (seg := [.int .i64 (wrap64 ((wrap64 (x1_1 + 1)) + 1))]) (j := 2) hcl15 hcc15 (show 3 ≤ 5 from by decide) (x' := (⟨(rd_T127 y325 x5_1).f0,(rd_T127 y325 x5_1).f1,wrap64 ((wrap64 (x1_1 + 1)) + 1),(rd_T127 y325 x5_1).f3,(rd_T127 y325 x5_1).f4⟩ : S127)) (k127_mkM _ _ _ (⟨(rd_T127 y325 x5_1).f0,(rd_T127 y325 x5_1).f1,wrap64 ((wrap64 (x1_1 + 1)) + 1),(rd_T127 y325 x5_1).f3,(rd_T127 y325 x5_1).f4⟩ : S127) ) (fun _ hk => hk);have hx15_2 := hcc15 2 _ rfl;(try simp only [show (k127).sz = 5 from rfl,Nat.mul_one,Nat.add_zero] at hx15_2);have hf15_2 := hfr15 2;(try simp only [show (k127).sz = 5 from rfl,Nat.mul_one,Nat.add_zero] at hf15_2);clear hcl15 hcc15 hfr15 hM15)|((with_reducible refine gate_store (t := 2) (p := 30) rfl ?_);refine store_event (t := 2) (p := 30) (v := ?vo_w16) (w1 := (w14.setCell ⟨go5,(x5_1 : Int).toNat * 5 + 2,none⟩ (.int .i64 (wrap64 ((wrap64 (x1_1 + 1)) + 1))))) ?hg ?ho ?hn ?hr ?_;(case ho => rfl);(case hg => rfl);(case hn => rfl);(case hr => first|(go_simp;done)|(go_simp;rfl)|(obtain ⟨_,_,e_⟩ := Kd.R_slice HO_0.out;subst e_;first|(go_simp;done)|(go_simp;rfl)));intro w16 hw;have hg : w14.grownBy w16 (some go5) := (by rw [hw];exact HP15.2);have hp_ : Kd.R k127 127 w16 w0.heap.size (fun k_ => (P0_ k_ ∨ w.heap.size ≤ k_)) (.slice (some ⟨go5,0,none⟩) x0_1.length co10) y326 := (by rw [hw,Ny326.out];exact HP15.1);clear HP15;have n0_ := Aside0.mk (hp_);have n1_ := Aside0.mk ((by rw [hw];exact below_set (HB.out) GB5.out : Below w0.heap.size w0 w16));have n2_ := Aside0.mk (Kept.of_grown (S := (fun k_ => P0_ k_)) hg (by repeat (first|(with_reducible first|exact HK.out|apply Kept.alloc|apply Kept.drewN|apply Kept.drew)|exact HK.out)) (fun k_ e_ => (HO_0.out.1 k_ e_)));clear HO_0;clear HB;clear HK;have HO_0 := n0_;have HB := n1_;have HK := n2_;clear n0_ n1_ n2_;clear hg hw hp_;have p8 : 0 ≤ (x5_1 : Int) := of_decide_eq_true (by first|(with_reducible assumption)|assumption);have q8 : (x5_1 : Int) < ((x0_1.length : Int) : Int) := of_decide_eq_true (by first|(with_reducible assumption)|assumption);obtain ⟨ce8,hcl8,hM8,hcc8,hfr8⟩ := Kd.R_elem HO_0.out z127 (x5_1 : Int) p8 q8;obtain rfl := k127_openM hM8;have hx8_0 : w16.cell? ⟨go5,(x5_1 : Int).toNat * 5,none⟩ = some (.int .i64 ((rd_T127 y326 x5_1).f0)) := hcc8 0 _ rfl;have hx8_1 : w16.cell? ⟨go5,(x5_1 : Int).toNat * 5 + 1,none⟩ = some (.int .i64 ((rd_T127 y326 x5_1).f1)) := hcc8 1 _ rfl;have hx8_2 : w16.cell? ⟨go5,(x5_1 : Int).toNat * 5 + 2,none⟩ = some (.int .i64 ((rd_T127 y326 x5_1).f2)) := hcc8 2 _ rfl;have hx8_3 : w16.cell? ⟨go5,(x5_1 : Int).toNat * 5 + 3,none⟩ = some (.bool ((rd_T127 y326 x5_1).f3)) := hcc8 3 _ rfl;have hx8_4 : w16.cell? ⟨go5,(x5_1 : Int).toNat * 5 + 4,none⟩ = some (.int .i64 ((rd_T127 y326 x5_1).f4)) := hcc8 4 _ rfl;have hf8_0 : w16.frozen? ⟨go5,(x5_1 : Int).toNat * 5,none⟩ = false := hfr8 0;have hf8_1 : w16.frozen? ⟨go5,(x5_1 : Int).toNat * 5 + 1,none⟩ = false := hfr8 1;have hf8_2 : w16.frozen? ⟨go5,(x5_1 : Int).toNat * 5 + 2,none⟩ = false := hfr8 2;have hf8_3 : w16.frozen? ⟨go5,(x5_1 : Int).toNat * 5 + 3,none⟩ = false := hfr8 3;have hf8_4 : w16.frozen? ⟨go5,(x5_1 : Int).toNat * 5 + 4,none⟩ = false := hfr8 4;clear hcl8 hcc8 hfr8 hM8;replace p8 := eq_true p8;replace q8 := eq_true q8;have HX17 := Aside0.mk (show Kd.R k127 127 w16 w0.heap.size (fun k_ => (P0_ k_ ∨ w.heap.size ≤ k_)) (.slice (some ⟨go5,0,none⟩) x0_1.length co10) y326 from (by (with_reducible repeat (first|apply Kd.R_alloc|apply Kd.R_drewN|apply Kd.R_drew));exact HO_0.out));obtain ⟨ce17,hcl17,hM17,hcc17,hfr17⟩ := Kd.R_elem HX17.out z127 (x5_1 : Int) (of_decide_eq_true (by first|(with_reducible assumption)|assumption)) (by have h_ : (x5_1 : Int) < ((x0_1.length : Int) : Int) := of_decide_eq_true (by first|(with_reducible assumption)|assumption);first|exact h_|(have e_ := (Kd.R_reads' HO_0.out).1;omega)|simpa using h_);obtain rfl := k127_openM hM17;have HP17 := Kd.R_seg HX17.out (x5_1 : Int) (of_decide_eq_true (by first|(with_reducible assumption)|assumption)) (by have h_ : (x5_1 : Int) < ((x0_1.length : Int) : Int) := of_decide_eq_true (by first|(with_reducible assumption)|assumption);first|exact h_|(have e_ := (Kd.R_reads' HO_0.out).1;omega)|simpa using h_) (seg := [.bool ((Int.tmod (wrap64 ((wrap64 ((wrap64 (x1_1 + 1)) + 1)) + 1)) 3) == 0)]) (j := 3) hcl17 hcc17 (show 4 ≤ 5 from by decide) (x' := (⟨(rd_T127 y326 x5_1).f0,(rd_T127 y326 x5_1).f1,(rd_T127 y326 x5_1).f2,((Int.tmod (wrap64 ((wrap64 ((wrap64 (x1_1 + 1)) + 1)) + 1)) 3) == 0),(rd_T127 y326 x5_1).f4⟩ : S127)) (k127_mkM _ _ _ (⟨(rd_T127 y326 x5_1).f0,(rd_T127 y326 x5_1).f1,(rd_T127 y326 x5_1).f2,((Int.tmod (wrap64 ((wrap64 ((wrap64 (x1_1 + 1)) + 1)) + 1)) 3) == 0),(rd_T127 y326 x5_1).f4⟩ : S127) ) (fun _ hk => hk);have hx17_3 := hcc17 3 _ rfl;(try simp only [show (k127).sz = 5 from rfl,Nat.mul_one,Nat.add_zero] at hx17_3);have hf17_3 := hfr17 3;(try simp only [show (k127).sz = 5 from rfl,Nat.mul_one,Nat.add_zero] at hf17_3);clear hcl17 hcc17 hfr17 hM17)|((with_reducible refine gate_store (t := 4) (p := 39) rfl ?_);refine store_event (t := 4) (p := 39) (v := ?vo_w18) (w1 := (w16.setCell ⟨go5,(x5_1 : Int).toNat * 5 + 3,none⟩ (.bool ((Int.tmod (wrap64 ((wrap64 ((wrap64 (x1_1 + 1)) + 1)) + 1)) 3) == 0)))) ?hg ?ho ?hn ?hr ?_;(case ho => rfl);(case hg => rfl);(case hn => rfl);(case hr => first|(go_simp;done)|(go_simp;rfl)|(obtain ⟨_,_,e_⟩ := Kd.R_slice HO_0.out;subst e_;first|(go_simp;done)|(go_simp;rfl)));intro w18 hw;have hg : w16.grownBy w18 (some go5) := (by rw [hw];exact HP17.2);have hp_ : Kd.R k127 127 w18 w0.heap.size (fun k_ => (P0_ k_ ∨ w.heap.size ≤ k_)) (.slice (some ⟨go5,0,none⟩) x0_1.length co10) y327 := (by rw [hw,Ny327.out];exact HP17.1);clear HP17;have n0_ := Aside0.mk (hp_);have n1_ := Aside0.mk ((by rw [hw];exact below_set (HB.out) GB5.out : Below w0.heap.size w0 w18));have n2_ := Aside0.mk (Kept.of_grown (S := (fun k_ => P0_ k_)) hg (by repeat (first|(with_reducible first|exact HK.out|apply Kept.alloc|apply Kept.drewN|apply Kept.drew)|exact HK.out)) (fun k_ e_ => (HO_0.out.1 k_ e_)));clear HO_0;clear HB;clear HK;have HO_0 := n0_;have HB := n1_;have HK := n2_;clear n0_ n1_ n2_;clear hg hw hp_;have p9 : 0 ≤ (x5_1 : Int) := of_decide_eq_true (by first|(with_reducible assumption)|assumption);have q9 : (x5_1 : Int) < ((x0_1.length : Int) : Int) := of_decide_eq_true (by first|(with_reducible assumption)|assumption);obtain ⟨ce9,hcl9,hM9,hcc9,hfr9⟩ := Kd.R_elem HO_0.out z127 (x5_1 : Int) p9 q9;obtain rfl := k127_openM hM9;have hx9_0 : w18.cell? ⟨go5,(x5_1 : Int).toNat * 5,none⟩ = some (.int .i64 ((rd_T127 y327 x5_1).f0)) := hcc9 0 _ rfl;have hx9_1 : w18.cell? ⟨go5,(x5_1 : Int).toNat * 5 + 1,none⟩ = some (.int .i64 ((rd_T127 y327 x5_1).f1)) := hcc9 1 _ rfl;have hx9_2 : w18.cell? ⟨go5,(x5_1 : Int).toNat * 5 + 2,none⟩ = some (.int .i64 ((rd_T127 y327 x5_1).f2)) := hcc9 2 _ rfl;have hx9_3 : w18.cell? ⟨go5,(x5_1 : Int).toNat * 5 + 3,none⟩ = some (.bool ((rd_T127 y327 x5_1).f3)) := hcc9 3 _ rfl;have hx9_4 : w18.cell? ⟨go5,(x5_1 : Int).toNat * 5 + 4,none⟩ = some (.int .i64 ((rd_T127 y327 x5_1).f4)) := hcc9 4 _ rfl;have hf9_0 : w18.frozen? ⟨go5,(x5_1 : Int).toNat * 5,none⟩ = false := hfr9 0;have hf9_1 : w18.frozen? ⟨go5,(x5_1 : Int).toNat * 5 + 1,none⟩ = false := hfr9 1;have hf9_2 : w18.frozen? ⟨go5,(x5_1 : Int).toNat * 5 + 2,none⟩ = false := hfr9 2;have hf9_3 : w18.frozen? ⟨go5,(x5_1 : Int).toNat * 5 + 3,none⟩ = false := hfr9 3;have hf9_4 : w18.frozen? ⟨go5,(x5_1 : Int).toNat * 5 + 4,none⟩ = false := hfr9 4;clear hcl9 hcc9 hfr9 hM9;replace p9 := eq_true p9;replace q9 := eq_true q9;have HX19 := Aside0.mk (show Kd.R k127 127 w18 w0.heap.size (fun k_ => (P0_ k_ ∨ w.heap.size ≤ k_)) (.slice (some ⟨go5,0,none⟩) x0_1.length co10) y327 from (by (with_reducible repeat (first|apply Kd.R_alloc|apply Kd.R_drewN|apply Kd.R_drew));exact HO_0.out));obtain ⟨ce19,hcl19,hM19,hcc19,hfr19⟩ := Kd.R_elem HX19.out z127 (x5_1 : Int) (of_decide_eq_true (by first|(with_reducible assumption)|assumption)) (by have h_ : (x5_1 : Int) < ((x0_1.length : Int) : Int) := of_decide_eq_true (by first|(with_reducible assumption)|assumption);first|exact h_|(have e_ := (Kd.R_reads' HO_0.out).1;omega)|simpa using h_);obtain rfl := k127_openM hM19;have HP19 := Kd.R_seg HX19.out (x5_1 : Int) (of_decide_eq_true (by first|(with_reducible assumption)|assumption)) (by have h_ : (x5_1 : Int) < ((x0_1.length : Int) : Int) := of_decide_eq_true (by first|(with_reducible assumption)|assumption);first|exact h_|(have e_ := (Kd.R_reads' HO_0.out).1;omega)|simpa using h_) (seg := [.int .i64 (wrap64 ((wrap64 ((wrap64 ((wrap64 (x1_1 + 1)) + 1)) + 1)) + 1))]) (j := 4) hcl19 hcc19 (show 5 ≤ 5 from by decide) (x' := (⟨(rd_T127 y327 x5_1).f0,(rd_T127 y327 x5_1).f1,(rd_T127 y327 x5_1).f2,(rd_T127 y327 x5_1).f3,wrap64 ((wrap64 ((wrap64 ((wrap64 (x1_1 + 1)) + 1)) + 1)) + 1)⟩ : S127)) (k127_mkM _ _ _ (⟨(rd_T127 y327 x5_1).f0,(rd_T127 y327 x5_1).f1,(rd_T127 y327 x5_1).f2,(rd_T127 y327 x5_1).f3,wrap64 ((wrap64 ((wrap64 ((wrap64 (x1_1 + 1)) + 1)) + 1)) + 1)⟩ : S127) ) (fun _ hk => hk);have hx19_4 := hcc19 4 _ rfl;(try simp only [show (k127).sz = 5 from rfl,Nat.mul_one,Nat.add_zero] at hx19_4);have hf19_4 := hfr19 4;(try simp only [show (k127).sz = 5 from rfl,Nat.mul_one,Nat.add_zero] at hf19_4);clear hcl19 hcc19 hfr19 hM19)|((with_reducible refine gate_store (t := 2) (p := 46) rfl ?_);refine store_event (t := 2) (p := 46) (v := ?vo_w20) (w1 := (w18.setCell ⟨go5,(x5_1 : Int).toNat * 5 + 4,none⟩ (.int .i64 (wrap64 ((wrap64 ((wrap64 ((wrap64 (x1_1 + 1)) + 1)) + 1)) + 1))))) ?hg ?ho ?hn ?hr ?_;(case ho => rfl);(case hg => rfl);(case hn => rfl);(case hr => first|(go_simp;done)|(go_simp;rfl)|(obtain ⟨_,_,e_⟩ := Kd.R_slice HO_0.out;subst e_;first|(go_simp;done)|(go_simp;rfl)));intro w20 hw;have hg : w18.grownBy w20 (some go5) := (by rw [hw];exact HP19.2);have hp_ : Kd.R k127 127 w20 w0.heap.size (fun k_ => (P0_ k_ ∨ w.heap.size ≤ k_)) (.slice (some ⟨go5,0,none⟩) x0_1.length co10) y328 := (by rw [hw,Ny328.out];exact HP19.1);clear HP19;have n0_ := Aside0.mk (hp_);have n1_ := Aside0.mk ((by rw [hw];exact below_set (HB.out) GB5.out : Below w0.heap.size w0 w20));have n2_ := Aside0.mk (Kept.of_grown (S := (fun k_ => P0_ k_)) hg (by repeat (first|(with_reducible first|exact HK.out|apply Kept.alloc|apply Kept.drewN|apply Kept.drew)|exact HK.out)) (fun k_ e_ => (HO_0.out.1 k_ e_)));clear HO_0;clear HB;clear HK;have HO_0 := n0_;have HB := n1_;have HK := n2_;clear n0_ n1_ n2_;clear hg hw hp_))
     go_roundg k1
     case measure => have := HK1.out;omega
     case rel => exact ⟨(y328),(wrap64 ((wrap64 ((wrap64 ((wrap64 ((wrap64 (x1_1 + 1)) + 1)) + 1)) + 1)) + 1)),(wrap64 (x5_1 + 1)),(by first|rfl|(simp;done)|(simp [*];done)),(by first|rfl|(simp;done)|(simp [*];done)),H',⟨by have := HK1.out;omega⟩,⟨by (with_reducible repeat (first|apply Kd.R_alloc|apply Kd.R_drewN|apply Kd.R_drew));exact HO_0.out⟩,⟨by repeat (first|(with_reducible first|exact HK.out|apply Kept.alloc|apply Kept.drewN|apply Kept.drew)|exact HK.out)⟩,⟨by repeat (first|(with_reducible first|exact HB.out|apply below_alloc|apply pw_below_drewN|apply below_drew1)|exact HB.out)⟩⟩
    ·rw [if_neg c4] at H
     exact absurd H (by simp)
   ·rw [if_neg c3] at H
    have c3b0 : decide (x5_1 < (x0_1.length : Int)) = false := decide_eq_false c3
    clear c3
    simp only [Option.some.injEq,Prod.mk.injEq] at H
    obtain ⟨rfl,rfl⟩ := H
    obtain ⟨Ao21,co21,eo21⟩ := Kd.R_slice HO_0.out
    subst eo21
    go_wp2
    go_ret
    exact ⟨by first|rfl|(simp [errW_none,errW_some] <;> rfl)|(simp [*,errW_none,errW_some] <;> rfl),by (with_reducible repeat (first|apply Kd.R_alloc|apply Kd.R_drewN|apply Kd.R_drew));exact HO_0.out,by repeat (first|(with_reducible first|exact HB.out|apply below_alloc|apply pw_below_drewN|apply below_drew1)|exact HB.out),by repeat (first|(with_reducible first|exact HK.out|apply Kept.alloc|apply Kept.drewN|apply Kept.drew)|exact HK.out)⟩

/-! ### laws_markRecordS: function 63 -/
def laws_markRecordS.l0 : Nat → List (S45) → Int → Int → Option (Int × (List (S45)))
  | 0, _, _, _ => none
  | k + 1, x0, x1, x5 => if x5 < (x0.length : Int) then (if 0 ≤ x5 then ((laws_markSetS.f k ((rd_T45 x0 x5).f3) (wrap64 ((wrap64 ((wrap64 (x1 + 1)) + 1)) + 1))).bind fun bt => (laws_markRecordS.l0 k (x0.set (x5 : Int).toNat (⟨x1, wrap64 (x1 + 1), wrap64 ((wrap64 (x1 + 1)) + 1), bt.2⟩ : S45)) bt.1 (wrap64 (x5 + 1)))) else (none)) else (some (x1, x0))
def laws_markRecordS.f (k : Nat) (l0 : List (S45)) (a1 : Int) : Option (Int × (List (S45))) := laws_markRecordS.l0 k l0 a1 0

set_option maxHeartbeats 8000000 in
set_option maxRecDepth 100000 in
theorem laws_markRecordS.calls (k : Nat) (P0_ : Nat → Prop) (u9000_ : Value) (l0 : List (S45)) (a1 : Int) (r1 : Int) (r2 : List (S45)) (w0 w : World) (hB : Below w0.heap.size w0 w) (ho0 : Kd.S k45 45 w w0.heap.size P0_ u9000_ l0) (h : laws_markRecordS.f k l0 a1 = some (r1, r2)) :
    Calls Try.prog 63 #[u9000_, .int .i64 a1] w fun e w' => e = .returned (.int .i64 r1) ∧ Kd.S k45 45 w' w0.heap.size (fun k_ => (P0_ k_ ∨ w.heap.size ≤ k_)) u9000_ r2 ∧ Below w0.heap.size w0 w' ∧ Kept w w' (fun k_ => P0_ k_) := by
 have HO0 := Aside0.mk (show Kd.S k45 45 w w0.heap.size (fun k_ => (P0_ k_ ∨ w.heap.size ≤ k_)) u9000_ l0 from Kd.S_mono ho0 (fun k_ hk => (.inl hk)))
 have HK := Aside0.mk (Kept.refl w (fun k_ => P0_ k_))
 have HB := Aside0.mk hB
 clear hB ho0
 have H : (laws_markRecordS.l0 k l0 a1 0) = some (r1,r2) := h
 clear h
 have H' := Aside0.mk H
 clear H
 go_enter Try.func63,Try.ntmps63
 go_wp2
 go_loopg [1,5] k (fun kq v1 v5 w' => ∃ (x0_1 : List (S45)) (x1_1 : Int) (x5_1 : Int),v1 = .int .i64 x1_1 ∧ v5 = .int .i64 x5_1 ∧ Aside0 (laws_markRecordS.l0 kq x0_1 x1_1 x5_1 = some (r1,r2)) ∧ Aside0 (kq ≤ k) ∧ Aside0 (Kd.S k45 45 w' w0.heap.size (fun k_ => (P0_ k_ ∨ w.heap.size ≤ k_)) u9000_ x0_1) ∧ Aside0 (Kept w w' (fun k_ => P0_ k_)) ∧ Aside0 (Below w0.heap.size w0 w'))
 case atStart => exact ⟨l0,a1,0,(by first|rfl|(simp;done)),(by first|rfl|(simp;done)),H',⟨Nat.le_refl _⟩,⟨HO0.out⟩,⟨HK.out⟩,⟨HB.out⟩⟩
 case round =>
  clear H' HO0 HK HB
  obtain ⟨x0_1,x1_1,x5_1,rfl,rfl,HA,HK1,HO_0,HK,HB⟩ := hrel
  cases gk with
    | zero => exact absurd HA.out (by simp [laws_markRecordS.l0])
    | succ k1 =>
   have H := HA.out
   clear HA
   simp only [laws_markRecordS.l0] at H
   by_cases c3 : x5_1 < (x0_1.length : Int)
   ·rw [if_pos c3] at H
    have c3b0 : decide (x5_1 < (x0_1.length : Int)) = true := decide_eq_true c3
    by_cases c4 : 0 ≤ x5_1
    ·rw [if_pos c4] at H
     have c4b0 : decide (0 ≤ x5_1) = true := decide_eq_true c4
     replace H := Option.bind_eq_some_iff.mp H
     obtain ⟨⟨t1,t2⟩,A30,H⟩ := H
     replace H : laws_markRecordS.l0 k1 (x0_1.set (x5_1 : Int).toNat (⟨x1_1,wrap64 (x1_1 + 1),wrap64 ((wrap64 (x1_1 + 1)) + 1),t2⟩ : S45)) t1 (wrap64 (x5_1 + 1)) = some (r1,r2) := H
     have H' := Aside0.mk H
     have A3 := Aside0.mk A30
     clear H A30
     obtain ⟨Ao7,co7,eo7⟩ := Kd.S_slice HO_0.out
     subst eo7
     obtain ⟨go5,co5,eo5,gb5,gl5,cl5,HG5⟩ := Kd.S_form HO_0.out (by omega)
     obtain rfl : Ao7 = some ⟨go5,0,none⟩ := (by injection eo5)
     obtain rfl : co7 = co5 := (by injection eo5)
     have GB := Aside0.mk gb5
     have HM : Aside0 (P0_ go5 ∨ w.heap.size ≤ go5) := ⟨(Kd.S_R HO_0.out).1 _ rfl⟩
     clear gb5 gl5 HG5 eo5
     have HX := Kd.S_mono (ok' := fun k_ => (P0_ k_ ∨ w.heap.size ≤ k_) ∧ ¬ wr.heap.size ≤ k_) (Kd.S_bound HO_0.out) (fun k_ hk => ⟨hk.1,Nat.not_le.2 hk.2.2.1⟩)
     obtain ⟨oki,ce,hcl,hM,hcc,hfr,hoki,hH⟩ := Kd.S_elem HX z45 (x5_1 : Int) c4 c3
     obtain ⟨v0,rfl,hv⟩ := k45_openM hM
     obtain ⟨A1,c1,e1⟩ := Kd.R_slice hv
     subst e1
     have hx19_0 : wr.cell? ⟨go5,(x5_1 : Int).toNat * 4,none⟩ = some (.int .i64 (rd_T45 x0_1 x5_1).f0) := by (have h_ := hcc 0 _ rfl;exact h_)
     have hx19_1 : wr.cell? ⟨go5,(x5_1 : Int).toNat * 4 + 1,none⟩ = some (.int .i64 (rd_T45 x0_1 x5_1).f1) := by (have h_ := hcc 1 _ rfl;exact h_)
     have hx19_2 : wr.cell? ⟨go5,(x5_1 : Int).toNat * 4 + 2,none⟩ = some (.int .i64 (rd_T45 x0_1 x5_1).f2) := by (have h_ := hcc 2 _ rfl;exact h_)
     have hx19_3 : wr.cell? ⟨go5,(x5_1 : Int).toNat * 4 + 3,none⟩ = some (.slice A1 ((rd_T45 x0_1 x5_1).f3).length c1) := by (have h_ := hcc 3 _ rfl;exact h_)
     have hf19_0 : wr.frozen? ⟨go5,(x5_1 : Int).toNat * 4,none⟩ = false := by (have h_ := hfr 0;exact h_)
     have hf19_1 : wr.frozen? ⟨go5,(x5_1 : Int).toNat * 4 + 1,none⟩ = false := by (have h_ := hfr 1;exact h_)
     have hf19_2 : wr.frozen? ⟨go5,(x5_1 : Int).toNat * 4 + 2,none⟩ = false := by (have h_ := hfr 2;exact h_)
     have hf19_3 : wr.frozen? ⟨go5,(x5_1 : Int).toNat * 4 + 3,none⟩ = false := by (have h_ := hfr 3;exact h_)
     have P5 := Aside0.mk c4
     have Q5 : Aside0 ((x5_1 : Int) < (x0_1.length : Int)) := ⟨c3⟩
     have HV : Aside0 (Kd.R k127 127 wr w0.heap.size oki (.slice A1 ((rd_T45 x0_1 x5_1).f3).length c1) ((rd_T45 x0_1 x5_1).f3)) := ⟨hv⟩
     have HH : Aside0 (Kd.H k45 45 wr w0.heap.size (fun k_ => ((P0_ k_ ∨ w.heap.size ≤ k_) ∧ ¬ wr.heap.size ≤ k_)) (.slice (some ⟨go5,0,none⟩) x0_1.length co7) x0_1 (x5_1 : Int) oki [.int .i64 (rd_T45 x0_1 x5_1).f0,.int .i64 (rd_T45 x0_1 x5_1).f1,.int .i64 (rd_T45 x0_1 x5_1).f2,.slice A1 ((rd_T45 x0_1 x5_1).f3).length c1]) := ⟨hH⟩
     have HI := Aside0.mk hoki
     have HZ := Aside0.mk (Nat.le_refl wr.heap.size)
     have HKR := Aside0.mk HK.out.1
     clear hcl hcc hfr hoki hH hv HX hM
     clear HO_0
     have p5 : (0 ≤ (x5_1 : Int)) = True := eq_true c4
     have q5 : ((x5_1 : Int) < (x0_1.length : Int)) = True := eq_true c3
     clear c3 c4
     go_wp2_with (first|((with_reducible refine gcal_ (f := 70) rfl ?_);refine goesL_ (some 39) rfl rfl Try.func70 (by kernel_rfl) rfl #[.slice A1 ((rd_T45 x0_1 x5_1).f3).length c1,.int .i64 (wrap64 ((wrap64 ((wrap64 (x1_1 + 1)) + 1)) + 1))] rfl (by (try simp only [List.map_toArray,List.map_cons,List.map_nil]);first|done|rfl) ?_;have h0_ := Kd.H_seg (j := 0) (seg := [.int .i64 (x1_1)]) HH.out P5.out Q5.out (show 0 + 1 ≤ 4 from by decide) (by intro q_ hq_;rw [List.mem_singleton.1 hq_];rfl);have hg : wr.grownBy (wr.setCell ⟨go5,(x5_1 : Int).toNat * 4,none⟩ (.int .i64 (x1_1))) (some go5) := h0_.2;have n0_ : Aside0 (Kd.H k45 45 (wr.setCell ⟨go5,(x5_1 : Int).toNat * 4,none⟩ (.int .i64 (x1_1))) w0.heap.size (fun k_ => ((P0_ k_ ∨ w.heap.size ≤ k_) ∧ ¬ wr.heap.size ≤ k_)) (.slice (some ⟨go5,0,none⟩) x0_1.length co7) x0_1 (x5_1 : Int) oki [.int .i64 (x1_1),.int .i64 (rd_T45 x0_1 x5_1).f1,.int .i64 (rd_T45 x0_1 x5_1).f2,.slice A1 ((rd_T45 x0_1 x5_1).f3).length c1]) := ⟨h0_.1⟩;clear h0_;have n1_ := Aside0.mk (Kd.R_grown HV.out hg (fun k_ hk_ he_ => (HI.out k_ hk_).2 (by injection he_)));have n2_ : Aside0 (Below w0.heap.size w0 (wr.setCell ⟨go5,(x5_1 : Int).toNat * 4,none⟩ (.int .i64 (x1_1)))) := ⟨below_set HB.out GB.out⟩;have n3_ : Aside0 (Kept w (wr.setCell ⟨go5,(x5_1 : Int).toNat * 4,none⟩ (.int .i64 (x1_1))) (fun k_ => P0_ k_)) := ⟨Kept.of_grown (S := (fun k_ => P0_ k_)) hg HK.out (fun k_ e_ => (by injection e_ with e2_;subst e2_;exact HM.out))⟩;have n4_ : Aside0 (wr.heap.size ≤ (wr.setCell ⟨go5,(x5_1 : Int).toNat * 4,none⟩ (.int .i64 (x1_1))).heap.size) := ⟨Nat.le_trans HZ.out hg.size⟩;clear hg;clear HH HV HB HK HZ;have HH := n0_;have HV := n1_;have HB := n2_;have HK := n3_;have HZ := n4_;clear n0_ n1_ n2_ n3_ n4_;have h0_ := Kd.H_seg (j := 1) (seg := [.int .i64 (wrap64 (x1_1 + 1))]) HH.out P5.out Q5.out (show 1 + 1 ≤ 4 from by decide) (by intro q_ hq_;rw [List.mem_singleton.1 hq_];rfl);have hg : (wr.setCell ⟨go5,(x5_1 : Int).toNat * 4,none⟩ (.int .i64 (x1_1))).grownBy ((wr.setCell ⟨go5,(x5_1 : Int).toNat * 4,none⟩ (.int .i64 (x1_1))).setCell ⟨go5,(x5_1 : Int).toNat * 4 + 1,none⟩ (.int .i64 (wrap64 (x1_1 + 1)))) (some go5) := h0_.2;have n0_ : Aside0 (Kd.H k45 45 ((wr.setCell ⟨go5,(x5_1 : Int).toNat * 4,none⟩ (.int .i64 (x1_1))).setCell ⟨go5,(x5_1 : Int).toNat * 4 + 1,none⟩ (.int .i64 (wrap64 (x1_1 + 1)))) w0.heap.size (fun k_ => ((P0_ k_ ∨ w.heap.size ≤ k_) ∧ ¬ wr.heap.size ≤ k_)) (.slice (some ⟨go5,0,none⟩) x0_1.length co7) x0_1 (x5_1 : Int) oki [.int .i64 (x1_1),.int .i64 (wrap64 (x1_1 + 1)),.int .i64 (rd_T45 x0_1 x5_1).f2,.slice A1 ((rd_T45 x0_1 x5_1).f3).length c1]) := ⟨h0_.1⟩;clear h0_;have n1_ := Aside0.mk (Kd.R_grown HV.out hg (fun k_ hk_ he_ => (HI.out k_ hk_).2 (by injection he_)));have n2_ : Aside0 (Below w0.heap.size w0 ((wr.setCell ⟨go5,(x5_1 : Int).toNat * 4,none⟩ (.int .i64 (x1_1))).setCell ⟨go5,(x5_1 : Int).toNat * 4 + 1,none⟩ (.int .i64 (wrap64 (x1_1 + 1))))) := ⟨below_set HB.out GB.out⟩;have n3_ : Aside0 (Kept w ((wr.setCell ⟨go5,(x5_1 : Int).toNat * 4,none⟩ (.int .i64 (x1_1))).setCell ⟨go5,(x5_1 : Int).toNat * 4 + 1,none⟩ (.int .i64 (wrap64 (x1_1 + 1)))) (fun k_ => P0_ k_)) := ⟨Kept.of_grown (S := (fun k_ => P0_ k_)) hg HK.out (fun k_ e_ => (by injection e_ with e2_;subst e2_;exact HM.out))⟩;have n4_ : Aside0 (wr.heap.size ≤ ((wr.setCell ⟨go5,(x5_1 : Int).toNat * 4,none⟩ (.int .i64 (x1_1))).setCell ⟨go5,(x5_1 : Int).toNat * 4 + 1,none⟩ (.int .i64 (wrap64 (x1_1 + 1)))).heap.size) := ⟨Nat.le_trans HZ.out hg.size⟩;clear hg;clear HH HV HB HK HZ;have HH := n0_;have HV := n1_;have HB := n2_;have HK := n3_;have HZ := n4_;clear n0_ n1_ n2_ n3_ n4_;have h0_ := Kd.H_seg (j := 2) (seg := [.int .i64 (wrap64 ((wrap64 (x1_1 + 1)) + 1))]) HH.out P5.out Q5.out (show 2 + 1 ≤ 4 from by decide) (by intro q_ hq_;rw [List.mem_singleton.1 hq_];rfl);have hg : ((wr.setCell ⟨go5,(x5_1 : Int).toNat * 4,none⟩ (.int .i64 (x1_1))).setCell ⟨go5,(x5_1 : Int).toNat * 4 + 1,none⟩ (.int .i64 (wrap64 (x1_1 + 1)))).grownBy (((wr.setCell ⟨go5,(x5_1 : Int).toNat * 4,none⟩ (.int .i64 (x1_1))).setCell ⟨go5,(x5_1 : Int).toNat * 4 + 1,none⟩ (.int .i64 (wrap64 (x1_1 + 1)))).setCell ⟨go5,(x5_1 : Int).toNat * 4 + 2,none⟩ (.int .i64 (wrap64 ((wrap64 (x1_1 + 1)) + 1)))) (some go5) := h0_.2;have n0_ : Aside0 (Kd.H k45 45 (((wr.setCell ⟨go5,(x5_1 : Int).toNat * 4,none⟩ (.int .i64 (x1_1))).setCell ⟨go5,(x5_1 : Int).toNat * 4 + 1,none⟩ (.int .i64 (wrap64 (x1_1 + 1)))).setCell ⟨go5,(x5_1 : Int).toNat * 4 + 2,none⟩ (.int .i64 (wrap64 ((wrap64 (x1_1 + 1)) + 1)))) w0.heap.size (fun k_ => ((P0_ k_ ∨ w.heap.size ≤ k_) ∧ ¬ wr.heap.size ≤ k_)) (.slice (some ⟨go5,0,none⟩) x0_1.length co7) x0_1 (x5_1 : Int) oki [.int .i64 (x1_1),.int .i64 (wrap64 (x1_1 + 1)),.int .i64 (wrap64 ((wrap64 (x1_1 + 1)) + 1)),.slice A1 ((rd_T45 x0_1 x5_1).f3).length c1]) := ⟨h0_.1⟩;clear h0_;have n1_ := Aside0.mk (Kd.R_grown HV.out hg (fun k_ hk_ he_ => (HI.out k_ hk_).2 (by injection he_)));have n2_ : Aside0 (Below w0.heap.size w0 (((wr.setCell ⟨go5,(x5_1 : Int).toNat * 4,none⟩ (.int .i64 (x1_1))).setCell ⟨go5,(x5_1 : Int).toNat * 4 + 1,none⟩ (.int .i64 (wrap64 (x1_1 + 1)))).setCell ⟨go5,(x5_1 : Int).toNat * 4 + 2,none⟩ (.int .i64 (wrap64 ((wrap64 (x1_1 + 1)) + 1))))) := ⟨below_set HB.out GB.out⟩;have n3_ : Aside0 (Kept w (((wr.setCell ⟨go5,(x5_1 : Int).toNat * 4,none⟩ (.int .i64 (x1_1))).setCell ⟨go5,(x5_1 : Int).toNat * 4 + 1,none⟩ (.int .i64 (wrap64 (x1_1 + 1)))).setCell ⟨go5,(x5_1 : Int).toNat * 4 + 2,none⟩ (.int .i64 (wrap64 ((wrap64 (x1_1 + 1)) + 1)))) (fun k_ => P0_ k_)) := ⟨Kept.of_grown (S := (fun k_ => P0_ k_)) hg HK.out (fun k_ e_ => (by injection e_ with e2_;subst e2_;exact HM.out))⟩;have n4_ : Aside0 (wr.heap.size ≤ (((wr.setCell ⟨go5,(x5_1 : Int).toNat * 4,none⟩ (.int .i64 (x1_1))).setCell ⟨go5,(x5_1 : Int).toNat * 4 + 1,none⟩ (.int .i64 (wrap64 (x1_1 + 1)))).setCell ⟨go5,(x5_1 : Int).toNat * 4 + 2,none⟩ (.int .i64 (wrap64 ((wrap64 (x1_1 + 1)) + 1)))).heap.size) := ⟨Nat.le_trans HZ.out hg.size⟩;clear hg;clear HH HV HB HK HZ;have HH := n0_;have HV := n1_;have HB := n2_;have HK := n3_;have HZ := n4_;clear n0_ n1_ n2_ n3_ n4_;refine (laws_markSetS.calls k1 oki (.slice A1 ((rd_T45 x0_1 x5_1).f3).length c1) ((rd_T45 x0_1 x5_1).f3) (wrap64 ((wrap64 ((wrap64 (x1_1 + 1)) + 1)) + 1)) t1 t2 w0 _ HB.out HV.out A3.out).mono ?_;rintro e w12 ⟨rfl,ho,hb,hk⟩;refine ⟨_,rfl,?_⟩;have hH1 := Kd.H_step (w1 := w12) HH.out (fun k_ _ hn hlt => hk.2 k_ hlt hn);have hH2 := Kd.H_more (okg := fun k_ => wr.heap.size ≤ k_) hH1 (fun k_ hk_ => .inr (Nat.le_trans HKR.out hk_));have n0_ := Aside0.mk (Kd.H_back hH2 (k45_mkM _ _ _ (⟨x1_1,wrap64 (x1_1 + 1),wrap64 ((wrap64 (x1_1 + 1)) + 1),t2⟩ : S45) (Kd.R_mono (ok' := fun k_ => oki k_ ∨ wr.heap.size ≤ k_) ho (fun k_ h_ => h_.elim Or.inl (fun h2_ => .inr (Nat.le_trans HZ.out h2_))))) (fun _ h_ => h_));have n1_ := Aside0.mk hb;have n2_ : Aside0 (Kept w w12 (fun k_ => P0_ k_)) := ⟨⟨Nat.le_trans HK.out.1 hk.1,fun k_ h1_ h2_ => (hk.2 k_ (Nat.lt_of_lt_of_le h1_ HK.out.1) (fun h3_ => ((HI.out k_ h3_).1.1.elim h2_ (fun h4_ => absurd h1_ (Nat.not_lt.2 h4_))))).trans (HK.out.2 k_ h1_ h2_)⟩⟩;clear HB HK HH HV HI hH1 hH2 ho hb hk;have HO_0 := n0_;have HB := n1_;have HK := n2_;clear n0_ n1_ n2_))
     go_roundg k1
     case measure => have := HK1.out;omega
     case rel => exact ⟨_,t1,(wrap64 (x5_1 + 1)),(by first|rfl|(simp;done)),(by first|rfl|(simp;done)),H',⟨by have := HK1.out;omega⟩,⟨HO_0.out⟩,⟨HK.out⟩,⟨HB.out⟩⟩
    ·rw [if_neg c4] at H
     exact absurd H (by simp)
   ·rw [if_neg c3] at H
    have c3b0 : decide (x5_1 < (x0_1.length : Int)) = false := decide_eq_false c3
    clear c3
    simp only [Option.some.injEq,Prod.mk.injEq] at H
    obtain ⟨rfl,rfl⟩ := H
    obtain ⟨Ao12,co12,eo12⟩ := Kd.S_slice HO_0.out
    subst eo12
    go_wp2
    go_ret
    exact ⟨rfl,HO_0.out,HB.out,HK.out⟩

/-! ### laws_markInt64S: function 64 -/
def laws_markInt64S.l0 : Nat → List Int → Int → Int → Option (Int × List Int)
  | 0, _, _, _ => none
  | k + 1, x0, x1, x5 => if x5 < (x0.length : Int) then (if 0 ≤ x5 then (laws_markInt64S.l0 k (x0.set (x5 : Int).toNat x1) (wrap64 (x1 + 1)) (wrap64 (x5 + 1))) else (none)) else (some (x1, x0))
def laws_markInt64S.f (k : Nat) (l0 : List Int) (a1 : Int) : Option (Int × List Int) := laws_markInt64S.l0 k l0 a1 0

set_option maxHeartbeats 8000000 in
set_option maxRecDepth 100000 in
theorem laws_markInt64S.calls (k : Nat) (P0_ : Nat → Prop) (u9000_ : Value) (l0 : List Int) (a1 : Int) (r1 : Int) (r2 : List Int) (w0 w : World) (hB : Below w0.heap.size w0 w) (ho0 : Kd.R (Kd.int .i64) 2 w w0.heap.size P0_ u9000_ l0) (h : laws_markInt64S.f k l0 a1 = some (r1, r2)) :
    Calls Try.prog 64 #[u9000_, .int .i64 a1] w fun e w' => e = .returned (.int .i64 r1) ∧ Kd.R (Kd.int .i64) 2 w' w0.heap.size (fun k_ => (P0_ k_ ∨ w.heap.size ≤ k_)) u9000_ r2 ∧ Below w0.heap.size w0 w' ∧ Kept w w' (fun k_ => P0_ k_) := by
 have HO0 := Aside0.mk (show Kd.R (Kd.int .i64) 2 w w0.heap.size (fun k_ => (P0_ k_ ∨ w.heap.size ≤ k_)) u9000_ l0 from Kd.R_mono ho0 (fun k_ hk => (.inl hk)))
 have HK := Aside0.mk (Kept.refl w (fun k_ => P0_ k_))
 have HW0 := Aside0.mk hB.size
 have HB := Aside0.mk hB
 clear hB
 have H : (laws_markInt64S.l0 k l0 a1 0) = some (r1,r2) := h
 clear h
 have H' := Aside0.mk H
 clear H
 go_enter Try.func64,Try.ntmps64
 go_wp2
 go_loopg [1,5] k (fun kq v1 v5 w' => ∃ (x0_1 : List Int) (x1_1 : Int) (x5_1 : Int),v1 = .int .i64 x1_1 ∧ v5 = .int .i64 x5_1 ∧ Aside0 (laws_markInt64S.l0 kq x0_1 x1_1 x5_1 = some (r1,r2)) ∧ Aside0 (kq ≤ k) ∧ Aside0 (Kd.R (Kd.int .i64) 2 w' w0.heap.size (fun k_ => (P0_ k_ ∨ w.heap.size ≤ k_)) u9000_ x0_1) ∧ Aside0 (Kept w w' (fun k_ => P0_ k_)) ∧ Aside0 (Below w0.heap.size w0 w'))
 case atStart => exact ⟨(l0),(a1),(0),(by first|rfl|(simp;done)|(simp [*];done)),(by first|rfl|(simp;done)|(simp [*];done)),H',⟨Nat.le_refl _⟩,⟨by (with_reducible repeat (first|apply Kd.R_alloc|apply Kd.R_drewN|apply Kd.R_drew));exact HO0.out⟩,⟨by repeat (first|(with_reducible first|exact HK.out|apply Kept.alloc|apply Kept.drewN|apply Kept.drew)|exact HK.out)⟩,⟨by repeat (first|(with_reducible first|exact HB.out|apply below_alloc|apply pw_below_drewN|apply below_drew1)|exact HB.out)⟩⟩
 case round =>
  clear H'
  try clear p2
  obtain ⟨x0_1,x1_1,x5_1,rfl,rfl,HA,HK1,HO_0,HK,HB⟩ := hrel
  cases gk with
    | zero => exact absurd HA.out (by simp [laws_markInt64S.l0])
    | succ k1 =>
   have H := HA.out
   clear HA
   simp only [laws_markInt64S.l0] at H
   by_cases c3 : x5_1 < (x0_1.length : Int)
   ·rw [if_pos c3] at H
    have c3b0 : decide (x5_1 < (x0_1.length : Int)) = true := decide_eq_true c3
    clear c3
    by_cases c4 : 0 ≤ x5_1
    ·rw [if_pos c4] at H
     have c4b0 : decide (0 ≤ x5_1) = true := decide_eq_true c4
     clear c4
     obtain ⟨y329,hy329⟩ : ∃ y_ : List Int,y_ = (x0_1.set (x5_1 : Int).toNat x1_1) := ⟨_,rfl⟩
     replace H : (laws_markInt64S.l0 k1 y329 (wrap64 (x1_1 + 1)) (wrap64 (x5_1 + 1))) = some (r1,r2) := by first|(rw [hy329];with_reducible exact H)|(have H2_ := (Option.bind_some _ _).symm.trans H;rw [hy329];with_reducible exact H2_)|(have H2_ := (Option.bind_some _ _).symm.trans H;with_reducible exact H2_)|with_reducible exact H|(rw [hy329];exact H)|exact H
     have Ny329 := Aside0.mk hy329
     clear hy329
     have H' := Aside0.mk H
     clear H
     obtain ⟨Ao6,co6,eo6⟩ := Kd.R_slice HO_0.out
     subst eo6
     have p5 : 0 ≤ (x5_1 : Int) := of_decide_eq_true (by first|(with_reducible assumption)|assumption)
     have q5 : (x5_1 : Int) < ((x0_1.length : Int) : Int) := of_decide_eq_true (by first|(with_reducible assumption)|assumption)
     obtain ⟨go5,co5,eo5,gb5,gl5,cl5,HG5⟩ := Kd.R_form HO_0.out (by omega)
     (first|cases eo5|(injection eo5 with ea_ en_ ec_;(first|subst ea_|(injection ea_ with ea_;subst ea_));subst ec_;clear en_))
     have GB5 := Aside0.mk gb5
     have GG5 := Aside0.mk HG5
     clear gb5 gl5 HG5
     have HMgo5 := Aside0.mk (show (P0_ go5 ∨ w.heap.size ≤ go5) from (HO_0.out.1 _ rfl))
     obtain ⟨hx5_0,hf5_0⟩ := Kd.R_celln 0 HO_0.out (x5_1 : Int) p5 q5
     replace p5 := eq_true p5
     replace q5 := eq_true q5
     have HP7 := Kd.R_putg HO_0.out (x5_1 : Int) x1_1
     go_wp2_with (first|((with_reducible refine gate_store (t := 2) (p := 15) rfl ?_);refine store_event (t := 2) (p := 15) (v := ?vo_w8) (w1 := (wr.setCell ⟨go5,(x5_1 : Int).toNat,none⟩ (.int .i64 x1_1))) ?hg ?ho ?hn ?hr ?_;(case ho => rfl);(case hg => rfl);(case hn => rfl);(case hr => first|(go_simp;done)|(go_simp;rfl)|(obtain ⟨_,_,e_⟩ := Kd.R_slice HO_0.out;subst e_;first|(go_simp;done)|(go_simp;rfl)));intro w8 hw;have hg : wr.grownBy w8 (some go5) := (by rw [hw];exact HP7.2);have hp_ : Kd.R (Kd.int .i64) 2 w8 w0.heap.size (fun k_ => (P0_ k_ ∨ w.heap.size ≤ k_)) (.slice (some ⟨go5,0,none⟩) x0_1.length co6) y329 := (by rw [hw,Ny329.out];exact HP7.1);clear HP7;have n0_ := Aside0.mk (hp_);have n1_ := Aside0.mk ((by rw [hw];exact below_set (HB.out) GB5.out : Below w0.heap.size w0 w8));have n2_ := Aside0.mk (Kept.of_grown (S := (fun k_ => P0_ k_)) hg (by repeat (first|(with_reducible first|exact HK.out|apply Kept.alloc|apply Kept.drewN|apply Kept.drew)|exact HK.out)) (fun k_ e_ => (HO_0.out.1 k_ e_)));clear HO_0;clear HB;clear HK;have HO_0 := n0_;have HB := n1_;have HK := n2_;clear n0_ n1_ n2_;clear hg hw hp_))
     go_roundg k1
     case measure => have := HK1.out;omega
     case rel => exact ⟨(y329),(wrap64 (x1_1 + 1)),(wrap64 (x5_1 + 1)),(by first|rfl|(simp;done)|(simp [*];done)),(by first|rfl|(simp;done)|(simp [*];done)),H',⟨by have := HK1.out;omega⟩,⟨by (with_reducible repeat (first|apply Kd.R_alloc|apply Kd.R_drewN|apply Kd.R_drew));exact HO_0.out⟩,⟨by repeat (first|(with_reducible first|exact HK.out|apply Kept.alloc|apply Kept.drewN|apply Kept.drew)|exact HK.out)⟩,⟨by repeat (first|(with_reducible first|exact HB.out|apply below_alloc|apply pw_below_drewN|apply below_drew1)|exact HB.out)⟩⟩
    ·rw [if_neg c4] at H
     exact absurd H (by simp)
   ·rw [if_neg c3] at H
    have c3b0 : decide (x5_1 < (x0_1.length : Int)) = false := decide_eq_false c3
    clear c3
    simp only [Option.some.injEq,Prod.mk.injEq] at H
    obtain ⟨rfl,rfl⟩ := H
    obtain ⟨Ao9,co9,eo9⟩ := Kd.R_slice HO_0.out
    subst eo9
    go_wp2
    go_ret
    exact ⟨by first|rfl|(simp [errW_none,errW_some] <;> rfl)|(simp [*,errW_none,errW_some] <;> rfl),by (with_reducible repeat (first|apply Kd.R_alloc|apply Kd.R_drewN|apply Kd.R_drew));exact HO_0.out,by repeat (first|(with_reducible first|exact HB.out|apply below_alloc|apply pw_below_drewN|apply below_drew1)|exact HB.out),by repeat (first|(with_reducible first|exact HK.out|apply Kept.alloc|apply Kept.drewN|apply Kept.drew)|exact HK.out)⟩

/-! ### laws_markMachine: function 18 -/
theorem hold_18 {p : Prop} (h : Aside0 p) : p := h.out
theorem ty_18 {w : World} {k : Nat} {a b : List Nat} (h1 : ∃ q, q ∈ a ∧ ∃ cs, w.heap[k]? = some (.cells cs q (0, 0))) (h2 : ∃ q, q ∈ b ∧ ∃ cs, w.heap[k]? = some (.cells cs q (0, 0))) (hd : ∀ q, q ∈ a → ¬ q ∈ b) : False := by
 obtain ⟨q,hq,cs,h1⟩ := h1
 obtain ⟨q2,hq2,cs2,h2⟩ := h2
 rw [h1] at h2
 injection h2 with h2
 injection h2 with _ h2
 exact hd q hq (h2 ▸ hq2)
def laws_markMachine.f (k : Nat) (l1 : List (S79)) (l2 : List (S45)) (l3 : List Int) (a1 : Int) : Option (Int) := (laws_markCopyS.f k l1 a1).bind fun x => (laws_markRecordS.f k l2 x.1).bind fun y => (laws_markInt64S.f k l3 y.1).bind fun z => some z.1
set_option maxHeartbeats 8000000 in
set_option maxRecDepth 100000 in
theorem laws_markMachine.calls (k : Nat) (P0_ : Nat → Prop) (a0 : Bool) (v1 v2 v3 : Value) (l1 : List (S79)) (l2 : List (S45)) (l3 : List Int) (a1 : Int) (r : Int) (w0 w : World) (hB : Below w0.heap.size w0 w) (ho1 : Kd.S k79 79 w w0.heap.size P0_ v1 l1) (ho2 : Kd.S k45 45 w w0.heap.size P0_ v2 l2) (ho3 : Kd.R (Kd.int .i64) 2 w w0.heap.size P0_ v3 l3) (h : laws_markMachine.f k l1 l2 l3 a1 = some r) :
    Calls Try.prog 18 #[.agg #[.bool a0, v1, v2, v3], .int .i64 a1] w fun e w' => e = .returned (.int .i64 r) ∧ Below w0.heap.size w0 w' ∧ Kept w w' (fun k_ => P0_ k_) := by
 obtain ⟨⟨m1,y1⟩,E1,h1⟩ := Option.bind_eq_some_iff.1 h
 clear h
 obtain ⟨⟨m2,y2⟩,E2,h2⟩ := Option.bind_eq_some_iff.1 h1
 clear h1
 obtain ⟨⟨m3,y3⟩,E3,h3⟩ := Option.bind_eq_some_iff.1 h2
 clear h2
 obtain rfl := Option.some.inj h3
 clear h3
 have F1 := Aside0.mk E1
 have F2 := Aside0.mk E2
 have F3 := Aside0.mk E3
 have HB := Aside0.mk hB
 have O1 := Aside0.mk ho1
 have O2 := Aside0.mk ho2
 have O3 := Aside0.mk ho3
 clear hB ho1 ho2 ho3 E1 E2 E3
 obtain ⟨A1,c1,e1⟩ := Kd.S_slice O1.out
 subst e1
 obtain ⟨A2,c2,e2⟩ := Kd.S_slice O2.out
 subst e2
 obtain ⟨A3,c3,e3⟩ := Kd.R_slice O3.out
 subst e3

 have hu := Try.underlying32
 go_enter Try.func18,Try.ntmps18
 go_wp2_with ((with_reducible refine gate_dst (N := 2) rfl ?_);refine box_event ?hg (N := 2) ?hd (cs := #[.bool a0,.slice A1 l1.length c1,.slice A2 l2.length c2,.slice A3 l3.length c3]) (t := 32) ?hr ?_;(case hd => rfl);(case hg => rfl);(case hr => first|(go_simp;done)|(go_simp;rfl));intro gb hg w1 hbox hb;clear hg;refine hold_18 ?_)
 refine ⟨?_⟩
 have BX := Aside0.mk hbox
 have HZ := Aside0.mk hb
 have n0_ := Aside0.mk (below_step HB.out hb)
 have n1_ : Aside0 (Kd.S k79 79 w1 w0.heap.size (fun k_ => P0_ k_ ∧ w0.heap.size ≤ k_ ∧ k_ < w1.heap.size ∧ ∃ q,q ∈ 79 :: (k79).E ∧ ∃ cells,w1.heap[k_]? = some (.cells cells q (0,0))) (.slice A1 l1.length c1) l1) := ⟨Kd.S_bound (Kd.S_below O1.out hb)⟩
 have n2_ : Aside0 (Kd.S k45 45 w1 w0.heap.size (fun k_ => P0_ k_ ∧ w0.heap.size ≤ k_ ∧ k_ < w1.heap.size ∧ ∃ q,q ∈ 45 :: (k45).E ∧ ∃ cells,w1.heap[k_]? = some (.cells cells q (0,0))) (.slice A2 l2.length c2) l2) := ⟨Kd.S_bound (Kd.S_below O2.out hb)⟩
 have n3_ : Aside0 (Kd.R (Kd.int .i64) 2 w1 w0.heap.size (fun k_ => P0_ k_ ∧ w0.heap.size ≤ k_ ∧ k_ < w1.heap.size ∧ ∃ q,q ∈ 2 :: ((Kd.int .i64)).E ∧ ∃ cells,w1.heap[k_]? = some (.cells cells q (0,0))) (.slice A3 l3.length c3) l3) := ⟨Kd.R_bound (Kd.R_below O3.out hb)⟩
 clear HB O1 O2 O3 hbox hb
 have HB := n0_
 have O1 := n1_
 have O2 := n2_
 have O3 := n3_
 clear n0_ n1_ n2_ n3_
 have hcz1_0 : w1.cell? ⟨gb,0,none⟩ = some (.bool a0) := (blk_cell BX.out 0).trans rfl
 have hfz1_0 := blk_frozen BX.out 0
 have hcz1_1 : w1.cell? ⟨gb,1,none⟩ = some (.slice A1 l1.length c1) := (blk_cell BX.out 1).trans rfl
 have hfz1_1 := blk_frozen BX.out 1
 have hcz1_2 : w1.cell? ⟨gb,2,none⟩ = some (.slice A2 l2.length c2) := (blk_cell BX.out 2).trans rfl
 have hfz1_2 := blk_frozen BX.out 2
 have hcz1_3 : w1.cell? ⟨gb,3,none⟩ = some (.slice A3 l3.length c3) := (blk_cell BX.out 3).trans rfl
 have hfz1_3 := blk_frozen BX.out 3
 go_wp2_with ((with_reducible refine gcal_ (f := 62) rfl ?_);refine goesL_ (some 8) rfl rfl Try.func62 (by kernel_rfl) rfl #[.slice A1 l1.length c1,.int .i64 a1] rfl (by (try simp only [List.map_toArray,List.map_cons,List.map_nil]);first|done|rfl) ?_;refine (laws_markCopyS.calls k (fun k_ => P0_ k_ ∧ w0.heap.size ≤ k_ ∧ k_ < w1.heap.size ∧ ∃ q,q ∈ 79 :: (k79).E ∧ ∃ cells,w1.heap[k_]? = some (.cells cells q (0,0))) (.slice A1 l1.length c1) l1 a1 m1 y1 w0 _ HB.out O1.out F1.out).mono ?_;rintro e w2 ⟨rfl,S,B,K⟩;refine ⟨_,rfl,?_⟩;refine hold_18 ?_)
 refine ⟨?_⟩
 have HK := Aside0.mk K
 have O2 := Aside0.mk (Kd.S_step O2.out (fun k_ hk_ hlt_ => K.2 k_ hlt_ (fun hs_ => ty_18 hk_.2.2.2 hs_.2.2.2 (by decide))))
 have O3 := Aside0.mk (Kd.R_step O3.out (fun k_ hk_ hlt_ => K.2 k_ hlt_ (fun hs_ => ty_18 hk_.2.2.2 hs_.2.2.2 (by decide))))
 have HB := Aside0.mk B
 have BX2 := Aside0.mk ((K.2 gb (blk_lt BX.out) (fun hs_ => ty_18 ⟨32,List.mem_singleton.2 rfl,_,BX.out⟩ hs_.2.2.2 (by decide))).trans BX.out)
 clear S B K
 clear hcz1_0 hcz1_1 hcz1_2 hcz1_3 hfz1_0 hfz1_1 hfz1_2 hfz1_3
 have hcz2_0 : w2.cell? ⟨gb,0,none⟩ = some (.bool a0) := (blk_cell BX2.out 0).trans rfl
 have hfz2_0 := blk_frozen BX2.out 0
 have hcz2_1 : w2.cell? ⟨gb,1,none⟩ = some (.slice A1 l1.length c1) := (blk_cell BX2.out 1).trans rfl
 have hfz2_1 := blk_frozen BX2.out 1
 have hcz2_2 : w2.cell? ⟨gb,2,none⟩ = some (.slice A2 l2.length c2) := (blk_cell BX2.out 2).trans rfl
 have hfz2_2 := blk_frozen BX2.out 2
 have hcz2_3 : w2.cell? ⟨gb,3,none⟩ = some (.slice A3 l3.length c3) := (blk_cell BX2.out 3).trans rfl
 have hfz2_3 := blk_frozen BX2.out 3
 go_wp2_with ((with_reducible refine gcal_ (f := 63) rfl ?_);refine goesL_ (some 12) rfl rfl Try.func63 (by kernel_rfl) rfl #[.slice A2 l2.length c2,.int .i64 m1] rfl (by (try simp only [List.map_toArray,List.map_cons,List.map_nil]);first|done|rfl) ?_;refine (laws_markRecordS.calls k (fun k_ => P0_ k_ ∧ w0.heap.size ≤ k_ ∧ k_ < w1.heap.size ∧ ∃ q,q ∈ 45 :: (k45).E ∧ ∃ cells,w1.heap[k_]? = some (.cells cells q (0,0))) (.slice A2 l2.length c2) l2 m1 m2 y2 w0 _ HB.out O2.out F2.out).mono ?_;rintro e w3 ⟨rfl,S,B,K⟩;refine ⟨_,rfl,?_⟩;refine hold_18 ?_)
 refine ⟨?_⟩
 have HK2 := Aside0.mk K
 have O3 := Aside0.mk (Kd.R_step O3.out (fun k_ hk_ hlt_ => K.2 k_ hlt_ (fun hs_ => ty_18 hk_.2.2.2 hs_.2.2.2 (by decide))))
 have HB := Aside0.mk B
 have BX3 := Aside0.mk ((K.2 gb (blk_lt BX2.out) (fun hs_ => ty_18 ⟨32,List.mem_singleton.2 rfl,_,BX.out⟩ hs_.2.2.2 (by decide))).trans BX2.out)
 clear S B K
 clear hcz2_0 hcz2_1 hcz2_2 hcz2_3 hfz2_0 hfz2_1 hfz2_2 hfz2_3
 have hcz3_0 : w3.cell? ⟨gb,0,none⟩ = some (.bool a0) := (blk_cell BX3.out 0).trans rfl
 have hfz3_0 := blk_frozen BX3.out 0
 have hcz3_1 : w3.cell? ⟨gb,1,none⟩ = some (.slice A1 l1.length c1) := (blk_cell BX3.out 1).trans rfl
 have hfz3_1 := blk_frozen BX3.out 1
 have hcz3_2 : w3.cell? ⟨gb,2,none⟩ = some (.slice A2 l2.length c2) := (blk_cell BX3.out 2).trans rfl
 have hfz3_2 := blk_frozen BX3.out 2
 have hcz3_3 : w3.cell? ⟨gb,3,none⟩ = some (.slice A3 l3.length c3) := (blk_cell BX3.out 3).trans rfl
 have hfz3_3 := blk_frozen BX3.out 3
 go_wp2_with ((with_reducible refine gcal_ (f := 64) rfl ?_);refine goesL_ (some 16) rfl rfl Try.func64 (by kernel_rfl) rfl #[.slice A3 l3.length c3,.int .i64 m2] rfl (by (try simp only [List.map_toArray,List.map_cons,List.map_nil]);first|done|rfl) ?_;refine (laws_markInt64S.calls k (fun k_ => P0_ k_ ∧ w0.heap.size ≤ k_ ∧ k_ < w1.heap.size ∧ ∃ q,q ∈ 2 :: ((Kd.int .i64)).E ∧ ∃ cells,w1.heap[k_]? = some (.cells cells q (0,0))) (.slice A3 l3.length c3) l3 m2 m3 y3 w0 _ HB.out O3.out F3.out).mono ?_;rintro e w4 ⟨rfl,S,B,K⟩;refine ⟨_,rfl,?_⟩;refine hold_18 ?_)
 refine ⟨?_⟩
 have HE : Aside0 (Below w0.heap.size w0 w4 ∧ Kept w w4 (fun k_ => P0_ k_)) := ⟨B,Nat.le_trans HZ.out.size (Nat.le_trans HK.out.1 (Nat.le_trans HK2.out.1 K.1)),fun i_ h0_ h2_ => (fun (h1_ : i_ < w1.heap.size) => (((K.2 i_ (Nat.lt_of_lt_of_le h1_ (Nat.le_trans HK.out.1 HK2.out.1)) (fun h3_ => h2_ h3_.1)).trans (HK2.out.2 i_ (Nat.lt_of_lt_of_le h1_ HK.out.1) (fun h3_ => h2_ h3_.1))).trans (HK.out.2 i_ h1_ (fun h3_ => h2_ h3_.1))).trans (HZ.out.block i_ h0_)) (Nat.lt_of_lt_of_le h0_ HZ.out.size)⟩
 clear S B K
 go_wp2
 go_ret
 exact ⟨rfl,HE.out⟩

/-! ### laws_heldCellS: function 20 -/
def laws_heldCellS.l0 : Nat → List (S92) → Int → Int → Option (Int)
  | 0, _, _, _ => none
  | k + 1, x0, x1, x5 => if x5 < (x0.length : Int) then (if 0 ≤ x5 then (if ((rd_T92 x0 x5).f0) = x1 then (if ((rd_T92 x0 x5).f1) = (wrap64 (x1 + 1)) then (laws_heldCellS.l0 k x0 (wrap64 ((wrap64 (x1 + 1)) + 1)) (wrap64 (x5 + 1))) else (some (-1))) else (some (-1))) else (none)) else (some x1)
def laws_heldCellS.f (k : Nat) (l0 : List (S92)) (a1 : Int) : Option (Int) := laws_heldCellS.l0 k l0 a1 0

set_option maxHeartbeats 8000000 in
set_option maxRecDepth 100000 in
theorem laws_heldCellS.calls (k : Nat) (A0 : Option Addr) (c0 : Nat) (l0 : List (S92)) (a1 : Int) (r : Int) (w : World) (hr0 : Kd.C k92 w A0 l0.length l0) (hc0 : l0.length ≤ c0) (h : laws_heldCellS.f k l0 a1 = some r) :
    Calls Try.prog 20 #[.slice A0 l0.length c0, .int .i64 a1] w fun e w' => e = .returned (.int .i64 r) ∧ Drawn0 w w' := by
 have HR0 := Aside0.mk hr0
 have HC0 := Aside0.mk hc0
 clear hr0 hc0
 have H : (laws_heldCellS.l0 k l0 a1 0) = some r := h
 clear h
 have H' := Aside0.mk H
 clear H
 go_enter Try.func20,Try.ntmps20
 go_wp2
 go_loopg [1,5] k (fun kq v1 v5 w' => ∃ (x1_1 : Int) (x5_1 : Int),v1 = .int .i64 x1_1 ∧ v5 = .int .i64 x5_1 ∧ Aside0 (laws_heldCellS.l0 kq l0 x1_1 x5_1 = some r) ∧ Aside0 (kq ≤ k) ∧ Drawn0 w w')
 case atStart => exact ⟨(a1),(0),(by first|rfl|(simp;done)|(simp [*];done)),(by first|rfl|(simp;done)|(simp [*];done)),H',⟨Nat.le_refl _⟩,by repeat (first|exact Drawn0.refl _|apply Drawn0.step)⟩
 case round =>
  clear H'
  try clear c2
  try clear p2
  obtain ⟨x1_1,x5_1,rfl,rfl,HA,HK1,⟨m1,rfl⟩⟩ := hrel
  cases gk with
    | zero => exact absurd HA.out (by simp [laws_heldCellS.l0])
    | succ k1 =>
   have H := HA.out
   clear HA
   simp only [laws_heldCellS.l0] at H
   by_cases c3 : x5_1 < (l0.length : Int)
   ·rw [if_pos c3] at H
    have c3b0 : decide (x5_1 < (l0.length : Int)) = true := decide_eq_true c3
    clear c3
    by_cases c4 : 0 ≤ x5_1
    ·rw [if_pos c4] at H
     have c4b0 : decide (0 ≤ x5_1) = true := decide_eq_true c4
     clear c4
     by_cases c5 : ((rd_T92 l0 x5_1).f0) = x1_1
     ·rw [if_pos c5] at H
      have c5b0 : (((rd_T92 l0 x5_1).f0) == x1_1) = true := beq_iff_eq.mpr c5
      have c5b1 : (((rd_T92 l0 x5_1).f0) != x1_1) = false := bne_eq_false_iff_eq.mpr c5
      clear c5
      by_cases c6 : ((rd_T92 l0 x5_1).f1) = (wrap64 (x1_1 + 1))
      ·rw [if_pos c6] at H
       have c6b0 : (((rd_T92 l0 x5_1).f1) == (wrap64 (x1_1 + 1))) = true := beq_iff_eq.mpr c6
       have c6b1 : (((rd_T92 l0 x5_1).f1) != (wrap64 (x1_1 + 1))) = false := bne_eq_false_iff_eq.mpr c6
       clear c6
       have H' := Aside0.mk H
       clear H
       have p330 : 0 ≤ (x5_1 : Int) := of_decide_eq_true (by first|(with_reducible assumption)|assumption)
       have q330 : x5_1 < (l0.length : Int) := of_decide_eq_true (by first|(with_reducible assumption)|assumption)
       obtain ⟨ad330,e330,hx330_0,hx330_1⟩ := at_T92 HR0.out x5_1 p330 q330
       cases e330
       replace p330 := eq_true p330
       replace q330 := eq_true q330
       have p331 : 0 ≤ (x5_1 : Int) := of_decide_eq_true (by first|(with_reducible assumption)|assumption)
       have q331 : x5_1 < (l0.length : Int) := of_decide_eq_true (by first|(with_reducible assumption)|assumption)
       obtain ⟨ad331,e331,hx331_0,hx331_1⟩ := at_T92 HR0.out x5_1 p331 q331
       obtain rfl : ad330 = ad331 := (by injection e331)
       replace p331 := eq_true p331
       replace q331 := eq_true q331
       go_wp2
       go_roundg k1
       case measure => have := HK1.out;omega
       case rel => exact ⟨(wrap64 ((wrap64 (x1_1 + 1)) + 1)),(wrap64 (x5_1 + 1)),(by first|rfl|(simp;done)|(simp [*];done)),(by first|rfl|(simp;done)|(simp [*];done)),H',⟨by have := HK1.out;omega⟩,by repeat (first|exact Drawn0.refl _|apply Drawn0.step)⟩
      ·rw [if_neg c6] at H
       have c6b0 : (((rd_T92 l0 x5_1).f1) == (wrap64 (x1_1 + 1))) = false := beq_eq_false_iff_ne.mpr c6
       have c6b1 : (((rd_T92 l0 x5_1).f1) != (wrap64 (x1_1 + 1))) = true := bne_iff_ne.mpr c6
       obtain rfl := Option.some.inj H
       have p330 : 0 ≤ (x5_1 : Int) := of_decide_eq_true (by first|(with_reducible assumption)|assumption)
       have q330 : x5_1 < (l0.length : Int) := of_decide_eq_true (by first|(with_reducible assumption)|assumption)
       obtain ⟨ad330,e330,hx330_0,hx330_1⟩ := at_T92 HR0.out x5_1 p330 q330
       cases e330
       replace p330 := eq_true p330
       replace q330 := eq_true q330
       have p331 : 0 ≤ (x5_1 : Int) := of_decide_eq_true (by first|(with_reducible assumption)|assumption)
       have q331 : x5_1 < (l0.length : Int) := of_decide_eq_true (by first|(with_reducible assumption)|assumption)
       obtain ⟨ad331,e331,hx331_0,hx331_1⟩ := at_T92 HR0.out x5_1 p331 q331
       obtain rfl : ad330 = ad331 := (by injection e331)
       replace p331 := eq_true p331
       replace q331 := eq_true q331
       go_wp2
       go_ret
       exact ⟨by first|rfl|(simp;done)|(simp [*];done),by repeat (first|exact Drawn0.refl _|apply Drawn0.step)⟩
     ·rw [if_neg c5] at H
      have c5b0 : (((rd_T92 l0 x5_1).f0) == x1_1) = false := beq_eq_false_iff_ne.mpr c5
      have c5b1 : (((rd_T92 l0 x5_1).f0) != x1_1) = true := bne_iff_ne.mpr c5
      obtain rfl := Option.some.inj H
      have p330 : 0 ≤ (x5_1 : Int) := of_decide_eq_true (by first|(with_reducible assumption)|assumption)
      have q330 : x5_1 < (l0.length : Int) := of_decide_eq_true (by first|(with_reducible assumption)|assumption)
      obtain ⟨ad330,e330,hx330_0,hx330_1⟩ := at_T92 HR0.out x5_1 p330 q330
      cases e330
      replace p330 := eq_true p330
      replace q330 := eq_true q330
      go_wp2
      go_ret
      exact ⟨by first|rfl|(simp;done)|(simp [*];done),by repeat (first|exact Drawn0.refl _|apply Drawn0.step)⟩
    ·rw [if_neg c4] at H
     exact absurd H (by simp)
   ·rw [if_neg c3] at H
    have c3b0 : decide (x5_1 < (l0.length : Int)) = false := decide_eq_false c3
    clear c3
    obtain rfl := Option.some.inj H
    go_wp2
    go_ret
    exact ⟨by first|rfl|(simp;done)|(simp [*];done),by repeat (first|exact Drawn0.refl _|apply Drawn0.step)⟩

end Go.Proofs.Ythplaakckfhaaaa.XCp
