/- Proved: of each Go function here that a call comes to what the Lean function of its name tells. Written by a program of this session over the translation. No conditions beyond each theorem's own. -/
import Derived.Test.YthplaakckfhaaaaXCd0
import Derived.Test.YthplaakckfhaaaaXCd5
import Derived.Test.YthplaakckfhaaaaXCd6
namespace Go.Proofs.Ythplaakckfhaaaa.XCd
open Go.RowKit Go.Proofs.Ythplaakckfhaaaa.Aid Go.Proofs.YthplaakckfhaaaaW.PrintWords Go.Proofs.YthplaakckfhaaaaW.PrintLast Go.Proofs.YthplaakckfhaaaaW.PrintMore
set_option linter.unusedVariables false
set_option linter.unusedSimpArgs false

/-! ### impl_MachineOk: function 13 -/
def impl_MachineOk.f (k : Nat) (a0_0 : Bool) (l0_1 : List (S79)) (l0_2 : List (S45)) (l0_3 : List Int) : Option (Bool) := (impl_isMachineOk.f k a0_0 l0_1 l0_2 l0_3).bind fun t141 => (some t141)

set_option maxHeartbeats 8000000 in
set_option maxRecDepth 100000 in
theorem impl_MachineOk.calls (k : Nat) (a0_0 : Bool) (A0_1 : Option Addr) (c0_1 : Nat) (l0_1 : List (S79)) (A0_2 : Option Addr) (c0_2 : Nat) (l0_2 : List (S45)) (A0_3 : Option Addr) (c0_3 : Nat) (l0_3 : List Int) (r : Bool) (w : World) (hr0_1 : Kd.C k79 w A0_1 l0_1.length l0_1) (hc0_1 : l0_1.length ≤ c0_1) (hr0_2 : Kd.C k45 w A0_2 l0_2.length l0_2) (hc0_2 : l0_2.length ≤ c0_2) (hr0_3 : Kd.C (Kd.int .i64) w A0_3 l0_3.length l0_3) (hc0_3 : l0_3.length ≤ c0_3) (h : impl_MachineOk.f k a0_0 l0_1 l0_2 l0_3 = some r) :
    Calls Try.prog 13 #[.agg #[.bool a0_0, .slice A0_1 l0_1.length c0_1, .slice A0_2 l0_2.length c0_2, .slice A0_3 l0_3.length c0_3]] w fun e w' => e = .returned (.bool r) ∧ Below w.heap.size w w' := by
 have hu32 := Try.underlying32
 have HR0_1 := ak hr0_1
 have HC0_1 := ak hc0_1
 clear hr0_1 hc0_1
 have HR0_2 := ak hr0_2
 have HC0_2 := ak hc0_2
 clear hr0_2 hc0_2
 have HR0_3 := ak hr0_3
 have HC0_3 := ak hc0_3
 clear hr0_3 hc0_3
 have HB := ak (Below.refl w.heap.size w)
 have H : ((impl_isMachineOk.f k a0_0 l0_1 l0_2 l0_3).bind fun t141 => (some t141)) = some r := h
 clear h
 replace H := bs_ H
 obtain ⟨t141,A2,H⟩ := H
 obtain rfl := Option.some.inj H
 go_enter Try.func13,Try.ntmps13
 go_wp2_with (first|((with_reducible refine gate_dst (N := 1) rfl ?_);refine bx_ 1 #[.bool a0_0,.slice A0_1 l0_1.length c0_1,.slice A0_2 l0_2.length c0_2,.slice A0_3 l0_3.length c0_3] 32 ?_;intro gb140 hg w3 hbox hb;replace HB := nb_ hg hbox hb;obtain ⟨BK140,GW140,GE140,HB⟩ := HB;clear hb hbox hg;obtain ⟨⟨hcz4_0,hcz4_1,hcz4_2,hcz4_3⟩,hfz4_0,hfz4_1,hfz4_2,hfz4_3⟩ := cl4_ BK140.out)|((with_reducible refine gcal_ (f := 53) rfl ?_);refine gl_ (some 4) Try.func53 #[.agg #[.bool a0_0,.slice A0_1 l0_1.length c0_1,.slice A0_2 l0_2.length c0_2,.slice A0_3 l0_3.length c0_3]] ?_;(with_reducible refine (impl_isMachineOk.calls k a0_0 _ _ l0_1 _ _ l0_2 _ _ l0_3 t141 _ ?side1 ?side2 ?side3 ?side4 ?side5 ?side6 A2.out).mono ?_);(case side1 => exact cb_ HR0_1);(case side2 => exact HC0_1.out);(case side3 => exact cb_ HR0_2);(case side4 => exact HC0_2.out);(case side5 => exact cb_ HR0_3);(case side6 => exact HC0_3.out);rintro e w5 ⟨rfl,hb⟩;refine ⟨_,rfl,?_⟩;replace BK140 := ak (blk_below (kb_ BK140) hb);replace HB := ak (below_step b_ hb);(try clear hb);(try clear hb2);(try clear hk);(try clear hi)))
 go_ret
 exact ⟨rf_,b_⟩

/-! ### impl_Machine_logged_1: function 112 -/
set_option maxHeartbeats 8000000 in
set_option maxRecDepth 100000 in
theorem impl_Machine_logged_1.calls (a0_0 a0_1 a0_2 : Int) (A0_3 : Option Addr) (c0_3 : Nat) (l0_3 : List (S127)) (g1 g2 g3 : Nat) (q1 q2 q3 : Int) (w : World) (h1 : w.cell? ⟨g1, 0, none⟩ = some (.int .i64 q1)) (h2 : w.cell? ⟨g2, 0, none⟩ = some (.int .i64 q2)) (h3 : w.cell? ⟨g3, 0, none⟩ = some (.int .i64 q3)) :
    Calls Try.prog 112 (#[.agg #[.int .i64 a0_0, .int .i64 a0_1, .int .i64 a0_2, .slice A0_3 l0_3.length c0_3]] ++ #[.pointer (some ⟨g1, 0, none⟩), .pointer (some ⟨g2, 0, none⟩), .pointer (some ⟨g3, 0, none⟩)]) w fun e w' => e = .returned (.bool ((a0_1 == q1) && ((a0_2 == q2) && (a0_0 == q3)))) ∧ Below w.heap.size w w' := by
 have hu := Try.underlying45
 have l1 : g1 < w.heap.size := World.block_lt_of_cell? w _ h1
 have l2 : g2 < w.heap.size := World.block_lt_of_cell? w _ h2
 have l3 : g3 < w.heap.size := World.block_lt_of_cell? w _ h3
 have n1 : g1 ≠ w.heap.size := Nat.ne_of_lt l1
 have n2 : g2 ≠ w.heap.size := Nat.ne_of_lt l2
 have n3 : g3 ≠ w.heap.size := Nat.ne_of_lt l3
 show Calls Try.prog 112 #[.agg #[.int .i64 a0_0,.int .i64 a0_1,.int .i64 a0_2,.slice A0_3 l0_3.length c0_3],.pointer (some ⟨g1,0,none⟩),.pointer (some ⟨g2,0,none⟩),.pointer (some ⟨g3,0,none⟩)] w _
 by_cases e1 : a0_1 = q1
 ·subst e1
  by_cases e2 : a0_2 = q2
  ·subst e2
   by_cases e3 : a0_0 = q3
   ·subst e3
    go_enter Try.func112,Try.ntmps112
    go_wp2
    go_ret
    exact ⟨by simp,(Below.refl _ _).alloc (Nat.le_refl _) _⟩
   ·have f3 : (a0_0 == q3) = false := by simpa using e3
    go_enter Try.func112,Try.ntmps112
    go_wp2
    go_ret
    exact ⟨by simp [e3],(Below.refl _ _).alloc (Nat.le_refl _) _⟩
  ·have f2 : (a0_2 == q2) = false := by simpa using e2
   go_enter Try.func112,Try.ntmps112
   go_wp2
   go_ret
   exact ⟨by simp [e2],(Below.refl _ _).alloc (Nat.le_refl _) _⟩
 ·have f1 : (a0_1 == q1) = false := by simpa using e1
  go_enter Try.func112,Try.ntmps112
  go_wp2
  go_ret
  exact ⟨by simp [e1],(Below.refl _ _).alloc (Nat.le_refl _) _⟩

/-! ### impl_Machine_logged: function 67 -/
theorem hold_67 {p : Prop} (h : Aside0 p) : p := h.out
def impl_Machine_logged.f (l2 : List (S45)) (a1 a2 a3 : Int) : Option (Int) := idxFrom (fun x : S45 => some ((x.f1 == a1) && ((x.f2 == a2) && (x.f0 == a3)))) l2 0
set_option maxHeartbeats 8000000 in
set_option maxRecDepth 100000 in
theorem impl_Machine_logged.calls (g : Nat) (A2 : Option Addr) (c2 : Nat) (l2 : List (S45)) (a1 a2 a3 : Int) (r : Int) (w : World) (hg2 : w.cell? ⟨g, 2, none⟩ = some (.slice A2 l2.length c2)) (hr2 : Kd.C k45 w A2 l2.length l2) (hc2 : l2.length ≤ c2) (h : impl_Machine_logged.f l2 a1 a2 a3 = some r) :
    Calls Try.prog 67 #[.pointer (some ⟨g, 0, none⟩), .int .i64 a1, .int .i64 a2, .int .i64 a3] w fun e w' => e = .returned (.int .i64 r) ∧ Below w.heap.size w w' := by
 have HG := ak hg2
 have HR := ak hr2
 have HC := ak hc2
 have H := ak h
 clear hg2 hr2 hc2 h
 go_enter Try.func67,Try.ntmps67
 go_wp2_with ((with_reducible refine gate_dst (N := 5) rfl ?_);refine bx_ 5 #[.int .i64 a1] 2 ?_;intro g1 hg w1 hbox hb;have hge := ak (Nat.le_of_eq hg.symm);clear hg;refine hold_67 ?_)
 refine ⟨?_⟩
 have D1 := ak hb
 have X1 := ak hbox
 clear hb hbox hge
 go_wp2_with ((with_reducible refine gate_dst (N := 6) rfl ?_);refine bx_ 6 #[.int .i64 a2] 2 ?_;intro g2 hg w2 hbox hb;have hge := ak (Nat.le_of_eq hg.symm);clear hg;refine hold_67 ?_)
 refine ⟨?_⟩
 have D2 := ak (below_step D1.out hb)
 have X1 := ak (blk_below X1.out hb)
 have X2 := ak hbox
 clear hb hbox hge
 go_wp2_with ((with_reducible refine gate_dst (N := 7) rfl ?_);refine bx_ 7 #[.int .i64 a3] 2 ?_;intro g3 hg w3 hbox hb;have hge := ak (Nat.le_of_eq hg.symm);clear hg;refine hold_67 ?_)
 refine ⟨?_⟩
 have D3 := ak (below_step D2.out hb)
 have X1 := ak (blk_below X1.out hb)
 have X2 := ak (blk_below X2.out hb)
 have X3 := ak hbox
 clear hb hbox hge
 have hi := impl_Record_111.idx (fun x : S45 => some ((x.f1 == a1) && ((x.f2 == a2) && (x.f0 == a3)))) 112 #[.pointer (some ⟨g1,0,none⟩),.pointer (some ⟨g2,0,none⟩),.pointer (some ⟨g3,0,none⟩)] (enters_of Try.func112 (by kernel_rfl) rfl) A2 c2 l2 w3 (fun x A3 c3 b W hb_ hB_ hL_ hC_ => by obtain rfl := Option.some.inj hb_;exact (impl_Machine_logged_1.calls x.f0 x.f1 x.f2 A3 c3 x.f3 g1 g2 g3 a1 a2 a3 W ((blk_cell (blk_below X1.out hB_) 0).trans rfl) ((blk_cell (blk_below X2.out hB_) 0).trans rfl) ((blk_cell (blk_below X3.out hB_) 0).trans rfl)).mono fun e w' hh => ⟨hh.1,below_step hB_ hh.2⟩) (Kd.C_below HR.out D3.out) HC.out r H.out
 have hcz : w3.cell? ⟨g,2,none⟩ = some (.slice A2 l2.length c2) := (D3.out.cell (World.block_lt_of_cell? _ _ HG.out)).trans HG.out
 go_wp2_with (go_at_call 111;refine hi.mono ?_;rintro e w' ⟨rfl,hb⟩)
 go_ret
 exact ⟨rfl,below_step D3.out hb⟩

/-! ### impl_Set_113: function 113 -/
def impl_Set_113.f (l0 : List (S127)) : Option ((List (S127))) := (some (([] : List (S127)) : List (S127))).bind fun y142 => (if y142.length + l0.length < 3518437208883 then (some (y142 ++ l0)) else (none))
set_option maxHeartbeats 8000000 in
set_option maxRecDepth 100000 in
theorem impl_Set_113.calls (A0 : Option Addr) (c0 : Nat) (l0 : List (S127)) (r : List (S127)) (w : World) (hr0 : Kd.C k127 w A0 l0.length l0) (hc0 : l0.length ≤ c0) (h : impl_Set_113.f l0 = some r) :
    Calls Try.prog 113 #[.slice A0 l0.length c0] w fun e w' => ∃ v0_ : Value, e = .returned (v0_) ∧ Kd.R k127 127 w' w.heap.size (fun _ => True) v0_ r ∧ Below w.heap.size w w' := by
 cases A0 with
  | none =>
  have hnil := fun (W : World) => Go.Lib.run_eql_slice_nil (P := Try.prog) W 43 127 none l0.length c0 0 0 Try.underlying43
  simp only [Option.isNone_none] at hnil
  have hl : l0 = [] := by
   rcases Nat.eq_zero_or_pos l0.length with h1 | h1
   ·exact List.length_eq_zero_iff.1 h1
   ·obtain ⟨_,e,_⟩ := hr0.2.2 h1
    cases e
  have hr : r = [] := by
   subst hl
   have h2 : some ([] : List _) = some r := by rw [← h];simp [impl_Set_113.f]
   exact (Option.some.inj h2).symm
  subst hr
  clear h hr0
  subst hl
  simp only [List.length_nil] at hnil
  go_enter Try.func113,Try.ntmps113
  go_wp2
  go_ret
  exact ⟨_,rfl,Kd.R_nil _ _ _ _ _,Below.refl _ _⟩
  | some ad0 =>
  have hnil := fun (W : World) => Go.Lib.run_eql_slice_nil (P := Try.prog) W 43 127 (some ad0) l0.length c0 0 0 Try.underlying43
  simp only [Option.isNone_some] at hnil
  have HR0 := ak hr0
  have HC0 := ak hc0
  clear hr0 hc0
  have HB := ak (Below.refl w.heap.size w)
  have H : ((some (([] : List (S127)) : List (S127))).bind fun y142 => (if y142.length + l0.length < 3518437208883 then (some (y142 ++ l0)) else (none))) = some r := h
  clear h
  obtain ⟨y142,hy142⟩ : ∃ y_ : List (S127),y_ = (([] : List (S127))) := ⟨_,rfl⟩
  replace H : (if y142.length + l0.length < 3518437208883 then (some (y142 ++ l0)) else (none)) = some r := by first|(rw [hy142];with_reducible exact H)|(have H2_ := (Option.bind_some _ _).symm.trans H;rw [hy142];with_reducible exact H2_)|(have H2_ := (Option.bind_some _ _).symm.trans H;with_reducible exact H2_)|with_reducible exact H|(rw [hy142];exact H)|exact H
  have Ny142 := ak hy142
  clear hy142
  by_cases c2 : y142.length + l0.length < 3518437208883
  ·rw [if_pos c2] at H
   have LMc2 := ak c2
   clear c2
   obtain ⟨y145,hy145⟩ : ∃ y_ : List (S127),y_ = (y142 ++ l0) := ⟨_,rfl⟩
   replace H : (some y145) = some r := by first|(rw [hy145];with_reducible exact H)|(have H2_ := (Option.bind_some _ _).symm.trans H;rw [hy145];with_reducible exact H2_)|(have H2_ := (Option.bind_some _ _).symm.trans H;with_reducible exact H2_)|with_reducible exact H|(rw [hy145];exact H)|exact H
   have Ny145 := ak hy145
   clear hy145
   obtain rfl := Option.some.inj H
   go_enter Try.func113,Try.ntmps113
   go_wp2_with (first|((with_reducible refine gate_dst (N := 5) rfl ?_);refine Kd.R_lit k127 _ 127 ?hg (N := 5) ?hd (xs := ([] : List (S127))) (inner := []) (ok := fun _ => True) (okp := fun _ => True) ?hr ?hp (fun _ hk => hk) trivial (Below.refl _ _) (Nat.le_refl _) (by simp) ?_;(case hd => rfl);(case hg => rfl);(case hr => first|(go_simp;done)|(go_simp;rfl));(case hp => exact (Reps.none _ _));intro v143 w3 ho4 hb hg_ hnew_;clear hg_ hnew_;(first|rw [← Ny142.out] at ho4|(simp only [Int.reduceToNat] at ho4;rw [← Ny142.out] at ho4));have HO144 := ak (Kd.R_lower ho4 (below_size b_));replace HB := ak (below_step b_ hb);clear hb ho4)|((with_reducible refine gblt_ (b := .append) (xs := #[.tmp 5,.tmp 6]) rfl ?_);at_builtin;refine Kd.R_append_rows k127 (w0 := w) w.heap.size rfl (.tmp 5) (.tmp 6) 43 127 (.agg #[(.int .i64 0),(.int .i64 0),(.int .i64 0),(.bool false),(.int .i64 0)]) 40 rfl Try.underlying43 info127 rfl (by decide) (by omega) v143 y142 l0 _ _ _ (fun _ => True) (fun _ => False) rfl rfl ?aO ?aR (fun _ _ h => h) (fun _ h => h.elim) ?aF ?aB ?aS ?aL ?_;(case aR => repeat (first|exact (Kd.C_below HR0.out HB.out)|(with_reducible refine Kd.C_alloc ?_ _)|(with_reducible refine Kd.C_drewN ?_ _)|(with_reducible refine Kd.C_drew ?_)));(case aB => exact b_);(case aF => exact (fun _ _ => trivial));(case aO => exact (by (with_reducible repeat (first|apply Kd.R_alloc|apply Kd.R_drewN|apply Kd.R_drew));exact HO144.out));(case aS => exact (below_size b_));(case aL => have := LMc2.out;omega);intro v146 w5 ho hb hg hat;rw [← Ny145.out] at ho;replace HB := ak (hb);have HO147 := ak (ho);clear HO144;clear ho hb hg hat))
   go_ret
   exact ⟨_,rf_,by (with_reducible repeat (first|apply Kd.R_alloc|apply Kd.R_drewN|apply Kd.R_drew));exact HO147.out,b_⟩
  ·rw [if_neg c2] at H
   exact absurd H (by simp)

/-! ### impl_cloneRecord: function 68 -/
def impl_cloneRecord.f (a0_0 : Int) (a0_1 : Int) (a0_2 : Int) (l0_3 : List (S127)) : Option (Int × Int × Int × (List (S127))) := (impl_Set_113.f l0_3).bind fun t150 => (some (a0_0, a0_1, a0_2, t150))
set_option maxHeartbeats 8000000 in
set_option maxRecDepth 100000 in
theorem impl_cloneRecord.calls (a0_0 : Int) (a0_1 : Int) (a0_2 : Int) (A0_3 : Option Addr) (c0_3 : Nat) (l0_3 : List (S127)) (r1 : Int) (r2 : Int) (r3 : Int) (r4 : List (S127)) (w : World) (hr0_3 : Kd.C k127 w A0_3 l0_3.length l0_3) (hc0_3 : l0_3.length ≤ c0_3) (h : impl_cloneRecord.f a0_0 a0_1 a0_2 l0_3 = some (r1, r2, r3, r4)) :
    Calls Try.prog 68 #[.agg #[.int .i64 a0_0, .int .i64 a0_1, .int .i64 a0_2, .slice A0_3 l0_3.length c0_3]] w fun e w' => ∃ v3_ : Value, e = .returned (.agg #[.int .i64 r1, .int .i64 r2, .int .i64 r3, v3_]) ∧ Kd.R k127 127 w' w.heap.size (fun _ => True) v3_ r4 ∧ Below w.heap.size w w' := by
 have hu45 := Try.underlying45
 have HR0_3 := ak hr0_3
 have HC0_3 := ak hc0_3
 clear hr0_3 hc0_3
 have HB := ak (Below.refl w.heap.size w)
 have H : ((impl_Set_113.f l0_3).bind fun t150 => (some (a0_0,a0_1,a0_2,t150))) = some (r1,r2,r3,r4) := h
 clear h
 replace H := bs_ H
 obtain ⟨t150,A2,H⟩ := H
 simp only [Option.some.injEq,Prod.mk.injEq] at H
 obtain ⟨rfl,rfl,rfl,rfl⟩ := H
 go_enter Try.func68,Try.ntmps68
 go_wp2_with (first|((with_reducible refine gate_dst (N := 1) rfl ?_);refine bx_ 1 #[.int .i64 a0_0,.int .i64 a0_1,.int .i64 a0_2,.slice A0_3 l0_3.length c0_3] 45 ?_;intro gb148 hg w3 hbox hb;replace HB := nb_ hg hbox hb;obtain ⟨BK148,GW148,GE148,HB⟩ := HB;clear hb hbox hg)|((with_reducible refine gate_dst (N := 2) rfl ?_);refine bx_ 2 #[.int .i64 0,.int .i64 0,.int .i64 0,.slice none 0 0] 45 ?_;intro gb149 hg w4 hbox hb;replace HB := nb_ hg hbox hb;obtain ⟨BK149,GW149,GE149,HB⟩ := HB;have NB148_149 := ak ((nl_ BK148 hg));have NB149_148 := ak ((ng_ BK148 hg));replace BK148 := ak (blk_below (kb_ BK148) hb);clear hb hbox hg;have hnb5 := NB148_149.out;have hnc5 := NB149_148.out;obtain ⟨⟨hcz6_0,hcz6_1,hcz6_2,hcz6_3⟩,hfz6_0,hfz6_1,hfz6_2,hfz6_3⟩ := cl4_ BK148.out)|((with_reducible refine gcal_ (f := 113) rfl ?_);refine gl_ (some 5) Try.func113 #[.slice A0_3 l0_3.length c0_3] ?_;(with_reducible refine (impl_Set_113.calls _ _ l0_3 t150 _ ?side1 ?side2 A2.out).mono ?_);(case side1 => exact cb_ HR0_3);(case side2 => exact HC0_3.out);rintro e w7 ⟨v151,rfl,ho0,hb⟩;refine ⟨_,rfl,?_⟩;replace BK148 := ak (blk_below (kb_ BK148) hb);replace BK149 := ak (blk_below (kb_ BK149) hb);have HO152 := ak (Kd.R_lower ho0 (below_size b_));replace HB := ak (below_step b_ hb);(try clear hb);(try clear hb2);(try clear hk);(try clear hi);(try clear ho0);obtain ⟨Ao8,co8,eo8⟩ := Kd.R_slice HO152.out;subst eo8;obtain ⟨⟨hcz9_0,hcz9_1,hcz9_2,hcz9_3⟩,hfz9_0,hfz9_1,hfz9_2,hfz9_3⟩ := cl4_ BK148.out;obtain ⟨⟨hcz10_0,hcz10_1,hcz10_2,hcz10_3⟩,hfz10_0,hfz10_1,hfz10_2,hfz10_3⟩ := cl4_ BK149.out))
 refine bodyPost_ret (results_cell_row rfl _ _ gb149 45 #[.int .i64 a0_0,.int .i64 a0_1,.int .i64 a0_2,.slice Ao8 t150.length co8] (0,0) _ rfl (by (with_reducible repeat (first|refine blk_drewN ?_ _|refine blk_drew ?_|refine blk_alloc ?_ _));refine blk_put (cs := #[.int .i64 a0_0,.int .i64 a0_1,.int .i64 a0_2,.slice none 0 0]) ?_ 3 _ rfl;(with_reducible repeat (first|refine blk_drewN ?_ _|refine blk_drew ?_|refine blk_alloc ?_ _));refine blk_put (cs := #[.int .i64 a0_0,.int .i64 a0_1,.int .i64 0,.slice none 0 0]) ?_ 2 _ rfl;(with_reducible repeat (first|refine blk_drewN ?_ _|refine blk_drew ?_|refine blk_alloc ?_ _));refine blk_put (cs := #[.int .i64 a0_0,.int .i64 0,.int .i64 0,.slice none 0 0]) ?_ 1 _ rfl;(with_reducible repeat (first|refine blk_drewN ?_ _|refine blk_drew ?_|refine blk_alloc ?_ _));refine blk_put (cs := #[.int .i64 0,.int .i64 0,.int .i64 0,.slice none 0 0]) ?_ 0 _ rfl;(with_reducible repeat (first|refine blk_drewN ?_ _|refine blk_drew ?_|refine blk_alloc ?_ _));refine blk_far ?_ NB149_148.out _;(with_reducible repeat (first|refine blk_drewN ?_ _|refine blk_drew ?_|refine blk_alloc ?_ _));exact BK149.out) Try.underlying45 rfl (by kernel_rfl)) rfl ?_
 exact ⟨_,rf_,by (with_reducible repeat (first|apply Kd.R_alloc|apply Kd.R_drewN|apply Kd.R_drew));exact Kd.R_mono (Kd.R_far (p := ⟨gb149,3,none⟩) (Kd.R_far (p := ⟨gb149,2,none⟩) (Kd.R_far (p := ⟨gb149,1,none⟩) (Kd.R_far (p := ⟨gb149,0,none⟩) (Kd.R_far (p := ⟨gb148,3,none⟩) (Kd.R_types (Kd.R_types HO152.out BK148.out (by decide)) BK149.out (by decide)) (fun _ hk => hk.1.2) (.slice Ao8 t150.length co8)) (fun _ hk => hk.2) (.int .i64 a0_0)) (fun _ hk => hk.2) (.int .i64 a0_1)) (fun _ hk => hk.2) (.int .i64 a0_2)) (fun _ hk => hk.2) (.slice Ao8 t150.length co8)) (fun _ hk => trivial),b_⟩

/-! ### impl_Logged: function 22 -/
theorem hold_22 {p : Prop} (h : Aside0 p) : p := h.out
def impl_Logged.f (k : Nat) (a0_0 : Bool) (l0_1 : List (S79)) (l0_2 : List (S45)) (l0_3 : List Int) (a1 a2 a3 : Int) : Option (Int × Int × Int × (List (S127)) × Bool) := (impl_isMachineOk.f k a0_0 l0_1 l0_2 l0_3).bind fun t => if t = true then ((impl_Machine_logged.f l0_2 a1 a2 a3).bind fun i => if i < 0 then some (0, 0, 0, [], false) else if i < (l0_2.length : Int) then ((impl_cloneRecord.f (rd_T45 l0_2 i).f0 (rd_T45 l0_2 i).f1 (rd_T45 l0_2 i).f2 (rd_T45 l0_2 i).f3).bind fun c => some (c.1, c.2.1, c.2.2.1, c.2.2.2, true)) else none) else some (0, 0, 0, [], false)
set_option maxHeartbeats 8000000 in
set_option maxRecDepth 100000 in
theorem impl_Logged.calls (k : Nat) (a0_0 : Bool) (A0_1 : Option Addr) (c0_1 : Nat) (l0_1 : List (S79)) (A0_2 : Option Addr) (c0_2 : Nat) (l0_2 : List (S45)) (A0_3 : Option Addr) (c0_3 : Nat) (l0_3 : List Int) (a1 a2 a3 : Int) (r1 r2 r3 : Int) (r4 : List (S127)) (r5 : Bool) (w : World) (hr0_1 : Kd.C k79 w A0_1 l0_1.length l0_1) (hc0_1 : l0_1.length ≤ c0_1) (hr0_2 : Kd.C k45 w A0_2 l0_2.length l0_2) (hc0_2 : l0_2.length ≤ c0_2) (hr0_3 : Kd.C (Kd.int .i64) w A0_3 l0_3.length l0_3) (hc0_3 : l0_3.length ≤ c0_3) (h : impl_Logged.f k a0_0 l0_1 l0_2 l0_3 a1 a2 a3 = some (r1, r2, r3, r4, r5)) :
    Calls Try.prog 22 #[.agg #[.bool a0_0, .slice A0_1 l0_1.length c0_1, .slice A0_2 l0_2.length c0_2, .slice A0_3 l0_3.length c0_3], .int .i64 a1, .int .i64 a2, .int .i64 a3] w fun e w' => ∃ v3_ : Value, e = .returned (.tuple #[.agg #[.int .i64 r1, .int .i64 r2, .int .i64 r3, v3_], .bool r5]) ∧ Kd.R k127 127 w' w.heap.size (fun _ => True) v3_ r4 ∧ Below w.heap.size w w' := by
 have hu := Try.underlying32
 have hu2 := Try.underlying45
 have HR1 := ak hr0_1
 have HC1 := ak hc0_1
 have HR2 := ak hr0_2
 have HC2 := ak hc0_2
 have HR3 := ak hr0_3
 have HC3 := ak hc0_3
 clear hr0_1 hc0_1 hr0_2 hc0_2 hr0_3 hc0_3
 obtain ⟨t,E0,h1⟩ := Option.bind_eq_some_iff.1 h
 clear h
 have H1 := ak h1
 have F0 := ak E0
 clear h1 E0
 go_enter Try.func22,Try.ntmps22
 go_wp2_with ((with_reducible refine gate_dst (N := 4) rfl ?_);refine bx_ 4 #[.bool a0_0,.slice A0_1 l0_1.length c0_1,.slice A0_2 l0_2.length c0_2,.slice A0_3 l0_3.length c0_3] 32 ?_;intro gm hg w1 hbox hb;have hge := ak (Nat.le_of_eq hg.symm);clear hg;refine hold_22 ?_)
 refine ⟨?_⟩
 have D1 := ak hb
 have BM := ak hbox
 clear hb hbox hge
 go_wp2_with ((with_reducible refine gate_dst (N := 8) rfl ?_);refine bx_ 8 #[.int .i64 0,.int .i64 0,.int .i64 0,.slice none 0 0] 45 ?_;intro gr hg w2 hbox hb;have hge := ak (Nat.le_of_eq hg.symm);clear hg;refine hold_22 ?_)
 refine ⟨?_⟩
 have GR : Aside0 (w.heap.size ≤ gr) := ⟨Nat.le_trans D1.out.size hge.out⟩
 have D2 := ak (below_step D1.out hb)
 have BM := ak (blk_below BM.out hb)
 have BR := ak hbox
 clear hb hbox hge
 have hcm2_0 : w2.cell? ⟨gm,0,none⟩ = some (.bool a0_0) := (blk_cell BM.out 0).trans rfl
 have hcm2_1 : w2.cell? ⟨gm,1,none⟩ = some (.slice A0_1 l0_1.length c0_1) := (blk_cell BM.out 1).trans rfl
 have hcm2_2 : w2.cell? ⟨gm,2,none⟩ = some (.slice A0_2 l0_2.length c0_2) := (blk_cell BM.out 2).trans rfl
 have hcm2_3 : w2.cell? ⟨gm,3,none⟩ = some (.slice A0_3 l0_3.length c0_3) := (blk_cell BM.out 3).trans rfl
 go_wp2_with ((with_reducible refine gcal_ (f := 53) rfl ?_);refine goesL_ (some 12) rfl rfl Try.func53 (by kernel_rfl) rfl #[.agg #[.bool a0_0,.slice A0_1 l0_1.length c0_1,.slice A0_2 l0_2.length c0_2,.slice A0_3 l0_3.length c0_3]] rfl (by (try simp only [List.map_toArray,List.map_cons,List.map_nil]);first|done|rfl) ?_;refine (impl_isMachineOk.calls k a0_0 A0_1 c0_1 l0_1 A0_2 c0_2 l0_2 A0_3 c0_3 l0_3 t _ (Kd.C_below HR1.out D2.out) HC1.out (Kd.C_below HR2.out D2.out) HC2.out (Kd.C_below HR3.out D2.out) HC3.out F0.out).mono ?_;rintro e w3 ⟨rfl,B⟩;refine ⟨_,rfl,?_⟩;refine hold_22 ?_)
 refine ⟨?_⟩
 have D3 := ak (below_step D2.out B)
 have BM := ak (blk_below BM.out B)
 have BR := ak (blk_below BR.out B)
 clear B
 have hcr3_0 : w3.cell? ⟨gr,0,none⟩ = some (.int .i64 0) := (blk_cell BR.out 0).trans rfl
 have hcr3_1 : w3.cell? ⟨gr,1,none⟩ = some (.int .i64 0) := (blk_cell BR.out 1).trans rfl
 have hcr3_2 : w3.cell? ⟨gr,2,none⟩ = some (.int .i64 0) := (blk_cell BR.out 2).trans rfl
 have hcr3_3 : w3.cell? ⟨gr,3,none⟩ = some (.slice none 0 0) := (blk_cell BR.out 3).trans rfl
 have hfr3_0 := blk_frozen BR.out 0
 have hfr3_1 := blk_frozen BR.out 1
 have hfr3_2 := blk_frozen BR.out 2
 have hfr3_3 := blk_frozen BR.out 3
 cases t with
  | false =>
  have h1 := H1.out
  rw [if_neg (by simp)] at h1
  simp only [Option.some.injEq,Prod.mk.injEq] at h1
  obtain ⟨rfl,rfl,rfl,rfl,rfl⟩ := h1
  clear H1
  go_wp2
  refine bodyPost_ret (results_ct rfl _ _ gr 45 #[.int .i64 0,.int .i64 0,.int .i64 0,.slice none 0 0] (0,0) _ rfl (pt4_ BR.out _ _ _ _) Try.underlying45 rfl (by kernel_rfl)) rfl ?_
  exact ⟨.slice none 0 0,by first|rfl|(simp;done),Kd.R_nil _ _ _ _ _,below_set (below_set (below_set (below_set D3.out GR.out) GR.out) GR.out) GR.out⟩
  | true =>
 have h1 := H1.out
 rw [if_pos rfl] at h1
 clear H1
 obtain ⟨i,E1,h2⟩ := Option.bind_eq_some_iff.1 h1
 clear h1
 have H2 := ak h2
 have F1 := ak E1
 clear h2 E1
 go_wp2_with ((with_reducible refine gcal_ (f := 67) rfl ?_);refine goesL_ (some 18) rfl rfl Try.func67 (by kernel_rfl) rfl #[.pointer (some ⟨gm,0,none⟩),.int .i64 a1,.int .i64 a2,.int .i64 a3] rfl (by (try simp only [List.map_toArray,List.map_cons,List.map_nil]);first|done|rfl) ?_;refine (impl_Machine_logged.calls gm A0_2 c0_2 l0_2 a1 a2 a3 i _ ((blk_cell BM.out 2).trans rfl) (Kd.C_below HR2.out D3.out) HC2.out F1.out).mono ?_;rintro e w4 ⟨rfl,B⟩;refine ⟨_,rfl,?_⟩;refine hold_22 ?_)
 refine ⟨?_⟩
 have D4 := ak (below_step D3.out B)
 have BM := ak (blk_below BM.out B)
 have BR := ak (blk_below BR.out B)
 clear B
 have hcr4_0 : w4.cell? ⟨gr,0,none⟩ = some (.int .i64 0) := (blk_cell BR.out 0).trans rfl
 have hcr4_1 : w4.cell? ⟨gr,1,none⟩ = some (.int .i64 0) := (blk_cell BR.out 1).trans rfl
 have hcr4_2 : w4.cell? ⟨gr,2,none⟩ = some (.int .i64 0) := (blk_cell BR.out 2).trans rfl
 have hcr4_3 : w4.cell? ⟨gr,3,none⟩ = some (.slice none 0 0) := (blk_cell BR.out 3).trans rfl
 have hfr4_0 := blk_frozen BR.out 0
 have hfr4_1 := blk_frozen BR.out 1
 have hfr4_2 := blk_frozen BR.out 2
 have hfr4_3 := blk_frozen BR.out 3
 have hcm4_0 : w4.cell? ⟨gm,0,none⟩ = some (.bool a0_0) := (blk_cell BM.out 0).trans rfl
 have hcm4_1 : w4.cell? ⟨gm,1,none⟩ = some (.slice A0_1 l0_1.length c0_1) := (blk_cell BM.out 1).trans rfl
 have hcm4_2 : w4.cell? ⟨gm,2,none⟩ = some (.slice A0_2 l0_2.length c0_2) := (blk_cell BM.out 2).trans rfl
 have hcm4_3 : w4.cell? ⟨gm,3,none⟩ = some (.slice A0_3 l0_3.length c0_3) := (blk_cell BM.out 3).trans rfl
 by_cases ci : i < 0
 ·have h2 := H2.out
  rw [if_pos ci] at h2
  simp only [Option.some.injEq,Prod.mk.injEq] at h2
  obtain ⟨rfl,rfl,rfl,rfl,rfl⟩ := h2
  clear H2
  have cib : decide (i < 0) = true := decide_eq_true ci
  go_wp2
  refine bodyPost_ret (results_ct rfl _ _ gr 45 #[.int .i64 0,.int .i64 0,.int .i64 0,.slice none 0 0] (0,0) _ rfl (pt4_ BR.out _ _ _ _) Try.underlying45 rfl (by kernel_rfl)) rfl ?_
  exact ⟨.slice none 0 0,by first|rfl|(simp;done),Kd.R_nil _ _ _ _ _,below_set (below_set (below_set (below_set D4.out GR.out) GR.out) GR.out) GR.out⟩
 ·have h2 := H2.out
  rw [if_neg ci] at h2
  clear H2
  have cib : decide (i < 0) = false := decide_eq_false ci
  by_cases cj : i < (l0_2.length : Int)
  ·rw [if_pos cj] at h2
   obtain ⟨⟨n1,n2,n3,n4⟩,E2,h3⟩ := Option.bind_eq_some_iff.1 h2
   clear h2
   simp only [Option.some.injEq,Prod.mk.injEq] at h3
   obtain ⟨rfl,rfl,rfl,rfl,rfl⟩ := h3
   have F2 := ak E2
   clear E2
   have ci0 : 0 ≤ i := Int.not_lt.1 ci
   obtain ⟨ad1,Ae,ce,e1,hx1_0,hx1_1,hx1_2,hx1_3,hl1,hi1⟩ := at_T45 (Kd.C_below HR2.out D4.out) i ci0 cj
   cases e1
   have p1 : (0 ≤ i) = True := eq_true ci0
   have q1 : (i < (l0_2.length : Int)) = True := eq_true cj
   have HI := ak hi1
   have HL := ak hl1
   clear ci ci0 cj hi1 hl1
   go_wp2_with ((with_reducible refine gcal_ (f := 68) rfl ?_);refine goesL_ (some 27) rfl rfl Try.func68 (by kernel_rfl) rfl #[.agg #[.int .i64 (rd_T45 l0_2 i).f0,.int .i64 (rd_T45 l0_2 i).f1,.int .i64 (rd_T45 l0_2 i).f2,.slice Ae ((rd_T45 l0_2 i).f3).length ce]] rfl (by (try simp only [List.map_toArray,List.map_cons,List.map_nil]);first|done|rfl) ?_;refine (impl_cloneRecord.calls _ _ _ Ae ce ((rd_T45 l0_2 i).f3) n1 n2 n3 n4 _ HI.out HL.out F2.out).mono ?_;rintro e w5 ⟨vn,rfl,S,B⟩;refine ⟨_,rfl,?_⟩;refine hold_22 ?_)
   refine ⟨?_⟩
   have D5 := ak (below_step D4.out B)
   have BR := ak (blk_below BR.out B)
   have N := ak (Kd.R_lower S D4.out.size)
   clear S B
   have hcr5_0 : w5.cell? ⟨gr,0,none⟩ = some (.int .i64 0) := (blk_cell BR.out 0).trans rfl
   have hcr5_1 : w5.cell? ⟨gr,1,none⟩ = some (.int .i64 0) := (blk_cell BR.out 1).trans rfl
   have hcr5_2 : w5.cell? ⟨gr,2,none⟩ = some (.int .i64 0) := (blk_cell BR.out 2).trans rfl
   have hcr5_3 : w5.cell? ⟨gr,3,none⟩ = some (.slice none 0 0) := (blk_cell BR.out 3).trans rfl
   have hfr5_0 := blk_frozen BR.out 0
   have hfr5_1 := blk_frozen BR.out 1
   have hfr5_2 := blk_frozen BR.out 2
   have hfr5_3 := blk_frozen BR.out 3
   obtain ⟨An,cn,en⟩ := Kd.R_slice N.out
   subst en
   go_wp2
   refine bodyPost_ret (results_ct rfl _ _ gr 45 #[.int .i64 (n1),.int .i64 (n2),.int .i64 (n3),.slice An n4.length cn] (0,0) _ rfl (pt4_ BR.out _ _ _ _) Try.underlying45 rfl (by kernel_rfl)) rfl ?_
   exact ⟨.slice An n4.length cn,by first|rfl|(simp;done),Kd.R_mono (Kd.R_far (p := ⟨gr,3,none⟩) (Kd.R_far (p := ⟨gr,2,none⟩) (Kd.R_far (p := ⟨gr,1,none⟩) (Kd.R_far (p := ⟨gr,0,none⟩) (Kd.R_types N.out BR.out (by decide)) (fun _ h_ => h_.2) (.int .i64 (n1))) (fun _ h_ => h_.2) (.int .i64 (n2))) (fun _ h_ => h_.2) (.int .i64 (n3))) (fun _ h_ => h_.2) (.slice An n4.length cn)) (fun _ _ => trivial),below_set (below_set (below_set (below_set D5.out GR.out) GR.out) GR.out) GR.out⟩
  ·rw [if_neg cj] at h2
   cases h2

/-! ### spec_l1In: function 102 -/
def spec_l1In.f (a0 : Int) (a1 : Int) (a2 : Int) : Option (Bool) := if a0 ≥ a1 then (some (decide (a0 ≤ a2))) else (some false)
set_option maxHeartbeats 8000000 in
set_option maxRecDepth 100000 in
theorem spec_l1In.calls (a0 : Int) (a1 : Int) (a2 : Int) (r : Bool) (w : World) (h : spec_l1In.f a0 a1 a2 = some r) :
    Calls Try.prog 102 #[.int .i64 a0, .int .i64 a1, .int .i64 a2] w fun e w' => e = .returned (.bool r) ∧ Drawn0 w w' := by
 have H : (if a0 ≥ a1 then (some (decide (a0 ≤ a2))) else (some false)) = some r := h
 clear h
 by_cases c4 : a0 ≥ a1
 ·rw [if_pos c4] at H
  have c4b0 : decide (a1 ≤ a0) = true := decide_eq_true c4
  clear c4
  obtain rfl := Option.some.inj H
  go_enter Try.func102,Try.ntmps102
  go_wp2
  go_ret
  exact ⟨rs_,by repeat (first|exact Drawn0.refl _|apply Drawn0.step)⟩
 ·rw [if_neg c4] at H
  have c4b0 : decide (a1 ≤ a0) = false := decide_eq_false c4
  clear c4
  obtain rfl := Option.some.inj H
  go_enter Try.func102,Try.ntmps102
  go_wp2
  go_ret
  exact ⟨rs_,by repeat (first|exact Drawn0.refl _|apply Drawn0.step)⟩

/-! ### spec_l1Id: function 95 -/
def spec_l1Id.f (a0 : Int) : Option (Bool) := (spec_l1In.f a0 1 1000000).bind fun t153 => (some t153)
set_option maxHeartbeats 8000000 in
set_option maxRecDepth 100000 in
theorem spec_l1Id.calls (a0 : Int) (r : Bool) (w : World) (h : spec_l1Id.f a0 = some r) :
    Calls Try.prog 95 #[.int .i64 a0] w fun e w' => e = .returned (.bool r) ∧ Drawn0 w w' := by
 have H : ((spec_l1In.f a0 1 1000000).bind fun t153 => (some t153)) = some r := h
 clear h
 replace H := bs_ H
 obtain ⟨t153,A2,H⟩ := H
 obtain rfl := Option.some.inj H
 go_enter Try.func95,Try.ntmps95
 go_wp2_with (first|((with_reducible refine gcal_ (f := 102) rfl ?_);refine gl_ (some 4) Try.func102 #[.int .i64 a0,.int .i64 1,.int .i64 1000000] ?_;(with_reducible refine (spec_l1In.calls a0 1 1000000 t153 _ A2.out).mono ?_);rintro e w' ⟨rfl,⟨nd,rfl⟩⟩;refine ⟨_,rfl,?_⟩))
 go_ret
 exact ⟨rs_,by repeat (first|exact Drawn0.refl _|apply Drawn0.step)⟩

end Go.Proofs.Ythplaakckfhaaaa.XCd
