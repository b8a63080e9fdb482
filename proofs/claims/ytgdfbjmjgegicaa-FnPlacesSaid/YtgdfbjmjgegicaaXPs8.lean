/- Proved: of each Go function here that a call comes to what the Lean function of its name tells. Written by a program of this session over the translation. No conditions beyond each theorem's own. -/
import Derived.Test.YtgdfbjmjgegicaaXPs0
import Derived.Test.YtgdfbjmjgegicaaXPs2
import Derived.Test.YtgdfbjmjgegicaaXPs3
import Derived.Test.YtgdfbjmjgegicaaXPs4
namespace Go.Proofs.Ytgdfbjmjgegicaa.XPs
open Go.RowKit Go.Proofs.Ytgdfbjmjgegicaa.Aid Go.Proofs.YtgdfbjmjgegicaaW.PrintWords Go.Proofs.YtgdfbjmjgegicaaW.PrintLast Go.Proofs.YtgdfbjmjgegicaaW.PrintMore
set_option linter.unusedVariables false
set_option linter.unusedSimpArgs false

/-! ### spec_l1Min: function 102 -/
def spec_l1Min.f (a0 : Int) (a1 : Int) : Option (Int) := if a0 < a1 then (some a0) else (some a1)
set_option maxHeartbeats 8000000 in
set_option maxRecDepth 100000 in
theorem spec_l1Min.calls (a0 : Int) (a1 : Int) (r : Int) (w : World) (h : spec_l1Min.f a0 a1 = some r) :
    Calls Try.prog 102 #[.int .i64 a0, .int .i64 a1] w fun e w' => e = .returned (.int .i64 r) ∧ Drawn0 w w' := by
 have H : (if a0 < a1 then (some a0) else (some a1)) = some r := h
 clear h
 by_cases c3 : a0 < a1
 ·rw [if_pos c3] at H
  have c3b0 : decide (a0 < a1) = true := decide_eq_true c3
  clear c3
  obtain rfl := Option.some.inj H
  go_enter Try.func102,Try.ntmps102
  go_wp2
  go_ret
  exact ⟨rs_,by repeat (first|exact Drawn0.refl _|apply Drawn0.step)⟩
 ·rw [if_neg c3] at H
  have c3b0 : decide (a0 < a1) = false := decide_eq_false c3
  clear c3
  obtain rfl := Option.some.inj H
  go_enter Try.func102,Try.ntmps102
  go_wp2
  go_ret
  exact ⟨rs_,by repeat (first|exact Drawn0.refl _|apply Drawn0.step)⟩

/-! ### spec_Spread: function 58 -/
mutual
def spec_Spread.j0 : Nat → Int → Int → Bool → Option ((List (S84)) × Bool)
  | 0, _, _, _ => none
  | k + 1, x0, x1, x17 => if x17 = true then (some ((([] : List (S84))), false)) else (spec_Spread.l0 k x0 x1 (([] : List (S84))) 0)
def spec_Spread.l0 : Nat → Int → Int → List (S84) → Int → Option ((List (S84)) × Bool)
  | 0, _, _, _, _ => none
  | k + 1, x0, x1, x6, x7 => if x7 < x0 then (spec_Spread.l1 k x0 x1 x6 x7 0 ([] : List Int)) else (some (x6, true))
def spec_Spread.l1 : Nat → Int → Int → List (S84) → Int → Int → List Int → Option ((List (S84)) × Bool)
  | 0, _, _, _, _, _, _ => none
  | k + 1, x0, x1, x6, x7, x9, x311000 => (spec_l1Min.f x1 3).bind fun t311 => (if x9 < t311 then (if x1 = 0 then (none) else (if x311000.length < 17592186044416 then (spec_Spread.l1 k x0 x1 x6 x7 (wrap64 (x9 + 1)) (x311000 ++ [Int.tmod (wrap64 (x7 + x9)) x1])) else (none))) else (if x6.length < 5864062014805 then (spec_Spread.l0 k x0 x1 (x6 ++ [(⟨x311000⟩ : S84)]) (wrap64 (x7 + 1))) else (none)))
end
def spec_Spread.f (k : Nat) (a0 : Int) (a1 : Int) : Option ((List (S84)) × Bool) := (spec_l1In.f a0 1 6).bind fun t302 => (if t302 = true then ((spec_l1In.f a1 1 8).bind fun t303 => (spec_Spread.j0 k a0 a1 (!t303))) else (spec_Spread.j0 k a0 a1 true))

def spec_Spread.T11 : Bool × List (List Nat × List Nat) := (true, [([], []), ([0], [0]), ([], []), ([], []), ([2, 3], [2, 3]), ([], []), ([4, 5], [4, 5]), ([6], [6]), ([1, 7], [1, 7]), ([0, 1, 2, 3, 4, 5, 6, 7, 8], []), ([9, 8, 8, 0, 1, 2, 3, 4, 5, 6, 7, 8], [8, 9])])
def spec_Spread.B11 : List Nat := [0, 1, 0, 0, 12, 0, 60, 124, 255, 511, 1023]
theorem spec_Spread.tab11 : rtab .any (opsOf Try.f58 11) = spec_Spread.T11 := by kernel_rfl
theorem spec_Spread.bits11 : waitsOk spec_Spread.T11.2 spec_Spread.B11 = true := by kernel_rfl
set_option maxHeartbeats 8000000 in
set_option maxRecDepth 100000 in
theorem spec_Spread.calls (k : Nat) (a0 : Int) (a1 : Int) (r1 : List (S84)) (r2 : Bool) (w : World) (h : spec_Spread.f k a0 a1 = some (r1, r2)) :
    Calls Try.prog 58 #[.int .i64 a0, .int .i64 a1] w fun e w' => ∃ v0_ : Value, e = .returned (.tuple #[v0_, .bool r2]) ∧ Kd.S k84 84 w' w.heap.size (fun _ => True) v0_ r1 ∧ Below w.heap.size w w' := by
 have hu84 := Try.underlying84
 have HB := Aside0.mk (Below.refl w.heap.size w)
 have H : ((spec_l1In.f a0 1 6).bind fun t302 => (if t302 = true then ((spec_l1In.f a1 1 8).bind fun t303 => (spec_Spread.j0 k a0 a1 (!t303))) else (spec_Spread.j0 k a0 a1 true))) = some (r1,r2) := h
 clear h
 have HC3 := Aside0.mk H
 clear H
 go_enter Try.func58,Try.ntmps58
 go_upto_region 1 with (fail)
 go_cut [17] (fun v17 wc => ∃ (kq : Nat) (x17_2 : Bool),v17 = .bool x17_2 ∧ Aside0 (spec_Spread.j0 kq a0 a1 x17_2 = some (r1,r2)) ∧ Aside0 (kq ≤ k) ∧ Aside0 (Below w.heap.size w wc))
 case first =>
  have H := HC3.out
  clear HC3
  replace H := bs_ H
  obtain ⟨t302,A4,H⟩ := H
  by_cases c5 : t302 = true
  ·subst c5
   replace H := it_ H
   replace H := bs_ H
   obtain ⟨t303,A6,H⟩ := H
   have H' := Aside0.mk H
   clear H
   go_wp2_with (first|((with_reducible refine gcal_ (f := 90) rfl ?_);refine gl_ (some 11) Try.func90 #[.int .i64 a0,.int .i64 1,.int .i64 6] ?_;(with_reducible refine (spec_l1In.calls a0 1 6 true _ A4.out).mono ?_);rintro e w' ⟨rfl,⟨nd,rfl⟩⟩;refine ⟨_,rfl,?_⟩)|(go_at_call 90;(with_reducible refine (spec_l1In.calls a1 1 8 t303 _ A6.out).mono ?_);rintro e w' ⟨rfl,⟨nd,rfl⟩⟩))
   go_meet
   case rel => exact ⟨_,(!t303),rs_,H',⟨by first|omega|exact Nat.le_refl _⟩,⟨b_⟩⟩
  ·replace c5 := Bool.eq_false_iff.mpr c5
   subst c5
   replace H := ie_ H
   have H' := Aside0.mk H
   clear H
   go_wp2_with (first|((with_reducible refine gcal_ (f := 90) rfl ?_);refine gl_ (some 11) Try.func90 #[.int .i64 a0,.int .i64 1,.int .i64 6] ?_;(with_reducible refine (spec_l1In.calls a0 1 6 false _ A4.out).mono ?_);rintro e w' ⟨rfl,⟨nd,rfl⟩⟩;refine ⟨_,rfl,?_⟩))
   go_meet
   case rel => exact ⟨_,(true),rs_,H',⟨by first|omega|exact Nat.le_refl _⟩,⟨b_⟩⟩
 case rest =>
  clear HC3
  try clear p2
  try clear c5
  obtain ⟨kq,x17_2,rfl,HA,HJ2,HB⟩ := hcut
  cases kq with
    | zero => exact absurd HA.out (by simp [spec_Spread.j0])
    | succ kj2 =>
   have H := HA.out
   clear HA
   simp only [spec_Spread.j0] at H
   by_cases c7 : x17_2 = true
   ·subst c7
    replace H := it_ H
    obtain ⟨y304,hy304⟩ : ∃ y_ : List (S84),y_ = (([] : List (S84))) := ⟨_,rfl⟩
    replace H : (some (y304,false)) = some (r1,r2) := by first|(rw [hy304];with_reducible exact H)|(have H2_ := (Option.bind_some _ _).symm.trans H;rw [hy304];with_reducible exact H2_)|(have H2_ := (Option.bind_some _ _).symm.trans H;with_reducible exact H2_)|with_reducible exact H|(rw [hy304];exact H)|exact H
    have Ny304 := Aside0.mk hy304
    clear hy304
    simp only [Option.some.injEq,Prod.mk.injEq] at H
    obtain ⟨rfl,rfl⟩ := H
    go_wp2_with (first|((with_reducible refine gate_dst (N := 18) rfl ?_);refine Kd.S_lit k84 _ 84 ?hg (N := 18) ?hd (xs := ([] : List (S84))) (inner := []) (ok := fun _ => True) (okp := fun _ => True) ?hr ?hp (fun _ hk => hk) trivial (Below.refl _ _) (Nat.le_refl _) (by simp) ?_;(case hd => rfl);(case hg => rfl);(case hr => first|(go_simp;done)|(go_simp;rfl));(case hp => exact (Reps.none _ _));intro v305 w8 ho9 hb hg_ hnew_;clear hg_ hnew_;(first|rw [← Ny304.out] at ho9|(simp only [Int.reduceToNat] at ho9;rw [← Ny304.out] at ho9));have HO306 := Aside0.mk (Kd.S_lower ho9 (below_size b_));replace HB := Aside0.mk (below_step b_ hb);clear hb ho9))
    go_ret2
    exact ⟨_,rf_,by (with_reducible repeat (first|apply Kd.S_alloc|apply Kd.S_drewN|apply Kd.S_drew));exact HO306.out,b_⟩
   ·replace c7 := Bool.eq_false_iff.mpr c7
    subst c7
    replace H := ie_ H
    obtain ⟨y307,hy307⟩ : ∃ y_ : List (S84),y_ = (([] : List (S84))) := ⟨_,rfl⟩
    replace H : (spec_Spread.l0 kj2 a0 a1 y307 0) = some (r1,r2) := by first|(rw [hy307];with_reducible exact H)|(have H2_ := (Option.bind_some _ _).symm.trans H;rw [hy307];with_reducible exact H2_)|(have H2_ := (Option.bind_some _ _).symm.trans H;with_reducible exact H2_)|with_reducible exact H|(rw [hy307];exact H)|exact H
    have Ny307 := Aside0.mk hy307
    clear hy307
    have H' := Aside0.mk H
    clear H
    go_wp2_with (first|((with_reducible refine gate_dst (N := 19) rfl ?_);refine Kd.S_lit k84 _ 84 ?hg (N := 19) ?hd (xs := ([] : List (S84))) (inner := []) (ok := fun _ => True) (okp := fun _ => True) ?hr ?hp (fun _ hk => hk) trivial (Below.refl _ _) (Nat.le_refl _) (by simp) ?_;(case hd => rfl);(case hg => rfl);(case hr => first|(go_simp;done)|(go_simp;rfl));(case hp => exact (Reps.none _ _));intro v308 w10 ho11 hb hg_ hnew_;clear hg_ hnew_;(first|rw [← Ny307.out] at ho11|(simp only [Int.reduceToNat] at ho11;rw [← Ny307.out] at ho11));have HO309 := Aside0.mk (Kd.S_lower ho11 (below_size b_));replace HB := Aside0.mk (below_step b_ hb);clear hb ho11))
    go_loopg [6,7] kj2 (fun kq v6 v7 w' => ∃ (x6_2 : List (S84)) (x7_2 : Int),v7 = .int .i64 x7_2 ∧ Aside0 (spec_Spread.l0 kq a0 a1 x6_2 x7_2 = some (r1,r2)) ∧ Aside0 (kq ≤ kj2) ∧ Aside0 (Kd.S k84 84 w' w.heap.size (fun _ => True) v6 x6_2) ∧ Aside0 (Below w.heap.size w w'))
    case atStart => exact ⟨(y307),(0),rs_,H',⟨Nat.le_refl _⟩,⟨by (with_reducible repeat (first|apply Kd.S_alloc|apply Kd.S_drewN|apply Kd.S_drew));exact HO309.out⟩,⟨b_⟩⟩
    case round =>
     clear H'
     try clear p2
     try clear c5
     try clear c7
     try clear c9
     try clear p2
     obtain ⟨x6_2,x7_2,rfl,HA,HK2,HO_6,HB⟩ := hrel
     cases gk with
     | zero => exact absurd HA.out (by simp [spec_Spread.l0])
     | succ k2 =>
      have H := HA.out
      clear HA
      simp only [spec_Spread.l0] at H
      by_cases c12 : x7_2 < a0
      ·rw [if_pos c12] at H
       have c12b0 : decide (x7_2 < a0) = true := decide_eq_true c12
       clear c12
       have H' := Aside0.mk H
       clear H
       go_wp2_with (first|((with_reducible refine gate_dst (N := 8) rfl ?_);refine bx_ 8 #[.slice none 0 0] 84 ?_;intro gb310 hg w13 hbox hb;replace HO_6 := Aside0.mk (Kd.S_below (Kd.S_elderB (by (with_reducible repeat (first|apply Kd.S_alloc|apply Kd.S_drewN|apply Kd.S_drew));exact HO_6.out) gb310 (Nat.le_of_eq hg.symm)) hb);replace HB := nb_ hg hbox hb;obtain ⟨BK310,GW310,GE310,HB⟩ := HB;clear hb hbox hg;have hcz14_0 : w13.cell? ⟨gb310,0,none⟩ = some (.slice none 0 0) := (blk_cell BK310.out 0).trans rfl;have hfz14_0 := blk_frozen BK310.out 0))
       go_loopg [9] k2 (fun kq v9 w' => ∃ (x9_3 : Int) (x311000_3 : List Int) (u311000 : Value),v9 = .int .i64 x9_3 ∧ Aside0 (spec_Spread.l1 kq a0 a1 x6_2 x7_2 x9_3 x311000_3 = some (r1,r2)) ∧ Aside0 (kq ≤ k2) ∧ Aside0 (Kd.S k84 84 w' w.heap.size (fun k_ => some k_ ≠ (u311000 : Value).ownBlock ∧ k_ ≠ gb310) u6 x6_2) ∧ Aside0 (Kd.R (Kd.int .i64) 2 w' w.heap.size (fun _ => True) u311000 x311000_3) ∧ Aside0 (w'.heap[gb310]? = some (.cells #[u311000] 84 (0,0))) ∧ Aside0 (Below w.heap.size w w'))
       case atStart => exact ⟨(0),(([] : List Int)),(.slice none 0 0),rs_,H',⟨Nat.le_refl _⟩,⟨by (with_reducible repeat (first|apply Kd.S_alloc|apply Kd.S_drewN|apply Kd.S_drew));exact Kd.S_mono (Kd.S_far (p := ⟨gb310,0,none⟩) (Kd.S_mono HO_6.out (fun k_ hk => (⟨hk,hk.2⟩ : _ ∧ k_ ≠ gb310))) (fun _ hk => hk.2) (.slice none 0 0)) (fun _ hk => ⟨(by simp [Value.ownBlock]),hk.1.2⟩)⟩,⟨by first|exact Kd.R_nil _ _ _ _ _|exact Kd.N_nil _ _ _ _ _|exact Kd.V_nil _ _ _ _ _|exact Kd.Q_nil _ _ _ _ _|exact Kd.S_nil _ _ _ _ _⟩,⟨by (with_reducible repeat (first|refine blk_drewN ?_ _|refine blk_drew ?_|refine blk_alloc ?_ _));refine blk_put (cs := #[.slice none 0 0]) ?_ 0 _ rfl;(with_reducible repeat (first|refine blk_drewN ?_ _|refine blk_drew ?_|refine blk_alloc ?_ _));exact BK310.out⟩,⟨b_⟩⟩
       case round =>
        clear H'
        try clear c1
        try clear p2
        try clear c5
        try clear c7
        try clear c9
        try clear c12
        try clear c12b0
        try clear hcz14_0
        try clear hfz14_0
        try clear p2
        obtain ⟨x9_3,x311000_3,u311000,rfl,HA,HK3,HO_6,HO_311000,BK310,HB⟩ := hrel
        cases gk with
        | zero => exact absurd HA.out (by simp [spec_Spread.l1])
        | succ k3 =>
         have H := HA.out
         clear HA
         simp only [spec_Spread.l1] at H
         replace H := bs_ H
         obtain ⟨t311,A15,H⟩ := H
         by_cases c16 : x9_3 < t311
         ·rw [if_pos c16] at H
          have c16b0 : decide (x9_3 < t311) = true := decide_eq_true c16
          clear c16
          by_cases c17 : a1 = 0
          ·rw [if_pos c17] at H
           exact absurd H (by simp)
          ·rw [if_neg c17] at H
           have c17b0 : (a1 == 0) = false := beq_eq_false_iff_ne.mpr c17
           have c17b1 : (a1 != 0) = true := bne_iff_ne.mpr c17
           by_cases c18 : x311000_3.length < 17592186044416
           ·rw [if_pos c18] at H
            have LMc18 := Aside0.mk c18
            clear c18
            obtain ⟨y312,hy312⟩ : ∃ y_ : List Int,y_ = (x311000_3 ++ [Int.tmod (wrap64 (x7_2 + x9_3)) a1]) := ⟨_,rfl⟩
            replace H : (spec_Spread.l1 k3 a0 a1 x6_2 x7_2 (wrap64 (x9_3 + 1)) y312) = some (r1,r2) := by first|(rw [hy312];with_reducible exact H)|(have H2_ := (Option.bind_some _ _).symm.trans H;rw [hy312];with_reducible exact H2_)|(have H2_ := (Option.bind_some _ _).symm.trans H;with_reducible exact H2_)|with_reducible exact H|(rw [hy312];exact H)|exact H
            have Ny312 := Aside0.mk hy312
            clear hy312
            have H' := Aside0.mk H
            clear H
            try go_wp2_with (first|((with_reducible refine gcal_ (f := 102) rfl ?_);refine gl_ (some 28) Try.func102 #[.int .i64 a1,.int .i64 3] ?_;(with_reducible refine (spec_l1Min.calls a1 3 t311 _ A15.out).mono ?_);rintro e w' ⟨rfl,⟨nd,rfl⟩⟩;refine ⟨_,rfl,?_⟩;(try (rw [drewN_self wr];generalize hq_ : World.drewN wr _ = wr;have n0_ : Aside0 (Kd.R (Kd.int .i64) 2 wr w.heap.size (fun _ => True) u311000 x311000_3) := ⟨by rw [← hq_];exact (by (with_reducible repeat (first|apply Kd.R_alloc|apply Kd.R_drewN|apply Kd.R_drew));exact HO_311000.out)⟩;have n1_ : Aside0 (Kd.S k84 84 wr w.heap.size (fun k_ => some k_ ≠ (u311000 : Value).ownBlock ∧ k_ ≠ gb310) u6 x6_2) := ⟨by rw [← hq_];exact (by (with_reducible repeat (first|apply Kd.S_alloc|apply Kd.S_drewN|apply Kd.S_drew));exact HO_6.out)⟩;have n2_ : Aside0 (wr.heap[gb310]? = some (.cells #[u311000] 84 (0,0))) := ⟨by rw [← hq_];exact kk_⟩;have n3_ : Aside0 (Below w.heap.size w wr) := ⟨by rw [← hq_];exact b_⟩;clear HO_311000 HO_6 BK310 HB hq_;have HO_311000 := n0_;have HO_6 := n1_;have BK310 := n2_;have HB := n3_;clear n0_ n1_ n2_ n3_));(try (have hcy9_0 : wr.cell? ⟨gb310,0,none⟩ = some (u311000) := (blk_cell BK310.out 0).trans rfl));(try (have hfy9_0 := blk_frozen BK310.out 0))))
            replace HO_6 := Aside0.mk (Kd.S_drew HO_6.out)
            replace HO_311000 := Aside0.mk (Kd.R_drew HO_311000.out)
            replace BK310 := Aside0.mk (blk_drew BK310.out)
            replace HB := Aside0.mk (below_drew1 HB.out)
            refine std_ 11 (S := fun w' => w'.cell? ⟨gb310,0,none⟩ = some (u311000)) (ds := [10]) hh_ (fun hHeld => ?_);refine with_tabW spec_Spread.tab11 spec_Spread.bits11 (fun HT_ HW_ => ?_)
            generalize wr.drew = w19 at HO_6 HO_311000 BK310 HB hHeld ⊢
            refine pv_ 0 32 ?_
            refine pv_ 2 34 ?_
            refine pv_ 3 35 ?_
            refine pv_ 4 36 ?_
            refine pv_ 5 37 ?_
            refine pv_ 6 38 ?_
            refine tz_ (i := 1) (N := some 33) (v := ?_) (a' := ?_) HT_.out HW_.out rfl rfl (by kernel_rfl) (fun _ _ _ h => h) (Or.inl ⟨by rfl,?_⟩) hHeld ?_ ?_
            rotate_left
            ·intro w' s0
             go_simp
             with_reducible rfl
            rotate_left
            ·simp only [Act.put,q1,q2,q3,i64_w,i32_w]
             rfl
            refine oy_ 7 39 (fun K hK => ?_)
            refine value_ (w1 := ?_) (v := ?_) (by rfl) rfl ?_ ?_
            rotate_left 2
            ·go_simp
             constructor
             ·rfl
             ·rfl
            refine hK.out _ _ ((blk_cell (blk_alloc BK310.out _) 0).trans rfl) (fun hHeld => ?_)
            clear hK K
            refine nr_ (some 39) _ ?_
            refine oy_ 8 40 (fun K hK => ?_)
            refine Kd.R_append_step (Kd.int .i64) (w0 := w) w.heap.size (by rfl) (.tmp 33) (.tmp 39) 35 2 (.int .i64 0) 8 rfl Try.underlying35 info2 rfl (by decide) (by omega) u311000 x311000_3 (Int.tmod (wrap64 (x7_2 + x9_3)) a1) [.int .i64 (Int.tmod (wrap64 (x7_2 + x9_3)) a1)] (fun _ => True) (fun _ => False) rfl rfl ?aP (fun _ hk => hk.elim) ?aF ?aO ?aB ?aS ?aL ?_
            (case aP => exact rfl)
            (case aB => exact b_)
            (case aF => exact (fun _ _ => trivial))
            (case aO => exact (by (with_reducible repeat (first|apply Kd.R_alloc|apply Kd.R_drewN|apply Kd.R_drew));exact HO_311000.out))
            (case aS => exact (below_size b_))
            (case aL => have := LMc18.out;omega)
            intro v313 w20 ho hb hg hat
            rw [← Ny312.out] at ho
            replace HO_6 := Aside0.mk (Kd.S_after (ok := (fun k_ => k_ ≠ gb310)) (by (with_reducible repeat (first|apply Kd.S_alloc|apply Kd.S_drewN|apply Kd.S_drew));exact Kd.S_mono HO_6.out (fun _ hk => ⟨hk.2,hk.1⟩)) hg hat)
            replace BK310 := Aside0.mk (blk_grown (kb_ BK310) hg (Kd.R_ne HO_311000.out BK310.out (by decide)))
            replace HB := Aside0.mk (hb)
            have HO314 := Aside0.mk (ho)
            clear HO_311000
            clear ho hb hg hat
            obtain ⟨Ao21,co21,eo21⟩ := Kd.R_slice HO314.out
            (first|subst eo21|(injection eo21 with f1_ f2_ f3_;have f4_ := f1_.symm;have f5_ := f3_.symm;clear f1_ f2_ f3_;subst f4_;subst f5_))
            refine hK.out _ _ hh_ (fun hHeld => ?_)
            clear hK K
            refine nr_ (some 40) _ ?_
            refine pv_ 9 41 ?_
            refine last_ (i := 10) (N := none) #[true,true,true,true,true,true,true,true,true,true,true] rfl rfl (one_of HT_.out (by kernel_rfl)) (by decide) (fun K hK => ?_)
            have hs22 : w20.cell? ⟨gb310,0,none⟩ = some (u311000) := (blk_cell BK310.out 0).trans rfl
            have hfs22 := blk_frozen BK310.out 0
            refine skip_ (w1 := ?_) (by rfl) rfl ?_ ?_
            rotate_left
            ·go_simp
             rfl
            refine hK.out _ _ ?_
            clear hK K
            refine done_ (done_of HT_.out (by kernel_rfl)) ?_
            try go_wp2
            go_roundg k3
            case measure => have := HJ2.out;have := HK2.out;have := HK3.out;omega
            case rel => exact ⟨(wrap64 (x9_3 + 1)),(y312),(.slice Ao21 y312.length co21),rs_,H',⟨by have := HJ2.out;have := HK2.out;have := HK3.out;omega⟩,⟨by (with_reducible repeat (first|apply Kd.S_alloc|apply Kd.S_drewN|apply Kd.S_drew));exact Kd.S_mono (Kd.S_far (p := ⟨gb310,0,none⟩) (Kd.S_mono HO_6.out (fun k_ hk => (⟨hk,hk.1⟩ : _ ∧ k_ ≠ gb310))) (fun _ hk => hk.2) (.slice Ao21 y312.length co21)) (fun _ hk => ⟨hk.1.2,hk.1.1⟩)⟩,⟨by (with_reducible repeat (first|apply Kd.R_alloc|apply Kd.R_drewN|apply Kd.R_drew));exact Kd.R_mono (Kd.R_far (p := ⟨gb310,0,none⟩) (Kd.R_types HO314.out BK310.out (by decide)) (fun _ hk => hk.2) (.slice Ao21 y312.length co21)) (fun _ hk => trivial)⟩,⟨by (with_reducible repeat (first|refine blk_drewN ?_ _|refine blk_drew ?_|refine blk_alloc ?_ _));refine blk_put (cs := #[u311000]) ?_ 0 _ rfl;(with_reducible repeat (first|refine blk_drewN ?_ _|refine blk_drew ?_|refine blk_alloc ?_ _));exact BK310.out⟩,⟨b_⟩⟩
           ·rw [if_neg c18] at H
            exact absurd H (by simp)
         ·rw [if_neg c16] at H
          have c16b0 : decide (x9_3 < t311) = false := decide_eq_false c16
          clear c16
          by_cases c23 : x6_2.length < 5864062014805
          ·rw [if_pos c23] at H
           have LMc23 := Aside0.mk c23
           clear c23
           obtain ⟨y315,hy315⟩ : ∃ y_ : List (S84),y_ = (x6_2 ++ [(⟨x311000_3⟩ : S84)]) := ⟨_,rfl⟩
           replace H : (spec_Spread.l0 k3 a0 a1 y315 (wrap64 (x7_2 + 1))) = some (r1,r2) := by first|(rw [hy315];with_reducible exact H)|(have H2_ := (Option.bind_some _ _).symm.trans H;rw [hy315];with_reducible exact H2_)|(have H2_ := (Option.bind_some _ _).symm.trans H;with_reducible exact H2_)|with_reducible exact H|(rw [hy315];exact H)|exact H
           have Ny315 := Aside0.mk hy315
           clear hy315
           have H' := Aside0.mk H
           clear H
           go_wp2_with (first|((with_reducible refine gcal_ (f := 102) rfl ?_);refine gl_ (some 28) Try.func102 #[.int .i64 a1,.int .i64 3] ?_;(with_reducible refine (spec_l1Min.calls a1 3 t311 _ A15.out).mono ?_);rintro e w' ⟨rfl,⟨nd,rfl⟩⟩;refine ⟨_,rfl,?_⟩;have hcz24_0 : wr.cell? ⟨gb310,0,none⟩ = some (u311000) := (blk_cell BK310.out 0).trans rfl;have hfz24_0 := blk_frozen BK310.out 0;obtain ⟨Ao26,co26,eo26⟩ := Kd.R_slice HO_311000.out;subst eo26)|((with_reducible refine gblt_ (b := .append) (xs := #[.tmp 42,.tmp 44]) rfl ?_);at_builtin;refine Kd.S_append k84 (w0 := w) w.heap.size rfl (.tmp 42) (.tmp 44) 70 84 (.agg #[(.slice none 0 0)]) 24 rfl Try.underlying70 info84 rfl (by decide) (by omega) u6 x6_2 (⟨x311000_3⟩ : S84) [.slice Ao26 x311000_3.length co26] (fun k_ => k_ ≠ gb310) (fun k_ => some k_ = (.slice Ao26 x311000_3.length co26 : Value).ownBlock) rfl rfl ?aP (fun k_ hk_ => ((Kd.R_mono (ok' := fun k_ => ((fun k_ => k_ ≠ gb310)) k_ ∧ some k_ ≠ (u6 : Value).ownBlock) (Kd.R_types (Kd.R_apart' (HO_311000.out) (Kd.S_typed HO_6.out) (by decide)) BK310.out (by decide)) (fun k_ hk => ⟨hk.2,hk.1.2⟩))).1 k_ hk_.symm) ?aF ?aO ?aB ?aS ?aL ?_;(case aP => exact k84_mkM _ _ _ (⟨x311000_3⟩ : S84) (Kd.R_mono (Kd.R_tight rfl (Kd.R_mono (ok' := fun k_ => ((fun k_ => k_ ≠ gb310)) k_ ∧ some k_ ≠ (u6 : Value).ownBlock) (Kd.R_types (Kd.R_apart' (HO_311000.out) (Kd.S_typed HO_6.out) (by decide)) BK310.out (by decide)) (fun k_ hk => ⟨hk.2,hk.1.2⟩))) (fun _ h_ => h_)));(case aB => exact b_);(case aF => exact (fun k_ hk => Kd.freshB (kb_ BK310) k_ hk));(case aO => exact (by (with_reducible repeat (first|apply Kd.S_alloc|apply Kd.S_drewN|apply Kd.S_drew));exact Kd.S_mono HO_6.out (fun k_ hk => ⟨hk.2,fun e_ => hk.1 e_⟩)));(case aS => exact (below_size b_));(case aL => have := LMc23.out;omega);intro v316 w25 ho hb hg hat;rw [← Ny315.out] at ho;replace BK310 := Aside0.mk (blk_grown (kb_ BK310) hg (Kd.S_away HO_6.out (fun _ hk => hk.2)));replace HB := Aside0.mk (hb);have HO317 := Aside0.mk (ho);clear HO_6 HO_311000;clear ho hb hg hat))
           go_roundg k3
           case measure => have := HJ2.out;have := HK2.out;have := HK3.out;omega
           case rel => exact ⟨(y315),(wrap64 (x7_2 + 1)),rs_,H',⟨by have := HJ2.out;have := HK2.out;have := HK3.out;omega⟩,⟨by (with_reducible repeat (first|apply Kd.S_alloc|apply Kd.S_drewN|apply Kd.S_drew));exact Kd.S_mono HO317.out (fun _ hk => trivial)⟩,⟨b_⟩⟩
          ·rw [if_neg c23] at H
           exact absurd H (by simp)
      ·rw [if_neg c12] at H
       have c12b0 : decide (x7_2 < a0) = false := decide_eq_false c12
       clear c12
       simp only [Option.some.injEq,Prod.mk.injEq] at H
       obtain ⟨rfl,rfl⟩ := H
       go_wp2
       go_ret2
       exact ⟨_,rf_,by (with_reducible repeat (first|apply Kd.S_alloc|apply Kd.S_drewN|apply Kd.S_drew));exact HO_6.out,b_⟩

/-! ### impl_PlacesOk: function 59 -/
def impl_PlacesOk.f (k : Nat) (l0 : List (S84)) : Option (Bool) := (impl_arePlaces.f k l0).bind fun t318 => (some t318)

set_option maxHeartbeats 8000000 in
set_option maxRecDepth 100000 in
theorem impl_PlacesOk.calls (k : Nat) (A0 : Option Addr) (c0 : Nat) (l0 : List (S84)) (r : Bool) (w : World) (hr0 : Kd.C k84 w A0 l0.length l0) (hc0 : l0.length ≤ c0) (h : impl_PlacesOk.f k l0 = some r) :
    Calls Try.prog 59 #[.slice A0 l0.length c0] w fun e w' => e = .returned (.bool r) ∧ Below w.heap.size w w' := by
 have HR0 := Aside0.mk hr0
 have HC0 := Aside0.mk hc0
 clear hr0 hc0
 have HB := Aside0.mk (Below.refl w.heap.size w)
 have H : ((impl_arePlaces.f k l0).bind fun t318 => (some t318)) = some r := h
 clear h
 replace H := bs_ H
 obtain ⟨t318,A2,H⟩ := H
 obtain rfl := Option.some.inj H
 go_enter Try.func59,Try.ntmps59
 go_wp2_with (first|((with_reducible refine gcal_ (f := 95) rfl ?_);refine gl_ (some 4) Try.func95 #[.slice A0 l0.length c0] ?_;(with_reducible refine (impl_arePlaces.calls k _ _ l0 t318 _ ?side1 ?side2 A2.out).mono ?_);(case side1 => repeat (first|exact HR0.out|(with_reducible refine Kd.C_alloc ?_ _)|(with_reducible refine Kd.C_drewN ?_ _)|(with_reducible refine Kd.C_drew ?_)));(case side2 => exact HC0.out);rintro e w3 ⟨rfl,hb⟩;refine ⟨_,rfl,?_⟩;replace HB := Aside0.mk (below_step b_ hb);(try clear hb);(try clear hb2);(try clear hk);(try clear hi)))
 go_ret
 exact ⟨rf_,b_⟩

/-! ### impl_Primary: function 60 -/
def impl_Primary.f (k : Nat) (l0 : List (S84)) (a1 : Int) : Option (Int) := (impl_arePlaces.f k l0).bind fun t319 => (if t319 = true then ((impl_Place.f l0).bind fun t320 => ((impl_within.f a1 0 (wrap64 (t320 - 1))).bind fun t321 => (if t321 = true then (if 0 ≤ a1 then (if a1 < (l0.length : Int) then (if 0 < (((rd_T84 l0 a1).f0).length : Int) then (some (rd ((rd_T84 l0 a1).f0) 0)) else (none)) else (none)) else (none)) else (some (-1))))) else (some (-1)))

set_option maxHeartbeats 8000000 in
set_option maxRecDepth 100000 in
theorem impl_Primary.calls (k : Nat) (A0 : Option Addr) (c0 : Nat) (l0 : List (S84)) (a1 : Int) (r : Int) (w : World) (hr0 : Kd.C k84 w A0 l0.length l0) (hc0 : l0.length ≤ c0) (h : impl_Primary.f k l0 a1 = some r) :
    Calls Try.prog 60 #[.slice A0 l0.length c0, .int .i64 a1] w fun e w' => e = .returned (.int .i64 r) ∧ Below w.heap.size w w' := by
 have HR0 := Aside0.mk hr0
 have HC0 := Aside0.mk hc0
 clear hr0 hc0
 have HB := Aside0.mk (Below.refl w.heap.size w)
 have H : ((impl_arePlaces.f k l0).bind fun t319 => (if t319 = true then ((impl_Place.f l0).bind fun t320 => ((impl_within.f a1 0 (wrap64 (t320 - 1))).bind fun t321 => (if t321 = true then (if 0 ≤ a1 then (if a1 < (l0.length : Int) then (if 0 < (((rd_T84 l0 a1).f0).length : Int) then (some (rd ((rd_T84 l0 a1).f0) 0)) else (none)) else (none)) else (none)) else (some (-1))))) else (some (-1)))) = some r := h
 clear h
 replace H := bs_ H
 obtain ⟨t319,A3,H⟩ := H
 by_cases c4 : t319 = true
 ·subst c4
  replace H := it_ H
  replace H := bs_ H
  obtain ⟨t320,A5,H⟩ := H
  replace H := bs_ H
  obtain ⟨t321,A6,H⟩ := H
  by_cases c7 : t321 = true
  ·subst c7
   replace H := it_ H
   by_cases c8 : 0 ≤ a1
   ·rw [if_pos c8] at H
    have c8b0 : decide (0 ≤ a1) = true := decide_eq_true c8
    clear c8
    by_cases c9 : a1 < (l0.length : Int)
    ·rw [if_pos c9] at H
     have c9b0 : decide (a1 < (l0.length : Int)) = true := decide_eq_true c9
     clear c9
     by_cases c10 : 0 < (((rd_T84 l0 a1).f0).length : Int)
     ·rw [if_pos c10] at H
      have c10b0 : decide (0 < (((rd_T84 l0 a1).f0).length : Int)) = true := decide_eq_true c10
      have c10b1 : decide (0 < ((rd_T84 l0 a1).f0).length) = true := decide_eq_true (by omega)
      clear c10
      obtain rfl := Option.some.inj H
      go_enter Try.func60,Try.ntmps60
      go_wp2_with (first|((with_reducible refine gcal_ (f := 95) rfl ?_);refine gl_ (some 6) Try.func95 #[.slice A0 l0.length c0] ?_;(with_reducible refine (impl_arePlaces.calls k _ _ l0 true _ ?side1 ?side2 A3.out).mono ?_);(case side1 => repeat (first|exact HR0.out|(with_reducible refine Kd.C_alloc ?_ _)|(with_reducible refine Kd.C_drewN ?_ _)|(with_reducible refine Kd.C_drew ?_)));(case side2 => exact HC0.out);rintro e w11 ⟨rfl,hb⟩;refine ⟨_,rfl,?_⟩;replace HB := Aside0.mk (below_step b_ hb);(try clear hb);(try clear hb2);(try clear hk);(try clear hi))|(go_at_call 103;(with_reducible refine (impl_Place.calls _ _ l0 t320 _ ?side1 ?side2 A5.out).mono ?_);(case side1 => exact cb_ HR0);(case side2 => exact HC0.out);rintro e w' ⟨rfl,⟨nd,rfl⟩⟩)|(go_at_call 100;(with_reducible refine (impl_within.calls a1 0 (wrap64 (t320 - 1)) true _ A6.out).mono ?_);rintro e w' ⟨rfl,⟨nd,rfl⟩⟩;have p322 : 0 ≤ (a1 : Int) := od_;have q322 : a1 < (l0.length : Int) := od_;obtain ⟨ad322,A322_0,c322_0,e322,hx322_0,hl322_0,hi322_0⟩ := at_T84 HR0.out a1 p322 q322;cases e322;replace hx322_0 := hx_ HB hx322_0;have HR322_0 := Aside0.mk hi322_0;have HC322_0 := Aside0.mk hl322_0;clear hi322_0 hl322_0;replace p322 := eq_true p322;replace q322 := eq_true q322;have p323 : 0 ≤ (0 : Int) := (by omega);have q323 : 0 < (((rd_T84 l0 a1).f0).length : Int) := od_;obtain ⟨ad323,e323,hx323_0⟩ := Kd.at_int HR322_0.out 0 p323 q323;cases e323;have qi323 : (0 < ((rd_T84 l0 a1).f0).length) = True := eq_true (by omega);(try rw [show ((0 : Int)).toNat = 0 from rfl] at hx323_0);(try rw [Addr.add_zero'] at hx323_0);replace hx323_0 := hx_ HB hx323_0;replace p323 := eq_true p323;replace q323 := eq_true q323))
      go_ret
      exact ⟨rf_,b_⟩
     ·rw [if_neg c10] at H
      exact absurd H (by simp)
    ·rw [if_neg c9] at H
     exact absurd H (by simp)
   ·rw [if_neg c8] at H
    exact absurd H (by simp)
  ·replace c7 := Bool.eq_false_iff.mpr c7
   subst c7
   replace H := ie_ H
   obtain rfl := Option.some.inj H
   go_enter Try.func60,Try.ntmps60
   go_wp2_with (first|((with_reducible refine gcal_ (f := 95) rfl ?_);refine gl_ (some 6) Try.func95 #[.slice A0 l0.length c0] ?_;(with_reducible refine (impl_arePlaces.calls k _ _ l0 true _ ?side1 ?side2 A3.out).mono ?_);(case side1 => repeat (first|exact HR0.out|(with_reducible refine Kd.C_alloc ?_ _)|(with_reducible refine Kd.C_drewN ?_ _)|(with_reducible refine Kd.C_drew ?_)));(case side2 => exact HC0.out);rintro e w12 ⟨rfl,hb⟩;refine ⟨_,rfl,?_⟩;replace HB := Aside0.mk (below_step b_ hb);(try clear hb);(try clear hb2);(try clear hk);(try clear hi))|(go_at_call 103;(with_reducible refine (impl_Place.calls _ _ l0 t320 _ ?side1 ?side2 A5.out).mono ?_);(case side1 => exact cb_ HR0);(case side2 => exact HC0.out);rintro e w' ⟨rfl,⟨nd,rfl⟩⟩)|(go_at_call 100;(with_reducible refine (impl_within.calls a1 0 (wrap64 (t320 - 1)) false _ A6.out).mono ?_);rintro e w' ⟨rfl,⟨nd,rfl⟩⟩))
   go_ret
   exact ⟨rf_,b_⟩
 ·replace c4 := Bool.eq_false_iff.mpr c4
  subst c4
  replace H := ie_ H
  obtain rfl := Option.some.inj H
  go_enter Try.func60,Try.ntmps60
  go_wp2_with (first|((with_reducible refine gcal_ (f := 95) rfl ?_);refine gl_ (some 6) Try.func95 #[.slice A0 l0.length c0] ?_;(with_reducible refine (impl_arePlaces.calls k _ _ l0 false _ ?side1 ?side2 A3.out).mono ?_);(case side1 => repeat (first|exact HR0.out|(with_reducible refine Kd.C_alloc ?_ _)|(with_reducible refine Kd.C_drewN ?_ _)|(with_reducible refine Kd.C_drew ?_)));(case side2 => exact HC0.out);rintro e w13 ⟨rfl,hb⟩;refine ⟨_,rfl,?_⟩;replace HB := Aside0.mk (below_step b_ hb);(try clear hb);(try clear hb2);(try clear hk);(try clear hi)))
  go_ret
  exact ⟨rf_,b_⟩

/-! ### impl_Backups: function 61 -/
def impl_Backups.f (k : Nat) (l0 : List (S84)) (a1 : Int) : Option (List Int) := (impl_arePlaces.f k l0).bind fun t324 => (if t324 = true then ((impl_Place.f l0).bind fun t325 => ((impl_within.f a1 0 (wrap64 (t325 - 1))).bind fun t326 => (if t326 = true then (if 0 ≤ a1 then (if a1 < (l0.length : Int) then (if 1 ≤ (((rd_T84 l0 a1).f0).length : Int) then ((slices_Clone_int64_int64.f (((rd_T84 l0 a1).f0).drop 1)).bind fun t329 => (some t329)) else (none)) else (none)) else (none)) else (some ([] : List Int))))) else (some ([] : List Int)))

set_option maxHeartbeats 8000000 in
set_option maxRecDepth 100000 in
theorem impl_Backups.calls (k : Nat) (A0 : Option Addr) (c0 : Nat) (l0 : List (S84)) (a1 : Int) (r : List Int) (w : World) (hr0 : Kd.C k84 w A0 l0.length l0) (hc0 : l0.length ≤ c0) (h : impl_Backups.f k l0 a1 = some r) :
    Calls Try.prog 61 #[.slice A0 l0.length c0, .int .i64 a1] w fun e w' => ∃ v0_ : Value, e = .returned (v0_) ∧ Kd.R (Kd.int .i64) 2 w' w.heap.size (fun _ => True) v0_ r ∧ Below w.heap.size w w' := by
 have HR0 := Aside0.mk hr0
 have HC0 := Aside0.mk hc0
 clear hr0 hc0
 have HB := Aside0.mk (Below.refl w.heap.size w)
 have H : ((impl_arePlaces.f k l0).bind fun t324 => (if t324 = true then ((impl_Place.f l0).bind fun t325 => ((impl_within.f a1 0 (wrap64 (t325 - 1))).bind fun t326 => (if t326 = true then (if 0 ≤ a1 then (if a1 < (l0.length : Int) then (if 1 ≤ (((rd_T84 l0 a1).f0).length : Int) then ((slices_Clone_int64_int64.f (((rd_T84 l0 a1).f0).drop 1)).bind fun t329 => (some t329)) else (none)) else (none)) else (none)) else (some ([] : List Int))))) else (some ([] : List Int)))) = some r := h
 clear h
 replace H := bs_ H
 obtain ⟨t324,A3,H⟩ := H
 by_cases c4 : t324 = true
 ·subst c4
  replace H := it_ H
  replace H := bs_ H
  obtain ⟨t325,A5,H⟩ := H
  replace H := bs_ H
  obtain ⟨t326,A6,H⟩ := H
  by_cases c7 : t326 = true
  ·subst c7
   replace H := it_ H
   by_cases c8 : 0 ≤ a1
   ·rw [if_pos c8] at H
    have c8b0 : decide (0 ≤ a1) = true := decide_eq_true c8
    clear c8
    by_cases c9 : a1 < (l0.length : Int)
    ·rw [if_pos c9] at H
     have c9b0 : decide (a1 < (l0.length : Int)) = true := decide_eq_true c9
     clear c9
     by_cases c10 : 1 ≤ (((rd_T84 l0 a1).f0).length : Int)
     ·rw [if_pos c10] at H
      have c10b0 := eq_true c10
      have c10b1 : decide (1 ≤ (((rd_T84 l0 a1).f0).length : Int)) = true := decide_eq_true c10
      clear c10
      replace H := bs_ H
      obtain ⟨t329,A11,H⟩ := H
      obtain rfl := Option.some.inj H
      go_enter Try.func61,Try.ntmps61
      go_wp2_with (first|((with_reducible refine gcal_ (f := 95) rfl ?_);refine gl_ (some 6) Try.func95 #[.slice A0 l0.length c0] ?_;(with_reducible refine (impl_arePlaces.calls k _ _ l0 true _ ?side1 ?side2 A3.out).mono ?_);(case side1 => repeat (first|exact HR0.out|(with_reducible refine Kd.C_alloc ?_ _)|(with_reducible refine Kd.C_drewN ?_ _)|(with_reducible refine Kd.C_drew ?_)));(case side2 => exact HC0.out);rintro e w12 ⟨rfl,hb⟩;refine ⟨_,rfl,?_⟩;replace HB := Aside0.mk (below_step b_ hb);(try clear hb);(try clear hb2);(try clear hk);(try clear hi))|(go_at_call 103;(with_reducible refine (impl_Place.calls _ _ l0 t325 _ ?side1 ?side2 A5.out).mono ?_);(case side1 => exact cb_ HR0);(case side2 => exact HC0.out);rintro e w' ⟨rfl,⟨nd,rfl⟩⟩)|(go_at_call 100;(with_reducible refine (impl_within.calls a1 0 (wrap64 (t325 - 1)) true _ A6.out).mono ?_);rintro e w' ⟨rfl,⟨nd,rfl⟩⟩;have p327 : 0 ≤ (a1 : Int) := od_;have q327 : a1 < (l0.length : Int) := od_;obtain ⟨ad327,A327_0,c327_0,e327,hx327_0,hl327_0,hi327_0⟩ := at_T84 HR0.out a1 p327 q327;cases e327;replace hx327_0 := hx_ HB hx327_0;have HR327_0 := Aside0.mk hi327_0;have HC327_0 := Aside0.mk hl327_0;clear hi327_0 hl327_0;replace p327 := eq_true p327;replace q327 := eq_true q327;obtain ⟨i013,hi013,_,hsz13,_⟩ := info_parts info2;obtain ⟨A13,hcut13,hA13,hC13⟩ := print_drop_of (P := Try.prog) (Value.int .i64) 0 35 2 .i64 Try.underlying35 hi013 hsz13 A327_0 c327_0 ((rd_T84 l0 a1).f0) 1 (by omega) (od_) HC327_0.out;have HR328 := Aside0.mk (Kd.C_of_reads (h1 := fun _ => rfl) (hA13 _ (Kd.reads_of_C HR327_0.out)));have HC328 := Aside0.mk hC13;clear hA13 hC13 hi013 hsz13)|((with_reducible refine gcal_ (f := 104) rfl ?_);refine goesL_ (some 22) rfl rfl Try.func104 (by kernel_rfl) rfl #[.slice A13 (((rd_T84 l0 a1).f0).drop 1).length (c327_0 - 1)] rfl (by (try simp only [List.map_toArray,List.map_cons,List.map_nil]);first|done|(rw [show (((rd_T84 l0 a1).f0).drop 1).length = (((rd_T84 l0 a1).f0).length - 1) from List.length_drop] <;> rfl)|rfl|(simp only [List.length_drop,List.length_take];rfl)) ?_;(with_reducible refine (slices_Clone_int64_int64.calls _ _ (((rd_T84 l0 a1).f0).drop 1) t329 _ ?side1 ?side2 A11.out).mono ?_);(case side1 => exact cb_ HR328);(case side2 => exact HC328.out);rintro e w14 ⟨v330,rfl,ho0,hb⟩;refine ⟨_,rfl,?_⟩;have HO331 := Aside0.mk (Kd.R_lower ho0 (below_size b_));replace HB := Aside0.mk (below_step b_ hb);(try clear hb);(try clear hb2);(try clear hk);(try clear hi);(try clear ho0)))
      go_ret
      exact ⟨_,rf_,by (with_reducible repeat (first|apply Kd.R_alloc|apply Kd.R_drewN|apply Kd.R_drew));exact HO331.out,b_⟩
     ·rw [if_neg c10] at H
      exact absurd H (by simp)
    ·rw [if_neg c9] at H
     exact absurd H (by simp)
   ·rw [if_neg c8] at H
    exact absurd H (by simp)
  ·replace c7 := Bool.eq_false_iff.mpr c7
   subst c7
   replace H := ie_ H
   obtain rfl := Option.some.inj H
   go_enter Try.func61,Try.ntmps61
   go_wp2_with (first|((with_reducible refine gcal_ (f := 95) rfl ?_);refine gl_ (some 6) Try.func95 #[.slice A0 l0.length c0] ?_;(with_reducible refine (impl_arePlaces.calls k _ _ l0 true _ ?side1 ?side2 A3.out).mono ?_);(case side1 => repeat (first|exact HR0.out|(with_reducible refine Kd.C_alloc ?_ _)|(with_reducible refine Kd.C_drewN ?_ _)|(with_reducible refine Kd.C_drew ?_)));(case side2 => exact HC0.out);rintro e w15 ⟨rfl,hb⟩;refine ⟨_,rfl,?_⟩;replace HB := Aside0.mk (below_step b_ hb);(try clear hb);(try clear hb2);(try clear hk);(try clear hi))|(go_at_call 103;(with_reducible refine (impl_Place.calls _ _ l0 t325 _ ?side1 ?side2 A5.out).mono ?_);(case side1 => exact cb_ HR0);(case side2 => exact HC0.out);rintro e w' ⟨rfl,⟨nd,rfl⟩⟩)|(go_at_call 100;(with_reducible refine (impl_within.calls a1 0 (wrap64 (t325 - 1)) false _ A6.out).mono ?_);rintro e w' ⟨rfl,⟨nd,rfl⟩⟩))
   go_ret
   exact ⟨_,rf_,by first|exact Kd.R_nil _ _ _ _ _|exact Kd.N_nil _ _ _ _ _|exact Kd.V_nil _ _ _ _ _|exact Kd.Q_nil _ _ _ _ _|exact Kd.S_nil _ _ _ _ _,b_⟩
 ·replace c4 := Bool.eq_false_iff.mpr c4
  subst c4
  replace H := ie_ H
  obtain rfl := Option.some.inj H
  go_enter Try.func61,Try.ntmps61
  go_wp2_with (first|((with_reducible refine gcal_ (f := 95) rfl ?_);refine gl_ (some 6) Try.func95 #[.slice A0 l0.length c0] ?_;(with_reducible refine (impl_arePlaces.calls k _ _ l0 false _ ?side1 ?side2 A3.out).mono ?_);(case side1 => repeat (first|exact HR0.out|(with_reducible refine Kd.C_alloc ?_ _)|(with_reducible refine Kd.C_drewN ?_ _)|(with_reducible refine Kd.C_drew ?_)));(case side2 => exact HC0.out);rintro e w16 ⟨rfl,hb⟩;refine ⟨_,rfl,?_⟩;replace HB := Aside0.mk (below_step b_ hb);(try clear hb);(try clear hb2);(try clear hk);(try clear hi)))
  go_ret
  exact ⟨_,rf_,by first|exact Kd.R_nil _ _ _ _ _|exact Kd.N_nil _ _ _ _ _|exact Kd.V_nil _ _ _ _ _|exact Kd.Q_nil _ _ _ _ _|exact Kd.S_nil _ _ _ _ _,b_⟩

end Go.Proofs.Ytgdfbjmjgegicaa.XPs
