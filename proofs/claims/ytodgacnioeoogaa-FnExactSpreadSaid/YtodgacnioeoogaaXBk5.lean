/- Proved: of each Go function here that a call comes to what the Lean function of its name tells. Written by a program of this session over the translation. No conditions beyond each theorem's own. -/
import Derived.Test.YtodgacnioeoogaaXBk0
import Derived.Test.YtodgacnioeoogaaXBk1
import Derived.Test.YtodgacnioeoogaaXBk2
import Derived.Test.YtodgacnioeoogaaXBk4
namespace Go.Proofs.Ytodgacnioeoogaa.XBk
open Go.RowKit Go.Proofs.Ytodgacnioeoogaa.Aid Go.Proofs.YtodgacnioeoogaaW.PrintWords Go.Proofs.YtodgacnioeoogaaW.PrintLast Go.Proofs.YtodgacnioeoogaaW.PrintMore
set_option linter.unusedVariables false
set_option linter.unusedSimpArgs false

/-! ### spec_Spread: function 24 -/
mutual
def spec_Spread.j0 : Nat → Int → Int → Bool → Option ((List (S97)) × Bool)
  | 0, _, _, _ => none
  | k + 1, x0, x1, x17 => if x17 = true then (some ((([] : List (S97))), false)) else (spec_Spread.l0 k x0 x1 (([] : List (S97))) 0)
def spec_Spread.l0 : Nat → Int → Int → List (S97) → Int → Option ((List (S97)) × Bool)
  | 0, _, _, _, _ => none
  | k + 1, x0, x1, x6, x7 => if x7 < x0 then (spec_Spread.l1 k x0 x1 x6 x7 0 ([] : List Int)) else (some (x6, true))
def spec_Spread.l1 : Nat → Int → Int → List (S97) → Int → Int → List Int → Option ((List (S97)) × Bool)
  | 0, _, _, _, _, _, _ => none
  | k + 1, x0, x1, x6, x7, x9, x192000 => (spec_l1Min.f x1 3).bind fun t192 => (if x9 < t192 then (if x1 = 0 then (none) else (if x192000.length < 17592186044416 then (spec_Spread.l1 k x0 x1 x6 x7 (wrap64 (x9 + 1)) (x192000 ++ [Int.tmod (wrap64 (x7 + x9)) x1])) else (none))) else (if x6.length < 5864062014805 then (spec_Spread.l0 k x0 x1 (x6 ++ [(⟨x192000⟩ : S97)]) (wrap64 (x7 + 1))) else (none)))
end
def spec_Spread.f (k : Nat) (a0 : Int) (a1 : Int) : Option ((List (S97)) × Bool) := (spec_l1In.f a0 1 6).bind fun t183 => (if t183 = true then ((spec_l1In.f a1 1 8).bind fun t184 => (spec_Spread.j0 k a0 a1 (!t184))) else (spec_Spread.j0 k a0 a1 true))

def spec_Spread.T11 : Bool × List (List Nat × List Nat) := (true, [([], []), ([0], [0]), ([], []), ([], []), ([2, 3], [2, 3]), ([], []), ([4, 5], [4, 5]), ([6], [6]), ([1, 7], [1, 7]), ([0, 1, 2, 3, 4, 5, 6, 7, 8], []), ([9, 8, 8, 0, 1, 2, 3, 4, 5, 6, 7, 8], [8, 9])])
def spec_Spread.B11 : List Nat := [0, 1, 0, 0, 12, 0, 60, 124, 255, 511, 1023]
theorem spec_Spread.tab11 : rtab .any (opsOf Try.f24 11) = spec_Spread.T11 := by kernel_rfl
theorem spec_Spread.bits11 : waitsOk spec_Spread.T11.2 spec_Spread.B11 = true := by kernel_rfl
set_option maxHeartbeats 8000000 in
set_option maxRecDepth 100000 in
theorem spec_Spread.calls (k : Nat) (a0 : Int) (a1 : Int) (r1 : List (S97)) (r2 : Bool) (w : World) (h : spec_Spread.f k a0 a1 = some (r1, r2)) :
    Calls Try.prog 24 #[.int .i64 a0, .int .i64 a1] w fun e w' => ∃ v0_ : Value, e = .returned (.tuple #[v0_, .bool r2]) ∧ Kd.S k97 97 w' w.heap.size (fun _ => True) v0_ r1 ∧ Below w.heap.size w w' := by
 have hu97 := Try.underlying97
 have HB := Aside0.mk (Below.refl w.heap.size w)
 have H : ((spec_l1In.f a0 1 6).bind fun t183 => (if t183 = true then ((spec_l1In.f a1 1 8).bind fun t184 => (spec_Spread.j0 k a0 a1 (!t184))) else (spec_Spread.j0 k a0 a1 true))) = some (r1,r2) := h
 clear h
 have HC3 := Aside0.mk H
 clear H
 go_enter Try.func24,Try.ntmps24
 go_upto_region 1 with (fail)
 go_cut [17] (fun v17 wc => ∃ (kq : Nat) (x17_2 : Bool),v17 = .bool x17_2 ∧ Aside0 (spec_Spread.j0 kq a0 a1 x17_2 = some (r1,r2)) ∧ Aside0 (kq ≤ k) ∧ Aside0 (Below w.heap.size w wc))
 case first =>
  have H := HC3.out
  clear HC3
  replace H := Option.bind_eq_some_iff.mp H
  obtain ⟨t183,A40,H⟩ := H
  replace H : (if t183 = true then ((spec_l1In.f a1 1 8).bind fun t184 => (spec_Spread.j0 k a0 a1 (!t184))) else (spec_Spread.j0 k a0 a1 true)) = some (r1,r2) := H
  have A4 := Aside0.mk A40
  clear A40
  by_cases c5 : t183 = true
  ·subst c5
   have H1 : ((spec_l1In.f a1 1 8).bind fun t184 => (spec_Spread.j0 k a0 a1 (!t184))) = some (r1,r2) := by rw [if_pos rfl] at H;exact H
   clear H
   have H := H1
   clear H1
   replace H := Option.bind_eq_some_iff.mp H
   obtain ⟨t184,A60,H⟩ := H
   replace H : (spec_Spread.j0 k a0 a1 (!t184)) = some (r1,r2) := H
   have A6 := Aside0.mk A60
   clear A60
   have H' := Aside0.mk H
   clear H
   go_wp2_with (first|((with_reducible refine gcal_ (f := 78) rfl ?_);refine goesL_ (some 11) rfl rfl Try.func78 (by kernel_rfl) rfl #[.int .i64 a0,.int .i64 1,.int .i64 6] rfl (by (try simp only [List.map_toArray,List.map_cons,List.map_nil]);first|done|rfl|(simp only [List.length_drop,List.length_take];rfl)) ?_;(with_reducible refine (spec_l1In.calls a0 1 6 true _ A4.out).mono ?_);rintro e w' ⟨rfl,⟨nd,rfl⟩⟩;refine ⟨_,rfl,?_⟩)|(go_at_call 78;(with_reducible refine (spec_l1In.calls a1 1 8 t184 _ A6.out).mono ?_);rintro e w' ⟨rfl,⟨nd,rfl⟩⟩))
   go_meet
   case rel => exact ⟨_,(!t184),(by first|rfl|(simp;done)|(simp [*];done)),H',⟨by first|omega|exact Nat.le_refl _⟩,⟨by repeat (first|(with_reducible first|exact HB.out|apply below_alloc|apply pw_below_drewN|apply below_drew1)|exact HB.out)⟩⟩
  ·replace c5 := Bool.eq_false_iff.mpr c5
   subst c5
   have H1 : (spec_Spread.j0 k a0 a1 true) = some (r1,r2) := by rw [if_neg (show ¬ (false = true) by decide)] at H;exact H
   clear H
   have H := H1
   clear H1
   have H' := Aside0.mk H
   clear H
   go_wp2_with (first|((with_reducible refine gcal_ (f := 78) rfl ?_);refine goesL_ (some 11) rfl rfl Try.func78 (by kernel_rfl) rfl #[.int .i64 a0,.int .i64 1,.int .i64 6] rfl (by (try simp only [List.map_toArray,List.map_cons,List.map_nil]);first|done|rfl|(simp only [List.length_drop,List.length_take];rfl)) ?_;(with_reducible refine (spec_l1In.calls a0 1 6 false _ A4.out).mono ?_);rintro e w' ⟨rfl,⟨nd,rfl⟩⟩;refine ⟨_,rfl,?_⟩))
   go_meet
   case rel => exact ⟨_,(true),(by first|rfl|(simp;done)|(simp [*];done)),H',⟨by first|omega|exact Nat.le_refl _⟩,⟨by repeat (first|(with_reducible first|exact HB.out|apply below_alloc|apply pw_below_drewN|apply below_drew1)|exact HB.out)⟩⟩
 case rest =>
  clear HC3
  try clear c2
  try clear p2
  try clear c5
  obtain ⟨kq,x17_2,rfl,HA,HJ2,HB⟩ := hcut
  cases kq with
    | zero => exact absurd HA.out (by simp [spec_Spread.j0])
    | succ kj2 =>
   have H := HA.out
   clear HA
   simp only [spec_Spread.j0] at H
   by_cases c7 : x17_2 = true
   ·subst c7
    have H1 : (some ((([] : List (S97))),false)) = some (r1,r2) := by rw [if_pos rfl] at H;exact H
    clear H
    have H := H1
    clear H1
    obtain ⟨y185,hy185⟩ : ∃ y_ : List (S97),y_ = (([] : List (S97))) := ⟨_,rfl⟩
    replace H : (some (y185,false)) = some (r1,r2) := by first|(rw [hy185];with_reducible exact H)|(have H2_ := (Option.bind_some _ _).symm.trans H;rw [hy185];with_reducible exact H2_)|(have H2_ := (Option.bind_some _ _).symm.trans H;with_reducible exact H2_)|with_reducible exact H|(rw [hy185];exact H)|exact H
    have Ny185 := Aside0.mk hy185
    clear hy185
    simp only [Option.some.injEq,Prod.mk.injEq] at H
    obtain ⟨rfl,rfl⟩ := H
    go_wp2_with (first|((with_reducible refine gate_dst (N := 18) rfl ?_);refine Kd.S_lit k97 _ 97 ?hg (N := 18) ?hd (xs := ([] : List (S97))) (inner := []) (ok := fun _ => True) (okp := fun _ => True) ?hr ?hp (fun _ hk => hk) trivial (Below.refl _ _) (Nat.le_refl _) (by simp) ?_;(case hd => rfl);(case hg => rfl);(case hr => first|(go_simp;done)|(go_simp;rfl));(case hp => exact (Reps.none _ _));intro v186 w8 ho9 hb hg_ hnew_;clear hg_ hnew_;(first|rw [← Ny185.out] at ho9|(simp only [Int.reduceToNat] at ho9;rw [← Ny185.out] at ho9));have n0_ := Aside0.mk (Kd.S_lower ho9 (below_size (by repeat (first|(with_reducible first|exact HB.out|apply below_alloc|apply pw_below_drewN|apply below_drew1)|exact HB.out))));have n1_ := Aside0.mk (below_step (by repeat (first|(with_reducible first|exact HB.out|apply below_alloc|apply pw_below_drewN|apply below_drew1)|exact HB.out)) hb);clear HB;have HO187 := n0_;have HB := n1_;clear n0_ n1_;clear hb ho9))
    go_ret2
    exact ⟨_,by first|rfl|(simp [errW_none,errW_some] <;> rfl)|(simp [*,errW_none,errW_some] <;> rfl),by (with_reducible repeat (first|apply Kd.S_alloc|apply Kd.S_drewN|apply Kd.S_drew));exact HO187.out,by repeat (first|(with_reducible first|exact HB.out|apply below_alloc|apply pw_below_drewN|apply below_drew1)|exact HB.out)⟩
   ·replace c7 := Bool.eq_false_iff.mpr c7
    subst c7
    have H1 : (spec_Spread.l0 kj2 a0 a1 (([] : List (S97))) 0) = some (r1,r2) := by rw [if_neg (show ¬ (false = true) by decide)] at H;exact H
    clear H
    have H := H1
    clear H1
    obtain ⟨y188,hy188⟩ : ∃ y_ : List (S97),y_ = (([] : List (S97))) := ⟨_,rfl⟩
    replace H : (spec_Spread.l0 kj2 a0 a1 y188 0) = some (r1,r2) := by first|(rw [hy188];with_reducible exact H)|(have H2_ := (Option.bind_some _ _).symm.trans H;rw [hy188];with_reducible exact H2_)|(have H2_ := (Option.bind_some _ _).symm.trans H;with_reducible exact H2_)|with_reducible exact H|(rw [hy188];exact H)|exact H
    have Ny188 := Aside0.mk hy188
    clear hy188
    have H' := Aside0.mk H
    clear H
    go_wp2_with (first|((with_reducible refine gate_dst (N := 19) rfl ?_);refine Kd.S_lit k97 _ 97 ?hg (N := 19) ?hd (xs := ([] : List (S97))) (inner := []) (ok := fun _ => True) (okp := fun _ => True) ?hr ?hp (fun _ hk => hk) trivial (Below.refl _ _) (Nat.le_refl _) (by simp) ?_;(case hd => rfl);(case hg => rfl);(case hr => first|(go_simp;done)|(go_simp;rfl));(case hp => exact (Reps.none _ _));intro v189 w10 ho11 hb hg_ hnew_;clear hg_ hnew_;(first|rw [← Ny188.out] at ho11|(simp only [Int.reduceToNat] at ho11;rw [← Ny188.out] at ho11));have n0_ := Aside0.mk (Kd.S_lower ho11 (below_size (by repeat (first|(with_reducible first|exact HB.out|apply below_alloc|apply pw_below_drewN|apply below_drew1)|exact HB.out))));have n1_ := Aside0.mk (below_step (by repeat (first|(with_reducible first|exact HB.out|apply below_alloc|apply pw_below_drewN|apply below_drew1)|exact HB.out)) hb);clear HB;have HO190 := n0_;have HB := n1_;clear n0_ n1_;clear hb ho11))
    go_loopg [6,7] kj2 (fun kq v6 v7 w' => ∃ (x6_2 : List (S97)) (x7_2 : Int),v7 = .int .i64 x7_2 ∧ Aside0 (spec_Spread.l0 kq a0 a1 x6_2 x7_2 = some (r1,r2)) ∧ Aside0 (kq ≤ kj2) ∧ Aside0 (Kd.S k97 97 w' w.heap.size (fun _ => True) v6 x6_2) ∧ Aside0 (Below w.heap.size w w'))
    case atStart => exact ⟨(y188),(0),(by first|rfl|(simp;done)|(simp [*];done)),H',⟨Nat.le_refl _⟩,⟨by (with_reducible repeat (first|apply Kd.S_alloc|apply Kd.S_drewN|apply Kd.S_drew));exact HO190.out⟩,⟨by repeat (first|(with_reducible first|exact HB.out|apply below_alloc|apply pw_below_drewN|apply below_drew1)|exact HB.out)⟩⟩
    case round =>
     clear H'
     try clear c2
     try clear p2
     try clear c5
     try clear c7
     try clear p2
     obtain ⟨x6_2,x7_2,rfl,HA,HK2,HO_6,HB⟩ := hrel
     cases gk with
     | zero => exact absurd HA.out (by simp [spec_Spread.l0])
     | succ k2 =>
      have H := HA.out
      clear HA
      simp only [spec_Spread.l0] at H
      by_cases c12 : x7_2 < a0
      ·rw [if_pos c12] at H
       have c12b0 : decide (x7_2 < a0) = true := decide_eq_true c12
       clear c12
       have H' := Aside0.mk H
       clear H
       go_wp2_with (first|((with_reducible refine gate_dst (N := 8) rfl ?_);refine box_event ?hg (N := 8) ?hd (cs := #[.slice none 0 0]) (t := 97) ?hr ?_;(case hd => rfl);(case hg => rfl);(case hr => first|(go_simp;done)|(go_simp;rfl));intro gb191 hg w13 hbox hb;have n0_ := Aside0.mk (Kd.S_below (Kd.S_elderB (by (with_reducible repeat (first|apply Kd.S_alloc|apply Kd.S_drewN|apply Kd.S_drew));exact HO_6.out) gb191 (Nat.le_of_eq hg.symm)) hb);have n1_ := Aside0.mk (below_step (by repeat (first|(with_reducible first|exact HB.out|apply below_alloc|apply pw_below_drewN|apply below_drew1)|exact HB.out)) hb);have n2_ := Aside0.mk (hbox);have n3_ := Aside0.mk ((by rw [hg];exact (below_size (by repeat (first|(with_reducible first|exact HB.out|apply below_alloc|apply pw_below_drewN|apply below_drew1)|exact HB.out))) : w.heap.size ≤ gb191));have n4_ := Aside0.mk ((by rw [hg];exact (below_size (by repeat (first|(with_reducible first|exact HB.out|apply below_alloc|apply pw_below_drewN|apply below_drew1)|exact HB.out))) : w.heap.size ≤ gb191));clear HO_6;clear HB;have HO_6 := n0_;have HB := n1_;have BK191 := n2_;have GW191 := n3_;have GE191 := n4_;clear n0_ n1_ n2_ n3_ n4_;clear hb hbox hg;have hcz14_0 : w13.cell? ⟨gb191,0,none⟩ = some (.slice none 0 0) := (blk_cell BK191.out 0).trans rfl;have hfz14_0 := blk_frozen BK191.out 0))
       go_loopg [9] k2 (fun kq v9 w' => ∃ (x9_3 : Int) (x192000_3 : List Int) (u192000 : Value),v9 = .int .i64 x9_3 ∧ Aside0 (spec_Spread.l1 kq a0 a1 x6_2 x7_2 x9_3 x192000_3 = some (r1,r2)) ∧ Aside0 (kq ≤ k2) ∧ Aside0 (Kd.S k97 97 w' w.heap.size (fun k_ => some k_ ≠ (u192000 : Value).ownBlock ∧ k_ ≠ gb191) u6 x6_2) ∧ Aside0 (Kd.R (Kd.int .i64) 2 w' w.heap.size (fun _ => True) u192000 x192000_3) ∧ Aside0 (w'.heap[gb191]? = some (.cells #[u192000] 97 (0,0))) ∧ Aside0 (Below w.heap.size w w'))
       case atStart => exact ⟨(0),(([] : List Int)),(.slice none 0 0),(by first|rfl|(simp;done)|(simp [*];done)),H',⟨Nat.le_refl _⟩,⟨by (with_reducible repeat (first|apply Kd.S_alloc|apply Kd.S_drewN|apply Kd.S_drew));exact Kd.S_mono (Kd.S_far (p := ⟨gb191,0,none⟩) (Kd.S_mono HO_6.out (fun k_ hk => (⟨hk,hk.2⟩ : _ ∧ k_ ≠ gb191))) (fun _ hk => hk.2) (.slice none 0 0)) (fun _ hk => ⟨(by simp [Value.ownBlock]),hk.1.2⟩)⟩,⟨by first|exact Kd.R_nil _ _ _ _ _|exact Kd.N_nil _ _ _ _ _|exact Kd.V_nil _ _ _ _ _|exact Kd.Q_nil _ _ _ _ _|exact Kd.S_nil _ _ _ _ _⟩,⟨by (with_reducible repeat (first|refine blk_drewN ?_ _|refine blk_drew ?_|refine blk_alloc ?_ _));refine blk_put (cs := #[.slice none 0 0]) ?_ 0 _ rfl;(with_reducible repeat (first|refine blk_drewN ?_ _|refine blk_drew ?_|refine blk_alloc ?_ _));exact BK191.out⟩,⟨by repeat (first|(with_reducible first|exact HB.out|apply below_alloc|apply pw_below_drewN|apply below_drew1|refine below_set ?_ GE191.out)|exact HB.out)⟩⟩
       case round =>
        clear H'
        try clear c1
        try clear c2
        try clear p2
        try clear c5
        try clear c7
        try clear c12
        try clear c12b0
        try clear hcz14_0
        try clear hfz14_0
        try clear p2
        obtain ⟨x9_3,x192000_3,u192000,rfl,HA,HK3,HO_6,HO_192000,BK191,HB⟩ := hrel
        cases gk with
        | zero => exact absurd HA.out (by simp [spec_Spread.l1])
        | succ k3 =>
         have H := HA.out
         clear HA
         simp only [spec_Spread.l1] at H
         replace H := Option.bind_eq_some_iff.mp H
         obtain ⟨t192,A150,H⟩ := H
         replace H : (if x9_3 < t192 then (if a1 = 0 then (none) else (if x192000_3.length < 17592186044416 then (spec_Spread.l1 k3 a0 a1 x6_2 x7_2 (wrap64 (x9_3 + 1)) (x192000_3 ++ [Int.tmod (wrap64 (x7_2 + x9_3)) a1])) else (none))) else (if x6_2.length < 5864062014805 then (spec_Spread.l0 k3 a0 a1 (x6_2 ++ [(⟨x192000_3⟩ : S97)]) (wrap64 (x7_2 + 1))) else (none))) = some (r1,r2) := H
         have A15 := Aside0.mk A150
         clear A150
         by_cases c16 : x9_3 < t192
         ·rw [if_pos c16] at H
          have c16b0 : decide (x9_3 < t192) = true := decide_eq_true c16
          clear c16
          by_cases c17 : a1 = 0
          ·rw [if_pos c17] at H
           exact absurd H (by simp)
          ·rw [if_neg c17] at H
           have c17b0 : (a1 == 0) = false := beq_eq_false_iff_ne.mpr c17
           have c17b1 : (a1 != 0) = true := bne_iff_ne.mpr c17
           by_cases c18 : x192000_3.length < 17592186044416
           ·rw [if_pos c18] at H
            have LMc18 := Aside0.mk c18
            clear c18
            obtain ⟨y193,hy193⟩ : ∃ y_ : List Int,y_ = (x192000_3 ++ [Int.tmod (wrap64 (x7_2 + x9_3)) a1]) := ⟨_,rfl⟩
            replace H : (spec_Spread.l1 k3 a0 a1 x6_2 x7_2 (wrap64 (x9_3 + 1)) y193) = some (r1,r2) := by first|(rw [hy193];with_reducible exact H)|(have H2_ := (Option.bind_some _ _).symm.trans H;rw [hy193];with_reducible exact H2_)|(have H2_ := (Option.bind_some _ _).symm.trans H;with_reducible exact H2_)|with_reducible exact H|(rw [hy193];exact H)|exact H
            have Ny193 := Aside0.mk hy193
            clear hy193
            have H' := Aside0.mk H
            clear H
            try go_wp2_with (first|((with_reducible refine gcal_ (f := 79) rfl ?_);refine goesL_ (some 28) rfl rfl Try.func79 (by kernel_rfl) rfl #[.int .i64 a1,.int .i64 3] rfl (by (try simp only [List.map_toArray,List.map_cons,List.map_nil]);first|done|rfl|(simp only [List.length_drop,List.length_take];rfl)) ?_;(with_reducible refine (spec_l1Min.calls a1 3 t192 _ A15.out).mono ?_);rintro e w' ⟨rfl,⟨nd,rfl⟩⟩;refine ⟨_,rfl,?_⟩;(try (rw [drewN_self wr];generalize hq_ : World.drewN wr _ = wr;have n0_ : Aside0 (Kd.R (Kd.int .i64) 2 wr w.heap.size (fun _ => True) u192000 x192000_3) := ⟨by rw [← hq_];exact (by (with_reducible repeat (first|apply Kd.R_alloc|apply Kd.R_drewN|apply Kd.R_drew));exact HO_192000.out)⟩;have n1_ : Aside0 (Kd.S k97 97 wr w.heap.size (fun k_ => some k_ ≠ (u192000 : Value).ownBlock ∧ k_ ≠ gb191) u6 x6_2) := ⟨by rw [← hq_];exact (by (with_reducible repeat (first|apply Kd.S_alloc|apply Kd.S_drewN|apply Kd.S_drew));exact HO_6.out)⟩;have n2_ : Aside0 (wr.heap[gb191]? = some (.cells #[u192000] 97 (0,0))) := ⟨by rw [← hq_];exact (by (with_reducible repeat (first|refine blk_drewN ?_ _|refine blk_drew ?_|refine blk_alloc ?_ _));exact BK191.out)⟩;have n3_ : Aside0 (Below w.heap.size w wr) := ⟨by rw [← hq_];exact (by repeat (first|(with_reducible first|exact HB.out|apply below_alloc|apply pw_below_drewN|apply below_drew1|refine below_set ?_ GE191.out)|exact HB.out))⟩;clear HO_192000 HO_6 BK191 HB hq_;have HO_192000 := n0_;have HO_6 := n1_;have BK191 := n2_;have HB := n3_;clear n0_ n1_ n2_ n3_));(try (have hcy3_0 : wr.cell? ⟨gb191,0,none⟩ = some (u192000) := (blk_cell BK191.out 0).trans rfl));(try (have hfy3_0 := blk_frozen BK191.out 0))))
            have n0_ := Aside0.mk (Kd.S_drew HO_6.out)
            have n1_ := Aside0.mk (Kd.R_drew HO_192000.out)
            have n2_ := Aside0.mk (blk_drew BK191.out)
            have n3_ := Aside0.mk (below_drew1 HB.out)
            clear HO_6
            clear HO_192000
            clear BK191
            clear HB
            have HO_6 := n0_
            have HO_192000 := n1_
            have BK191 := n2_
            have HB := n3_
            clear n0_ n1_ n2_ n3_
            refine start_ (n := 11) (S := fun w' => w'.cell? ⟨gb191,0,none⟩ = some (u192000)) (ds := [10]) #[false,false,false,false,false,false,false,false,false,false,false] (by kernel_rfl) rfl rfl ((blk_cell BK191.out 0).trans rfl) (fun hHeld => ?_);refine with_tabW spec_Spread.tab11 spec_Spread.bits11 (fun HT_ HW_ => ?_)
            generalize wr.drew = w19 at HO_6 HO_192000 BK191 HB hHeld ⊢
            refine pw_ 0 (some 32) HT_.out ?_
            refine pw_ 2 (some 34) HT_.out ?_
            refine pw_ 3 (some 35) HT_.out ?_
            refine pw_ 4 (some 36) HT_.out ?_
            refine pw_ 5 (some 37) HT_.out ?_
            refine pw_ 6 (some 38) HT_.out ?_
            refine tz_ (i := 1) (N := some 33) (v := ?_) (a' := ?_) HT_.out HW_.out rfl rfl (by kernel_rfl) (fun _ _ _ h => h) (Or.inl ⟨by rfl,?_⟩) hHeld ?_ ?_
            rotate_left
            ·intro w' s0
             go_simp
             with_reducible rfl
            rotate_left
            ·simp only [Act.put,q1,q2,q3,i64_w,i32_w]
             rfl
            refine oz_ (i := 7) (N := some 39) HT_.out rfl rfl (by kernel_rfl) (by decide) (fun K hK => ?_)
            refine value_ (w1 := ?_) (v := ?_) (by rfl) rfl ?_ ?_
            rotate_left 2
            ·go_simp
             constructor
             ·rfl
             ·rfl
            refine hK.out _ _ ((blk_cell (blk_alloc BK191.out _) 0).trans rfl) (fun hHeld => ?_)
            clear hK K
            refine norm_ (a' := ?_) ?_ ?_
            rotate_left
            ·show Act.put _ (some 39) _ = _
             simp only [Act.put,q1,q2,q3,i64_w,i32_w]
             rfl
            refine oz_ (i := 8) (N := some 40) HT_.out rfl rfl (by kernel_rfl) (by decide) (fun K hK => ?_)
            refine Kd.R_append_step (Kd.int .i64) (w0 := w) w.heap.size (by rfl) (.tmp 33) (.tmp 39) 64 2 (.int .i64 0) 8 rfl Try.underlying64 info2 rfl (by decide) (by omega) u192000 x192000_3 (Int.tmod (wrap64 (x7_2 + x9_3)) a1) [.int .i64 (Int.tmod (wrap64 (x7_2 + x9_3)) a1)] (fun _ => True) (fun _ => False) rfl rfl ?aP (fun _ hk => hk.elim) ?aF ?aO ?aB ?aS ?aL ?_
            (case aP => exact rfl)
            (case aB => exact (by repeat (first|(with_reducible first|exact HB.out|apply below_alloc|apply pw_below_drewN|apply below_drew1|refine below_set ?_ GE191.out)|exact HB.out)))
            (case aF => exact (fun _ _ => trivial))
            (case aO => exact (by (with_reducible repeat (first|apply Kd.R_alloc|apply Kd.R_drewN|apply Kd.R_drew));exact HO_192000.out))
            (case aS => exact (below_size (by repeat (first|(with_reducible first|exact HB.out|apply below_alloc|apply pw_below_drewN|apply below_drew1|refine below_set ?_ GE191.out)|exact HB.out))))
            (case aL => have := LMc18.out;omega)
            intro v194 w20 ho hb hg hat
            rw [← Ny193.out] at ho
            have n0_ := Aside0.mk (Kd.S_after (ok := (fun k_ => k_ ≠ gb191)) (by (with_reducible repeat (first|apply Kd.S_alloc|apply Kd.S_drewN|apply Kd.S_drew));exact Kd.S_mono HO_6.out (fun _ hk => ⟨hk.2,hk.1⟩)) hg hat)
            have n1_ := Aside0.mk (blk_grown (g := gb191) (o := .cells #[u192000] 97 (0,0)) (by (with_reducible repeat (first|refine blk_drewN ?_ _|refine blk_drew ?_|refine blk_alloc ?_ _));exact BK191.out) hg (Kd.R_ne HO_192000.out BK191.out (by decide)))
            have n2_ := Aside0.mk (hb)
            have n3_ := Aside0.mk (ho)
            clear HO_6
            clear BK191
            clear HB
            clear HO_192000
            have HO_6 := n0_
            have BK191 := n1_
            have HB := n2_
            have HO195 := n3_
            clear n0_ n1_ n2_ n3_
            clear ho hb hg hat
            obtain ⟨Ao21,co21,eo21⟩ := Kd.R_slice HO195.out
            (first|subst eo21|(injection eo21 with f1_ f2_ f3_;have f4_ := f1_.symm;have f5_ := f3_.symm;clear f1_ f2_ f3_;subst f4_;subst f5_))
            refine hK.out _ _ ((blk_cell BK191.out 0).trans rfl) (fun hHeld => ?_)
            clear hK K
            refine norm_ (a' := ?_) ?_ ?_
            rotate_left
            ·show Act.put _ (some 40) _ = _
             simp only [Act.put,q1,q2,q3,i64_w,i32_w]
             rfl
            refine pw_ 9 (some 41) HT_.out ?_
            refine last_ (i := 10) (N := none) #[true,true,true,true,true,true,true,true,true,true,true] rfl rfl (one_of HT_.out (by kernel_rfl)) (by decide) (fun K hK => ?_)
            have hs22 : w20.cell? ⟨gb191,0,none⟩ = some (u192000) := (blk_cell BK191.out 0).trans rfl
            have hfs22 := blk_frozen BK191.out 0
            refine skip_ (w1 := ?_) (by rfl) rfl ?_ ?_
            rotate_left
            ·go_simp
             rfl
            refine hK.out _ _ ?_
            clear hK K
            refine done_ (done_of HT_.out (by kernel_rfl)) ?_
            try go_wp2
            go_roundg k3
            case measure => have := HJ2.out;have := HK2.out;have := HK3.out;omega
            case rel => exact ⟨(wrap64 (x9_3 + 1)),(y193),(.slice Ao21 y193.length co21),(by first|rfl|(simp;done)|(simp [*];done)),H',⟨by have := HJ2.out;have := HK2.out;have := HK3.out;omega⟩,⟨by (with_reducible repeat (first|apply Kd.S_alloc|apply Kd.S_drewN|apply Kd.S_drew));exact Kd.S_mono (Kd.S_far (p := ⟨gb191,0,none⟩) (Kd.S_mono HO_6.out (fun k_ hk => (⟨hk,hk.1⟩ : _ ∧ k_ ≠ gb191))) (fun _ hk => hk.2) (.slice Ao21 y193.length co21)) (fun _ hk => ⟨hk.1.2,hk.1.1⟩)⟩,⟨by (with_reducible repeat (first|apply Kd.R_alloc|apply Kd.R_drewN|apply Kd.R_drew));exact Kd.R_mono (Kd.R_far (p := ⟨gb191,0,none⟩) (Kd.R_types HO195.out BK191.out (by decide)) (fun _ hk => hk.2) (.slice Ao21 y193.length co21)) (fun _ hk => trivial)⟩,⟨by (with_reducible repeat (first|refine blk_drewN ?_ _|refine blk_drew ?_|refine blk_alloc ?_ _));refine blk_put (cs := #[u192000]) ?_ 0 _ rfl;(with_reducible repeat (first|refine blk_drewN ?_ _|refine blk_drew ?_|refine blk_alloc ?_ _));exact BK191.out⟩,⟨by repeat (first|(with_reducible first|exact HB.out|apply below_alloc|apply pw_below_drewN|apply below_drew1|refine below_set ?_ GE191.out)|exact HB.out)⟩⟩
           ·rw [if_neg c18] at H
            exact absurd H (by simp)
         ·rw [if_neg c16] at H
          have c16b0 : decide (x9_3 < t192) = false := decide_eq_false c16
          clear c16
          by_cases c23 : x6_2.length < 5864062014805
          ·rw [if_pos c23] at H
           have LMc23 := Aside0.mk c23
           clear c23
           obtain ⟨y196,hy196⟩ : ∃ y_ : List (S97),y_ = (x6_2 ++ [(⟨x192000_3⟩ : S97)]) := ⟨_,rfl⟩
           replace H : (spec_Spread.l0 k3 a0 a1 y196 (wrap64 (x7_2 + 1))) = some (r1,r2) := by first|(rw [hy196];with_reducible exact H)|(have H2_ := (Option.bind_some _ _).symm.trans H;rw [hy196];with_reducible exact H2_)|(have H2_ := (Option.bind_some _ _).symm.trans H;with_reducible exact H2_)|with_reducible exact H|(rw [hy196];exact H)|exact H
           have Ny196 := Aside0.mk hy196
           clear hy196
           have H' := Aside0.mk H
           clear H
           go_wp2_with (first|((with_reducible refine gcal_ (f := 79) rfl ?_);refine goesL_ (some 28) rfl rfl Try.func79 (by kernel_rfl) rfl #[.int .i64 a1,.int .i64 3] rfl (by (try simp only [List.map_toArray,List.map_cons,List.map_nil]);first|done|rfl|(simp only [List.length_drop,List.length_take];rfl)) ?_;(with_reducible refine (spec_l1Min.calls a1 3 t192 _ A15.out).mono ?_);rintro e w' ⟨rfl,⟨nd,rfl⟩⟩;refine ⟨_,rfl,?_⟩;have hcz24_0 : wr.cell? ⟨gb191,0,none⟩ = some (u192000) := (blk_cell BK191.out 0).trans rfl;have hfz24_0 := blk_frozen BK191.out 0;obtain ⟨Ao26,co26,eo26⟩ := Kd.R_slice HO_192000.out;subst eo26)|((with_reducible refine gblt_ (b := .append) (xs := #[.tmp 42,.tmp 44]) rfl ?_);at_builtin;refine Kd.S_append k97 (w0 := w) w.heap.size rfl (.tmp 42) (.tmp 44) 34 97 (.agg #[(.slice none 0 0)]) 24 rfl Try.underlying34 info97 rfl (by decide) (by omega) u6 x6_2 (⟨x192000_3⟩ : S97) [.slice Ao26 x192000_3.length co26] (fun k_ => k_ ≠ gb191) (fun k_ => some k_ = (.slice Ao26 x192000_3.length co26 : Value).ownBlock) rfl rfl ?aP (fun k_ hk_ => ((Kd.R_mono (ok' := fun k_ => ((fun k_ => k_ ≠ gb191)) k_ ∧ some k_ ≠ (u6 : Value).ownBlock) (Kd.R_types (Kd.R_apart' (HO_192000.out) (Kd.S_typed HO_6.out) (by decide)) BK191.out (by decide)) (fun k_ hk => ⟨hk.2,hk.1.2⟩))).1 k_ hk_.symm) ?aF ?aO ?aB ?aS ?aL ?_;(case aP => exact k97_mkM _ _ _ (⟨x192000_3⟩ : S97) (Kd.R_mono (Kd.R_tight rfl (Kd.R_mono (ok' := fun k_ => ((fun k_ => k_ ≠ gb191)) k_ ∧ some k_ ≠ (u6 : Value).ownBlock) (Kd.R_types (Kd.R_apart' (HO_192000.out) (Kd.S_typed HO_6.out) (by decide)) BK191.out (by decide)) (fun k_ hk => ⟨hk.2,hk.1.2⟩))) (fun _ h_ => h_)));(case aB => exact (by repeat (first|(with_reducible first|exact HB.out|apply below_alloc|apply pw_below_drewN|apply below_drew1|refine below_set ?_ GE191.out)|exact HB.out)));(case aF => exact (fun k_ hk => Kd.freshB (g := gb191) (o := .cells #[.slice Ao26 x192000_3.length co26] 97 (0,0)) (by (with_reducible repeat (first|refine blk_drewN ?_ _|refine blk_drew ?_|refine blk_alloc ?_ _));exact BK191.out) k_ hk));(case aO => exact (by (with_reducible repeat (first|apply Kd.S_alloc|apply Kd.S_drewN|apply Kd.S_drew));exact Kd.S_mono HO_6.out (fun k_ hk => ⟨hk.2,fun e_ => hk.1 e_⟩)));(case aS => exact (below_size (by repeat (first|(with_reducible first|exact HB.out|apply below_alloc|apply pw_below_drewN|apply below_drew1|refine below_set ?_ GE191.out)|exact HB.out))));(case aL => have := LMc23.out;omega);intro v197 w25 ho hb hg hat;rw [← Ny196.out] at ho;have n0_ := Aside0.mk (blk_grown (g := gb191) (o := .cells #[.slice Ao26 x192000_3.length co26] 97 (0,0)) (by (with_reducible repeat (first|refine blk_drewN ?_ _|refine blk_drew ?_|refine blk_alloc ?_ _));exact BK191.out) hg (Kd.S_away HO_6.out (fun _ hk => hk.2)));have n1_ := Aside0.mk (hb);have n2_ := Aside0.mk (ho);clear BK191;clear HB;clear HO_6;clear HO_192000;have BK191 := n0_;have HB := n1_;have HO198 := n2_;clear n0_ n1_ n2_;clear ho hb hg hat))
           go_roundg k3
           case measure => have := HJ2.out;have := HK2.out;have := HK3.out;omega
           case rel => exact ⟨(y196),(wrap64 (x7_2 + 1)),(by first|rfl|(simp;done)|(simp [*];done)),H',⟨by have := HJ2.out;have := HK2.out;have := HK3.out;omega⟩,⟨by (with_reducible repeat (first|apply Kd.S_alloc|apply Kd.S_drewN|apply Kd.S_drew));exact Kd.S_mono HO198.out (fun _ hk => trivial)⟩,⟨by repeat (first|(with_reducible first|exact HB.out|apply below_alloc|apply pw_below_drewN|apply below_drew1|refine below_set ?_ GE191.out)|exact HB.out)⟩⟩
          ·rw [if_neg c23] at H
           exact absurd H (by simp)
      ·rw [if_neg c12] at H
       have c12b0 : decide (x7_2 < a0) = false := decide_eq_false c12
       clear c12
       simp only [Option.some.injEq,Prod.mk.injEq] at H
       obtain ⟨rfl,rfl⟩ := H
       go_wp2
       go_ret2
       exact ⟨_,by first|rfl|(simp [errW_none,errW_some] <;> rfl)|(simp [*,errW_none,errW_some] <;> rfl),by (with_reducible repeat (first|apply Kd.S_alloc|apply Kd.S_drewN|apply Kd.S_drew));exact HO_6.out,by repeat (first|(with_reducible first|exact HB.out|apply below_alloc|apply pw_below_drewN|apply below_drew1)|exact HB.out)⟩

/-! ### impl_spread: function 80 -/
mutual
def impl_spread.l0 : Nat → Int → List (S97) → Int → Int → Option ((List (S97)))
  | 0, _, _, _, _ => none
  | k + 1, x1, x5, x9, x10 => if x10 < x9 then (impl_spread.l1 k x1 x5 x10 x9 x10 (mn x1 3) 0 ([] : List Int)) else (some x5)
def impl_spread.l1 : Nat → Int → List (S97) → Int → Int → Int → Int → Int → List Int → Option ((List (S97)))
  | 0, _, _, _, _, _, _, _, _ => none
  | k + 1, x1, x5, x6, x9, x10, x14, x15, x200000 => if x15 < x14 then (if x1 = 0 then (none) else (if x200000.length < 17592186044416 then (impl_spread.l1 k x1 x5 x6 x9 x10 x14 (wrap64 (x15 + 1)) (x200000 ++ [Int.tmod (wrap64 (x6 + x15)) x1])) else (none))) else (if x5.length < 5864062014805 then (impl_spread.l0 k x1 (x5 ++ [(⟨x200000⟩ : S97)]) x9 (wrap64 (x10 + 1))) else (none))
end
def impl_spread.f (k : Nat) (a0 : Int) (a1 : Int) : Option ((List (S97))) := impl_spread.l0 k a1 ([] : List (S97)) a0 0

def impl_spread.T9 : Bool × List (List Nat × List Nat) := (true, [([], []), ([0], [0]), ([], []), ([], []), ([2, 3], [2, 3]), ([], []), ([4, 5], [4, 5]), ([6], [6]), ([1, 7], [1, 7]), ([0, 1, 2, 3, 4, 5, 6, 7, 8], []), ([9, 8, 8, 0, 1, 2, 3, 4, 5, 6, 7, 8], [8, 9])])
def impl_spread.B9 : List Nat := [0, 1, 0, 0, 12, 0, 60, 124, 255, 511, 1023]
theorem impl_spread.tab9 : rtab .any (opsOf Try.f80 9) = impl_spread.T9 := by kernel_rfl
theorem impl_spread.bits9 : waitsOk impl_spread.T9.2 impl_spread.B9 = true := by kernel_rfl
set_option maxHeartbeats 8000000 in
set_option maxRecDepth 100000 in
theorem impl_spread.calls (k : Nat) (a0 : Int) (a1 : Int) (r : List (S97)) (w : World) (h : impl_spread.f k a0 a1 = some r) :
    Calls Try.prog 80 #[.int .i64 a0, .int .i64 a1] w fun e w' => ∃ v0_ : Value, e = .returned (v0_) ∧ Kd.S k97 97 w' w.heap.size (fun _ => True) v0_ r ∧ Below w.heap.size w w' := by
 have hu97 := Try.underlying97
 have HB := Aside0.mk (Below.refl w.heap.size w)
 have H : (impl_spread.l0 k a1 ([] : List (S97)) a0 0) = some r := h
 clear h
 have H' := Aside0.mk H
 clear H
 go_enter Try.func80,Try.ntmps80
 go_wp2
 go_loopg [5,10] k (fun kq v5 v10 w' => ∃ (x5_1 : List (S97)) (x10_1 : Int),v10 = .int .i64 x10_1 ∧ Aside0 (impl_spread.l0 kq a1 x5_1 a0 x10_1 = some r) ∧ Aside0 (kq ≤ k) ∧ Aside0 (Kd.S k97 97 w' w.heap.size (fun _ => True) v5 x5_1) ∧ Aside0 (Below w.heap.size w w'))
 case atStart => exact ⟨(([] : List (S97))),(0),(by first|rfl|(simp;done)|(simp [*];done)),H',⟨Nat.le_refl _⟩,⟨by first|exact Kd.S_nil _ _ _ _ _|exact Kd.N_nil _ _ _ _ _|exact Kd.V_nil _ _ _ _ _|exact Kd.Q_nil _ _ _ _ _|exact Kd.R_nil _ _ _ _ _⟩,⟨by repeat (first|(with_reducible first|exact HB.out|apply below_alloc|apply pw_below_drewN|apply below_drew1)|exact HB.out)⟩⟩
 case round =>
  clear H'
  try clear p2
  obtain ⟨x5_1,x10_1,rfl,HA,HK1,HO_5,HB⟩ := hrel
  cases gk with
    | zero => exact absurd HA.out (by simp [impl_spread.l0])
    | succ k1 =>
   have H := HA.out
   clear HA
   simp only [impl_spread.l0] at H
   by_cases c3 : x10_1 < a0
   ·rw [if_pos c3] at H
    have c3b0 : decide (x10_1 < a0) = true := decide_eq_true c3
    clear c3
    obtain ⟨ji4,hji4⟩ : ∃ j_ : Int,(mn a1 3) = j_ := ⟨_,rfl⟩
    replace H : (impl_spread.l1 k1 a1 x5_1 x10_1 a0 x10_1 ji4 0 ([] : List Int)) = some r := by first|(rw [hji4] at H;exact H)|(simp only [hji4] at H ⊢;exact H)
    have hji4_ : (if 3 < a1 then 3 else a1) = ji4 := hji4
    have H' := Aside0.mk H
    clear H
    go_wp2_with (first|((with_reducible refine gate_dst (N := 7) rfl ?_);refine box_event ?hg (N := 7) ?hd (cs := #[.slice none 0 0]) (t := 97) ?hr ?_;(case hd => rfl);(case hg => rfl);(case hr => first|(go_simp;done)|(go_simp;rfl));intro gb199 hg w5 hbox hb;have n0_ := Aside0.mk (Kd.S_below (Kd.S_elderB (by (with_reducible repeat (first|apply Kd.S_alloc|apply Kd.S_drewN|apply Kd.S_drew));exact HO_5.out) gb199 (Nat.le_of_eq hg.symm)) hb);have n1_ := Aside0.mk (below_step (by repeat (first|(with_reducible first|exact HB.out|apply below_alloc|apply pw_below_drewN|apply below_drew1)|exact HB.out)) hb);have n2_ := Aside0.mk (hbox);have n3_ := Aside0.mk ((by rw [hg];exact (below_size (by repeat (first|(with_reducible first|exact HB.out|apply below_alloc|apply pw_below_drewN|apply below_drew1)|exact HB.out))) : w.heap.size ≤ gb199));have n4_ := Aside0.mk ((by rw [hg];exact (below_size (by repeat (first|(with_reducible first|exact HB.out|apply below_alloc|apply pw_below_drewN|apply below_drew1)|exact HB.out))) : w.heap.size ≤ gb199));clear HO_5;clear HB;have HO_5 := n0_;have HB := n1_;have BK199 := n2_;have GW199 := n3_;have GE199 := n4_;clear n0_ n1_ n2_ n3_ n4_;clear hb hbox hg))
    go_loopg [15] k1 (fun kq v15 w' => ∃ (x15_2 : Int) (x200000_2 : List Int) (u200000 : Value),v15 = .int .i64 x15_2 ∧ Aside0 (impl_spread.l1 kq a1 x5_1 x10_1 a0 x10_1 ji4 x15_2 x200000_2 = some r) ∧ Aside0 (kq ≤ k1) ∧ Aside0 (Kd.S k97 97 w' w.heap.size (fun k_ => some k_ ≠ (u200000 : Value).ownBlock ∧ k_ ≠ gb199) u5 x5_1) ∧ Aside0 (Kd.R (Kd.int .i64) 2 w' w.heap.size (fun _ => True) u200000 x200000_2) ∧ Aside0 (w'.heap[gb199]? = some (.cells #[u200000] 97 (0,0))) ∧ Aside0 (Below w.heap.size w w'))
    case atStart => exact ⟨(0),(([] : List Int)),(.slice none 0 0),(by first|rfl|(simp;done)|(simp [*];done)),H',⟨Nat.le_refl _⟩,⟨by (with_reducible repeat (first|apply Kd.S_alloc|apply Kd.S_drewN|apply Kd.S_drew));exact Kd.S_mono HO_5.out (fun _ hk => ⟨(by simp [Value.ownBlock]),hk.2⟩)⟩,⟨by first|exact Kd.R_nil _ _ _ _ _|exact Kd.N_nil _ _ _ _ _|exact Kd.V_nil _ _ _ _ _|exact Kd.Q_nil _ _ _ _ _|exact Kd.S_nil _ _ _ _ _⟩,⟨by (with_reducible repeat (first|refine blk_drewN ?_ _|refine blk_drew ?_|refine blk_alloc ?_ _));exact BK199.out⟩,⟨by repeat (first|(with_reducible first|exact HB.out|apply below_alloc|apply pw_below_drewN|apply below_drew1|refine below_set ?_ GE199.out)|exact HB.out)⟩⟩
    case round =>
     clear H'
     try clear p2
     try clear c3
     try clear c3b0
     try clear p2
     obtain ⟨x15_2,x200000_2,u200000,rfl,HA,HK2,HO_5,HO_200000,BK199,HB⟩ := hrel
     cases gk with
     | zero => exact absurd HA.out (by simp [impl_spread.l1])
     | succ k2 =>
      have H := HA.out
      clear HA
      simp only [impl_spread.l1] at H
      by_cases c6 : x15_2 < ji4
      ·rw [if_pos c6] at H
       have c6b0 : decide (x15_2 < ji4) = true := decide_eq_true c6
       clear c6
       by_cases c7 : a1 = 0
       ·rw [if_pos c7] at H
        exact absurd H (by simp)
       ·rw [if_neg c7] at H
        have c7b0 : (a1 == 0) = false := beq_eq_false_iff_ne.mpr c7
        have c7b1 : (a1 != 0) = true := bne_iff_ne.mpr c7
        by_cases c8 : x200000_2.length < 17592186044416
        ·rw [if_pos c8] at H
         have LMc8 := Aside0.mk c8
         clear c8
         obtain ⟨y200,hy200⟩ : ∃ y_ : List Int,y_ = (x200000_2 ++ [Int.tmod (wrap64 (x10_1 + x15_2)) a1]) := ⟨_,rfl⟩
         replace H : (impl_spread.l1 k2 a1 x5_1 x10_1 a0 x10_1 ji4 (wrap64 (x15_2 + 1)) y200) = some r := by first|(rw [hy200];with_reducible exact H)|(have H2_ := (Option.bind_some _ _).symm.trans H;rw [hy200];with_reducible exact H2_)|(have H2_ := (Option.bind_some _ _).symm.trans H;with_reducible exact H2_)|with_reducible exact H|(rw [hy200];exact H)|exact H
         have Ny200 := Aside0.mk hy200
         clear hy200
         have H' := Aside0.mk H
         clear H
         try go_wp2
         have n0_ := Aside0.mk (Kd.S_drew HO_5.out)
         have n1_ := Aside0.mk (Kd.R_drew HO_200000.out)
         have n2_ := Aside0.mk (blk_drew BK199.out)
         have n3_ := Aside0.mk (below_drew1 HB.out)
         clear HO_5
         clear HO_200000
         clear BK199
         clear HB
         have HO_5 := n0_
         have HO_200000 := n1_
         have BK199 := n2_
         have HB := n3_
         clear n0_ n1_ n2_ n3_
         refine start_ (n := 11) (S := fun w' => w'.cell? ⟨gb199,0,none⟩ = some (u200000)) (ds := [10]) #[false,false,false,false,false,false,false,false,false,false,false] (by kernel_rfl) rfl rfl ((blk_cell BK199.out 0).trans rfl) (fun hHeld => ?_);refine with_tabW impl_spread.tab9 impl_spread.bits9 (fun HT_ HW_ => ?_)
         generalize wr.drew = w9 at HO_5 HO_200000 BK199 HB hHeld ⊢
         refine pw_ 0 (some 18) HT_.out ?_
         refine pw_ 2 (some 20) HT_.out ?_
         refine pw_ 3 (some 21) HT_.out ?_
         refine pw_ 4 (some 22) HT_.out ?_
         refine pw_ 5 (some 23) HT_.out ?_
         refine pw_ 6 (some 24) HT_.out ?_
         refine tz_ (i := 1) (N := some 19) (v := ?_) (a' := ?_) HT_.out HW_.out rfl rfl (by kernel_rfl) (fun _ _ _ h => h) (Or.inl ⟨by rfl,?_⟩) hHeld ?_ ?_
         rotate_left
         ·intro w' s0
          go_simp
          with_reducible rfl
         rotate_left
         ·simp only [Act.put,q1,q2,q3,i64_w,i32_w]
          rfl
         refine oz_ (i := 7) (N := some 25) HT_.out rfl rfl (by kernel_rfl) (by decide) (fun K hK => ?_)
         refine value_ (w1 := ?_) (v := ?_) (by rfl) rfl ?_ ?_
         rotate_left 2
         ·go_simp
          constructor
          ·rfl
          ·rfl
         refine hK.out _ _ ((blk_cell (blk_alloc BK199.out _) 0).trans rfl) (fun hHeld => ?_)
         clear hK K
         refine norm_ (a' := ?_) ?_ ?_
         rotate_left
         ·show Act.put _ (some 25) _ = _
          simp only [Act.put,q1,q2,q3,i64_w,i32_w]
          rfl
         refine oz_ (i := 8) (N := some 26) HT_.out rfl rfl (by kernel_rfl) (by decide) (fun K hK => ?_)
         refine Kd.R_append_step (Kd.int .i64) (w0 := w) w.heap.size (by rfl) (.tmp 19) (.tmp 25) 64 2 (.int .i64 0) 8 rfl Try.underlying64 info2 rfl (by decide) (by omega) u200000 x200000_2 (Int.tmod (wrap64 (x10_1 + x15_2)) a1) [.int .i64 (Int.tmod (wrap64 (x10_1 + x15_2)) a1)] (fun _ => True) (fun _ => False) rfl rfl ?aP (fun _ hk => hk.elim) ?aF ?aO ?aB ?aS ?aL ?_
         (case aP => exact rfl)
         (case aB => exact (by repeat (first|(with_reducible first|exact HB.out|apply below_alloc|apply pw_below_drewN|apply below_drew1|refine below_set ?_ GE199.out)|exact HB.out)))
         (case aF => exact (fun _ _ => trivial))
         (case aO => exact (by (with_reducible repeat (first|apply Kd.R_alloc|apply Kd.R_drewN|apply Kd.R_drew));exact HO_200000.out))
         (case aS => exact (below_size (by repeat (first|(with_reducible first|exact HB.out|apply below_alloc|apply pw_below_drewN|apply below_drew1|refine below_set ?_ GE199.out)|exact HB.out))))
         (case aL => have := LMc8.out;omega)
         intro v201 w10 ho hb hg hat
         rw [← Ny200.out] at ho
         have n0_ := Aside0.mk (Kd.S_after (ok := (fun k_ => k_ ≠ gb199)) (by (with_reducible repeat (first|apply Kd.S_alloc|apply Kd.S_drewN|apply Kd.S_drew));exact Kd.S_mono HO_5.out (fun _ hk => ⟨hk.2,hk.1⟩)) hg hat)
         have n1_ := Aside0.mk (blk_grown (g := gb199) (o := .cells #[u200000] 97 (0,0)) (by (with_reducible repeat (first|refine blk_drewN ?_ _|refine blk_drew ?_|refine blk_alloc ?_ _));exact BK199.out) hg (Kd.R_ne HO_200000.out BK199.out (by decide)))
         have n2_ := Aside0.mk (hb)
         have n3_ := Aside0.mk (ho)
         clear HO_5
         clear BK199
         clear HB
         clear HO_200000
         have HO_5 := n0_
         have BK199 := n1_
         have HB := n2_
         have HO202 := n3_
         clear n0_ n1_ n2_ n3_
         clear ho hb hg hat
         obtain ⟨Ao11,co11,eo11⟩ := Kd.R_slice HO202.out
         (first|subst eo11|(injection eo11 with f1_ f2_ f3_;have f4_ := f1_.symm;have f5_ := f3_.symm;clear f1_ f2_ f3_;subst f4_;subst f5_))
         refine hK.out _ _ ((blk_cell BK199.out 0).trans rfl) (fun hHeld => ?_)
         clear hK K
         refine norm_ (a' := ?_) ?_ ?_
         rotate_left
         ·show Act.put _ (some 26) _ = _
          simp only [Act.put,q1,q2,q3,i64_w,i32_w]
          rfl
         refine pw_ 9 (some 27) HT_.out ?_
         refine last_ (i := 10) (N := none) #[true,true,true,true,true,true,true,true,true,true,true] rfl rfl (one_of HT_.out (by kernel_rfl)) (by decide) (fun K hK => ?_)
         have hs12 : w10.cell? ⟨gb199,0,none⟩ = some (u200000) := (blk_cell BK199.out 0).trans rfl
         have hfs12 := blk_frozen BK199.out 0
         refine skip_ (w1 := ?_) (by rfl) rfl ?_ ?_
         rotate_left
         ·go_simp
          rfl
         refine hK.out _ _ ?_
         clear hK K
         refine done_ (done_of HT_.out (by kernel_rfl)) ?_
         try go_wp2
         go_roundg k2
         case measure => have := HK1.out;have := HK2.out;omega
         case rel => exact ⟨(wrap64 (x15_2 + 1)),(y200),(.slice Ao11 y200.length co11),(by first|rfl|(simp;done)|(simp [*];done)),H',⟨by have := HK1.out;have := HK2.out;omega⟩,⟨by (with_reducible repeat (first|apply Kd.S_alloc|apply Kd.S_drewN|apply Kd.S_drew));exact Kd.S_mono (Kd.S_far (p := ⟨gb199,0,none⟩) (Kd.S_mono HO_5.out (fun k_ hk => (⟨hk,hk.1⟩ : _ ∧ k_ ≠ gb199))) (fun _ hk => hk.2) (.slice Ao11 y200.length co11)) (fun _ hk => ⟨hk.1.2,hk.1.1⟩)⟩,⟨by (with_reducible repeat (first|apply Kd.R_alloc|apply Kd.R_drewN|apply Kd.R_drew));exact Kd.R_mono (Kd.R_far (p := ⟨gb199,0,none⟩) (Kd.R_types HO202.out BK199.out (by decide)) (fun _ hk => hk.2) (.slice Ao11 y200.length co11)) (fun _ hk => trivial)⟩,⟨by (with_reducible repeat (first|refine blk_drewN ?_ _|refine blk_drew ?_|refine blk_alloc ?_ _));refine blk_put (cs := #[u200000]) ?_ 0 _ rfl;(with_reducible repeat (first|refine blk_drewN ?_ _|refine blk_drew ?_|refine blk_alloc ?_ _));exact BK199.out⟩,⟨by repeat (first|(with_reducible first|exact HB.out|apply below_alloc|apply pw_below_drewN|apply below_drew1|refine below_set ?_ GE199.out)|exact HB.out)⟩⟩
        ·rw [if_neg c8] at H
         exact absurd H (by simp)
      ·rw [if_neg c6] at H
       have c6b0 : decide (x15_2 < ji4) = false := decide_eq_false c6
       clear c6
       by_cases c13 : x5_1.length < 5864062014805
       ·rw [if_pos c13] at H
        have LMc13 := Aside0.mk c13
        clear c13
        obtain ⟨y203,hy203⟩ : ∃ y_ : List (S97),y_ = (x5_1 ++ [(⟨x200000_2⟩ : S97)]) := ⟨_,rfl⟩
        replace H : (impl_spread.l0 k2 a1 y203 a0 (wrap64 (x10_1 + 1))) = some r := by first|(rw [hy203];with_reducible exact H)|(have H2_ := (Option.bind_some _ _).symm.trans H;rw [hy203];with_reducible exact H2_)|(have H2_ := (Option.bind_some _ _).symm.trans H;with_reducible exact H2_)|with_reducible exact H|(rw [hy203];exact H)|exact H
        have Ny203 := Aside0.mk hy203
        clear hy203
        have H' := Aside0.mk H
        clear H
        have hcz14_0 : wr.cell? ⟨gb199,0,none⟩ = some (u200000) := (blk_cell BK199.out 0).trans rfl
        have hfz14_0 := blk_frozen BK199.out 0
        obtain ⟨Ao16,co16,eo16⟩ := Kd.R_slice HO_200000.out
        subst eo16
        go_wp2_with (first|((with_reducible refine gblt_ (b := .append) (xs := #[.tmp 29,.tmp 31]) rfl ?_);at_builtin;refine Kd.S_append k97 (w0 := w) w.heap.size rfl (.tmp 29) (.tmp 31) 34 97 (.agg #[(.slice none 0 0)]) 24 rfl Try.underlying34 info97 rfl (by decide) (by omega) u5 x5_1 (⟨x200000_2⟩ : S97) [.slice Ao16 x200000_2.length co16] (fun k_ => k_ ≠ gb199) (fun k_ => some k_ = (.slice Ao16 x200000_2.length co16 : Value).ownBlock) rfl rfl ?aP (fun k_ hk_ => ((Kd.R_mono (ok' := fun k_ => ((fun k_ => k_ ≠ gb199)) k_ ∧ some k_ ≠ (u5 : Value).ownBlock) (Kd.R_types (Kd.R_apart' (HO_200000.out) (Kd.S_typed HO_5.out) (by decide)) BK199.out (by decide)) (fun k_ hk => ⟨hk.2,hk.1.2⟩))).1 k_ hk_.symm) ?aF ?aO ?aB ?aS ?aL ?_;(case aP => exact k97_mkM _ _ _ (⟨x200000_2⟩ : S97) (Kd.R_mono (Kd.R_tight rfl (Kd.R_mono (ok' := fun k_ => ((fun k_ => k_ ≠ gb199)) k_ ∧ some k_ ≠ (u5 : Value).ownBlock) (Kd.R_types (Kd.R_apart' (HO_200000.out) (Kd.S_typed HO_5.out) (by decide)) BK199.out (by decide)) (fun k_ hk => ⟨hk.2,hk.1.2⟩))) (fun _ h_ => h_)));(case aB => exact (by repeat (first|(with_reducible first|exact HB.out|apply below_alloc|apply pw_below_drewN|apply below_drew1|refine below_set ?_ GE199.out)|exact HB.out)));(case aF => exact (fun k_ hk => Kd.freshB (g := gb199) (o := .cells #[.slice Ao16 x200000_2.length co16] 97 (0,0)) (by (with_reducible repeat (first|refine blk_drewN ?_ _|refine blk_drew ?_|refine blk_alloc ?_ _));exact BK199.out) k_ hk));(case aO => exact (by (with_reducible repeat (first|apply Kd.S_alloc|apply Kd.S_drewN|apply Kd.S_drew));exact Kd.S_mono HO_5.out (fun k_ hk => ⟨hk.2,fun e_ => hk.1 e_⟩)));(case aS => exact (below_size (by repeat (first|(with_reducible first|exact HB.out|apply below_alloc|apply pw_below_drewN|apply below_drew1|refine below_set ?_ GE199.out)|exact HB.out))));(case aL => have := LMc13.out;omega);intro v204 w15 ho hb hg hat;rw [← Ny203.out] at ho;have n0_ := Aside0.mk (blk_grown (g := gb199) (o := .cells #[.slice Ao16 x200000_2.length co16] 97 (0,0)) (by (with_reducible repeat (first|refine blk_drewN ?_ _|refine blk_drew ?_|refine blk_alloc ?_ _));exact BK199.out) hg (Kd.S_away HO_5.out (fun _ hk => hk.2)));have n1_ := Aside0.mk (hb);have n2_ := Aside0.mk (ho);clear BK199;clear HB;clear HO_5;clear HO_200000;have BK199 := n0_;have HB := n1_;have HO205 := n2_;clear n0_ n1_ n2_;clear ho hb hg hat))
        go_roundg k2
        case measure => have := HK1.out;have := HK2.out;omega
        case rel => exact ⟨(y203),(wrap64 (x10_1 + 1)),(by first|rfl|(simp;done)|(simp [*];done)),H',⟨by have := HK1.out;have := HK2.out;omega⟩,⟨by (with_reducible repeat (first|apply Kd.S_alloc|apply Kd.S_drewN|apply Kd.S_drew));exact Kd.S_mono HO205.out (fun _ hk => trivial)⟩,⟨by repeat (first|(with_reducible first|exact HB.out|apply below_alloc|apply pw_below_drewN|apply below_drew1|refine below_set ?_ GE199.out)|exact HB.out)⟩⟩
       ·rw [if_neg c13] at H
        exact absurd H (by simp)
   ·rw [if_neg c3] at H
    have c3b0 : decide (x10_1 < a0) = false := decide_eq_false c3
    clear c3
    obtain rfl := Option.some.inj H
    go_wp2
    go_ret
    exact ⟨_,by first|rfl|(simp [errW_none,errW_some] <;> rfl)|(simp [*,errW_none,errW_some] <;> rfl),by (with_reducible repeat (first|apply Kd.S_alloc|apply Kd.S_drewN|apply Kd.S_drew));exact HO_5.out,by repeat (first|(with_reducible first|exact HB.out|apply below_alloc|apply pw_below_drewN|apply below_drew1)|exact HB.out)⟩

/-! ### impl_Spread: function 25 -/
def impl_Spread.f (k : Nat) (a0 : Int) (a1 : Int) : Option ((List (S97)) × Bool) := (impl_within.f a0 1 6).bind fun t206 => (if t206 = true then ((impl_within.f a1 1 8).bind fun t207 => (if t207 = true then ((impl_spread.f k a0 a1).bind fun t208 => (some (t208, true))) else (some (([] : List (S97)), false)))) else (some (([] : List (S97)), false)))

set_option maxHeartbeats 8000000 in
set_option maxRecDepth 100000 in
theorem impl_Spread.calls (k : Nat) (a0 : Int) (a1 : Int) (r1 : List (S97)) (r2 : Bool) (w : World) (h : impl_Spread.f k a0 a1 = some (r1, r2)) :
    Calls Try.prog 25 #[.int .i64 a0, .int .i64 a1] w fun e w' => ∃ v0_ : Value, e = .returned (.tuple #[v0_, .bool r2]) ∧ Kd.S k97 97 w' w.heap.size (fun _ => True) v0_ r1 ∧ Below w.heap.size w w' := by
 have HB := Aside0.mk (Below.refl w.heap.size w)
 have H : ((impl_within.f a0 1 6).bind fun t206 => (if t206 = true then ((impl_within.f a1 1 8).bind fun t207 => (if t207 = true then ((impl_spread.f k a0 a1).bind fun t208 => (some (t208,true))) else (some (([] : List (S97)),false)))) else (some (([] : List (S97)),false)))) = some (r1,r2) := h
 clear h
 replace H := Option.bind_eq_some_iff.mp H
 obtain ⟨t206,A30,H⟩ := H
 replace H : (if t206 = true then ((impl_within.f a1 1 8).bind fun t207 => (if t207 = true then ((impl_spread.f k a0 a1).bind fun t208 => (some (t208,true))) else (some (([] : List (S97)),false)))) else (some (([] : List (S97)),false))) = some (r1,r2) := H
 have A3 := Aside0.mk A30
 clear A30
 by_cases c4 : t206 = true
 ·subst c4
  have H1 : ((impl_within.f a1 1 8).bind fun t207 => (if t207 = true then ((impl_spread.f k a0 a1).bind fun t208 => (some (t208,true))) else (some (([] : List (S97)),false)))) = some (r1,r2) := by rw [if_pos rfl] at H;exact H
  clear H
  have H := H1
  clear H1
  replace H := Option.bind_eq_some_iff.mp H
  obtain ⟨t207,A50,H⟩ := H
  replace H : (if t207 = true then ((impl_spread.f k a0 a1).bind fun t208 => (some (t208,true))) else (some (([] : List (S97)),false))) = some (r1,r2) := H
  have A5 := Aside0.mk A50
  clear A50
  by_cases c6 : t207 = true
  ·subst c6
   have H1 : ((impl_spread.f k a0 a1).bind fun t208 => (some (t208,true))) = some (r1,r2) := by rw [if_pos rfl] at H;exact H
   clear H
   have H := H1
   clear H1
   replace H := Option.bind_eq_some_iff.mp H
   obtain ⟨t208,A70,H⟩ := H
   replace H : (some (t208,true)) = some (r1,r2) := H
   have A7 := Aside0.mk A70
   clear A70
   simp only [Option.some.injEq,Prod.mk.injEq] at H
   obtain ⟨rfl,rfl⟩ := H
   go_enter Try.func25,Try.ntmps25
   go_wp2_with (first|((with_reducible refine gcal_ (f := 76) rfl ?_);refine goesL_ (some 7) rfl rfl Try.func76 (by kernel_rfl) rfl #[.int .i64 a0,.int .i64 1,.int .i64 6] rfl (by (try simp only [List.map_toArray,List.map_cons,List.map_nil]);first|done|rfl|(simp only [List.length_drop,List.length_take];rfl)) ?_;(with_reducible refine (impl_within.calls a0 1 6 true _ A3.out).mono ?_);rintro e w' ⟨rfl,⟨nd,rfl⟩⟩;refine ⟨_,rfl,?_⟩)|(go_at_call 76;(with_reducible refine (impl_within.calls a1 1 8 true _ A5.out).mono ?_);rintro e w' ⟨rfl,⟨nd,rfl⟩⟩)|((with_reducible refine gcal_ (f := 80) rfl ?_);refine goesL_ (some 16) rfl rfl Try.func80 (by kernel_rfl) rfl #[.int .i64 a0,.int .i64 a1] rfl (by (try simp only [List.map_toArray,List.map_cons,List.map_nil]);first|done|rfl|(simp only [List.length_drop,List.length_take];rfl)) ?_;(with_reducible refine (impl_spread.calls k a0 a1 t208 _ A7.out).mono ?_);rintro e w8 ⟨v209,rfl,ho0,hb⟩;refine ⟨_,rfl,?_⟩;have n0_ := Aside0.mk (Kd.S_lower ho0 (below_size (by repeat (first|(with_reducible first|exact HB.out|apply below_alloc|apply pw_below_drewN|apply below_drew1)|exact HB.out))));have n1_ := Aside0.mk (below_step (by repeat (first|(with_reducible first|exact HB.out|apply below_alloc|apply pw_below_drewN|apply below_drew1)|exact HB.out)) hb);clear HB;have HO210 := n0_;have HB := n1_;clear n0_ n1_;(try clear hb);(try clear hb2);(try clear hk);(try clear hi);(try clear ho0)))
   go_ret2
   exact ⟨_,by first|rfl|(simp [errW_none,errW_some] <;> rfl)|(simp [*,errW_none,errW_some] <;> rfl),by (with_reducible repeat (first|apply Kd.S_alloc|apply Kd.S_drewN|apply Kd.S_drew));exact HO210.out,by repeat (first|(with_reducible first|exact HB.out|apply below_alloc|apply pw_below_drewN|apply below_drew1)|exact HB.out)⟩
  ·replace c6 := Bool.eq_false_iff.mpr c6
   subst c6
   have H1 : (some (([] : List (S97)),false)) = some (r1,r2) := by rw [if_neg (show ¬ (false = true) by decide)] at H;exact H
   clear H
   have H := H1
   clear H1
   simp only [Option.some.injEq,Prod.mk.injEq] at H
   obtain ⟨rfl,rfl⟩ := H
   go_enter Try.func25,Try.ntmps25
   go_wp2_with (first|((with_reducible refine gcal_ (f := 76) rfl ?_);refine goesL_ (some 7) rfl rfl Try.func76 (by kernel_rfl) rfl #[.int .i64 a0,.int .i64 1,.int .i64 6] rfl (by (try simp only [List.map_toArray,List.map_cons,List.map_nil]);first|done|rfl|(simp only [List.length_drop,List.length_take];rfl)) ?_;(with_reducible refine (impl_within.calls a0 1 6 true _ A3.out).mono ?_);rintro e w' ⟨rfl,⟨nd,rfl⟩⟩;refine ⟨_,rfl,?_⟩)|(go_at_call 76;(with_reducible refine (impl_within.calls a1 1 8 false _ A5.out).mono ?_);rintro e w' ⟨rfl,⟨nd,rfl⟩⟩))
   go_ret2
   exact ⟨_,by first|rfl|(simp [errW_none,errW_some] <;> rfl)|(simp [*,errW_none,errW_some] <;> rfl),by first|exact Kd.S_nil _ _ _ _ _|exact Kd.N_nil _ _ _ _ _|exact Kd.V_nil _ _ _ _ _|exact Kd.Q_nil _ _ _ _ _|exact Kd.R_nil _ _ _ _ _,by repeat (first|(with_reducible first|exact HB.out|apply below_alloc|apply pw_below_drewN|apply below_drew1)|exact HB.out)⟩
 ·replace c4 := Bool.eq_false_iff.mpr c4
  subst c4
  have H1 : (some (([] : List (S97)),false)) = some (r1,r2) := by rw [if_neg (show ¬ (false = true) by decide)] at H;exact H
  clear H
  have H := H1
  clear H1
  simp only [Option.some.injEq,Prod.mk.injEq] at H
  obtain ⟨rfl,rfl⟩ := H
  go_enter Try.func25,Try.ntmps25
  go_wp2_with (first|((with_reducible refine gcal_ (f := 76) rfl ?_);refine goesL_ (some 7) rfl rfl Try.func76 (by kernel_rfl) rfl #[.int .i64 a0,.int .i64 1,.int .i64 6] rfl (by (try simp only [List.map_toArray,List.map_cons,List.map_nil]);first|done|rfl|(simp only [List.length_drop,List.length_take];rfl)) ?_;(with_reducible refine (impl_within.calls a0 1 6 false _ A3.out).mono ?_);rintro e w' ⟨rfl,⟨nd,rfl⟩⟩;refine ⟨_,rfl,?_⟩))
  go_ret2
  exact ⟨_,by first|rfl|(simp [errW_none,errW_some] <;> rfl)|(simp [*,errW_none,errW_some] <;> rfl),by first|exact Kd.S_nil _ _ _ _ _|exact Kd.N_nil _ _ _ _ _|exact Kd.V_nil _ _ _ _ _|exact Kd.Q_nil _ _ _ _ _|exact Kd.R_nil _ _ _ _ _,by repeat (first|(with_reducible first|exact HB.out|apply below_alloc|apply pw_below_drewN|apply below_drew1)|exact HB.out)⟩

/-! ### laws_heldPlaceS: function 28 -/
def laws_heldPlaceS.l0 : Nat → List (S97) → Int → Int → Option (Int)
  | 0, _, _, _ => none
  | k + 1, x0, x1, x5 => if x5 < (x0.length : Int) then (if 0 ≤ x5 then ((laws_heldInt64S.f k ((rd_T97 x0 x5).f0) x1).bind fun t212 => (if t212 < 0 then (some (-1)) else (laws_heldPlaceS.l0 k x0 t212 (wrap64 (x5 + 1))))) else (none)) else (some x1)
def laws_heldPlaceS.f (k : Nat) (l0 : List (S97)) (a1 : Int) : Option (Int) := laws_heldPlaceS.l0 k l0 a1 0

set_option maxHeartbeats 8000000 in
set_option maxRecDepth 100000 in
theorem laws_heldPlaceS.calls (k : Nat) (A0 : Option Addr) (c0 : Nat) (l0 : List (S97)) (a1 : Int) (r : Int) (w : World) (hr0 : Kd.C k97 w A0 l0.length l0) (hc0 : l0.length ≤ c0) (h : laws_heldPlaceS.f k l0 a1 = some r) :
    Calls Try.prog 28 #[.slice A0 l0.length c0, .int .i64 a1] w fun e w' => e = .returned (.int .i64 r) ∧ Drawn0 w w' := by
 have HR0 := Aside0.mk hr0
 have HC0 := Aside0.mk hc0
 clear hr0 hc0
 have H : (laws_heldPlaceS.l0 k l0 a1 0) = some r := h
 clear h
 have H' := Aside0.mk H
 clear H
 go_enter Try.func28,Try.ntmps28
 go_wp2
 go_loopg [1,5] k (fun kq v1 v5 w' => ∃ (x1_1 : Int) (x5_1 : Int),v1 = .int .i64 x1_1 ∧ v5 = .int .i64 x5_1 ∧ Aside0 (laws_heldPlaceS.l0 kq l0 x1_1 x5_1 = some r) ∧ Aside0 (kq ≤ k) ∧ Drawn0 w w')
 case atStart => exact ⟨(a1),(0),(by first|rfl|(simp;done)|(simp [*];done)),(by first|rfl|(simp;done)|(simp [*];done)),H',⟨Nat.le_refl _⟩,by repeat (first|exact Drawn0.refl _|apply Drawn0.step)⟩
 case round =>
  clear H'
  try clear c2
  try clear p2
  obtain ⟨x1_1,x5_1,rfl,rfl,HA,HK1,⟨m1,rfl⟩⟩ := hrel
  cases gk with
    | zero => exact absurd HA.out (by simp [laws_heldPlaceS.l0])
    | succ k1 =>
   have H := HA.out
   clear HA
   simp only [laws_heldPlaceS.l0] at H
   by_cases c3 : x5_1 < (l0.length : Int)
   ·rw [if_pos c3] at H
    have c3b0 : decide (x5_1 < (l0.length : Int)) = true := decide_eq_true c3
    clear c3
    by_cases c4 : 0 ≤ x5_1
    ·rw [if_pos c4] at H
     have c4b0 : decide (0 ≤ x5_1) = true := decide_eq_true c4
     clear c4
     replace H := Option.bind_eq_some_iff.mp H
     obtain ⟨t212,A50,H⟩ := H
     replace H : (if t212 < 0 then (some (-1)) else (laws_heldPlaceS.l0 k1 l0 t212 (wrap64 (x5_1 + 1)))) = some r := H
     have A5 := Aside0.mk A50
     clear A50
     by_cases c6 : t212 < 0
     ·rw [if_pos c6] at H
      have c6b0 : decide (t212 < 0) = true := decide_eq_true c6
      clear c6
      obtain rfl := Option.some.inj H
      have p211 : 0 ≤ (x5_1 : Int) := of_decide_eq_true (by first|(with_reducible assumption)|assumption)
      have q211 : x5_1 < (l0.length : Int) := of_decide_eq_true (by first|(with_reducible assumption)|assumption)
      obtain ⟨ad211,A211_0,c211_0,e211,hx211_0,hl211_0,hi211_0⟩ := at_T97 HR0.out x5_1 p211 q211
      cases e211
      have HR211_0 := Aside0.mk hi211_0
      have HC211_0 := Aside0.mk hl211_0
      clear hi211_0 hl211_0
      replace p211 := eq_true p211
      replace q211 := eq_true q211
      go_wp2_with (first|((with_reducible refine gcal_ (f := 58) rfl ?_);refine goesL_ (some 18) rfl rfl Try.func58 (by kernel_rfl) rfl #[.slice A211_0 ((rd_T97 l0 x5_1).f0).length c211_0,.int .i64 x1_1] rfl (by (try simp only [List.map_toArray,List.map_cons,List.map_nil]);first|done|rfl|(simp only [List.length_drop,List.length_take];rfl)) ?_;(with_reducible refine (laws_heldInt64S.calls k1 _ _ ((rd_T97 l0 x5_1).f0) x1_1 t212 _ ?side1 ?side2 A5.out).mono ?_);(case side1 => repeat (first|exact HR211_0.out|(with_reducible refine Kd.C_alloc ?_ _)|(with_reducible refine Kd.C_drewN ?_ _)|(with_reducible refine Kd.C_drew ?_)));(case side2 => exact HC211_0.out);rintro e w' ⟨rfl,⟨nd,rfl⟩⟩;refine ⟨_,rfl,?_⟩))
      go_ret
      exact ⟨by first|rfl|(simp;done)|(simp [*];done),by repeat (first|exact Drawn0.refl _|apply Drawn0.step)⟩
     ·rw [if_neg c6] at H
      have c6b0 : decide (t212 < 0) = false := decide_eq_false c6
      clear c6
      have H' := Aside0.mk H
      clear H
      have p211 : 0 ≤ (x5_1 : Int) := of_decide_eq_true (by first|(with_reducible assumption)|assumption)
      have q211 : x5_1 < (l0.length : Int) := of_decide_eq_true (by first|(with_reducible assumption)|assumption)
      obtain ⟨ad211,A211_0,c211_0,e211,hx211_0,hl211_0,hi211_0⟩ := at_T97 HR0.out x5_1 p211 q211
      cases e211
      have HR211_0 := Aside0.mk hi211_0
      have HC211_0 := Aside0.mk hl211_0
      clear hi211_0 hl211_0
      replace p211 := eq_true p211
      replace q211 := eq_true q211
      go_wp2_with (first|((with_reducible refine gcal_ (f := 58) rfl ?_);refine goesL_ (some 18) rfl rfl Try.func58 (by kernel_rfl) rfl #[.slice A211_0 ((rd_T97 l0 x5_1).f0).length c211_0,.int .i64 x1_1] rfl (by (try simp only [List.map_toArray,List.map_cons,List.map_nil]);first|done|rfl|(simp only [List.length_drop,List.length_take];rfl)) ?_;(with_reducible refine (laws_heldInt64S.calls k1 _ _ ((rd_T97 l0 x5_1).f0) x1_1 t212 _ ?side1 ?side2 A5.out).mono ?_);(case side1 => repeat (first|exact HR211_0.out|(with_reducible refine Kd.C_alloc ?_ _)|(with_reducible refine Kd.C_drewN ?_ _)|(with_reducible refine Kd.C_drew ?_)));(case side2 => exact HC211_0.out);rintro e w' ⟨rfl,⟨nd,rfl⟩⟩;refine ⟨_,rfl,?_⟩))
      go_roundg k1
      case measure => have := HK1.out;omega
      case rel => exact ⟨(t212),(wrap64 (x5_1 + 1)),(by first|rfl|(simp;done)|(simp [*];done)),(by first|rfl|(simp;done)|(simp [*];done)),H',⟨by have := HK1.out;omega⟩,by repeat (first|exact Drawn0.refl _|apply Drawn0.step)⟩
    ·rw [if_neg c4] at H
     exact absurd H (by simp)
   ·rw [if_neg c3] at H
    have c3b0 : decide (x5_1 < (l0.length : Int)) = false := decide_eq_false c3
    clear c3
    obtain rfl := Option.some.inj H
    go_wp2
    go_ret
    exact ⟨by first|rfl|(simp;done)|(simp [*];done),by repeat (first|exact Drawn0.refl _|apply Drawn0.step)⟩

/-! ### laws_FnExactSpread: function 5 -/
theorem hold_5 {p : Prop} (h : Aside0 p) : p := h.out
theorem ite_some_5 {α : Type} {c : Prop} [Decidable c] {x : Option α} {r : α} (h : (if c then x else none) = some r) : c ∧ x = some r := by
 by_cases hc : c
 ·rw [if_pos hc] at h;exact ⟨hc,h⟩
 ·rw [if_neg hc] at h;cases h
theorem ite_none_5 {α : Type} {c : Prop} [Decidable c] {x : Option α} {r : α} (h : (if c then none else x) = some r) : ¬ c ∧ x = some r := by
 by_cases hc : c
 ·rw [if_pos hc] at h;cases h
 ·rw [if_neg hc] at h;exact ⟨hc,h⟩
def laws_FnExactSpread.f (k : Nat) (a0 : Int) (a1 : Int) : Option (Bool) := (spec_Spread.f k a0 a1).bind fun x => (impl_Spread.f k a0 a1).bind fun y => if y.2 = x.2 then ((laws_eqPlaceS.f k y.1 x.1).bind fun e => if e = true then ((laws_markPlaceS.f k y.1 1).bind fun m => (laws_heldPlaceS.f k m.2 1).bind fun q => if q < 0 then none else if q = m.1 then some true else none) else none) else none
set_option maxHeartbeats 8000000 in
set_option maxRecDepth 100000 in
theorem laws_FnExactSpread.calls (k : Nat) (a0 : Int) (a1 : Int) (r : Bool) (w : World) (h : laws_FnExactSpread.f k a0 a1 = some r) :
    Calls Try.prog 5 #[.int .i64 a0, .int .i64 a1] w fun e w' => e = .returned (.bool r) ∧ Below w.heap.size w w' := by
 obtain ⟨⟨p,b⟩,E1,h1⟩ := Option.bind_eq_some_iff.1 h
 clear h
 obtain ⟨⟨p2,b2⟩,E2,h2⟩ := Option.bind_eq_some_iff.1 h1
 clear h1
 obtain ⟨hb,h3⟩ := ite_some_5 h2
 clear h2
 replace hb : b2 = b := hb
 subst hb
 obtain ⟨t,E3,h4⟩ := Option.bind_eq_some_iff.1 h3
 clear h3
 obtain ⟨ht,h5⟩ := ite_some_5 h4
 clear h4
 subst ht
 obtain ⟨⟨m,y⟩,E4,h6⟩ := Option.bind_eq_some_iff.1 h5
 clear h5
 obtain ⟨q,E5,h7⟩ := Option.bind_eq_some_iff.1 h6
 clear h6
 obtain ⟨hq,h8⟩ := ite_none_5 h7
 clear h7
 obtain ⟨hqm,h9⟩ := ite_some_5 h8
 clear h8
 replace hqm : q = m := hqm
 subst hqm
 obtain rfl := Option.some.inj h9
 clear h9
 have F1 := Aside0.mk E1
 have F2 := Aside0.mk E2
 have F3 := Aside0.mk E3
 have F4 := Aside0.mk E4
 have F5 := Aside0.mk E5
 have fq : 0 ≤ q := Int.not_lt.1 hq
 clear E1 E2 E3 E4 E5 hq
 go_enter Try.func5,Try.ntmps5
 go_wp2_with ((with_reducible refine gcal_ (f := 24) rfl ?_);refine goesL_ (some 16) rfl rfl Try.func24 (by kernel_rfl) rfl #[.int .i64 a0,.int .i64 a1] rfl (by (try simp only [List.map_toArray,List.map_cons,List.map_nil]);first|done|rfl) ?_;refine (spec_Spread.calls k a0 a1 p b2 _ F1.out).mono ?_;rintro e w1 ⟨v1,rfl,S1,B1⟩;refine ⟨_,rfl,?_⟩;refine hold_5 ?_)
 refine ⟨?_⟩
 have T1 := Aside0.mk S1
 have D1 := Aside0.mk B1
 clear S1 B1
 go_wp2_with ((with_reducible refine gcal_ (f := 25) rfl ?_);refine goesL_ (some 22) rfl rfl Try.func25 (by kernel_rfl) rfl #[.int .i64 a0,.int .i64 a1] rfl (by (try simp only [List.map_toArray,List.map_cons,List.map_nil]);first|done|rfl) ?_;refine (impl_Spread.calls k a0 a1 p2 b2 _ F2.out).mono ?_;rintro e w2 ⟨v2,rfl,S2,B2⟩;refine ⟨_,rfl,?_⟩;refine hold_5 ?_)
 refine ⟨?_⟩
 have T2 := Aside0.mk S2
 have D2 := Aside0.mk B2
 clear S2 B2
 obtain ⟨Av1,cv1,ev1⟩ := Kd.S_slice T1.out
 subst ev1
 obtain ⟨Av2,cv2,ev2⟩ := Kd.S_slice T2.out
 subst ev2
 have U1 := Aside0.mk (Kd.S_below T1.out D2.out)
 go_wp2_with ((with_reducible refine gcal_ (f := 26) rfl ?_);refine goesL_ (some 27) rfl rfl Try.func26 (by kernel_rfl) rfl #[.slice Av2 p2.length cv2,.slice Av1 p.length cv1] rfl (by (try simp only [List.map_toArray,List.map_cons,List.map_nil]);first|done|rfl) ?_;refine (laws_eqPlaceS.calls k Av2 cv2 p2 Av1 cv1 p true _ (Kd.S_reads' T2.out).2.2 (Kd.S_reads' T2.out).2.1 (Kd.S_reads' U1.out).2.2 (Kd.S_reads' U1.out).2.1 F3.out).mono ?_;rintro e w3 ⟨rfl,B3⟩;refine ⟨_,rfl,?_⟩;refine hold_5 ?_)
 refine ⟨?_⟩
 have D3 := Aside0.mk (below_step D2.out B3)
 have T3 := Aside0.mk (Kd.S_below T2.out B3)
 clear B3
 go_wp2_with ((with_reducible refine gcal_ (f := 27) rfl ?_);refine goesL_ (some 36) rfl rfl Try.func27 (by kernel_rfl) rfl #[.slice Av2 p2.length cv2,.int .i64 1] rfl (by (try simp only [List.map_toArray,List.map_cons,List.map_nil]);first|done|rfl) ?_;refine (laws_markPlaceS.calls k (fun _ => True) (.slice Av2 p2.length cv2) p2 1 q y w1 _ D3.out T3.out F4.out).mono ?_;rintro e w4 ⟨rfl,S4,B4,K4⟩;refine ⟨_,rfl,?_⟩;refine hold_5 ?_)
 refine ⟨?_⟩
 have T4 := Aside0.mk S4
 have D4 := Aside0.mk B4
 clear S4 B4 K4
 have L4 := Aside0.mk (Kd.S_reads' T4.out).1
 have M4 : Aside0 (y.length ≤ cv2) := ⟨by rw [← L4.out];exact (Kd.S_reads' T4.out).2.1⟩
 go_wp2_with ((with_reducible refine gcal_ (f := 28) rfl ?_);refine goesL_ (some 39) rfl rfl Try.func28 (by kernel_rfl) rfl #[.slice Av2 p2.length cv2,.int .i64 1] rfl (by (try simp only [List.map_toArray,List.map_cons,List.map_nil]);first|done|rfl) ?_;refine calls_arr (by rw [L4.out]) ((laws_heldPlaceS.calls k Av2 cv2 y 1 q _ (Kd.S_reads' T4.out).2.2 M4.out F5.out).mono ?_);rintro e w5 ⟨rfl,B5⟩;refine ⟨_,rfl,?_⟩;refine hold_5 ?_)
 refine ⟨?_⟩
 have D5 := Aside0.mk (below_step D4.out B5.below)
 have T5 := Aside0.mk (Kd.S_below T4.out B5.below)
 have U5 := Aside0.mk (Kd.S_below T1.out D5.out)
 clear B5
 go_wp2_with ((with_reducible refine gcal_ (f := 25) rfl ?_);refine goesL_ (some 48) rfl rfl Try.func25 (by kernel_rfl) rfl #[.int .i64 a0,.int .i64 a1] rfl (by (try simp only [List.map_toArray,List.map_cons,List.map_nil]);first|done|rfl) ?_;refine (impl_Spread.calls k a0 a1 p2 b2 _ F2.out).mono ?_;rintro e w6 ⟨v3,rfl,S6,B6⟩;refine ⟨_,rfl,?_⟩;refine hold_5 ?_)
 refine ⟨?_⟩
 have T6 := Aside0.mk S6
 have D6 := Aside0.mk (below_step D5.out B6)
 have U6 := Aside0.mk (Kd.S_below U5.out B6)
 have Y6 := Aside0.mk (Kd.S_below T5.out B6)
 clear S6 B6
 obtain ⟨Av3,cv3,ev3⟩ := Kd.S_slice T6.out
 subst ev3
 go_wp2_with ((with_reducible refine gcal_ (f := 26) rfl ?_);refine goesL_ (some 53) rfl rfl Try.func26 (by kernel_rfl) rfl #[.slice Av3 p2.length cv3,.slice Av1 p.length cv1] rfl (by (try simp only [List.map_toArray,List.map_cons,List.map_nil]);first|done|rfl) ?_;refine (laws_eqPlaceS.calls k Av3 cv3 p2 Av1 cv1 p true _ (Kd.S_reads' T6.out).2.2 (Kd.S_reads' T6.out).2.1 (Kd.S_reads' U6.out).2.2 (Kd.S_reads' U6.out).2.1 F3.out).mono ?_;rintro e w7 ⟨rfl,B7⟩;refine ⟨_,rfl,?_⟩;refine hold_5 ?_)
 refine ⟨?_⟩
 have D7 := Aside0.mk (below_step D6.out B7)
 have Y7 := Aside0.mk (Kd.S_below Y6.out B7)
 clear B7
 go_wp2_with ((with_reducible refine gcal_ (f := 28) rfl ?_);refine goesL_ (some 62) rfl rfl Try.func28 (by kernel_rfl) rfl #[.slice Av2 p2.length cv2,.int .i64 1] rfl (by (try simp only [List.map_toArray,List.map_cons,List.map_nil]);first|done|rfl) ?_;refine calls_arr (by rw [L4.out]) ((laws_heldPlaceS.calls k Av2 cv2 y 1 q _ (Kd.S_reads' Y7.out).2.2 M4.out F5.out).mono ?_);rintro e w8 ⟨rfl,B8⟩;refine ⟨_,rfl,?_⟩;refine hold_5 ?_)
 refine ⟨?_⟩
 have D8 := Aside0.mk (below_step D1.out (below_step D7.out B8.below))
 clear B8
 go_wp2
 go_ret
 exact ⟨rfl,D8.out⟩

end Go.Proofs.Ytodgacnioeoogaa.XBk
