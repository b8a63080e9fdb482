/- Proved: of each Go function here that a call comes to what the Lean function of its name tells. Written by a program of this session over the translation. No conditions beyond each theorem's own. -/
import Derived.Test.YtnilfnkdgdfnnaaGreatDoorXRe0
import Derived.Test.YtnilfnkdgdfnnaaGreatDoorXRe3
import Derived.Test.YtnilfnkdgdfnnaaGreatDoorXRe5
namespace Go.Proofs.YtnilfnkdgdfnnaaGreatDoor.XRe
open Go.RowKit Go.Proofs.YtnilfnkdgdfnnaaGreatDoor.Aid Go.Proofs.YtnilfnkdgdfnnaaGreatDoorW.PrintWords Go.Proofs.YtnilfnkdgdfnnaaGreatDoorW.PrintLast Go.Proofs.YtnilfnkdgdfnnaaGreatDoorW.PrintMore
set_option linter.unusedVariables false
set_option linter.unusedSimpArgs false

/-! ### impl_showRecord: function 15 -/
def impl_showRecord.l0 : Nat → List ByteArray → List (S47) → Int → Int → Option (ByteArray)
  | 0, _, _, _, _ => none
  | k + 1, x3, x22, x23, x24 => if x24 < x23 then (if 0 ≤ x24 then (if x24 < (x22.length : Int) then (if (rd_T47 x22 x24).f3 = true then ((impl_decimal.f ((rd_T47 x22 x24).f1)).bind fun t305 => ((impl_decimal.f ((rd_T47 x22 x24).f2)).bind fun t306 => ((impl_decimal.f ((rd_T47 x22 x24).f4)).bind fun t307 => ((some (([t305, t306, (⟨#[49]⟩ : ByteArray), t307] : List ByteArray) : List ByteArray)).bind fun y308 => (if x3.length + y308.length < 8796093022208 then (impl_showRecord.l0 k (x3 ++ y308) x22 x23 (wrap64 (x24 + 1))) else (none)))))) else ((impl_decimal.f ((rd_T47 x22 x24).f1)).bind fun t314 => ((impl_decimal.f ((rd_T47 x22 x24).f2)).bind fun t315 => ((impl_decimal.f ((rd_T47 x22 x24).f4)).bind fun t316 => ((some (([t314, t315, (⟨#[48]⟩ : ByteArray), t316] : List ByteArray) : List ByteArray)).bind fun y317 => (if x3.length + y317.length < 8796093022208 then (impl_showRecord.l0 k (x3 ++ y317) x22 x23 (wrap64 (x24 + 1))) else (none))))))) else (none)) else (none)) else ((strings_Join.f x3 (⟨#[32]⟩ : ByteArray)).bind fun t302 => (some t302))
def impl_showRecord.f (k : Nat) (a0_0 : Int) (a0_1 : Int) (a0_2 : Int) (l0_3 : List (S47)) : Option (ByteArray) := (impl_decimal.f a0_0).bind fun t294 => ((impl_decimal.f a0_1).bind fun t295 => ((impl_decimal.f a0_2).bind fun t296 => ((impl_Set_29.f l0_3).bind fun t297 => ((impl_decimal.f t297).bind fun t298 => (impl_showRecord.l0 k (([t294, t295, t296, t298] : List ByteArray)) l0_3 (l0_3.length : Int) 0)))))

def impl_showRecord.T1 : Bool × List (List Nat × List Nat) := (true, [([], []), ([0], [0]), ([1], [1]), ([], []), ([3], [3]), ([4, 2], [4]), ([], []), ([6], [6]), ([7, 5], [7]), ([], []), ([9], [9]), ([10, 8], [10]), ([11, 11], [11]), ([2, 5, 8, 12], [2, 5, 8, 12]), ([13, 12, 0, 1, 2, 3, 4, 5, 6, 7, 8, 9, 10, 11, 12, 13], [13])])
def impl_showRecord.B1 : List Nat := [0, 1, 3, 0, 8, 31, 0, 64, 255, 0, 512, 2047, 4095, 8191, 16383]
theorem impl_showRecord.tab1 : rtab .any (opsOf Tryz.f15 1) = impl_showRecord.T1 := by kernel_rfl
theorem impl_showRecord.bits1 : waitsOk impl_showRecord.T1.2 impl_showRecord.B1 = true := by kernel_rfl
def impl_showRecord.T8 : Bool × List (List Nat × List Nat) := (true, [([], []), ([], []), ([1], [1]), ([2], [2]), ([], []), ([4], [4]), ([5, 3], [5]), ([], []), ([], []), ([8], [8]), ([9, 6], [9]), ([3, 6, 7, 10], [3, 6, 7, 10]), ([0, 11, 10], [0, 11]), ([12, 12, 0, 1, 2, 3, 4, 5, 6, 7, 8, 9, 10, 11, 12], [0, 12])])
def impl_showRecord.B8 : List Nat := [0, 0, 2, 6, 0, 16, 62, 0, 0, 256, 894, 2046, 4095, 8191]
theorem impl_showRecord.tab8 : rtab .any (opsOf Tryz.f15 8) = impl_showRecord.T8 := by kernel_rfl
theorem impl_showRecord.bits8 : waitsOk impl_showRecord.T8.2 impl_showRecord.B8 = true := by kernel_rfl
set_option maxHeartbeats 8000000 in
set_option maxRecDepth 100000 in
theorem impl_showRecord.calls (k : Nat) (a0_0 : Int) (a0_1 : Int) (a0_2 : Int) (A0_3 : Option Addr) (c0_3 : Nat) (l0_3 : List (S47)) (r : ByteArray) (w : World) (htb : Aside0 (Tb w)) (hr0_3 : Kd.C k47 w A0_3 l0_3.length l0_3) (hc0_3 : l0_3.length ≤ c0_3) (h : impl_showRecord.f k a0_0 a0_1 a0_2 l0_3 = some r) :
    Calls Tryz.prog 15 #[.agg #[.int .i64 a0_0, .int .i64 a0_1, .int .i64 a0_2, .slice A0_3 l0_3.length c0_3]] w fun e w' => e = .returned (.string r) ∧ Below w.heap.size w w' := by
 have hu26 := Tryz.underlying26
 have hu47 := Tryz.underlying47
 have HR0_3 := Aside0.mk hr0_3
 have HC0_3 := Aside0.mk hc0_3
 clear hr0_3 hc0_3
 have HB := Aside0.mk (Below.refl w.heap.size w)
 have H : ((impl_decimal.f a0_0).bind fun t294 => ((impl_decimal.f a0_1).bind fun t295 => ((impl_decimal.f a0_2).bind fun t296 => ((impl_Set_29.f l0_3).bind fun t297 => ((impl_decimal.f t297).bind fun t298 => (impl_showRecord.l0 k (([t294,t295,t296,t298] : List ByteArray)) l0_3 (l0_3.length : Int) 0)))))) = some r := h
 clear h
 replace H := bs_ H
 obtain ⟨t294,A2,H⟩ := H
 replace H := bs_ H
 obtain ⟨t295,A3,H⟩ := H
 replace H := bs_ H
 obtain ⟨t296,A4,H⟩ := H
 replace H := bs_ H
 obtain ⟨t297,A5,H⟩ := H
 replace H := bs_ H
 obtain ⟨t298,A6,H⟩ := H
 obtain ⟨y299,hy299⟩ : ∃ y_ : List ByteArray,y_ = (([t294,t295,t296,t298] : List ByteArray)) := ⟨_,rfl⟩
 replace H : (impl_showRecord.l0 k y299 l0_3 (l0_3.length : Int) 0) = some r := by first|(rw [hy299];with_reducible exact H)|(have H2_ := (Option.bind_some _ _).symm.trans H;rw [hy299];with_reducible exact H2_)|(have H2_ := (Option.bind_some _ _).symm.trans H;with_reducible exact H2_)|with_reducible exact H|(rw [hy299];exact H)|exact H
 have Ny299 := Aside0.mk hy299
 clear hy299
 have H' := Aside0.mk H
 clear H
 go_enter Tryz.func15,Tryz.ntmps15
 try go_wp2_with (first|((with_reducible refine gate_dst (N := 1) rfl ?_);refine bx_ 1 #[.int .i64 a0_0,.int .i64 a0_1,.int .i64 a0_2,.slice A0_3 l0_3.length c0_3] 26 ?_;intro gb293 hg w7 hbox hb;replace HB := nb_ hg hbox hb;obtain ⟨BK293,GW293,GE293,HB⟩ := HB;clear hb hbox hg))
 replace BK293 := Aside0.mk (blk_drew BK293.out)
 replace HB := Aside0.mk (below_drew1 HB.out)
 refine st_ 15 (S := fun w' => hd4 w' gb293 (.int .i64 a0_0) (.int .i64 a0_1) (.int .i64 a0_2) (.slice A0_3 l0_3.length c0_3)) hh_ (fun hHeld => ?_);refine with_tabW impl_showRecord.tab1 impl_showRecord.bits1 (fun HT_ HW_ => ?_)
 generalize w7.drew = w8 at BK293 HB hHeld ⊢
 refine pv_ 0 7 ?_
 refine pv_ 3 10 ?_
 refine pv_ 6 13 ?_
 refine pv_ 9 16 ?_
 refine tx_ 1 8 hHeld ?_
 refine tx_ 4 11 hHeld ?_
 refine tx_ 7 14 hHeld ?_
 refine tx_ 10 17 hHeld ?_
 refine oy_ 2 9 (fun K hK => ?_)
 refine gs_ Tryz.func33 #[.int .i64 a0_0] ?_
 with_reducible refine (impl_decimal.calls a0_0 t294 _ ?sideT A2.out).mono ?_
 (case sideT => exact tb_ htb)
 rintro e w9 ⟨rfl,hb⟩
 refine ⟨_,rfl,?_⟩
 replace BK293 := Aside0.mk (blk_below (kb_ BK293) hb)
 replace HB := Aside0.mk (below_step b_ hb)
 (try clear hb)
 (try clear hb2)
 (try clear hk)
 (try clear hi)
 refine hK.out _ _ hh_ (fun hHeld => ?_)
 clear hK K
 refine nr_ (some 9) _ ?_
 refine oy_ 5 12 (fun K hK => ?_)
 refine gs_ Tryz.func33 #[.int .i64 a0_1] ?_
 with_reducible refine (impl_decimal.calls a0_1 t295 _ ?sideT A3.out).mono ?_
 (case sideT => exact tb_ htb)
 rintro e w10 ⟨rfl,hb⟩
 refine ⟨_,rfl,?_⟩
 replace BK293 := Aside0.mk (blk_below (kb_ BK293) hb)
 replace HB := Aside0.mk (below_step b_ hb)
 (try clear hb)
 (try clear hb2)
 (try clear hk)
 (try clear hi)
 refine hK.out _ _ hh_ (fun hHeld => ?_)
 clear hK K
 refine nr_ (some 12) _ ?_
 refine oy_ 8 15 (fun K hK => ?_)
 refine gs_ Tryz.func33 #[.int .i64 a0_2] ?_
 with_reducible refine (impl_decimal.calls a0_2 t296 _ ?sideT A4.out).mono ?_
 (case sideT => exact tb_ htb)
 rintro e w11 ⟨rfl,hb⟩
 refine ⟨_,rfl,?_⟩
 replace BK293 := Aside0.mk (blk_below (kb_ BK293) hb)
 replace HB := Aside0.mk (below_step b_ hb)
 (try clear hb)
 (try clear hb2)
 (try clear hk)
 (try clear hi)
 refine hK.out _ _ hh_ (fun hHeld => ?_)
 clear hK K
 refine nr_ (some 15) _ ?_
 refine oy_ 11 18 (fun K hK => ?_)
 refine gs_ Tryz.func29 #[.slice A0_3 l0_3.length c0_3] ?_
 with_reducible refine (impl_Set_29.calls _ _ l0_3 t297 _ ?side1 ?side2 A5.out).mono ?_
 (case side1 => exact cb_ HR0_3)
 (case side2 => exact HC0_3.out)
 rintro e w' ⟨rfl,⟨nd,rfl⟩⟩
 refine ⟨_,rfl,?_⟩
 refine hK.out _ _ hh_ (fun hHeld => ?_)
 clear hK K
 refine nr_ (some 18) _ ?_
 refine oy_ 12 19 (fun K hK => ?_)
 refine gs_ Tryz.func33 #[.int .i64 t297] ?_
 with_reducible refine (impl_decimal.calls t297 t298 _ ?sideT A6.out).mono ?_
 (case sideT => exact tb_ htb)
 rintro e w12 ⟨rfl,hb⟩
 refine ⟨_,rfl,?_⟩
 replace BK293 := Aside0.mk (blk_below (kb_ BK293) hb)
 replace HB := Aside0.mk (below_step b_ hb)
 (try clear hb)
 (try clear hb2)
 (try clear hk)
 (try clear hi)
 refine hK.out _ _ hh_ (fun hHeld => ?_)
 clear hK K
 refine nr_ (some 19) _ ?_
 refine oy_ 13 20 (fun K hK => ?_)
 refine Kd.R_lit_step Kd.string _ 9 ?hg (N := 20) ?hd (xs := ([t294,t295,t296,t298] : List ByteArray)) (inner := [.string t294,.string t295,.string t296,.string t298]) (ok := fun _ => True) (okp := fun _ => True) ?hr ?hp (fun _ hk => hk) trivial (Below.refl _ _) (Nat.le_refl _) (by simp) ?_;(case hd => rfl);(case hg => rfl);(case hr => first|(go_simp;done)|(go_simp;rfl));(case hp => exact (Reps.one (show Kd.M Kd.string _ _ _ t294 [.string t294] from rfl) (Reps.one (show Kd.M Kd.string _ _ _ t295 [.string t295] from rfl) (Reps.one (show Kd.M Kd.string _ _ _ t296 [.string t296] from rfl) (Reps.one (show Kd.M Kd.string _ _ _ t298 [.string t298] from rfl) (Reps.none _ _))))))
 intro v300 w13 ho14 hb hg_ hnew_
 clear hg_ hnew_
 (first|rw [← Ny299.out] at ho14|(simp only [Int.reduceToNat] at ho14;rw [← Ny299.out] at ho14))
 replace BK293 := Aside0.mk (blk_below (kb_ BK293) hb)
 have HO301 := Aside0.mk (Kd.R_lower ho14 (below_size b_))
 replace HB := Aside0.mk (below_step b_ hb)
 clear hb ho14
 refine hK.out _ _ hh_ (fun hHeld => ?_)
 clear hK K
 refine nr_ (some 20) _ ?_
 refine pv_ 14 3 ?_
 refine done_ (done_of HT_.out (by kernel_rfl)) ?_
 obtain ⟨⟨hcz15_0,hcz15_1,hcz15_2,hcz15_3⟩,hfz15_0,hfz15_1,hfz15_2,hfz15_3⟩ := cl4_ BK293.out
 try go_wp2
 go_loopg [3,24] k (fun kq v3 v24 w' => ∃ (x3_1 : List ByteArray) (x24_1 : Int),v24 = .int .i64 x24_1 ∧ Aside0 (impl_showRecord.l0 kq x3_1 l0_3 (l0_3.length : Int) x24_1 = some r) ∧ Aside0 (kq ≤ k) ∧ Aside0 (Kd.R Kd.string 9 w' w.heap.size (fun _ => True) v3 x3_1) ∧ Aside0 (w'.heap[gb293]? = some (.cells #[.int .i64 a0_0,.int .i64 a0_1,.int .i64 a0_2,(.slice A0_3 l0_3.length c0_3)] 26 (0,0))) ∧ Aside0 (Below w.heap.size w w'))
 case atStart => exact ⟨(y299),(0),rs_,H',⟨Nat.le_refl _⟩,⟨by (with_reducible repeat (first|apply Kd.R_alloc|apply Kd.R_drewN|apply Kd.R_drew));exact HO301.out⟩,⟨kb_ BK293⟩,⟨b_⟩⟩
 case round =>
  clear H'
  try clear c1
  try clear c2
  try clear p2
  try clear c3
  try clear c15
  try clear hcz15_0
  try clear hcz15_1
  try clear hcz15_2
  try clear hcz15_3
  try clear hfz15_0
  try clear hfz15_1
  try clear hfz15_2
  try clear hfz15_3
  obtain ⟨x3_1,x24_1,rfl,HA,HK1,HO_3,BK293,HB⟩ := hrel
  cases gk with
    | zero => exact absurd HA.out (by simp [impl_showRecord.l0])
    | succ k1 =>
   have H := HA.out
   clear HA
   simp only [impl_showRecord.l0] at H
   by_cases c16 : x24_1 < (l0_3.length : Int)
   ·rw [if_pos c16] at H
    have c16b0 : decide (x24_1 < (l0_3.length : Int)) = true := decide_eq_true c16
    clear c16
    by_cases c17 : 0 ≤ x24_1
    ·rw [if_pos c17] at H
     have c17b0 : decide (0 ≤ x24_1) = true := decide_eq_true c17
     clear c17
     by_cases c18 : x24_1 < (l0_3.length : Int)
     ·rw [if_pos c18] at H
      have c18b0 : decide (x24_1 < (l0_3.length : Int)) = true := decide_eq_true c18
      clear c18
      obtain ⟨bq19,hbq19⟩ : ∃ b_ : Bool,b_ = ((rd_T47 l0_3 x24_1).f3) := ⟨_,rfl⟩
      replace H : (if bq19 = true then ((impl_decimal.f ((rd_T47 l0_3 x24_1).f1)).bind fun t305 => ((impl_decimal.f ((rd_T47 l0_3 x24_1).f2)).bind fun t306 => ((impl_decimal.f ((rd_T47 l0_3 x24_1).f4)).bind fun t307 => ((some (([t305,t306,(⟨#[49]⟩ : ByteArray),t307] : List ByteArray) : List ByteArray)).bind fun y308 => (if x3_1.length + y308.length < 8796093022208 then (impl_showRecord.l0 k1 (x3_1 ++ y308) l0_3 (l0_3.length : Int) (wrap64 (x24_1 + 1))) else (none)))))) else ((impl_decimal.f ((rd_T47 l0_3 x24_1).f1)).bind fun t314 => ((impl_decimal.f ((rd_T47 l0_3 x24_1).f2)).bind fun t315 => ((impl_decimal.f ((rd_T47 l0_3 x24_1).f4)).bind fun t316 => ((some (([t314,t315,(⟨#[48]⟩ : ByteArray),t316] : List ByteArray) : List ByteArray)).bind fun y317 => (if x3_1.length + y317.length < 8796093022208 then (impl_showRecord.l0 k1 (x3_1 ++ y317) l0_3 (l0_3.length : Int) (wrap64 (x24_1 + 1))) else (none))))))) = some r := by rw [← hbq19] at H;exact H
      have Nbq19 := Aside0.mk hbq19
      clear hbq19
      by_cases c20 : bq19 = true
      ·subst c20
       replace H := it_ H
       replace H := bs_ H
       obtain ⟨t305,A21,H⟩ := H
       replace H := bs_ H
       obtain ⟨t306,A22,H⟩ := H
       replace H := bs_ H
       obtain ⟨t307,A23,H⟩ := H
       obtain ⟨y308,hy308⟩ : ∃ y_ : List ByteArray,y_ = (([t305,t306,(⟨#[49]⟩ : ByteArray),t307] : List ByteArray)) := ⟨_,rfl⟩
       replace H : (if x3_1.length + y308.length < 8796093022208 then (impl_showRecord.l0 k1 (x3_1 ++ y308) l0_3 (l0_3.length : Int) (wrap64 (x24_1 + 1))) else (none)) = some r := by first|(rw [hy308];with_reducible exact H)|(have H2_ := (Option.bind_some _ _).symm.trans H;rw [hy308];with_reducible exact H2_)|(have H2_ := (Option.bind_some _ _).symm.trans H;with_reducible exact H2_)|with_reducible exact H|(rw [hy308];exact H)|exact H
       have Ny308 := Aside0.mk hy308
       clear hy308
       by_cases c24 : x3_1.length + y308.length < 8796093022208
       ·rw [if_pos c24] at H
        have LMc24 := Aside0.mk c24
        clear c24
        obtain ⟨y311,hy311⟩ : ∃ y_ : List ByteArray,y_ = (x3_1 ++ y308) := ⟨_,rfl⟩
        replace H : (impl_showRecord.l0 k1 y311 l0_3 (l0_3.length : Int) (wrap64 (x24_1 + 1))) = some r := by first|(rw [hy311];with_reducible exact H)|(have H2_ := (Option.bind_some _ _).symm.trans H;rw [hy311];with_reducible exact H2_)|(have H2_ := (Option.bind_some _ _).symm.trans H;with_reducible exact H2_)|with_reducible exact H|(rw [hy311];exact H)|exact H
        have Ny311 := Aside0.mk hy311
        clear hy311
        have H' := Aside0.mk H
        clear H
        have p303 : 0 ≤ (x24_1 : Int) := od_
        have q303 : x24_1 < (l0_3.length : Int) := od_
        obtain ⟨ad303,e303,hx303_0,hx303_1,hx303_2,hx303_3,hx303_4⟩ := at_T47 HR0_3.out x24_1 p303 q303
        (try rw [← Nbq19.out] at hx303_3)
        cases e303
        replace hx303_0 := hx_ HB hx303_0
        replace hx303_1 := hx_ HB hx303_1
        replace hx303_2 := hx_ HB hx303_2
        replace hx303_3 := hx_ HB hx303_3
        replace hx303_4 := hx_ HB hx303_4
        replace p303 := eq_true p303
        replace q303 := eq_true q303
        try go_wp2_with (first|((with_reducible refine gate_dst (N := 5) rfl ?_);refine bx_ 5 #[.int .i64 0,.int .i64 0,.int .i64 0,.bool false,.int .i64 0] 47 ?_;intro gb304 hg w25 hbox hb;replace HO_3 := Aside0.mk (Kd.R_below (by (with_reducible repeat (first|apply Kd.R_alloc|apply Kd.R_drewN|apply Kd.R_drew));exact HO_3.out) hb);replace HB := nb_ hg hbox hb;obtain ⟨BK304,GW304,GE304,HB⟩ := HB;have NB293_304 := Aside0.mk ((nl_ BK293 hg));have NB304_293 := Aside0.mk ((ng_ BK293 hg));replace BK293 := Aside0.mk (blk_below (kb_ BK293) hb);clear hb hbox hg;have hnb26 := NB304_293.out;have hnc26 := NB293_304.out;obtain ⟨⟨hcz27_0,hcz27_1,hcz27_2,hcz27_3,hcz27_4⟩,hfz27_0,hfz27_1,hfz27_2,hfz27_3,hfz27_4⟩ := cl5_ BK304.out))
        have n0_ : Aside0 (Kd.R Kd.string 9 (((((w25.setCell ⟨gb304,0,none⟩ (.int .i64 ((rd_T47 l0_3 x24_1).f0))).setCell ⟨gb304,1,none⟩ (.int .i64 ((rd_T47 l0_3 x24_1).f1))).setCell ⟨gb304,2,none⟩ (.int .i64 ((rd_T47 l0_3 x24_1).f2))).setCell ⟨gb304,3,none⟩ (.bool true)).setCell ⟨gb304,4,none⟩ (.int .i64 ((rd_T47 l0_3 x24_1).f4))) w.heap.size (fun _ => True) u3 x3_1) := ⟨by (with_reducible repeat (first|apply Kd.R_alloc|apply Kd.R_drewN|apply Kd.R_drew));exact Kd.R_mono (Kd.R_far (p := ⟨gb304,4,none⟩) (Kd.R_far (p := ⟨gb304,3,none⟩) (Kd.R_far (p := ⟨gb304,2,none⟩) (Kd.R_far (p := ⟨gb304,1,none⟩) (Kd.R_far (p := ⟨gb304,0,none⟩) (Kd.R_types HO_3.out BK304.out (by decide)) (fun _ hk => hk.2) (.int .i64 ((rd_T47 l0_3 x24_1).f0))) (fun _ hk => hk.2) (.int .i64 ((rd_T47 l0_3 x24_1).f1))) (fun _ hk => hk.2) (.int .i64 ((rd_T47 l0_3 x24_1).f2))) (fun _ hk => hk.2) (.bool true)) (fun _ hk => hk.2) (.int .i64 ((rd_T47 l0_3 x24_1).f4))) (fun _ hk => trivial)⟩
        have n1_ : Aside0 ((((((w25.setCell ⟨gb304,0,none⟩ (.int .i64 ((rd_T47 l0_3 x24_1).f0))).setCell ⟨gb304,1,none⟩ (.int .i64 ((rd_T47 l0_3 x24_1).f1))).setCell ⟨gb304,2,none⟩ (.int .i64 ((rd_T47 l0_3 x24_1).f2))).setCell ⟨gb304,3,none⟩ (.bool true)).setCell ⟨gb304,4,none⟩ (.int .i64 ((rd_T47 l0_3 x24_1).f4))).heap[gb293]? = some (.cells #[.int .i64 a0_0,.int .i64 a0_1,.int .i64 a0_2,.slice (some ad303) l0_3.length c0_3] 26 (0,0))) := ⟨kf_ BK293⟩
        have n2_ : Aside0 ((((((w25.setCell ⟨gb304,0,none⟩ (.int .i64 ((rd_T47 l0_3 x24_1).f0))).setCell ⟨gb304,1,none⟩ (.int .i64 ((rd_T47 l0_3 x24_1).f1))).setCell ⟨gb304,2,none⟩ (.int .i64 ((rd_T47 l0_3 x24_1).f2))).setCell ⟨gb304,3,none⟩ (.bool true)).setCell ⟨gb304,4,none⟩ (.int .i64 ((rd_T47 l0_3 x24_1).f4))).heap[gb304]? = some (.cells #[.int .i64 ((rd_T47 l0_3 x24_1).f0),.int .i64 ((rd_T47 l0_3 x24_1).f1),.int .i64 ((rd_T47 l0_3 x24_1).f2),.bool true,.int .i64 ((rd_T47 l0_3 x24_1).f4)] 47 (0,0))) := ⟨by (with_reducible repeat (first|refine blk_drewN ?_ _|refine blk_drew ?_|refine blk_alloc ?_ _));refine blk_put (cs := #[.int .i64 ((rd_T47 l0_3 x24_1).f0),.int .i64 ((rd_T47 l0_3 x24_1).f1),.int .i64 ((rd_T47 l0_3 x24_1).f2),.bool true,.int .i64 0]) ?_ 4 _ rfl;(with_reducible repeat (first|refine blk_drewN ?_ _|refine blk_drew ?_|refine blk_alloc ?_ _));refine blk_put (cs := #[.int .i64 ((rd_T47 l0_3 x24_1).f0),.int .i64 ((rd_T47 l0_3 x24_1).f1),.int .i64 ((rd_T47 l0_3 x24_1).f2),.bool false,.int .i64 0]) ?_ 3 _ rfl;(with_reducible repeat (first|refine blk_drewN ?_ _|refine blk_drew ?_|refine blk_alloc ?_ _));refine blk_put (cs := #[.int .i64 ((rd_T47 l0_3 x24_1).f0),.int .i64 ((rd_T47 l0_3 x24_1).f1),.int .i64 0,.bool false,.int .i64 0]) ?_ 2 _ rfl;(with_reducible repeat (first|refine blk_drewN ?_ _|refine blk_drew ?_|refine blk_alloc ?_ _));refine blk_put (cs := #[.int .i64 ((rd_T47 l0_3 x24_1).f0),.int .i64 0,.int .i64 0,.bool false,.int .i64 0]) ?_ 1 _ rfl;(with_reducible repeat (first|refine blk_drewN ?_ _|refine blk_drew ?_|refine blk_alloc ?_ _));refine blk_put (cs := #[.int .i64 0,.int .i64 0,.int .i64 0,.bool false,.int .i64 0]) ?_ 0 _ rfl;(with_reducible repeat (first|refine blk_drewN ?_ _|refine blk_drew ?_|refine blk_alloc ?_ _));exact BK304.out⟩
        have n3_ : Aside0 (Below w.heap.size w (((((w25.setCell ⟨gb304,0,none⟩ (.int .i64 ((rd_T47 l0_3 x24_1).f0))).setCell ⟨gb304,1,none⟩ (.int .i64 ((rd_T47 l0_3 x24_1).f1))).setCell ⟨gb304,2,none⟩ (.int .i64 ((rd_T47 l0_3 x24_1).f2))).setCell ⟨gb304,3,none⟩ (.bool true)).setCell ⟨gb304,4,none⟩ (.int .i64 ((rd_T47 l0_3 x24_1).f4)))) := ⟨b_⟩
        (try clear HO_3)
        (try clear BK293)
        (try clear BK304)
        (try clear HB)
        generalize (((((w25.setCell ⟨gb304,0,none⟩ (.int .i64 ((rd_T47 l0_3 x24_1).f0))).setCell ⟨gb304,1,none⟩ (.int .i64 ((rd_T47 l0_3 x24_1).f1))).setCell ⟨gb304,2,none⟩ (.int .i64 ((rd_T47 l0_3 x24_1).f2))).setCell ⟨gb304,3,none⟩ (.bool true)).setCell ⟨gb304,4,none⟩ (.int .i64 ((rd_T47 l0_3 x24_1).f4))) = w28 at n0_ n1_ n2_ n3_ ⊢
        have HO_3 := n0_
        have BK293 := n1_
        have BK304 := n2_
        have HB := n3_
        clear n0_ n1_ n2_ n3_
        replace HO_3 := Aside0.mk (Kd.R_drew HO_3.out)
        replace BK293 := Aside0.mk (blk_drew BK293.out)
        replace BK304 := Aside0.mk (blk_drew BK304.out)
        replace HB := Aside0.mk (below_drew1 HB.out)
        refine st_ 14 (S := fun w' => hd5 w' gb304 (.int .i64 ((rd_T47 l0_3 x24_1).f0)) (.int .i64 ((rd_T47 l0_3 x24_1).f1)) (.int .i64 ((rd_T47 l0_3 x24_1).f2)) (.bool true) (.int .i64 ((rd_T47 l0_3 x24_1).f4))) hh_ (fun hHeld => ?_);refine with_tabW impl_showRecord.tab8 impl_showRecord.bits8 (fun HT_ HW_ => ?_)
        generalize w28.drew = w29 at HO_3 BK293 BK304 HB hHeld ⊢
        refine pv_ 0 30 ?_
        refine pv_ 1 31 ?_
        refine pv_ 4 34 ?_
        refine pv_ 7 37 ?_
        refine pv_ 8 38 ?_
        refine tx_ 2 32 hHeld ?_
        refine tx_ 5 35 hHeld ?_
        refine tx_ 9 39 hHeld ?_
        refine oy_ 3 33 (fun K hK => ?_)
        refine gs_ Tryz.func33 #[.int .i64 ((rd_T47 l0_3 x24_1).f1)] ?_
        with_reducible refine (impl_decimal.calls ((rd_T47 l0_3 x24_1).f1) t305 _ ?sideT A21.out).mono ?_
        (case sideT => exact tb_ htb)
        rintro e w30 ⟨rfl,hb⟩
        refine ⟨_,rfl,?_⟩
        replace HO_3 := Aside0.mk (Kd.R_below (by (with_reducible repeat (first|apply Kd.R_alloc|apply Kd.R_drewN|apply Kd.R_drew));exact HO_3.out) hb)
        replace BK293 := Aside0.mk (blk_below (kb_ BK293) hb)
        replace BK304 := Aside0.mk (blk_below (kb_ BK304) hb)
        replace HB := Aside0.mk (below_step b_ hb)
        (try clear hb)
        (try clear hb2)
        (try clear hk)
        (try clear hi)
        refine hK.out _ _ hh_ (fun hHeld => ?_)
        clear hK K
        refine nr_ (some 33) _ ?_
        refine oy_ 6 36 (fun K hK => ?_)
        refine gs_ Tryz.func33 #[.int .i64 ((rd_T47 l0_3 x24_1).f2)] ?_
        with_reducible refine (impl_decimal.calls ((rd_T47 l0_3 x24_1).f2) t306 _ ?sideT A22.out).mono ?_
        (case sideT => exact tb_ htb)
        rintro e w31 ⟨rfl,hb⟩
        refine ⟨_,rfl,?_⟩
        replace HO_3 := Aside0.mk (Kd.R_below (by (with_reducible repeat (first|apply Kd.R_alloc|apply Kd.R_drewN|apply Kd.R_drew));exact HO_3.out) hb)
        replace BK293 := Aside0.mk (blk_below (kb_ BK293) hb)
        replace BK304 := Aside0.mk (blk_below (kb_ BK304) hb)
        replace HB := Aside0.mk (below_step b_ hb)
        (try clear hb)
        (try clear hb2)
        (try clear hk)
        (try clear hi)
        refine hK.out _ _ hh_ (fun hHeld => ?_)
        clear hK K
        refine nr_ (some 36) _ ?_
        refine oy_ 10 40 (fun K hK => ?_)
        refine gs_ Tryz.func33 #[.int .i64 ((rd_T47 l0_3 x24_1).f4)] ?_
        with_reducible refine (impl_decimal.calls ((rd_T47 l0_3 x24_1).f4) t307 _ ?sideT A23.out).mono ?_
        (case sideT => exact tb_ htb)
        rintro e w32 ⟨rfl,hb⟩
        refine ⟨_,rfl,?_⟩
        replace HO_3 := Aside0.mk (Kd.R_below (by (with_reducible repeat (first|apply Kd.R_alloc|apply Kd.R_drewN|apply Kd.R_drew));exact HO_3.out) hb)
        replace BK293 := Aside0.mk (blk_below (kb_ BK293) hb)
        replace BK304 := Aside0.mk (blk_below (kb_ BK304) hb)
        replace HB := Aside0.mk (below_step b_ hb)
        (try clear hb)
        (try clear hb2)
        (try clear hk)
        (try clear hi)
        refine hK.out _ _ hh_ (fun hHeld => ?_)
        clear hK K
        refine nr_ (some 40) _ ?_
        refine oy_ 11 41 (fun K hK => ?_)
        refine Kd.R_lit_step Kd.string _ 9 ?hg (N := 41) ?hd (xs := ([t305,t306,(⟨#[49]⟩ : ByteArray),t307] : List ByteArray)) (inner := [.string t305,.string t306,.string (⟨#[49]⟩ : ByteArray),.string t307]) (ok := fun _ => True) (okp := fun _ => True) ?hr ?hp (fun _ hk => hk) trivial (Below.refl _ _) (Nat.le_refl _) (by simp) ?_;(case hd => rfl);(case hg => rfl);(case hr => first|(go_simp;done)|(go_simp;rfl));(case hp => exact (Reps.one (show Kd.M Kd.string _ _ _ t305 [.string t305] from rfl) (Reps.one (show Kd.M Kd.string _ _ _ t306 [.string t306] from rfl) (Reps.one (show Kd.M Kd.string _ _ _ (⟨#[49]⟩ : ByteArray) [.string (⟨#[49]⟩ : ByteArray)] from rfl) (Reps.one (show Kd.M Kd.string _ _ _ t307 [.string t307] from rfl) (Reps.none _ _))))))
        intro v309 w33 ho34 hb hg_ hnew_
        clear hg_ hnew_
        (first|rw [← Ny308.out] at ho34|(simp only [Int.reduceToNat] at ho34;rw [← Ny308.out] at ho34))
        replace BK293 := Aside0.mk (blk_below (kb_ BK293) hb)
        replace BK304 := Aside0.mk (blk_below (kb_ BK304) hb)
        have HO310 := Aside0.mk (Kd.R_lower (Kd.R_new' ho34 (Kd.R_lt (by (with_reducible repeat (first|apply Kd.R_alloc|apply Kd.R_drewN|apply Kd.R_drew));exact HO_3.out))) (below_size b_))
        replace HO_3 := Aside0.mk (Kd.R_elder' (by (with_reducible repeat (first|apply Kd.R_alloc|apply Kd.R_drewN|apply Kd.R_drew));exact HO_3.out) (Kd.R_base ho34) hb)
        replace HB := Aside0.mk (below_step b_ hb)
        clear hb ho34
        obtain ⟨Ao36,co36,eo36⟩ := Kd.R_slice HO310.out
        (first|subst eo36|(injection eo36 with f1_ f2_ f3_;have f4_ := f1_.symm;have f5_ := f3_.symm;clear f1_ f2_ f3_;subst f4_;subst f5_))
        refine hK.out _ _ hh_ (fun hHeld => ?_)
        clear hK K
        refine nr_ (some 41) _ ?_
        refine oy_ 12 42 (fun K hK => ?_)
        refine Kd.R_append_rows_step Kd.string (w0 := w) w.heap.size (by rfl) (.tmp 30) (.tmp 41) 35 9 (.string ⟨#[]⟩) 16 rfl Tryz.underlying35 info9 rfl (by decide) (by omega) u3 x3_1 y308 _ _ _ (fun k_ => some k_ ≠ (.slice Ao36 y308.length co36 : Value).ownBlock) (fun _ => False) rfl rfl ?aO ?aR (fun _ _ h => h) (fun _ h => h.elim) ?aF ?aB ?aS ?aL ?_
        (case aR => repeat (first|exact (Kd.R_reads' HO310.out).2.2|(with_reducible refine Kd.C_alloc ?_ _)|(with_reducible refine Kd.C_drewN ?_ _)|(with_reducible refine Kd.C_drew ?_)))
        (case aB => exact b_)
        (case aF => exact (fun k_ hk => Kd.fresh' (Kd.R_lt (by (with_reducible repeat (first|apply Kd.R_alloc|apply Kd.R_drewN|apply Kd.R_drew));exact HO310.out)) k_ hk))
        (case aO => exact (by (with_reducible repeat (first|apply Kd.R_alloc|apply Kd.R_drewN|apply Kd.R_drew));exact Kd.R_mono HO_3.out (fun _ hk => hk.2)))
        (case aS => exact (below_size b_))
        (case aL => have := LMc24.out;omega)
        intro v312 w35 ho hb hg hat
        rw [← Ny311.out] at ho
        replace BK293 := Aside0.mk (blk_grown (kb_ BK293) hg (Kd.R_ne HO_3.out BK293.out (by decide)))
        replace BK304 := Aside0.mk (blk_grown (kb_ BK304) hg (Kd.R_ne HO_3.out BK304.out (by decide)))
        replace HO310 := Aside0.mk (Kd.R_after (ok := (fun _ => True)) (by (with_reducible repeat (first|apply Kd.R_alloc|apply Kd.R_drewN|apply Kd.R_drew));exact HO310.out) hg hat)
        replace HB := Aside0.mk (hb)
        have HO313 := Aside0.mk (ho)
        clear HO_3
        clear ho hb hg hat
        refine hK.out _ _ hh_ (fun hHeld => ?_)
        clear hK K
        refine nr_ (some 42) _ ?_
        refine pv_ 13 3 ?_
        refine done_ (done_of HT_.out (by kernel_rfl)) ?_
        try go_wp2
        go_roundg k1
        case measure => have := HK1.out;omega
        case rel => exact ⟨(y311),(wrap64 (x24_1 + 1)),rs_,H',⟨by have := HK1.out;omega⟩,⟨by (with_reducible repeat (first|apply Kd.R_alloc|apply Kd.R_drewN|apply Kd.R_drew));exact Kd.R_mono HO313.out (fun _ hk => trivial)⟩,⟨kb_ BK293⟩,⟨b_⟩⟩
       ·rw [if_neg c24] at H
        exact absurd H (by simp)
      ·replace c20 := Bool.eq_false_iff.mpr c20
       subst c20
       replace H := ie_ H
       replace H := bs_ H
       obtain ⟨t314,A37,H⟩ := H
       replace H := bs_ H
       obtain ⟨t315,A38,H⟩ := H
       replace H := bs_ H
       obtain ⟨t316,A39,H⟩ := H
       obtain ⟨y317,hy317⟩ : ∃ y_ : List ByteArray,y_ = (([t314,t315,(⟨#[48]⟩ : ByteArray),t316] : List ByteArray)) := ⟨_,rfl⟩
       replace H : (if x3_1.length + y317.length < 8796093022208 then (impl_showRecord.l0 k1 (x3_1 ++ y317) l0_3 (l0_3.length : Int) (wrap64 (x24_1 + 1))) else (none)) = some r := by first|(rw [hy317];with_reducible exact H)|(have H2_ := (Option.bind_some _ _).symm.trans H;rw [hy317];with_reducible exact H2_)|(have H2_ := (Option.bind_some _ _).symm.trans H;with_reducible exact H2_)|with_reducible exact H|(rw [hy317];exact H)|exact H
       have Ny317 := Aside0.mk hy317
       clear hy317
       by_cases c40 : x3_1.length + y317.length < 8796093022208
       ·rw [if_pos c40] at H
        have LMc40 := Aside0.mk c40
        clear c40
        obtain ⟨y320,hy320⟩ : ∃ y_ : List ByteArray,y_ = (x3_1 ++ y317) := ⟨_,rfl⟩
        replace H : (impl_showRecord.l0 k1 y320 l0_3 (l0_3.length : Int) (wrap64 (x24_1 + 1))) = some r := by first|(rw [hy320];with_reducible exact H)|(have H2_ := (Option.bind_some _ _).symm.trans H;rw [hy320];with_reducible exact H2_)|(have H2_ := (Option.bind_some _ _).symm.trans H;with_reducible exact H2_)|with_reducible exact H|(rw [hy320];exact H)|exact H
        have Ny320 := Aside0.mk hy320
        clear hy320
        have H' := Aside0.mk H
        clear H
        have p303 : 0 ≤ (x24_1 : Int) := od_
        have q303 : x24_1 < (l0_3.length : Int) := od_
        obtain ⟨ad303,e303,hx303_0,hx303_1,hx303_2,hx303_3,hx303_4⟩ := at_T47 HR0_3.out x24_1 p303 q303
        (try rw [← Nbq19.out] at hx303_3)
        cases e303
        replace hx303_0 := hx_ HB hx303_0
        replace hx303_1 := hx_ HB hx303_1
        replace hx303_2 := hx_ HB hx303_2
        replace hx303_3 := hx_ HB hx303_3
        replace hx303_4 := hx_ HB hx303_4
        replace p303 := eq_true p303
        replace q303 := eq_true q303
        try go_wp2_with (first|((with_reducible refine gate_dst (N := 5) rfl ?_);refine bx_ 5 #[.int .i64 0,.int .i64 0,.int .i64 0,.bool false,.int .i64 0] 47 ?_;intro gb304 hg w41 hbox hb;replace HO_3 := Aside0.mk (Kd.R_below (by (with_reducible repeat (first|apply Kd.R_alloc|apply Kd.R_drewN|apply Kd.R_drew));exact HO_3.out) hb);replace HB := nb_ hg hbox hb;obtain ⟨BK304,GW304,GE304,HB⟩ := HB;have NB293_304 := Aside0.mk ((nl_ BK293 hg));have NB304_293 := Aside0.mk ((ng_ BK293 hg));replace BK293 := Aside0.mk (blk_below (kb_ BK293) hb);clear hb hbox hg;have hnb42 := NB304_293.out;have hnc42 := NB293_304.out;obtain ⟨⟨hcz43_0,hcz43_1,hcz43_2,hcz43_3,hcz43_4⟩,hfz43_0,hfz43_1,hfz43_2,hfz43_3,hfz43_4⟩ := cl5_ BK304.out))
        have n0_ : Aside0 (Kd.R Kd.string 9 (((((w41.setCell ⟨gb304,0,none⟩ (.int .i64 ((rd_T47 l0_3 x24_1).f0))).setCell ⟨gb304,1,none⟩ (.int .i64 ((rd_T47 l0_3 x24_1).f1))).setCell ⟨gb304,2,none⟩ (.int .i64 ((rd_T47 l0_3 x24_1).f2))).setCell ⟨gb304,3,none⟩ (.bool false)).setCell ⟨gb304,4,none⟩ (.int .i64 ((rd_T47 l0_3 x24_1).f4))) w.heap.size (fun _ => True) u3 x3_1) := ⟨by (with_reducible repeat (first|apply Kd.R_alloc|apply Kd.R_drewN|apply Kd.R_drew));exact Kd.R_mono (Kd.R_far (p := ⟨gb304,4,none⟩) (Kd.R_far (p := ⟨gb304,3,none⟩) (Kd.R_far (p := ⟨gb304,2,none⟩) (Kd.R_far (p := ⟨gb304,1,none⟩) (Kd.R_far (p := ⟨gb304,0,none⟩) (Kd.R_types HO_3.out BK304.out (by decide)) (fun _ hk => hk.2) (.int .i64 ((rd_T47 l0_3 x24_1).f0))) (fun _ hk => hk.2) (.int .i64 ((rd_T47 l0_3 x24_1).f1))) (fun _ hk => hk.2) (.int .i64 ((rd_T47 l0_3 x24_1).f2))) (fun _ hk => hk.2) (.bool false)) (fun _ hk => hk.2) (.int .i64 ((rd_T47 l0_3 x24_1).f4))) (fun _ hk => trivial)⟩
        have n1_ : Aside0 ((((((w41.setCell ⟨gb304,0,none⟩ (.int .i64 ((rd_T47 l0_3 x24_1).f0))).setCell ⟨gb304,1,none⟩ (.int .i64 ((rd_T47 l0_3 x24_1).f1))).setCell ⟨gb304,2,none⟩ (.int .i64 ((rd_T47 l0_3 x24_1).f2))).setCell ⟨gb304,3,none⟩ (.bool false)).setCell ⟨gb304,4,none⟩ (.int .i64 ((rd_T47 l0_3 x24_1).f4))).heap[gb293]? = some (.cells #[.int .i64 a0_0,.int .i64 a0_1,.int .i64 a0_2,.slice (some ad303) l0_3.length c0_3] 26 (0,0))) := ⟨kf_ BK293⟩
        have n2_ : Aside0 ((((((w41.setCell ⟨gb304,0,none⟩ (.int .i64 ((rd_T47 l0_3 x24_1).f0))).setCell ⟨gb304,1,none⟩ (.int .i64 ((rd_T47 l0_3 x24_1).f1))).setCell ⟨gb304,2,none⟩ (.int .i64 ((rd_T47 l0_3 x24_1).f2))).setCell ⟨gb304,3,none⟩ (.bool false)).setCell ⟨gb304,4,none⟩ (.int .i64 ((rd_T47 l0_3 x24_1).f4))).heap[gb304]? = some (.cells #[.int .i64 ((rd_T47 l0_3 x24_1).f0),.int .i64 ((rd_T47 l0_3 x24_1).f1),.int .i64 ((rd_T47 l0_3 x24_1).f2),.bool false,.int .i64 ((rd_T47 l0_3 x24_1).f4)] 47 (0,0))) := ⟨by (with_reducible repeat (first|refine blk_drewN ?_ _|refine blk_drew ?_|refine blk_alloc ?_ _));refine blk_put (cs := #[.int .i64 ((rd_T47 l0_3 x24_1).f0),.int .i64 ((rd_T47 l0_3 x24_1).f1),.int .i64 ((rd_T47 l0_3 x24_1).f2),.bool false,.int .i64 0]) ?_ 4 _ rfl;(with_reducible repeat (first|refine blk_drewN ?_ _|refine blk_drew ?_|refine blk_alloc ?_ _));refine blk_put (cs := #[.int .i64 ((rd_T47 l0_3 x24_1).f0),.int .i64 ((rd_T47 l0_3 x24_1).f1),.int .i64 ((rd_T47 l0_3 x24_1).f2),.bool false,.int .i64 0]) ?_ 3 _ rfl;(with_reducible repeat (first|refine blk_drewN ?_ _|refine blk_drew ?_|refine blk_alloc ?_ _));refine blk_put (cs := #[.int .i64 ((rd_T47 l0_3 x24_1).f0),.int .i64 ((rd_T47 l0_3 x24_1).f1),.int .i64 0,.bool false,.int .i64 0]) ?_ 2 _ rfl;(with_reducible repeat (first|refine blk_drewN ?_ _|refine blk_drew ?_|refine blk_alloc ?_ _));refine blk_put (cs := #[.int .i64 ((rd_T47 l0_3 x24_1).f0),.int .i64 0,.int .i64 0,.bool false,.int .i64 0]) ?_ 1 _ rfl;(with_reducible repeat (first|refine blk_drewN ?_ _|refine blk_drew ?_|refine blk_alloc ?_ _));refine blk_put (cs := #[.int .i64 0,.int .i64 0,.int .i64 0,.bool false,.int .i64 0]) ?_ 0 _ rfl;(with_reducible repeat (first|refine blk_drewN ?_ _|refine blk_drew ?_|refine blk_alloc ?_ _));exact BK304.out⟩
        have n3_ : Aside0 (Below w.heap.size w (((((w41.setCell ⟨gb304,0,none⟩ (.int .i64 ((rd_T47 l0_3 x24_1).f0))).setCell ⟨gb304,1,none⟩ (.int .i64 ((rd_T47 l0_3 x24_1).f1))).setCell ⟨gb304,2,none⟩ (.int .i64 ((rd_T47 l0_3 x24_1).f2))).setCell ⟨gb304,3,none⟩ (.bool false)).setCell ⟨gb304,4,none⟩ (.int .i64 ((rd_T47 l0_3 x24_1).f4)))) := ⟨b_⟩
        (try clear HO_3)
        (try clear BK293)
        (try clear BK304)
        (try clear HB)
        generalize (((((w41.setCell ⟨gb304,0,none⟩ (.int .i64 ((rd_T47 l0_3 x24_1).f0))).setCell ⟨gb304,1,none⟩ (.int .i64 ((rd_T47 l0_3 x24_1).f1))).setCell ⟨gb304,2,none⟩ (.int .i64 ((rd_T47 l0_3 x24_1).f2))).setCell ⟨gb304,3,none⟩ (.bool false)).setCell ⟨gb304,4,none⟩ (.int .i64 ((rd_T47 l0_3 x24_1).f4))) = w44 at n0_ n1_ n2_ n3_ ⊢
        have HO_3 := n0_
        have BK293 := n1_
        have BK304 := n2_
        have HB := n3_
        clear n0_ n1_ n2_ n3_
        replace HO_3 := Aside0.mk (Kd.R_drew HO_3.out)
        replace BK293 := Aside0.mk (blk_drew BK293.out)
        replace BK304 := Aside0.mk (blk_drew BK304.out)
        replace HB := Aside0.mk (below_drew1 HB.out)
        refine st_ 14 (S := fun w' => hd5 w' gb304 (.int .i64 ((rd_T47 l0_3 x24_1).f0)) (.int .i64 ((rd_T47 l0_3 x24_1).f1)) (.int .i64 ((rd_T47 l0_3 x24_1).f2)) (.bool false) (.int .i64 ((rd_T47 l0_3 x24_1).f4))) hh_ (fun hHeld => ?_);refine with_tabW impl_showRecord.tab8 impl_showRecord.bits8 (fun HT_ HW_ => ?_)
        generalize w44.drew = w45 at HO_3 BK293 BK304 HB hHeld ⊢
        refine pv_ 0 30 ?_
        refine pv_ 1 31 ?_
        refine pv_ 4 34 ?_
        refine pv_ 7 37 ?_
        refine pv_ 8 38 ?_
        refine tx_ 2 32 hHeld ?_
        refine tx_ 5 35 hHeld ?_
        refine tx_ 9 39 hHeld ?_
        refine oy_ 3 33 (fun K hK => ?_)
        refine gs_ Tryz.func33 #[.int .i64 ((rd_T47 l0_3 x24_1).f1)] ?_
        with_reducible refine (impl_decimal.calls ((rd_T47 l0_3 x24_1).f1) t314 _ ?sideT A37.out).mono ?_
        (case sideT => exact tb_ htb)
        rintro e w46 ⟨rfl,hb⟩
        refine ⟨_,rfl,?_⟩
        replace HO_3 := Aside0.mk (Kd.R_below (by (with_reducible repeat (first|apply Kd.R_alloc|apply Kd.R_drewN|apply Kd.R_drew));exact HO_3.out) hb)
        replace BK293 := Aside0.mk (blk_below (kb_ BK293) hb)
        replace BK304 := Aside0.mk (blk_below (kb_ BK304) hb)
        replace HB := Aside0.mk (below_step b_ hb)
        (try clear hb)
        (try clear hb2)
        (try clear hk)
        (try clear hi)
        refine hK.out _ _ hh_ (fun hHeld => ?_)
        clear hK K
        refine nr_ (some 33) _ ?_
        refine oy_ 6 36 (fun K hK => ?_)
        refine gs_ Tryz.func33 #[.int .i64 ((rd_T47 l0_3 x24_1).f2)] ?_
        with_reducible refine (impl_decimal.calls ((rd_T47 l0_3 x24_1).f2) t315 _ ?sideT A38.out).mono ?_
        (case sideT => exact tb_ htb)
        rintro e w47 ⟨rfl,hb⟩
        refine ⟨_,rfl,?_⟩
        replace HO_3 := Aside0.mk (Kd.R_below (by (with_reducible repeat (first|apply Kd.R_alloc|apply Kd.R_drewN|apply Kd.R_drew));exact HO_3.out) hb)
        replace BK293 := Aside0.mk (blk_below (kb_ BK293) hb)
        replace BK304 := Aside0.mk (blk_below (kb_ BK304) hb)
        replace HB := Aside0.mk (below_step b_ hb)
        (try clear hb)
        (try clear hb2)
        (try clear hk)
        (try clear hi)
        refine hK.out _ _ hh_ (fun hHeld => ?_)
        clear hK K
        refine nr_ (some 36) _ ?_
        refine oy_ 10 40 (fun K hK => ?_)
        refine gs_ Tryz.func33 #[.int .i64 ((rd_T47 l0_3 x24_1).f4)] ?_
        with_reducible refine (impl_decimal.calls ((rd_T47 l0_3 x24_1).f4) t316 _ ?sideT A39.out).mono ?_
        (case sideT => exact tb_ htb)
        rintro e w48 ⟨rfl,hb⟩
        refine ⟨_,rfl,?_⟩
        replace HO_3 := Aside0.mk (Kd.R_below (by (with_reducible repeat (first|apply Kd.R_alloc|apply Kd.R_drewN|apply Kd.R_drew));exact HO_3.out) hb)
        replace BK293 := Aside0.mk (blk_below (kb_ BK293) hb)
        replace BK304 := Aside0.mk (blk_below (kb_ BK304) hb)
        replace HB := Aside0.mk (below_step b_ hb)
        (try clear hb)
        (try clear hb2)
        (try clear hk)
        (try clear hi)
        refine hK.out _ _ hh_ (fun hHeld => ?_)
        clear hK K
        refine nr_ (some 40) _ ?_
        refine oy_ 11 41 (fun K hK => ?_)
        refine Kd.R_lit_step Kd.string _ 9 ?hg (N := 41) ?hd (xs := ([t314,t315,(⟨#[48]⟩ : ByteArray),t316] : List ByteArray)) (inner := [.string t314,.string t315,.string (⟨#[48]⟩ : ByteArray),.string t316]) (ok := fun _ => True) (okp := fun _ => True) ?hr ?hp (fun _ hk => hk) trivial (Below.refl _ _) (Nat.le_refl _) (by simp) ?_;(case hd => rfl);(case hg => rfl);(case hr => first|(go_simp;done)|(go_simp;rfl));(case hp => exact (Reps.one (show Kd.M Kd.string _ _ _ t314 [.string t314] from rfl) (Reps.one (show Kd.M Kd.string _ _ _ t315 [.string t315] from rfl) (Reps.one (show Kd.M Kd.string _ _ _ (⟨#[48]⟩ : ByteArray) [.string (⟨#[48]⟩ : ByteArray)] from rfl) (Reps.one (show Kd.M Kd.string _ _ _ t316 [.string t316] from rfl) (Reps.none _ _))))))
        intro v318 w49 ho50 hb hg_ hnew_
        clear hg_ hnew_
        (first|rw [← Ny317.out] at ho50|(simp only [Int.reduceToNat] at ho50;rw [← Ny317.out] at ho50))
        replace BK293 := Aside0.mk (blk_below (kb_ BK293) hb)
        replace BK304 := Aside0.mk (blk_below (kb_ BK304) hb)
        have HO319 := Aside0.mk (Kd.R_lower (Kd.R_new' ho50 (Kd.R_lt (by (with_reducible repeat (first|apply Kd.R_alloc|apply Kd.R_drewN|apply Kd.R_drew));exact HO_3.out))) (below_size b_))
        replace HO_3 := Aside0.mk (Kd.R_elder' (by (with_reducible repeat (first|apply Kd.R_alloc|apply Kd.R_drewN|apply Kd.R_drew));exact HO_3.out) (Kd.R_base ho50) hb)
        replace HB := Aside0.mk (below_step b_ hb)
        clear hb ho50
        obtain ⟨Ao52,co52,eo52⟩ := Kd.R_slice HO319.out
        (first|subst eo52|(injection eo52 with f1_ f2_ f3_;have f4_ := f1_.symm;have f5_ := f3_.symm;clear f1_ f2_ f3_;subst f4_;subst f5_))
        refine hK.out _ _ hh_ (fun hHeld => ?_)
        clear hK K
        refine nr_ (some 41) _ ?_
        refine oy_ 12 42 (fun K hK => ?_)
        refine Kd.R_append_rows_step Kd.string (w0 := w) w.heap.size (by rfl) (.tmp 30) (.tmp 41) 35 9 (.string ⟨#[]⟩) 16 rfl Tryz.underlying35 info9 rfl (by decide) (by omega) u3 x3_1 y317 _ _ _ (fun k_ => some k_ ≠ (.slice Ao52 y317.length co52 : Value).ownBlock) (fun _ => False) rfl rfl ?aO ?aR (fun _ _ h => h) (fun _ h => h.elim) ?aF ?aB ?aS ?aL ?_
        (case aR => repeat (first|exact (Kd.R_reads' HO319.out).2.2|(with_reducible refine Kd.C_alloc ?_ _)|(with_reducible refine Kd.C_drewN ?_ _)|(with_reducible refine Kd.C_drew ?_)))
        (case aB => exact b_)
        (case aF => exact (fun k_ hk => Kd.fresh' (Kd.R_lt (by (with_reducible repeat (first|apply Kd.R_alloc|apply Kd.R_drewN|apply Kd.R_drew));exact HO319.out)) k_ hk))
        (case aO => exact (by (with_reducible repeat (first|apply Kd.R_alloc|apply Kd.R_drewN|apply Kd.R_drew));exact Kd.R_mono HO_3.out (fun _ hk => hk.2)))
        (case aS => exact (below_size b_))
        (case aL => have := LMc40.out;omega)
        intro v321 w51 ho hb hg hat
        rw [← Ny320.out] at ho
        replace BK293 := Aside0.mk (blk_grown (kb_ BK293) hg (Kd.R_ne HO_3.out BK293.out (by decide)))
        replace BK304 := Aside0.mk (blk_grown (kb_ BK304) hg (Kd.R_ne HO_3.out BK304.out (by decide)))
        replace HO319 := Aside0.mk (Kd.R_after (ok := (fun _ => True)) (by (with_reducible repeat (first|apply Kd.R_alloc|apply Kd.R_drewN|apply Kd.R_drew));exact HO319.out) hg hat)
        replace HB := Aside0.mk (hb)
        have HO322 := Aside0.mk (ho)
        clear HO_3
        clear ho hb hg hat
        refine hK.out _ _ hh_ (fun hHeld => ?_)
        clear hK K
        refine nr_ (some 42) _ ?_
        refine pv_ 13 3 ?_
        refine done_ (done_of HT_.out (by kernel_rfl)) ?_
        try go_wp2
        go_roundg k1
        case measure => have := HK1.out;omega
        case rel => exact ⟨(y320),(wrap64 (x24_1 + 1)),rs_,H',⟨by have := HK1.out;omega⟩,⟨by (with_reducible repeat (first|apply Kd.R_alloc|apply Kd.R_drewN|apply Kd.R_drew));exact Kd.R_mono HO322.out (fun _ hk => trivial)⟩,⟨kb_ BK293⟩,⟨b_⟩⟩
       ·rw [if_neg c40] at H
        exact absurd H (by simp)
     ·rw [if_neg c18] at H
      exact absurd H (by simp)
    ·rw [if_neg c17] at H
     exact absurd H (by simp)
   ·rw [if_neg c16] at H
    have c16b0 : decide (x24_1 < (l0_3.length : Int)) = false := decide_eq_false c16
    clear c16
    replace H := bs_ H
    obtain ⟨t302,A53,H⟩ := H
    obtain rfl := Option.some.inj H
    obtain ⟨Ao54,co54,eo54⟩ := Kd.R_slice HO_3.out
    subst eo54
    go_wp2_with (first|((with_reducible refine gcal_ (f := 34) rfl ?_);refine gl_ (some 45) Tryz.func34 #[.slice Ao54 x3_1.length co54,.string (⟨#[32]⟩ : ByteArray)] ?_;(with_reducible refine (strings_Join.calls _ _ x3_1 (⟨#[32]⟩ : ByteArray) t302 _ ?side1 ?side2 A53.out).mono ?_);(case side1 => repeat (first|exact (Kd.R_reads' HO_3.out).2.2|(with_reducible refine Kd.C_alloc ?_ _)|(with_reducible refine Kd.C_drewN ?_ _)|(with_reducible refine Kd.C_drew ?_)));(case side2 => exact (Kd.R_reads' HO_3.out).2.1);rintro e w55 ⟨rfl,hb⟩;refine ⟨_,rfl,?_⟩;replace HO_3 := Aside0.mk (Kd.R_below (by (with_reducible repeat (first|apply Kd.R_alloc|apply Kd.R_drewN|apply Kd.R_drew));exact HO_3.out) hb);replace BK293 := Aside0.mk (blk_below (kb_ BK293) hb);replace HB := Aside0.mk (below_step b_ hb);(try clear hb);(try clear hb2);(try clear hk);(try clear hi)))
    go_ret
    exact ⟨rf_,b_⟩

end Go.Proofs.YtnilfnkdgdfnnaaGreatDoor.XRe
