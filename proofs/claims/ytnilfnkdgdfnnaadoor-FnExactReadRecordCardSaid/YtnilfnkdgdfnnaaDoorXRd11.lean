/- Proved: of each Go function here that a call comes to what the Lean function of its name tells. Written by a program of this session over the translation. No conditions beyond each theorem's own. -/
import Derived.Test.YtnilfnkdgdfnnaaDoorXRd0
import Derived.Test.YtnilfnkdgdfnnaaDoorXRd8
import Derived.Test.YtnilfnkdgdfnnaaDoorXRd10
namespace Go.Proofs.YtnilfnkdgdfnnaaDoor.XRd
open Go.RowKit Go.Proofs.YtnilfnkdgdfnnaaDoor.Aid Go.Proofs.YtnilfnkdgdfnnaaDoorW.PrintWords Go.Proofs.YtnilfnkdgdfnnaaDoorW.PrintLast Go.Proofs.YtnilfnkdgdfnnaaDoorW.PrintMore
set_option linter.unusedVariables false
set_option linter.unusedSimpArgs false

/-! ### impl_showRecord: function 19 -/
def impl_showRecord.l0 : Nat → List ByteArray → List (S47) → Int → Int → Option (ByteArray)
  | 0, _, _, _, _ => none
  | k + 1, x3, x22, x23, x24 => if x24 < x23 then (if 0 ≤ x24 then (if x24 < (x22.length : Int) then (if (rd_T47 x22 x24).f3 = true then ((impl_decimal.f ((rd_T47 x22 x24).f1)).bind fun t221 => ((impl_decimal.f ((rd_T47 x22 x24).f2)).bind fun t222 => ((impl_decimal.f ((rd_T47 x22 x24).f4)).bind fun t223 => ((some (([t221, t222, (⟨#[49]⟩ : ByteArray), t223] : List ByteArray) : List ByteArray)).bind fun y224 => (if x3.length + y224.length < 8796093022208 then (impl_showRecord.l0 k (x3 ++ y224) x22 x23 (wrap64 (x24 + 1))) else (none)))))) else ((impl_decimal.f ((rd_T47 x22 x24).f1)).bind fun t230 => ((impl_decimal.f ((rd_T47 x22 x24).f2)).bind fun t231 => ((impl_decimal.f ((rd_T47 x22 x24).f4)).bind fun t232 => ((some (([t230, t231, (⟨#[48]⟩ : ByteArray), t232] : List ByteArray) : List ByteArray)).bind fun y233 => (if x3.length + y233.length < 8796093022208 then (impl_showRecord.l0 k (x3 ++ y233) x22 x23 (wrap64 (x24 + 1))) else (none))))))) else (none)) else (none)) else ((strings_Join.f x3 (⟨#[32]⟩ : ByteArray)).bind fun t218 => (some t218))
def impl_showRecord.f (k : Nat) (a0_0 : Int) (a0_1 : Int) (a0_2 : Int) (l0_3 : List (S47)) : Option (ByteArray) := (impl_decimal.f a0_0).bind fun t210 => ((impl_decimal.f a0_1).bind fun t211 => ((impl_decimal.f a0_2).bind fun t212 => ((impl_Set_36.f l0_3).bind fun t213 => ((impl_decimal.f t213).bind fun t214 => (impl_showRecord.l0 k (([t210, t211, t212, t214] : List ByteArray)) l0_3 (l0_3.length : Int) 0)))))

def impl_showRecord.T1 : Bool × List (List Nat × List Nat) := (true, [([], []), ([0], [0]), ([1], [1]), ([], []), ([3], [3]), ([4, 2], [4]), ([], []), ([6], [6]), ([7, 5], [7]), ([], []), ([9], [9]), ([10, 8], [10]), ([11, 11], [11]), ([2, 5, 8, 12], [2, 5, 8, 12]), ([13, 12, 0, 1, 2, 3, 4, 5, 6, 7, 8, 9, 10, 11, 12, 13], [13])])
def impl_showRecord.B1 : List Nat := [0, 1, 3, 0, 8, 31, 0, 64, 255, 0, 512, 2047, 4095, 8191, 16383]
theorem impl_showRecord.tab1 : rtab .any (opsOf Tryd.f19 1) = impl_showRecord.T1 := by kernel_rfl
theorem impl_showRecord.bits1 : waitsOk impl_showRecord.T1.2 impl_showRecord.B1 = true := by kernel_rfl
def impl_showRecord.T8 : Bool × List (List Nat × List Nat) := (true, [([], []), ([], []), ([1], [1]), ([2], [2]), ([], []), ([4], [4]), ([5, 3], [5]), ([], []), ([], []), ([8], [8]), ([9, 6], [9]), ([3, 6, 7, 10], [3, 6, 7, 10]), ([0, 11, 10], [0, 11]), ([12, 12, 0, 1, 2, 3, 4, 5, 6, 7, 8, 9, 10, 11, 12], [0, 12])])
def impl_showRecord.B8 : List Nat := [0, 0, 2, 6, 0, 16, 62, 0, 0, 256, 894, 2046, 4095, 8191]
theorem impl_showRecord.tab8 : rtab .any (opsOf Tryd.f19 8) = impl_showRecord.T8 := by kernel_rfl
theorem impl_showRecord.bits8 : waitsOk impl_showRecord.T8.2 impl_showRecord.B8 = true := by kernel_rfl
set_option maxHeartbeats 8000000 in
set_option maxRecDepth 100000 in
theorem impl_showRecord.calls (k : Nat) (a0_0 : Int) (a0_1 : Int) (a0_2 : Int) (A0_3 : Option Addr) (c0_3 : Nat) (l0_3 : List (S47)) (r : ByteArray) (w : World) (htb : Aside0 (Tb w)) (hr0_3 : Kd.C k47 w A0_3 l0_3.length l0_3) (hc0_3 : l0_3.length ≤ c0_3) (h : impl_showRecord.f k a0_0 a0_1 a0_2 l0_3 = some r) :
    Calls Tryd.prog 19 #[.agg #[.int .i64 a0_0, .int .i64 a0_1, .int .i64 a0_2, .slice A0_3 l0_3.length c0_3]] w fun e w' => e = .returned (.string r) ∧ Below w.heap.size w w' := by
 have hu29 := Tryd.underlying29
 have hu47 := Tryd.underlying47
 have HR0_3 := Aside0.mk hr0_3
 have HC0_3 := Aside0.mk hc0_3
 clear hr0_3 hc0_3
 have HB := Aside0.mk (Below.refl w.heap.size w)
 have H : ((impl_decimal.f a0_0).bind fun t210 => ((impl_decimal.f a0_1).bind fun t211 => ((impl_decimal.f a0_2).bind fun t212 => ((impl_Set_36.f l0_3).bind fun t213 => ((impl_decimal.f t213).bind fun t214 => (impl_showRecord.l0 k (([t210,t211,t212,t214] : List ByteArray)) l0_3 (l0_3.length : Int) 0)))))) = some r := h
 clear h
 replace H := bs_ H
 obtain ⟨t210,A2,H⟩ := H
 replace H := bs_ H
 obtain ⟨t211,A3,H⟩ := H
 replace H := bs_ H
 obtain ⟨t212,A4,H⟩ := H
 replace H := bs_ H
 obtain ⟨t213,A5,H⟩ := H
 replace H := bs_ H
 obtain ⟨t214,A6,H⟩ := H
 obtain ⟨y215,hy215⟩ : ∃ y_ : List ByteArray,y_ = (([t210,t211,t212,t214] : List ByteArray)) := ⟨_,rfl⟩
 replace H : (impl_showRecord.l0 k y215 l0_3 (l0_3.length : Int) 0) = some r := by first|(rw [hy215];with_reducible exact H)|(have H2_ := (Option.bind_some _ _).symm.trans H;rw [hy215];with_reducible exact H2_)|(have H2_ := (Option.bind_some _ _).symm.trans H;with_reducible exact H2_)|with_reducible exact H|(rw [hy215];exact H)|exact H
 have Ny215 := Aside0.mk hy215
 clear hy215
 have H' := Aside0.mk H
 clear H
 go_enter Tryd.func19,Tryd.ntmps19
 try go_wp2_with (first|((with_reducible refine gate_dst (N := 1) rfl ?_);refine bx_ 1 #[.int .i64 a0_0,.int .i64 a0_1,.int .i64 a0_2,.slice A0_3 l0_3.length c0_3] 29 ?_;intro gb209 hg w7 hbox hb;replace HB := nb_ hg hbox hb;obtain ⟨BK209,GW209,GE209,HB⟩ := HB;clear hb hbox hg))
 replace BK209 := Aside0.mk (blk_drew BK209.out)
 replace HB := Aside0.mk (below_drew1 HB.out)
 refine st_ 15 (S := fun w' => hd4 w' gb209 (.int .i64 a0_0) (.int .i64 a0_1) (.int .i64 a0_2) (.slice A0_3 l0_3.length c0_3)) hh_ (fun hHeld => ?_);refine with_tabW impl_showRecord.tab1 impl_showRecord.bits1 (fun HT_ HW_ => ?_)
 generalize w7.drew = w8 at BK209 HB hHeld ⊢
 refine pv_ 0 7 ?_
 refine pv_ 3 10 ?_
 refine pv_ 6 13 ?_
 refine pv_ 9 16 ?_
 refine tx_ 1 8 hHeld ?_
 refine tx_ 4 11 hHeld ?_
 refine tx_ 7 14 hHeld ?_
 refine tx_ 10 17 hHeld ?_
 refine oy_ 2 9 (fun K hK => ?_)
 refine gs_ Tryd.func40 #[.int .i64 a0_0] ?_
 with_reducible refine (impl_decimal.calls a0_0 t210 _ ?sideT A2.out).mono ?_
 (case sideT => exact tb_ htb)
 rintro e w9 ⟨rfl,hb⟩
 refine ⟨_,rfl,?_⟩
 replace BK209 := Aside0.mk (blk_below (kb_ BK209) hb)
 replace HB := Aside0.mk (below_step b_ hb)
 (try clear hb)
 (try clear hb2)
 (try clear hk)
 (try clear hi)
 refine hK.out _ _ hh_ (fun hHeld => ?_)
 clear hK K
 refine nr_ (some 9) _ ?_
 refine oy_ 5 12 (fun K hK => ?_)
 refine gs_ Tryd.func40 #[.int .i64 a0_1] ?_
 with_reducible refine (impl_decimal.calls a0_1 t211 _ ?sideT A3.out).mono ?_
 (case sideT => exact tb_ htb)
 rintro e w10 ⟨rfl,hb⟩
 refine ⟨_,rfl,?_⟩
 replace BK209 := Aside0.mk (blk_below (kb_ BK209) hb)
 replace HB := Aside0.mk (below_step b_ hb)
 (try clear hb)
 (try clear hb2)
 (try clear hk)
 (try clear hi)
 refine hK.out _ _ hh_ (fun hHeld => ?_)
 clear hK K
 refine nr_ (some 12) _ ?_
 refine oy_ 8 15 (fun K hK => ?_)
 refine gs_ Tryd.func40 #[.int .i64 a0_2] ?_
 with_reducible refine (impl_decimal.calls a0_2 t212 _ ?sideT A4.out).mono ?_
 (case sideT => exact tb_ htb)
 rintro e w11 ⟨rfl,hb⟩
 refine ⟨_,rfl,?_⟩
 replace BK209 := Aside0.mk (blk_below (kb_ BK209) hb)
 replace HB := Aside0.mk (below_step b_ hb)
 (try clear hb)
 (try clear hb2)
 (try clear hk)
 (try clear hi)
 refine hK.out _ _ hh_ (fun hHeld => ?_)
 clear hK K
 refine nr_ (some 15) _ ?_
 refine oy_ 11 18 (fun K hK => ?_)
 refine gs_ Tryd.func36 #[.slice A0_3 l0_3.length c0_3] ?_
 with_reducible refine (impl_Set_36.calls _ _ l0_3 t213 _ ?side1 ?side2 A5.out).mono ?_
 (case side1 => exact cb_ HR0_3)
 (case side2 => exact HC0_3.out)
 rintro e w' ⟨rfl,⟨nd,rfl⟩⟩
 refine ⟨_,rfl,?_⟩
 refine hK.out _ _ hh_ (fun hHeld => ?_)
 clear hK K
 refine nr_ (some 18) _ ?_
 refine oy_ 12 19 (fun K hK => ?_)
 refine gs_ Tryd.func40 #[.int .i64 t213] ?_
 with_reducible refine (impl_decimal.calls t213 t214 _ ?sideT A6.out).mono ?_
 (case sideT => exact tb_ htb)
 rintro e w12 ⟨rfl,hb⟩
 refine ⟨_,rfl,?_⟩
 replace BK209 := Aside0.mk (blk_below (kb_ BK209) hb)
 replace HB := Aside0.mk (below_step b_ hb)
 (try clear hb)
 (try clear hb2)
 (try clear hk)
 (try clear hi)
 refine hK.out _ _ hh_ (fun hHeld => ?_)
 clear hK K
 refine nr_ (some 19) _ ?_
 refine oy_ 13 20 (fun K hK => ?_)
 refine Kd.R_lit_step Kd.string _ 9 ?hg (N := 20) ?hd (xs := ([t210,t211,t212,t214] : List ByteArray)) (inner := [.string t210,.string t211,.string t212,.string t214]) (ok := fun _ => True) (okp := fun _ => True) ?hr ?hp (fun _ hk => hk) trivial (Below.refl _ _) (Nat.le_refl _) (by simp) ?_;(case hd => rfl);(case hg => rfl);(case hr => first|(go_simp;done)|(go_simp;rfl));(case hp => exact (Reps.one (show Kd.M Kd.string _ _ _ t210 [.string t210] from rfl) (Reps.one (show Kd.M Kd.string _ _ _ t211 [.string t211] from rfl) (Reps.one (show Kd.M Kd.string _ _ _ t212 [.string t212] from rfl) (Reps.one (show Kd.M Kd.string _ _ _ t214 [.string t214] from rfl) (Reps.none _ _))))))
 intro v216 w13 ho14 hb hg_ hnew_
 clear hg_ hnew_
 (first|rw [← Ny215.out] at ho14|(simp only [Int.reduceToNat] at ho14;rw [← Ny215.out] at ho14))
 replace BK209 := Aside0.mk (blk_below (kb_ BK209) hb)
 have HO217 := Aside0.mk (Kd.R_lower ho14 (below_size b_))
 replace HB := Aside0.mk (below_step b_ hb)
 clear hb ho14
 refine hK.out _ _ hh_ (fun hHeld => ?_)
 clear hK K
 refine nr_ (some 20) _ ?_
 refine pv_ 14 3 ?_
 refine done_ (done_of HT_.out (by kernel_rfl)) ?_
 obtain ⟨⟨hcz15_0,hcz15_1,hcz15_2,hcz15_3⟩,hfz15_0,hfz15_1,hfz15_2,hfz15_3⟩ := cl4_ BK209.out
 try go_wp2
 go_loopg [3,24] k (fun kq v3 v24 w' => ∃ (x3_1 : List ByteArray) (x24_1 : Int),v24 = .int .i64 x24_1 ∧ Aside0 (impl_showRecord.l0 kq x3_1 l0_3 (l0_3.length : Int) x24_1 = some r) ∧ Aside0 (kq ≤ k) ∧ Aside0 (Kd.R Kd.string 9 w' w.heap.size (fun _ => True) v3 x3_1) ∧ Aside0 (w'.heap[gb209]? = some (.cells #[.int .i64 a0_0,.int .i64 a0_1,.int .i64 a0_2,(.slice A0_3 l0_3.length c0_3)] 29 (0,0))) ∧ Aside0 (Below w.heap.size w w'))
 case atStart => exact ⟨(y215),(0),rs_,H',⟨Nat.le_refl _⟩,⟨by (with_reducible repeat (first|apply Kd.R_alloc|apply Kd.R_drewN|apply Kd.R_drew));exact HO217.out⟩,⟨kb_ BK209⟩,⟨b_⟩⟩
 case round =>
  clear H'
  try clear c1
  try clear p2
  try clear c3
  try clear c4
  try clear hcz15_0
  try clear hcz15_1
  try clear hcz15_2
  try clear hcz15_3
  try clear hfz15_0
  try clear hfz15_1
  try clear hfz15_2
  try clear hfz15_3
  obtain ⟨x3_1,x24_1,rfl,HA,HK1,HO_3,BK209,HB⟩ := hrel
  cases gk with
    | zero => exact absurd HA.out (by simp [impl_showRecord.l0])
    | succ k1 =>
   have H := HA.out
   clear HA
   simp only [impl_showRecord.l0] at H
   by_cases c16 : x24_1 < (l0_3.length : Int)
   ·rw [if_pos c16] at H
    have c16b0 : decide (x24_1 < (l0_3.length : Int)) = true := decide_eq_true c16
    clear c16
    by_cases c17 : 0 ≤ x24_1
    ·rw [if_pos c17] at H
     have c17b0 : decide (0 ≤ x24_1) = true := decide_eq_true c17
     clear c17
     by_cases c18 : x24_1 < (l0_3.length : Int)
     ·rw [if_pos c18] at H
      have c18b0 : decide (x24_1 < (l0_3.length : Int)) = true := decide_eq_true c18
      clear c18
      obtain ⟨bq19,hbq19⟩ : ∃ b_ : Bool,b_ = ((rd_T47 l0_3 x24_1).f3) := ⟨_,rfl⟩
      replace H : (if bq19 = true then ((impl_decimal.f ((rd_T47 l0_3 x24_1).f1)).bind fun t221 => ((impl_decimal.f ((rd_T47 l0_3 x24_1).f2)).bind fun t222 => ((impl_decimal.f ((rd_T47 l0_3 x24_1).f4)).bind fun t223 => ((some (([t221,t222,(⟨#[49]⟩ : ByteArray),t223] : List ByteArray) : List ByteArray)).bind fun y224 => (if x3_1.length + y224.length < 8796093022208 then (impl_showRecord.l0 k1 (x3_1 ++ y224) l0_3 (l0_3.length : Int) (wrap64 (x24_1 + 1))) else (none)))))) else ((impl_decimal.f ((rd_T47 l0_3 x24_1).f1)).bind fun t230 => ((impl_decimal.f ((rd_T47 l0_3 x24_1).f2)).bind fun t231 => ((impl_decimal.f ((rd_T47 l0_3 x24_1).f4)).bind fun t232 => ((some (([t230,t231,(⟨#[48]⟩ : ByteArray),t232] : List ByteArray) : List ByteArray)).bind fun y233 => (if x3_1.length + y233.length < 8796093022208 then (impl_showRecord.l0 k1 (x3_1 ++ y233) l0_3 (l0_3.length : Int) (wrap64 (x24_1 + 1))) else (none))))))) = some r := by rw [← hbq19] at H;exact H
      have Nbq19 := Aside0.mk hbq19
      clear hbq19
      by_cases c20 : bq19 = true
      ·subst c20
       replace H := it_ H
       replace H := bs_ H
       obtain ⟨t221,A21,H⟩ := H
       replace H := bs_ H
       obtain ⟨t222,A22,H⟩ := H
       replace H := bs_ H
       obtain ⟨t223,A23,H⟩ := H
       obtain ⟨y224,hy224⟩ : ∃ y_ : List ByteArray,y_ = (([t221,t222,(⟨#[49]⟩ : ByteArray),t223] : List ByteArray)) := ⟨_,rfl⟩
       replace H : (if x3_1.length + y224.length < 8796093022208 then (impl_showRecord.l0 k1 (x3_1 ++ y224) l0_3 (l0_3.length : Int) (wrap64 (x24_1 + 1))) else (none)) = some r := by first|(rw [hy224];with_reducible exact H)|(have H2_ := (Option.bind_some _ _).symm.trans H;rw [hy224];with_reducible exact H2_)|(have H2_ := (Option.bind_some _ _).symm.trans H;with_reducible exact H2_)|with_reducible exact H|(rw [hy224];exact H)|exact H
       have Ny224 := Aside0.mk hy224
       clear hy224
       by_cases c24 : x3_1.length + y224.length < 8796093022208
       ·rw [if_pos c24] at H
        have LMc24 := Aside0.mk c24
        clear c24
        obtain ⟨y227,hy227⟩ : ∃ y_ : List ByteArray,y_ = (x3_1 ++ y224) := ⟨_,rfl⟩
        replace H : (impl_showRecord.l0 k1 y227 l0_3 (l0_3.length : Int) (wrap64 (x24_1 + 1))) = some r := by first|(rw [hy227];with_reducible exact H)|(have H2_ := (Option.bind_some _ _).symm.trans H;rw [hy227];with_reducible exact H2_)|(have H2_ := (Option.bind_some _ _).symm.trans H;with_reducible exact H2_)|with_reducible exact H|(rw [hy227];exact H)|exact H
        have Ny227 := Aside0.mk hy227
        clear hy227
        have H' := Aside0.mk H
        clear H
        have p219 : 0 ≤ (x24_1 : Int) := od_
        have q219 : x24_1 < (l0_3.length : Int) := od_
        obtain ⟨ad219,e219,hx219_0,hx219_1,hx219_2,hx219_3,hx219_4⟩ := at_T47 HR0_3.out x24_1 p219 q219
        (try rw [← Nbq19.out] at hx219_3)
        cases e219
        replace hx219_0 := hx_ HB hx219_0
        replace hx219_1 := hx_ HB hx219_1
        replace hx219_2 := hx_ HB hx219_2
        replace hx219_3 := hx_ HB hx219_3
        replace hx219_4 := hx_ HB hx219_4
        replace p219 := eq_true p219
        replace q219 := eq_true q219
        try go_wp2_with (first|((with_reducible refine gate_dst (N := 5) rfl ?_);refine bx_ 5 #[.int .i64 0,.int .i64 0,.int .i64 0,.bool false,.int .i64 0] 47 ?_;intro gb220 hg w25 hbox hb;replace HO_3 := Aside0.mk (Kd.R_below (by (with_reducible repeat (first|apply Kd.R_alloc|apply Kd.R_drewN|apply Kd.R_drew));exact HO_3.out) hb);replace HB := nb_ hg hbox hb;obtain ⟨BK220,GW220,GE220,HB⟩ := HB;have NB209_220 := Aside0.mk ((nl_ BK209 hg));have NB220_209 := Aside0.mk ((ng_ BK209 hg));replace BK209 := Aside0.mk (blk_below (kb_ BK209) hb);clear hb hbox hg;have hnb26 := NB220_209.out;have hnc26 := NB209_220.out;obtain ⟨⟨hcz27_0,hcz27_1,hcz27_2,hcz27_3,hcz27_4⟩,hfz27_0,hfz27_1,hfz27_2,hfz27_3,hfz27_4⟩ := cl5_ BK220.out))
        have n0_ : Aside0 (Kd.R Kd.string 9 (((((w25.setCell ⟨gb220,0,none⟩ (.int .i64 ((rd_T47 l0_3 x24_1).f0))).setCell ⟨gb220,1,none⟩ (.int .i64 ((rd_T47 l0_3 x24_1).f1))).setCell ⟨gb220,2,none⟩ (.int .i64 ((rd_T47 l0_3 x24_1).f2))).setCell ⟨gb220,3,none⟩ (.bool true)).setCell ⟨gb220,4,none⟩ (.int .i64 ((rd_T47 l0_3 x24_1).f4))) w.heap.size (fun _ => True) u3 x3_1) := ⟨by (with_reducible repeat (first|apply Kd.R_alloc|apply Kd.R_drewN|apply Kd.R_drew));exact Kd.R_mono (Kd.R_far (p := ⟨gb220,4,none⟩) (Kd.R_far (p := ⟨gb220,3,none⟩) (Kd.R_far (p := ⟨gb220,2,none⟩) (Kd.R_far (p := ⟨gb220,1,none⟩) (Kd.R_far (p := ⟨gb220,0,none⟩) (Kd.R_types HO_3.out BK220.out (by decide)) (fun _ hk => hk.2) (.int .i64 ((rd_T47 l0_3 x24_1).f0))) (fun _ hk => hk.2) (.int .i64 ((rd_T47 l0_3 x24_1).f1))) (fun _ hk => hk.2) (.int .i64 ((rd_T47 l0_3 x24_1).f2))) (fun _ hk => hk.2) (.bool true)) (fun _ hk => hk.2) (.int .i64 ((rd_T47 l0_3 x24_1).f4))) (fun _ hk => trivial)⟩
        have n1_ : Aside0 ((((((w25.setCell ⟨gb220,0,none⟩ (.int .i64 ((rd_T47 l0_3 x24_1).f0))).setCell ⟨gb220,1,none⟩ (.int .i64 ((rd_T47 l0_3 x24_1).f1))).setCell ⟨gb220,2,none⟩ (.int .i64 ((rd_T47 l0_3 x24_1).f2))).setCell ⟨gb220,3,none⟩ (.bool true)).setCell ⟨gb220,4,none⟩ (.int .i64 ((rd_T47 l0_3 x24_1).f4))).heap[gb209]? = some (.cells #[.int .i64 a0_0,.int .i64 a0_1,.int .i64 a0_2,.slice (some ad219) l0_3.length c0_3] 29 (0,0))) := ⟨kf_ BK209⟩
        have n2_ : Aside0 ((((((w25.setCell ⟨gb220,0,none⟩ (.int .i64 ((rd_T47 l0_3 x24_1).f0))).setCell ⟨gb220,1,none⟩ (.int .i64 ((rd_T47 l0_3 x24_1).f1))).setCell ⟨gb220,2,none⟩ (.int .i64 ((rd_T47 l0_3 x24_1).f2))).setCell ⟨gb220,3,none⟩ (.bool true)).setCell ⟨gb220,4,none⟩ (.int .i64 ((rd_T47 l0_3 x24_1).f4))).heap[gb220]? = some (.cells #[.int .i64 ((rd_T47 l0_3 x24_1).f0),.int .i64 ((rd_T47 l0_3 x24_1).f1),.int .i64 ((rd_T47 l0_3 x24_1).f2),.bool true,.int .i64 ((rd_T47 l0_3 x24_1).f4)] 47 (0,0))) := ⟨by (with_reducible repeat (first|refine blk_drewN ?_ _|refine blk_drew ?_|refine blk_alloc ?_ _));refine blk_put (cs := #[.int .i64 ((rd_T47 l0_3 x24_1).f0),.int .i64 ((rd_T47 l0_3 x24_1).f1),.int .i64 ((rd_T47 l0_3 x24_1).f2),.bool true,.int .i64 0]) ?_ 4 _ rfl;(with_reducible repeat (first|refine blk_drewN ?_ _|refine blk_drew ?_|refine blk_alloc ?_ _));refine blk_put (cs := #[.int .i64 ((rd_T47 l0_3 x24_1).f0),.int .i64 ((rd_T47 l0_3 x24_1).f1),.int .i64 ((rd_T47 l0_3 x24_1).f2),.bool false,.int .i64 0]) ?_ 3 _ rfl;(with_reducible repeat (first|refine blk_drewN ?_ _|refine blk_drew ?_|refine blk_alloc ?_ _));refine blk_put (cs := #[.int .i64 ((rd_T47 l0_3 x24_1).f0),.int .i64 ((rd_T47 l0_3 x24_1).f1),.int .i64 0,.bool false,.int .i64 0]) ?_ 2 _ rfl;(with_reducible repeat (first|refine blk_drewN ?_ _|refine blk_drew ?_|refine blk_alloc ?_ _));refine blk_put (cs := #[.int .i64 ((rd_T47 l0_3 x24_1).f0),.int .i64 0,.int .i64 0,.bool false,.int .i64 0]) ?_ 1 _ rfl;(with_reducible repeat (first|refine blk_drewN ?_ _|refine blk_drew ?_|refine blk_alloc ?_ _));refine blk_put (cs := #[.int .i64 0,.int .i64 0,.int .i64 0,.bool false,.int .i64 0]) ?_ 0 _ rfl;(with_reducible repeat (first|refine blk_drewN ?_ _|refine blk_drew ?_|refine blk_alloc ?_ _));exact BK220.out⟩
        have n3_ : Aside0 (Below w.heap.size w (((((w25.setCell ⟨gb220,0,none⟩ (.int .i64 ((rd_T47 l0_3 x24_1).f0))).setCell ⟨gb220,1,none⟩ (.int .i64 ((rd_T47 l0_3 x24_1).f1))).setCell ⟨gb220,2,none⟩ (.int .i64 ((rd_T47 l0_3 x24_1).f2))).setCell ⟨gb220,3,none⟩ (.bool true)).setCell ⟨gb220,4,none⟩ (.int .i64 ((rd_T47 l0_3 x24_1).f4)))) := ⟨b_⟩
        (try clear HO_3)
        (try clear BK209)
        (try clear BK220)
        (try clear HB)
        generalize (((((w25.setCell ⟨gb220,0,none⟩ (.int .i64 ((rd_T47 l0_3 x24_1).f0))).setCell ⟨gb220,1,none⟩ (.int .i64 ((rd_T47 l0_3 x24_1).f1))).setCell ⟨gb220,2,none⟩ (.int .i64 ((rd_T47 l0_3 x24_1).f2))).setCell ⟨gb220,3,none⟩ (.bool true)).setCell ⟨gb220,4,none⟩ (.int .i64 ((rd_T47 l0_3 x24_1).f4))) = w28 at n0_ n1_ n2_ n3_ ⊢
        have HO_3 := n0_
        have BK209 := n1_
        have BK220 := n2_
        have HB := n3_
        clear n0_ n1_ n2_ n3_
        replace HO_3 := Aside0.mk (Kd.R_drew HO_3.out)
        replace BK209 := Aside0.mk (blk_drew BK209.out)
        replace BK220 := Aside0.mk (blk_drew BK220.out)
        replace HB := Aside0.mk (below_drew1 HB.out)
        refine st_ 14 (S := fun w' => hd5 w' gb220 (.int .i64 ((rd_T47 l0_3 x24_1).f0)) (.int .i64 ((rd_T47 l0_3 x24_1).f1)) (.int .i64 ((rd_T47 l0_3 x24_1).f2)) (.bool true) (.int .i64 ((rd_T47 l0_3 x24_1).f4))) hh_ (fun hHeld => ?_);refine with_tabW impl_showRecord.tab8 impl_showRecord.bits8 (fun HT_ HW_ => ?_)
        generalize w28.drew = w29 at HO_3 BK209 BK220 HB hHeld ⊢
        refine pv_ 0 30 ?_
        refine pv_ 1 31 ?_
        refine pv_ 4 34 ?_
        refine pv_ 7 37 ?_
        refine pv_ 8 38 ?_
        refine tx_ 2 32 hHeld ?_
        refine tx_ 5 35 hHeld ?_
        refine tx_ 9 39 hHeld ?_
        refine oy_ 3 33 (fun K hK => ?_)
        refine gs_ Tryd.func40 #[.int .i64 ((rd_T47 l0_3 x24_1).f1)] ?_
        with_reducible refine (impl_decimal.calls ((rd_T47 l0_3 x24_1).f1) t221 _ ?sideT A21.out).mono ?_
        (case sideT => exact tb_ htb)
        rintro e w30 ⟨rfl,hb⟩
        refine ⟨_,rfl,?_⟩
        replace HO_3 := Aside0.mk (Kd.R_below (by (with_reducible repeat (first|apply Kd.R_alloc|apply Kd.R_drewN|apply Kd.R_drew));exact HO_3.out) hb)
        replace BK209 := Aside0.mk (blk_below (kb_ BK209) hb)
        replace BK220 := Aside0.mk (blk_below (kb_ BK220) hb)
        replace HB := Aside0.mk (below_step b_ hb)
        (try clear hb)
        (try clear hb2)
        (try clear hk)
        (try clear hi)
        refine hK.out _ _ hh_ (fun hHeld => ?_)
        clear hK K
        refine nr_ (some 33) _ ?_
        refine oy_ 6 36 (fun K hK => ?_)
        refine gs_ Tryd.func40 #[.int .i64 ((rd_T47 l0_3 x24_1).f2)] ?_
        with_reducible refine (impl_decimal.calls ((rd_T47 l0_3 x24_1).f2) t222 _ ?sideT A22.out).mono ?_
        (case sideT => exact tb_ htb)
        rintro e w31 ⟨rfl,hb⟩
        refine ⟨_,rfl,?_⟩
        replace HO_3 := Aside0.mk (Kd.R_below (by (with_reducible repeat (first|apply Kd.R_alloc|apply Kd.R_drewN|apply Kd.R_drew));exact HO_3.out) hb)
        replace BK209 := Aside0.mk (blk_below (kb_ BK209) hb)
        replace BK220 := Aside0.mk (blk_below (kb_ BK220) hb)
        replace HB := Aside0.mk (below_step b_ hb)
        (try clear hb)
        (try clear hb2)
        (try clear hk)
        (try clear hi)
        refine hK.out _ _ hh_ (fun hHeld => ?_)
        clear hK K
        refine nr_ (some 36) _ ?_
        refine oy_ 10 40 (fun K hK => ?_)
        refine gs_ Tryd.func40 #[.int .i64 ((rd_T47 l0_3 x24_1).f4)] ?_
        with_reducible refine (impl_decimal.calls ((rd_T47 l0_3 x24_1).f4) t223 _ ?sideT A23.out).mono ?_
        (case sideT => exact tb_ htb)
        rintro e w32 ⟨rfl,hb⟩
        refine ⟨_,rfl,?_⟩
        replace HO_3 := Aside0.mk (Kd.R_below (by (with_reducible repeat (first|apply Kd.R_alloc|apply Kd.R_drewN|apply Kd.R_drew));exact HO_3.out) hb)
        replace BK209 := Aside0.mk (blk_below (kb_ BK209) hb)
        replace BK220 := Aside0.mk (blk_below (kb_ BK220) hb)
        replace HB := Aside0.mk (below_step b_ hb)
        (try clear hb)
        (try clear hb2)
        (try clear hk)
        (try clear hi)
        refine hK.out _ _ hh_ (fun hHeld => ?_)
        clear hK K
        refine nr_ (some 40) _ ?_
        refine oy_ 11 41 (fun K hK => ?_)
        refine Kd.R_lit_step Kd.string _ 9 ?hg (N := 41) ?hd (xs := ([t221,t222,(⟨#[49]⟩ : ByteArray),t223] : List ByteArray)) (inner := [.string t221,.string t222,.string (⟨#[49]⟩ : ByteArray),.string t223]) (ok := fun _ => True) (okp := fun _ => True) ?hr ?hp (fun _ hk => hk) trivial (Below.refl _ _) (Nat.le_refl _) (by simp) ?_;(case hd => rfl);(case hg => rfl);(case hr => first|(go_simp;done)|(go_simp;rfl));(case hp => exact (Reps.one (show Kd.M Kd.string _ _ _ t221 [.string t221] from rfl) (Reps.one (show Kd.M Kd.string _ _ _ t222 [.string t222] from rfl) (Reps.one (show Kd.M Kd.string _ _ _ (⟨#[49]⟩ : ByteArray) [.string (⟨#[49]⟩ : ByteArray)] from rfl) (Reps.one (show Kd.M Kd.string _ _ _ t223 [.string t223] from rfl) (Reps.none _ _))))))
        intro v225 w33 ho34 hb hg_ hnew_
        clear hg_ hnew_
        (first|rw [← Ny224.out] at ho34|(simp only [Int.reduceToNat] at ho34;rw [← Ny224.out] at ho34))
        replace BK209 := Aside0.mk (blk_below (kb_ BK209) hb)
        replace BK220 := Aside0.mk (blk_below (kb_ BK220) hb)
        have HO226 := Aside0.mk (Kd.R_lower (Kd.R_new' ho34 (Kd.R_lt (by (with_reducible repeat (first|apply Kd.R_alloc|apply Kd.R_drewN|apply Kd.R_drew));exact HO_3.out))) (below_size b_))
        replace HO_3 := Aside0.mk (Kd.R_elder' (by (with_reducible repeat (first|apply Kd.R_alloc|apply Kd.R_drewN|apply Kd.R_drew));exact HO_3.out) (Kd.R_base ho34) hb)
        replace HB := Aside0.mk (below_step b_ hb)
        clear hb ho34
        obtain ⟨Ao36,co36,eo36⟩ := Kd.R_slice HO226.out
        (first|subst eo36|(injection eo36 with f1_ f2_ f3_;have f4_ := f1_.symm;have f5_ := f3_.symm;clear f1_ f2_ f3_;subst f4_;subst f5_))
        refine hK.out _ _ hh_ (fun hHeld => ?_)
        clear hK K
        refine nr_ (some 41) _ ?_
        refine oy_ 12 42 (fun K hK => ?_)
        refine Kd.R_append_rows_step Kd.string (w0 := w) w.heap.size (by rfl) (.tmp 30) (.tmp 41) 41 9 (.string ⟨#[]⟩) 16 rfl Tryd.underlying41 info9 rfl (by decide) (by omega) u3 x3_1 y224 _ _ _ (fun k_ => some k_ ≠ (.slice Ao36 y224.length co36 : Value).ownBlock) (fun _ => False) rfl rfl ?aO ?aR (fun _ _ h => h) (fun _ h => h.elim) ?aF ?aB ?aS ?aL ?_
        (case aR => repeat (first|exact (Kd.R_reads' HO226.out).2.2|(with_reducible refine Kd.C_alloc ?_ _)|(with_reducible refine Kd.C_drewN ?_ _)|(with_reducible refine Kd.C_drew ?_)))
        (case aB => exact b_)
        (case aF => exact (fun k_ hk => Kd.fresh' (Kd.R_lt (by (with_reducible repeat (first|apply Kd.R_alloc|apply Kd.R_drewN|apply Kd.R_drew));exact HO226.out)) k_ hk))
        (case aO => exact (by (with_reducible repeat (first|apply Kd.R_alloc|apply Kd.R_drewN|apply Kd.R_drew));exact Kd.R_mono HO_3.out (fun _ hk => hk.2)))
        (case aS => exact (below_size b_))
        (case aL => have := LMc24.out;omega)
        intro v228 w35 ho hb hg hat
        rw [← Ny227.out] at ho
        replace BK209 := Aside0.mk (blk_grown (kb_ BK209) hg (Kd.R_ne HO_3.out BK209.out (by decide)))
        replace BK220 := Aside0.mk (blk_grown (kb_ BK220) hg (Kd.R_ne HO_3.out BK220.out (by decide)))
        replace HO226 := Aside0.mk (Kd.R_after (ok := (fun _ => True)) (by (with_reducible repeat (first|apply Kd.R_alloc|apply Kd.R_drewN|apply Kd.R_drew));exact HO226.out) hg hat)
        replace HB := Aside0.mk (hb)
        have HO229 := Aside0.mk (ho)
        clear HO_3
        clear ho hb hg hat
        refine hK.out _ _ hh_ (fun hHeld => ?_)
        clear hK K
        refine nr_ (some 42) _ ?_
        refine pv_ 13 3 ?_
        refine done_ (done_of HT_.out (by kernel_rfl)) ?_
        try go_wp2
        go_roundg k1
        case measure => have := HK1.out;omega
        case rel => exact ⟨(y227),(wrap64 (x24_1 + 1)),rs_,H',⟨by have := HK1.out;omega⟩,⟨by (with_reducible repeat (first|apply Kd.R_alloc|apply Kd.R_drewN|apply Kd.R_drew));exact Kd.R_mono HO229.out (fun _ hk => trivial)⟩,⟨kb_ BK209⟩,⟨b_⟩⟩
       ·rw [if_neg c24] at H
        exact absurd H (by simp)
      ·replace c20 := Bool.eq_false_iff.mpr c20
       subst c20
       replace H := ie_ H
       replace H := bs_ H
       obtain ⟨t230,A37,H⟩ := H
       replace H := bs_ H
       obtain ⟨t231,A38,H⟩ := H
       replace H := bs_ H
       obtain ⟨t232,A39,H⟩ := H
       obtain ⟨y233,hy233⟩ : ∃ y_ : List ByteArray,y_ = (([t230,t231,(⟨#[48]⟩ : ByteArray),t232] : List ByteArray)) := ⟨_,rfl⟩
       replace H : (if x3_1.length + y233.length < 8796093022208 then (impl_showRecord.l0 k1 (x3_1 ++ y233) l0_3 (l0_3.length : Int) (wrap64 (x24_1 + 1))) else (none)) = some r := by first|(rw [hy233];with_reducible exact H)|(have H2_ := (Option.bind_some _ _).symm.trans H;rw [hy233];with_reducible exact H2_)|(have H2_ := (Option.bind_some _ _).symm.trans H;with_reducible exact H2_)|with_reducible exact H|(rw [hy233];exact H)|exact H
       have Ny233 := Aside0.mk hy233
       clear hy233
       by_cases c40 : x3_1.length + y233.length < 8796093022208
       ·rw [if_pos c40] at H
        have LMc40 := Aside0.mk c40
        clear c40
        obtain ⟨y236,hy236⟩ : ∃ y_ : List ByteArray,y_ = (x3_1 ++ y233) := ⟨_,rfl⟩
        replace H : (impl_showRecord.l0 k1 y236 l0_3 (l0_3.length : Int) (wrap64 (x24_1 + 1))) = some r := by first|(rw [hy236];with_reducible exact H)|(have H2_ := (Option.bind_some _ _).symm.trans H;rw [hy236];with_reducible exact H2_)|(have H2_ := (Option.bind_some _ _).symm.trans H;with_reducible exact H2_)|with_reducible exact H|(rw [hy236];exact H)|exact H
        have Ny236 := Aside0.mk hy236
        clear hy236
        have H' := Aside0.mk H
        clear H
        have p219 : 0 ≤ (x24_1 : Int) := od_
        have q219 : x24_1 < (l0_3.length : Int) := od_
        obtain ⟨ad219,e219,hx219_0,hx219_1,hx219_2,hx219_3,hx219_4⟩ := at_T47 HR0_3.out x24_1 p219 q219
        (try rw [← Nbq19.out] at hx219_3)
        cases e219
        replace hx219_0 := hx_ HB hx219_0
        replace hx219_1 := hx_ HB hx219_1
        replace hx219_2 := hx_ HB hx219_2
        replace hx219_3 := hx_ HB hx219_3
        replace hx219_4 := hx_ HB hx219_4
        replace p219 := eq_true p219
        replace q219 := eq_true q219
        try go_wp2_with (first|((with_reducible refine gate_dst (N := 5) rfl ?_);refine bx_ 5 #[.int .i64 0,.int .i64 0,.int .i64 0,.bool false,.int .i64 0] 47 ?_;intro gb220 hg w41 hbox hb;replace HO_3 := Aside0.mk (Kd.R_below (by (with_reducible repeat (first|apply Kd.R_alloc|apply Kd.R_drewN|apply Kd.R_drew));exact HO_3.out) hb);replace HB := nb_ hg hbox hb;obtain ⟨BK220,GW220,GE220,HB⟩ := HB;have NB209_220 := Aside0.mk ((nl_ BK209 hg));have NB220_209 := Aside0.mk ((ng_ BK209 hg));replace BK209 := Aside0.mk (blk_below (kb_ BK209) hb);clear hb hbox hg;have hnb42 := NB220_209.out;have hnc42 := NB209_220.out;obtain ⟨⟨hcz43_0,hcz43_1,hcz43_2,hcz43_3,hcz43_4⟩,hfz43_0,hfz43_1,hfz43_2,hfz43_3,hfz43_4⟩ := cl5_ BK220.out))
        have n0_ : Aside0 (Kd.R Kd.string 9 (((((w41.setCell ⟨gb220,0,none⟩ (.int .i64 ((rd_T47 l0_3 x24_1).f0))).setCell ⟨gb220,1,none⟩ (.int .i64 ((rd_T47 l0_3 x24_1).f1))).setCell ⟨gb220,2,none⟩ (.int .i64 ((rd_T47 l0_3 x24_1).f2))).setCell ⟨gb220,3,none⟩ (.bool false)).setCell ⟨gb220,4,none⟩ (.int .i64 ((rd_T47 l0_3 x24_1).f4))) w.heap.size (fun _ => True) u3 x3_1) := ⟨by (with_reducible repeat (first|apply Kd.R_alloc|apply Kd.R_drewN|apply Kd.R_drew));exact Kd.R_mono (Kd.R_far (p := ⟨gb220,4,none⟩) (Kd.R_far (p := ⟨gb220,3,none⟩) (Kd.R_far (p := ⟨gb220,2,none⟩) (Kd.R_far (p := ⟨gb220,1,none⟩) (Kd.R_far (p := ⟨gb220,0,none⟩) (Kd.R_types HO_3.out BK220.out (by decide)) (fun _ hk => hk.2) (.int .i64 ((rd_T47 l0_3 x24_1).f0))) (fun _ hk => hk.2) (.int .i64 ((rd_T47 l0_3 x24_1).f1))) (fun _ hk => hk.2) (.int .i64 ((rd_T47 l0_3 x24_1).f2))) (fun _ hk => hk.2) (.bool false)) (fun _ hk => hk.2) (.int .i64 ((rd_T47 l0_3 x24_1).f4))) (fun _ hk => trivial)⟩
        have n1_ : Aside0 ((((((w41.setCell ⟨gb220,0,none⟩ (.int .i64 ((rd_T47 l0_3 x24_1).f0))).setCell ⟨gb220,1,none⟩ (.int .i64 ((rd_T47 l0_3 x24_1).f1))).setCell ⟨gb220,2,none⟩ (.int .i64 ((rd_T47 l0_3 x24_1).f2))).setCell ⟨gb220,3,none⟩ (.bool false)).setCell ⟨gb220,4,none⟩ (.int .i64 ((rd_T47 l0_3 x24_1).f4))).heap[gb209]? = some (.cells #[.int .i64 a0_0,.int .i64 a0_1,.int .i64 a0_2,.slice (some ad219) l0_3.length c0_3] 29 (0,0))) := ⟨kf_ BK209⟩
        have n2_ : Aside0 ((((((w41.setCell ⟨gb220,0,none⟩ (.int .i64 ((rd_T47 l0_3 x24_1).f0))).setCell ⟨gb220,1,none⟩ (.int .i64 ((rd_T47 l0_3 x24_1).f1))).setCell ⟨gb220,2,none⟩ (.int .i64 ((rd_T47 l0_3 x24_1).f2))).setCell ⟨gb220,3,none⟩ (.bool false)).setCell ⟨gb220,4,none⟩ (.int .i64 ((rd_T47 l0_3 x24_1).f4))).heap[gb220]? = some (.cells #[.int .i64 ((rd_T47 l0_3 x24_1).f0),.int .i64 ((rd_T47 l0_3 x24_1).f1),.int .i64 ((rd_T47 l0_3 x24_1).f2),.bool false,.int .i64 ((rd_T47 l0_3 x24_1).f4)] 47 (0,0))) := ⟨by (with_reducible repeat (first|refine blk_drewN ?_ _|refine blk_drew ?_|refine blk_alloc ?_ _));refine blk_put (cs := #[.int .i64 ((rd_T47 l0_3 x24_1).f0),.int .i64 ((rd_T47 l0_3 x24_1).f1),.int .i64 ((rd_T47 l0_3 x24_1).f2),.bool false,.int .i64 0]) ?_ 4 _ rfl;(with_reducible repeat (first|refine blk_drewN ?_ _|refine blk_drew ?_|refine blk_alloc ?_ _));refine blk_put (cs := #[.int .i64 ((rd_T47 l0_3 x24_1).f0),.int .i64 ((rd_T47 l0_3 x24_1).f1),.int .i64 ((rd_T47 l0_3 x24_1).f2),.bool false,.int .i64 0]) ?_ 3 _ rfl;(with_reducible repeat (first|refine blk_drewN ?_ _|refine blk_drew ?_|refine blk_alloc ?_ _));refine blk_put (cs := #[.int .i64 ((rd_T47 l0_3 x24_1).f0),.int .i64 ((rd_T47 l0_3 x24_1).f1),.int .i64 0,.bool false,.int .i64 0]) ?_ 2 _ rfl;(with_reducible repeat (first|refine blk_drewN ?_ _|refine blk_drew ?_|refine blk_alloc ?_ _));refine blk_put (cs := #[.int .i64 ((rd_T47 l0_3 x24_1).f0),.int .i64 0,.int .i64 0,.bool false,.int .i64 0]) ?_ 1 _ rfl;(with_reducible repeat (first|refine blk_drewN ?_ _|refine blk_drew ?_|refine blk_alloc ?_ _));refine blk_put (cs := #[.int .i64 0,.int .i64 0,.int .i64 0,.bool false,.int .i64 0]) ?_ 0 _ rfl;(with_reducible repeat (first|refine blk_drewN ?_ _|refine blk_drew ?_|refine blk_alloc ?_ _));exact BK220.out⟩
        have n3_ : Aside0 (Below w.heap.size w (((((w41.setCell ⟨gb220,0,none⟩ (.int .i64 ((rd_T47 l0_3 x24_1).f0))).setCell ⟨gb220,1,none⟩ (.int .i64 ((rd_T47 l0_3 x24_1).f1))).setCell ⟨gb220,2,none⟩ (.int .i64 ((rd_T47 l0_3 x24_1).f2))).setCell ⟨gb220,3,none⟩ (.bool false)).setCell ⟨gb220,4,none⟩ (.int .i64 ((rd_T47 l0_3 x24_1).f4)))) := ⟨b_⟩
        (try clear HO_3)
        (try clear BK209)
        (try clear BK220)
        (try clear HB)
        generalize (((((w41.setCell ⟨gb220,0,none⟩ (.int .i64 ((rd_T47 l0_3 x24_1).f0))).setCell ⟨gb220,1,none⟩ (.int .i64 ((rd_T47 l0_3 x24_1).f1))).setCell ⟨gb220,2,none⟩ (.int .i64 ((rd_T47 l0_3 x24_1).f2))).setCell ⟨gb220,3,none⟩ (.bool false)).setCell ⟨gb220,4,none⟩ (.int .i64 ((rd_T47 l0_3 x24_1).f4))) = w44 at n0_ n1_ n2_ n3_ ⊢
        have HO_3 := n0_
        have BK209 := n1_
        have BK220 := n2_
        have HB := n3_
        clear n0_ n1_ n2_ n3_
        replace HO_3 := Aside0.mk (Kd.R_drew HO_3.out)
        replace BK209 := Aside0.mk (blk_drew BK209.out)
        replace BK220 := Aside0.mk (blk_drew BK220.out)
        replace HB := Aside0.mk (below_drew1 HB.out)
        refine st_ 14 (S := fun w' => hd5 w' gb220 (.int .i64 ((rd_T47 l0_3 x24_1).f0)) (.int .i64 ((rd_T47 l0_3 x24_1).f1)) (.int .i64 ((rd_T47 l0_3 x24_1).f2)) (.bool false) (.int .i64 ((rd_T47 l0_3 x24_1).f4))) hh_ (fun hHeld => ?_);refine with_tabW impl_showRecord.tab8 impl_showRecord.bits8 (fun HT_ HW_ => ?_)
        generalize w44.drew = w45 at HO_3 BK209 BK220 HB hHeld ⊢
        refine pv_ 0 30 ?_
        refine pv_ 1 31 ?_
        refine pv_ 4 34 ?_
        refine pv_ 7 37 ?_
        refine pv_ 8 38 ?_
        refine tx_ 2 32 hHeld ?_
        refine tx_ 5 35 hHeld ?_
        refine tx_ 9 39 hHeld ?_
        refine oy_ 3 33 (fun K hK => ?_)
        refine gs_ Tryd.func40 #[.int .i64 ((rd_T47 l0_3 x24_1).f1)] ?_
        with_reducible refine (impl_decimal.calls ((rd_T47 l0_3 x24_1).f1) t230 _ ?sideT A37.out).mono ?_
        (case sideT => exact tb_ htb)
        rintro e w46 ⟨rfl,hb⟩
        refine ⟨_,rfl,?_⟩
        replace HO_3 := Aside0.mk (Kd.R_below (by (with_reducible repeat (first|apply Kd.R_alloc|apply Kd.R_drewN|apply Kd.R_drew));exact HO_3.out) hb)
        replace BK209 := Aside0.mk (blk_below (kb_ BK209) hb)
        replace BK220 := Aside0.mk (blk_below (kb_ BK220) hb)
        replace HB := Aside0.mk (below_step b_ hb)
        (try clear hb)
        (try clear hb2)
        (try clear hk)
        (try clear hi)
        refine hK.out _ _ hh_ (fun hHeld => ?_)
        clear hK K
        refine nr_ (some 33) _ ?_
        refine oy_ 6 36 (fun K hK => ?_)
        refine gs_ Tryd.func40 #[.int .i64 ((rd_T47 l0_3 x24_1).f2)] ?_
        with_reducible refine (impl_decimal.calls ((rd_T47 l0_3 x24_1).f2) t231 _ ?sideT A38.out).mono ?_
        (case sideT => exact tb_ htb)
        rintro e w47 ⟨rfl,hb⟩
        refine ⟨_,rfl,?_⟩
        replace HO_3 := Aside0.mk (Kd.R_below (by (with_reducible repeat (first|apply Kd.R_alloc|apply Kd.R_drewN|apply Kd.R_drew));exact HO_3.out) hb)
        replace BK209 := Aside0.mk (blk_below (kb_ BK209) hb)
        replace BK220 := Aside0.mk (blk_below (kb_ BK220) hb)
        replace HB := Aside0.mk (below_step b_ hb)
        (try clear hb)
        (try clear hb2)
        (try clear hk)
        (try clear hi)
        refine hK.out _ _ hh_ (fun hHeld => ?_)
        clear hK K
        refine nr_ (some 36) _ ?_
        refine oy_ 10 40 (fun K hK => ?_)
        refine gs_ Tryd.func40 #[.int .i64 ((rd_T47 l0_3 x24_1).f4)] ?_
        with_reducible refine (impl_decimal.calls ((rd_T47 l0_3 x24_1).f4) t232 _ ?sideT A39.out).mono ?_
        (case sideT => exact tb_ htb)
        rintro e w48 ⟨rfl,hb⟩
        refine ⟨_,rfl,?_⟩
        replace HO_3 := Aside0.mk (Kd.R_below (by (with_reducible repeat (first|apply Kd.R_alloc|apply Kd.R_drewN|apply Kd.R_drew));exact HO_3.out) hb)
        replace BK209 := Aside0.mk (blk_below (kb_ BK209) hb)
        replace BK220 := Aside0.mk (blk_below (kb_ BK220) hb)
        replace HB := Aside0.mk (below_step b_ hb)
        (try clear hb)
        (try clear hb2)
        (try clear hk)
        (try clear hi)
        refine hK.out _ _ hh_ (fun hHeld => ?_)
        clear hK K
        refine nr_ (some 40) _ ?_
        refine oy_ 11 41 (fun K hK => ?_)
        refine Kd.R_lit_step Kd.string _ 9 ?hg (N := 41) ?hd (xs := ([t230,t231,(⟨#[48]⟩ : ByteArray),t232] : List ByteArray)) (inner := [.string t230,.string t231,.string (⟨#[48]⟩ : ByteArray),.string t232]) (ok := fun _ => True) (okp := fun _ => True) ?hr ?hp (fun _ hk => hk) trivial (Below.refl _ _) (Nat.le_refl _) (by simp) ?_;(case hd => rfl);(case hg => rfl);(case hr => first|(go_simp;done)|(go_simp;rfl));(case hp => exact (Reps.one (show Kd.M Kd.string _ _ _ t230 [.string t230] from rfl) (Reps.one (show Kd.M Kd.string _ _ _ t231 [.string t231] from rfl) (Reps.one (show Kd.M Kd.string _ _ _ (⟨#[48]⟩ : ByteArray) [.string (⟨#[48]⟩ : ByteArray)] from rfl) (Reps.one (show Kd.M Kd.string _ _ _ t232 [.string t232] from rfl) (Reps.none _ _))))))
        intro v234 w49 ho50 hb hg_ hnew_
        clear hg_ hnew_
        (first|rw [← Ny233.out] at ho50|(simp only [Int.reduceToNat] at ho50;rw [← Ny233.out] at ho50))
        replace BK209 := Aside0.mk (blk_below (kb_ BK209) hb)
        replace BK220 := Aside0.mk (blk_below (kb_ BK220) hb)
        have HO235 := Aside0.mk (Kd.R_lower (Kd.R_new' ho50 (Kd.R_lt (by (with_reducible repeat (first|apply Kd.R_alloc|apply Kd.R_drewN|apply Kd.R_drew));exact HO_3.out))) (below_size b_))
        replace HO_3 := Aside0.mk (Kd.R_elder' (by (with_reducible repeat (first|apply Kd.R_alloc|apply Kd.R_drewN|apply Kd.R_drew));exact HO_3.out) (Kd.R_base ho50) hb)
        replace HB := Aside0.mk (below_step b_ hb)
        clear hb ho50
        obtain ⟨Ao52,co52,eo52⟩ := Kd.R_slice HO235.out
        (first|subst eo52|(injection eo52 with f1_ f2_ f3_;have f4_ := f1_.symm;have f5_ := f3_.symm;clear f1_ f2_ f3_;subst f4_;subst f5_))
        refine hK.out _ _ hh_ (fun hHeld => ?_)
        clear hK K
        refine nr_ (some 41) _ ?_
        refine oy_ 12 42 (fun K hK => ?_)
        refine Kd.R_append_rows_step Kd.string (w0 := w) w.heap.size (by rfl) (.tmp 30) (.tmp 41) 41 9 (.string ⟨#[]⟩) 16 rfl Tryd.underlying41 info9 rfl (by decide) (by omega) u3 x3_1 y233 _ _ _ (fun k_ => some k_ ≠ (.slice Ao52 y233.length co52 : Value).ownBlock) (fun _ => False) rfl rfl ?aO ?aR (fun _ _ h => h) (fun _ h => h.elim) ?aF ?aB ?aS ?aL ?_
        (case aR => repeat (first|exact (Kd.R_reads' HO235.out).2.2|(with_reducible refine Kd.C_alloc ?_ _)|(with_reducible refine Kd.C_drewN ?_ _)|(with_reducible refine Kd.C_drew ?_)))
        (case aB => exact b_)
        (case aF => exact (fun k_ hk => Kd.fresh' (Kd.R_lt (by (with_reducible repeat (first|apply Kd.R_alloc|apply Kd.R_drewN|apply Kd.R_drew));exact HO235.out)) k_ hk))
        (case aO => exact (by (with_reducible repeat (first|apply Kd.R_alloc|apply Kd.R_drewN|apply Kd.R_drew));exact Kd.R_mono HO_3.out (fun _ hk => hk.2)))
        (case aS => exact (below_size b_))
        (case aL => have := LMc40.out;omega)
        intro v237 w51 ho hb hg hat
        rw [← Ny236.out] at ho
        replace BK209 := Aside0.mk (blk_grown (kb_ BK209) hg (Kd.R_ne HO_3.out BK209.out (by decide)))
        replace BK220 := Aside0.mk (blk_grown (kb_ BK220) hg (Kd.R_ne HO_3.out BK220.out (by decide)))
        replace HO235 := Aside0.mk (Kd.R_after (ok := (fun _ => True)) (by (with_reducible repeat (first|apply Kd.R_alloc|apply Kd.R_drewN|apply Kd.R_drew));exact HO235.out) hg hat)
        replace HB := Aside0.mk (hb)
        have HO238 := Aside0.mk (ho)
        clear HO_3
        clear ho hb hg hat
        refine hK.out _ _ hh_ (fun hHeld => ?_)
        clear hK K
        refine nr_ (some 42) _ ?_
        refine pv_ 13 3 ?_
        refine done_ (done_of HT_.out (by kernel_rfl)) ?_
        try go_wp2
        go_roundg k1
        case measure => have := HK1.out;omega
        case rel => exact ⟨(y236),(wrap64 (x24_1 + 1)),rs_,H',⟨by have := HK1.out;omega⟩,⟨by (with_reducible repeat (first|apply Kd.R_alloc|apply Kd.R_drewN|apply Kd.R_drew));exact Kd.R_mono HO238.out (fun _ hk => trivial)⟩,⟨kb_ BK209⟩,⟨b_⟩⟩
       ·rw [if_neg c40] at H
        exact absurd H (by simp)
     ·rw [if_neg c18] at H
      exact absurd H (by simp)
    ·rw [if_neg c17] at H
     exact absurd H (by simp)
   ·rw [if_neg c16] at H
    have c16b0 : decide (x24_1 < (l0_3.length : Int)) = false := decide_eq_false c16
    clear c16
    replace H := bs_ H
    obtain ⟨t218,A53,H⟩ := H
    obtain rfl := Option.some.inj H
    obtain ⟨Ao54,co54,eo54⟩ := Kd.R_slice HO_3.out
    subst eo54
    go_wp2_with (first|((with_reducible refine gcal_ (f := 41) rfl ?_);refine gl_ (some 45) Tryd.func41 #[.slice Ao54 x3_1.length co54,.string (⟨#[32]⟩ : ByteArray)] ?_;(with_reducible refine (strings_Join.calls _ _ x3_1 (⟨#[32]⟩ : ByteArray) t218 _ ?side1 ?side2 A53.out).mono ?_);(case side1 => repeat (first|exact (Kd.R_reads' HO_3.out).2.2|(with_reducible refine Kd.C_alloc ?_ _)|(with_reducible refine Kd.C_drewN ?_ _)|(with_reducible refine Kd.C_drew ?_)));(case side2 => exact (Kd.R_reads' HO_3.out).2.1);rintro e w55 ⟨rfl,hb⟩;refine ⟨_,rfl,?_⟩;replace HO_3 := Aside0.mk (Kd.R_below (by (with_reducible repeat (first|apply Kd.R_alloc|apply Kd.R_drewN|apply Kd.R_drew));exact HO_3.out) hb);replace BK209 := Aside0.mk (blk_below (kb_ BK209) hb);replace HB := Aside0.mk (below_step b_ hb);(try clear hb);(try clear hb2);(try clear hk);(try clear hi)))
    go_ret
    exact ⟨rf_,b_⟩

end Go.Proofs.YtnilfnkdgdfnnaaDoor.XRd
