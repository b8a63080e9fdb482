/- Proved: of each Go function here that a call comes to what the Lean function of its name tells. Written by a program of this session over the translation. No conditions beyond each theorem's own. -/
import Derived.Test.YtnilfnkdgdfnnaaGreatDoorXRe0
import Derived.Test.YtnilfnkdgdfnnaaGreatDoorXRe1
import Derived.Test.YtnilfnkdgdfnnaaGreatDoorXRe5
import Derived.Test.YtnilfnkdgdfnnaaGreatDoorXRe6
import Derived.Test.YtnilfnkdgdfnnaaGreatDoorXRe13
namespace Go.Proofs.YtnilfnkdgdfnnaaGreatDoor.XRe
open Go.RowKit Go.Proofs.YtnilfnkdgdfnnaaGreatDoor.Aid Go.Proofs.YtnilfnkdgdfnnaaGreatDoorW.PrintWords Go.Proofs.YtnilfnkdgdfnnaaGreatDoorW.PrintLast Go.Proofs.YtnilfnkdgdfnnaaGreatDoorW.PrintMore
set_option linter.unusedVariables false
set_option linter.unusedSimpArgs false

attribute [local go_sem high] eqA47
-- NOT PRINTED: function 68 (utf8_RuneCountInString)

-- NOT PRINTED: function 85 (utf8_decodeRuneInStringSlow)

-- NOT PRINTED: function 69 (utf8_DecodeRuneInString)

-- NOT PRINTED: function 54 (strings_explode)

-- NOT PRINTED: function 100 (bytealg_IndexByteString)

-- NOT PRINTED: function 86 (stringslite_IndexByte)

-- NOT PRINTED: function 87 (bytealg_IndexString)

-- NOT PRINTED: function 88 (bytealg_Cutover)

-- NOT PRINTED: function 101 (bytealg_hashStr_string)

-- NOT PRINTED: function 89 (bytealg_IndexRabinKarp_string)

-- NOT PRINTED: function 71 (stringslite_Index)

-- NOT PRINTED: function 56 (strings_Index)

-- NOT PRINTED: function 70 (bytealg_CountString)

-- NOT PRINTED: function 55 (strings_Count)

-- NOT PRINTED: function 41 (strings_genSplit)

/-! ### strings_Split: function 19 -/
def strings_Split.f (a0 : ByteArray) (a1 : ByteArray) : Option (List ByteArray) := if a0.size < 4294967281 then (if 1 ≤ a1.size then some (Go.Lib.splitB a1 0 (Go.Lib.countB a0 a1) a0) else none) else none
set_option maxHeartbeats 8000000 in
theorem strings_Split.calls (a0 : ByteArray) (a1 : ByteArray) (r : List ByteArray) (w : World) (htb : Aside0 (Tb w)) (h : strings_Split.f a0 a1 = some r) :
    Calls Tryz.prog 19 #[.string a0, .string a1] w fun e w' => ∃ v0_ : Value, e = .returned (v0_) ∧ Kd.R Kd.string 9 w' w.heap.size (fun _ => True) v0_ r ∧ Below w.heap.size w w' := by
 unfold strings_Split.f at h
 by_cases h0 : a0.size < 4294967281
 ·rw [if_pos h0] at h
  by_cases h1 : 1 ≤ a1.size
  ·rw [if_pos h1] at h
   obtain rfl := Option.some.inj h
   clear h
   obtain ⟨m,hm⟩ := htb.out.cut
   have hl := Go.Lib.splitB_all a1 h1 0 _ a0 rfl
   have hn := Go.Lib.countB_le a1 h1 _ a0 (Nat.le_refl _)
   refine (Go.Proofs.YtnilfnkdgdfnnaaGreatDoor.Shelf.strings_Split a0 a1 m w h0 (hm w (Below.refl _ _)) h1).mono fun e w' hh => ?_
   obtain ⟨rfl,rfl⟩ := hh
   refine ⟨_,rfl,⟨fun _ _ => trivial,?_⟩,below_alloc (Below.refl _ _) _⟩
   have ho := OwnRow.lit (R := Kd.string.M (w.alloc (.cells ((Go.Lib.splitB a1 0 (Go.Lib.countB a0 a1) a0).map Value.string).toArray 9)) w.heap.size (fun k => True ∧ some k ≠ (.slice (some ⟨w.heap.size,0,none⟩) (Go.Lib.countB a0 a1 + 1) (Go.Lib.countB a0 a1 + 1) : Value).ownBlock)) (e := 9) (size := 1) (ps := (Go.Lib.splitB a1 0 (Go.Lib.countB a0 a1) a0)) w w.heap.size (inner := (Go.Lib.splitB a1 0 (Go.Lib.countB a0 a1) a0).map Value.string) ⟨by simp,fun j p hp => ?_⟩ (Nat.le_refl _) (by omega)
   ·rw [hl] at ho
    exact ho
   ·rw [Nat.mul_one]
    have hj := (List.getElem?_eq_some_iff.1 hp)
    obtain ⟨hj,e⟩ := hj
    show _ = [Value.string p]
    rw [List.drop_eq_getElem_cons (by simpa using hj)]
    simp [e]
  ·rw [if_neg h1] at h;cases h
 ·rw [if_neg h0] at h;cases h

/-! ### impl_ReadRecord: function 9 -/
def impl_ReadRecord.f (k : Nat) (a0 : ByteArray) : Option (Int × Int × Int × (List (S47)) × Bool) := (strings_Split.f a0 (⟨#[32]⟩ : ByteArray)).bind fun t395 => ((impl_readRecord.f k t395).bind fun bt398 => (if bt398.2.2.2.2 = true then ((impl_isRecord.f k bt398.1 bt398.2.1 bt398.2.2.1 bt398.2.2.2.1).bind fun t406 => (if t406 = true then ((impl_showRecord.f k bt398.1 bt398.2.1 bt398.2.2.1 bt398.2.2.2.1).bind fun t407 => (if t407.toList = a0.toList then (some (bt398.1, bt398.2.1, bt398.2.2.1, bt398.2.2.2.1, true)) else (some (0, 0, 0, ([] : List (S47)), false)))) else (some (0, 0, 0, ([] : List (S47)), false)))) else (some (0, 0, 0, ([] : List (S47)), false))))

set_option maxHeartbeats 8000000 in
set_option maxRecDepth 100000 in
theorem impl_ReadRecord.calls (k : Nat) (a0 : ByteArray) (r1 : Int) (r2 : Int) (r3 : Int) (r4 : List (S47)) (r5 : Bool) (w : World) (htb : Aside0 (Tb w)) (h : impl_ReadRecord.f k a0 = some (r1, r2, r3, r4, r5)) :
    Calls Tryz.prog 9 #[.string a0] w fun e w' => ∃ v3_ : Value, e = .returned (.tuple #[.agg #[.int .i64 r1, .int .i64 r2, .int .i64 r3, v3_], .bool r5]) ∧ Kd.R k47 47 w' w.heap.size (fun _ => True) v3_ r4 ∧ Below w.heap.size w w' := by
 have hu26 := Tryz.underlying26
 have HB := Aside0.mk (Below.refl w.heap.size w)
 have H : ((strings_Split.f a0 (⟨#[32]⟩ : ByteArray)).bind fun t395 => ((impl_readRecord.f k t395).bind fun bt398 => (if bt398.2.2.2.2 = true then ((impl_isRecord.f k bt398.1 bt398.2.1 bt398.2.2.1 bt398.2.2.2.1).bind fun t406 => (if t406 = true then ((impl_showRecord.f k bt398.1 bt398.2.1 bt398.2.2.1 bt398.2.2.2.1).bind fun t407 => (if t407.toList = a0.toList then (some (bt398.1,bt398.2.1,bt398.2.2.1,bt398.2.2.2.1,true)) else (some (0,0,0,([] : List (S47)),false)))) else (some (0,0,0,([] : List (S47)),false)))) else (some (0,0,0,([] : List (S47)),false))))) = some (r1,r2,r3,r4,r5) := h
 clear h
 replace H := bs_ H
 obtain ⟨t395,A2,H⟩ := H
 replace H := Option.bind_eq_some_iff.mp H
 obtain ⟨⟨t398,t399,t400,t401,t404⟩,A30,H⟩ := H
 replace H : (if t404 = true then ((impl_isRecord.f k t398 t399 t400 t401).bind fun t406 => (if t406 = true then ((impl_showRecord.f k t398 t399 t400 t401).bind fun t407 => (if t407.toList = a0.toList then (some (t398,t399,t400,t401,true)) else (some (0,0,0,([] : List (S47)),false)))) else (some (0,0,0,([] : List (S47)),false)))) else (some (0,0,0,([] : List (S47)),false))) = some (r1,r2,r3,r4,r5) := H
 have A3 := Aside0.mk A30
 clear A30
 by_cases c4 : t404 = true
 ·subst c4
  replace H := it_ H
  replace H := bs_ H
  obtain ⟨t406,A5,H⟩ := H
  by_cases c6 : t406 = true
  ·subst c6
   replace H := it_ H
   replace H := bs_ H
   obtain ⟨t407,A7,H⟩ := H
   by_cases c8 : t407.toList = a0.toList
   ·rw [if_pos c8] at H
    have c8b0 : (t407.toList == a0.toList) = true := beq_iff_eq.mpr c8
    have c8b1 : (t407.toList != a0.toList) = false := bne_eq_false_iff_eq.mpr c8
    clear c8
    simp only [Option.some.injEq,Prod.mk.injEq] at H
    obtain ⟨rfl,rfl,rfl,rfl,rfl⟩ := H
    go_enter Tryz.func9,Tryz.ntmps9
    go_wp2_with (first|((with_reducible refine gate_dst (N := 2) rfl ?_);refine bx_ 2 #[.int .i64 0,.int .i64 0,.int .i64 0,.slice none 0 0] 26 ?_;intro gb394 hg w9 hbox hb;replace HB := nb_ hg hbox hb;obtain ⟨BK394,GW394,GE394,HB⟩ := HB;clear hb hbox hg)|((with_reducible refine gcal_ (f := 19) rfl ?_);refine gl_ (some 8) Tryz.func19 #[.string a0,.string (⟨#[32]⟩ : ByteArray)] ?_;(with_reducible refine (strings_Split.calls a0 (⟨#[32]⟩ : ByteArray) t395 _ ?sideT A2.out).mono ?_);(case sideT => exact tb_ htb);rintro e w10 ⟨v396,rfl,ho0,hb⟩;refine ⟨_,rfl,?_⟩;replace BK394 := Aside0.mk (blk_below (kb_ BK394) hb);have HO397 := Aside0.mk (Kd.R_lower ho0 (below_size b_));replace HB := Aside0.mk (below_step b_ hb);(try clear hb);(try clear hb2);(try clear hk);(try clear hi);(try clear ho0);obtain ⟨Ao11,co11,eo11⟩ := Kd.R_slice HO397.out;subst eo11)|((with_reducible refine gcal_ (f := 18) rfl ?_);refine gl_ (some 9) Tryz.func18 #[.slice Ao11 t395.length co11] ?_;(with_reducible refine (impl_readRecord.calls k _ _ t395 t398 t399 t400 t401 true _ ?sideT ?side1 ?side2 A3.out).mono ?_);(case sideT => exact tb_ htb);(case side1 => repeat (first|exact (Kd.R_reads' HO397.out).2.2|(with_reducible refine Kd.C_alloc ?_ _)|(with_reducible refine Kd.C_drewN ?_ _)|(with_reducible refine Kd.C_drew ?_)));(case side2 => exact (Kd.R_reads' HO397.out).2.1);rintro e w12 ⟨v402,rfl,ho0,hb⟩;refine ⟨_,rfl,?_⟩;replace HO397 := Aside0.mk (Kd.R_below (by (with_reducible repeat (first|apply Kd.R_alloc|apply Kd.R_drewN|apply Kd.R_drew));exact HO397.out) hb);replace BK394 := Aside0.mk (blk_below (kb_ BK394) hb);have HO403 := Aside0.mk (Kd.R_lower ho0 (below_size b_));replace HB := Aside0.mk (below_step b_ hb);(try clear hb);(try clear hb2);(try clear hk);(try clear hi);(try clear ho0))|((with_reducible refine gate_dst (N := 4) rfl ?_);refine bx_ 4 #[.int .i64 0,.int .i64 0,.int .i64 0,.slice none 0 0] 26 ?_;intro gb405 hg w13 hbox hb;replace HO397 := Aside0.mk (Kd.R_below (by (with_reducible repeat (first|apply Kd.R_alloc|apply Kd.R_drewN|apply Kd.R_drew));exact HO397.out) hb);replace HO403 := Aside0.mk (Kd.R_below (by (with_reducible repeat (first|apply Kd.R_alloc|apply Kd.R_drewN|apply Kd.R_drew));exact HO403.out) hb);replace HB := nb_ hg hbox hb;obtain ⟨BK405,GW405,GE405,HB⟩ := HB;have NB394_405 := Aside0.mk ((nl_ BK394 hg));have NB405_394 := Aside0.mk ((ng_ BK394 hg));replace BK394 := Aside0.mk (blk_below (kb_ BK394) hb);clear hb hbox hg;have hnb14 := NB405_394.out;have hnc14 := NB394_405.out;obtain ⟨⟨hcz15_0,hcz15_1,hcz15_2,hcz15_3⟩,hfz15_0,hfz15_1,hfz15_2,hfz15_3⟩ := cl4_ BK405.out;obtain ⟨Ao16,co16,eo16⟩ := Kd.R_slice HO403.out;subst eo16)|(go_at_call 14;(with_reducible refine (impl_isRecord.calls k t398 t399 t400 _ _ t401 true _ ?side1 ?side2 A5.out).mono ?_);(case side1 => refine (Kd.R_reads' (e := 47) (base := w.heap.size) (ok := fun k_ => True) (n := t401.length) (c := co16) ?_).2.2;exact (by (with_reducible repeat (first|apply Kd.R_alloc|apply Kd.R_drewN|apply Kd.R_drew));exact (Kd.R_mono (Kd.R_far (p := ⟨gb405,3,none⟩) (Kd.R_far (p := ⟨gb405,2,none⟩) (Kd.R_far (p := ⟨gb405,1,none⟩) (Kd.R_far (p := ⟨gb405,0,none⟩) (Kd.R_types HO403.out BK405.out (by decide)) (fun _ hk => hk.2) (.int .i64 t398)) (fun _ hk => hk.2) (.int .i64 t399)) (fun _ hk => hk.2) (.int .i64 t400)) (fun _ hk => hk.2) (.slice Ao16 t401.length co16)) (fun _ h_ => h_.1))));(case side2 => exact (Kd.R_reads' HO403.out).2.1);rintro e w17 ⟨rfl,hb⟩;replace HO397 := Aside0.mk (Kd.R_below (by (with_reducible repeat (first|apply Kd.R_alloc|apply Kd.R_drewN|apply Kd.R_drew));exact (Kd.R_mono (Kd.R_far (p := ⟨gb405,3,none⟩) (Kd.R_far (p := ⟨gb405,2,none⟩) (Kd.R_far (p := ⟨gb405,1,none⟩) (Kd.R_far (p := ⟨gb405,0,none⟩) (Kd.R_types HO397.out BK405.out (by decide)) (fun _ hk => hk.2) (.int .i64 t398)) (fun _ hk => hk.2) (.int .i64 t399)) (fun _ hk => hk.2) (.int .i64 t400)) (fun _ hk => hk.2) (.slice Ao16 t401.length co16)) (fun _ h_ => h_.1))) hb);replace HO403 := Aside0.mk (Kd.R_below (by (with_reducible repeat (first|apply Kd.R_alloc|apply Kd.R_drewN|apply Kd.R_drew));exact (Kd.R_mono (Kd.R_far (p := ⟨gb405,3,none⟩) (Kd.R_far (p := ⟨gb405,2,none⟩) (Kd.R_far (p := ⟨gb405,1,none⟩) (Kd.R_far (p := ⟨gb405,0,none⟩) (Kd.R_types HO403.out BK405.out (by decide)) (fun _ hk => hk.2) (.int .i64 t398)) (fun _ hk => hk.2) (.int .i64 t399)) (fun _ hk => hk.2) (.int .i64 t400)) (fun _ hk => hk.2) (.slice Ao16 t401.length co16)) (fun _ h_ => h_.1))) hb);replace BK394 := Aside0.mk (blk_below (kf_ BK394) hb);replace BK405 := Aside0.mk (blk_below (g := gb405) (o := .cells #[.int .i64 t398,.int .i64 t399,.int .i64 t400,.slice Ao16 t401.length co16] 26 (0,0)) (by (with_reducible repeat (first|refine blk_drewN ?_ _|refine blk_drew ?_|refine blk_alloc ?_ _));refine blk_put (cs := #[.int .i64 t398,.int .i64 t399,.int .i64 t400,.slice none 0 0]) ?_ 3 _ rfl;(with_reducible repeat (first|refine blk_drewN ?_ _|refine blk_drew ?_|refine blk_alloc ?_ _));refine blk_put (cs := #[.int .i64 t398,.int .i64 t399,.int .i64 0,.slice none 0 0]) ?_ 2 _ rfl;(with_reducible repeat (first|refine blk_drewN ?_ _|refine blk_drew ?_|refine blk_alloc ?_ _));refine blk_put (cs := #[.int .i64 t398,.int .i64 0,.int .i64 0,.slice none 0 0]) ?_ 1 _ rfl;(with_reducible repeat (first|refine blk_drewN ?_ _|refine blk_drew ?_|refine blk_alloc ?_ _));refine blk_put (cs := #[.int .i64 0,.int .i64 0,.int .i64 0,.slice none 0 0]) ?_ 0 _ rfl;(with_reducible repeat (first|refine blk_drewN ?_ _|refine blk_drew ?_|refine blk_alloc ?_ _));exact BK405.out) hb);replace HB := Aside0.mk (below_step b_ hb);(try clear hb);(try clear hb2);(try clear hk);(try clear hi);obtain ⟨⟨hcz18_0,hcz18_1,hcz18_2,hcz18_3⟩,hfz18_0,hfz18_1,hfz18_2,hfz18_3⟩ := cl4_ BK405.out)|(go_at_call 15;(with_reducible refine (impl_showRecord.calls k t398 t399 t400 _ _ t401 t407 _ ?sideT ?side1 ?side2 A7.out).mono ?_);(case sideT => exact tb_ htb);(case side1 => repeat (first|exact (Kd.R_reads' HO403.out).2.2|(with_reducible refine Kd.C_alloc ?_ _)|(with_reducible refine Kd.C_drewN ?_ _)|(with_reducible refine Kd.C_drew ?_)));(case side2 => exact (Kd.R_reads' HO403.out).2.1);rintro e w19 ⟨rfl,hb⟩;replace HO397 := Aside0.mk (Kd.R_below (by (with_reducible repeat (first|apply Kd.R_alloc|apply Kd.R_drewN|apply Kd.R_drew));exact HO397.out) hb);replace HO403 := Aside0.mk (Kd.R_below (by (with_reducible repeat (first|apply Kd.R_alloc|apply Kd.R_drewN|apply Kd.R_drew));exact HO403.out) hb);replace BK394 := Aside0.mk (blk_below (kb_ BK394) hb);replace BK405 := Aside0.mk (blk_below (kb_ BK405) hb);replace HB := Aside0.mk (below_step b_ hb);(try clear hb);(try clear hb2);(try clear hk);(try clear hi);obtain ⟨⟨hcz20_0,hcz20_1,hcz20_2,hcz20_3⟩,hfz20_0,hfz20_1,hfz20_2,hfz20_3⟩ := cl4_ BK405.out;obtain ⟨⟨hcz21_0,hcz21_1,hcz21_2,hcz21_3⟩,hfz21_0,hfz21_1,hfz21_2,hfz21_3⟩ := cl4_ BK394.out))
    refine bodyPost_ret (results_ct rfl _ _ gb394 26 #[.int .i64 t398,.int .i64 t399,.int .i64 t400,.slice Ao16 t401.length co16] (0,0) _ rfl (by (with_reducible repeat (first|refine blk_drewN ?_ _|refine blk_drew ?_|refine blk_alloc ?_ _));refine blk_put (cs := #[.int .i64 t398,.int .i64 t399,.int .i64 t400,.slice none 0 0]) ?_ 3 _ rfl;(with_reducible repeat (first|refine blk_drewN ?_ _|refine blk_drew ?_|refine blk_alloc ?_ _));refine blk_put (cs := #[.int .i64 t398,.int .i64 t399,.int .i64 0,.slice none 0 0]) ?_ 2 _ rfl;(with_reducible repeat (first|refine blk_drewN ?_ _|refine blk_drew ?_|refine blk_alloc ?_ _));refine blk_put (cs := #[.int .i64 t398,.int .i64 0,.int .i64 0,.slice none 0 0]) ?_ 1 _ rfl;(with_reducible repeat (first|refine blk_drewN ?_ _|refine blk_drew ?_|refine blk_alloc ?_ _));refine blk_put (cs := #[.int .i64 0,.int .i64 0,.int .i64 0,.slice none 0 0]) ?_ 0 _ rfl;(with_reducible repeat (first|refine blk_drewN ?_ _|refine blk_drew ?_|refine blk_alloc ?_ _));exact BK394.out) Tryz.underlying26 rfl (by kernel_rfl)) rfl ?_
    exact ⟨_,rf_,by (with_reducible repeat (first|apply Kd.R_alloc|apply Kd.R_drewN|apply Kd.R_drew));exact Kd.R_mono (Kd.R_far (p := ⟨gb394,3,none⟩) (Kd.R_far (p := ⟨gb394,2,none⟩) (Kd.R_far (p := ⟨gb394,1,none⟩) (Kd.R_far (p := ⟨gb394,0,none⟩) (Kd.R_types HO403.out BK394.out (by decide)) (fun _ hk => hk.2) (.int .i64 t398)) (fun _ hk => hk.2) (.int .i64 t399)) (fun _ hk => hk.2) (.int .i64 t400)) (fun _ hk => hk.2) (.slice Ao16 t401.length co16)) (fun _ hk => trivial),b_⟩
   ·rw [if_neg c8] at H
    have c8b0 : (t407.toList == a0.toList) = false := beq_eq_false_iff_ne.mpr c8
    have c8b1 : (t407.toList != a0.toList) = true := bne_iff_ne.mpr c8
    simp only [Option.some.injEq,Prod.mk.injEq] at H
    obtain ⟨rfl,rfl,rfl,rfl,rfl⟩ := H
    go_enter Tryz.func9,Tryz.ntmps9
    go_wp2_with (first|((with_reducible refine gate_dst (N := 2) rfl ?_);refine bx_ 2 #[.int .i64 0,.int .i64 0,.int .i64 0,.slice none 0 0] 26 ?_;intro gb394 hg w22 hbox hb;replace HB := nb_ hg hbox hb;obtain ⟨BK394,GW394,GE394,HB⟩ := HB;clear hb hbox hg)|((with_reducible refine gcal_ (f := 19) rfl ?_);refine gl_ (some 8) Tryz.func19 #[.string a0,.string (⟨#[32]⟩ : ByteArray)] ?_;(with_reducible refine (strings_Split.calls a0 (⟨#[32]⟩ : ByteArray) t395 _ ?sideT A2.out).mono ?_);(case sideT => exact tb_ htb);rintro e w23 ⟨v396,rfl,ho0,hb⟩;refine ⟨_,rfl,?_⟩;replace BK394 := Aside0.mk (blk_below (kb_ BK394) hb);have HO397 := Aside0.mk (Kd.R_lower ho0 (below_size b_));replace HB := Aside0.mk (below_step b_ hb);(try clear hb);(try clear hb2);(try clear hk);(try clear hi);(try clear ho0);obtain ⟨Ao24,co24,eo24⟩ := Kd.R_slice HO397.out;subst eo24)|((with_reducible refine gcal_ (f := 18) rfl ?_);refine gl_ (some 9) Tryz.func18 #[.slice Ao24 t395.length co24] ?_;(with_reducible refine (impl_readRecord.calls k _ _ t395 t398 t399 t400 t401 true _ ?sideT ?side1 ?side2 A3.out).mono ?_);(case sideT => exact tb_ htb);(case side1 => repeat (first|exact (Kd.R_reads' HO397.out).2.2|(with_reducible refine Kd.C_alloc ?_ _)|(with_reducible refine Kd.C_drewN ?_ _)|(with_reducible refine Kd.C_drew ?_)));(case side2 => exact (Kd.R_reads' HO397.out).2.1);rintro e w25 ⟨v402,rfl,ho0,hb⟩;refine ⟨_,rfl,?_⟩;replace HO397 := Aside0.mk (Kd.R_below (by (with_reducible repeat (first|apply Kd.R_alloc|apply Kd.R_drewN|apply Kd.R_drew));exact HO397.out) hb);replace BK394 := Aside0.mk (blk_below (kb_ BK394) hb);have HO403 := Aside0.mk (Kd.R_lower ho0 (below_size b_));replace HB := Aside0.mk (below_step b_ hb);(try clear hb);(try clear hb2);(try clear hk);(try clear hi);(try clear ho0))|((with_reducible refine gate_dst (N := 4) rfl ?_);refine bx_ 4 #[.int .i64 0,.int .i64 0,.int .i64 0,.slice none 0 0] 26 ?_;intro gb405 hg w26 hbox hb;replace HO397 := Aside0.mk (Kd.R_below (by (with_reducible repeat (first|apply Kd.R_alloc|apply Kd.R_drewN|apply Kd.R_drew));exact HO397.out) hb);replace HO403 := Aside0.mk (Kd.R_below (by (with_reducible repeat (first|apply Kd.R_alloc|apply Kd.R_drewN|apply Kd.R_drew));exact HO403.out) hb);replace HB := nb_ hg hbox hb;obtain ⟨BK405,GW405,GE405,HB⟩ := HB;have NB394_405 := Aside0.mk ((nl_ BK394 hg));have NB405_394 := Aside0.mk ((ng_ BK394 hg));replace BK394 := Aside0.mk (blk_below (kb_ BK394) hb);clear hb hbox hg;have hnb27 := NB405_394.out;have hnc27 := NB394_405.out;obtain ⟨⟨hcz28_0,hcz28_1,hcz28_2,hcz28_3⟩,hfz28_0,hfz28_1,hfz28_2,hfz28_3⟩ := cl4_ BK405.out;obtain ⟨Ao29,co29,eo29⟩ := Kd.R_slice HO403.out;subst eo29)|(go_at_call 14;(with_reducible refine (impl_isRecord.calls k t398 t399 t400 _ _ t401 true _ ?side1 ?side2 A5.out).mono ?_);(case side1 => refine (Kd.R_reads' (e := 47) (base := w.heap.size) (ok := fun k_ => True) (n := t401.length) (c := co29) ?_).2.2;exact (by (with_reducible repeat (first|apply Kd.R_alloc|apply Kd.R_drewN|apply Kd.R_drew));exact (Kd.R_mono (Kd.R_far (p := ⟨gb405,3,none⟩) (Kd.R_far (p := ⟨gb405,2,none⟩) (Kd.R_far (p := ⟨gb405,1,none⟩) (Kd.R_far (p := ⟨gb405,0,none⟩) (Kd.R_types HO403.out BK405.out (by decide)) (fun _ hk => hk.2) (.int .i64 t398)) (fun _ hk => hk.2) (.int .i64 t399)) (fun _ hk => hk.2) (.int .i64 t400)) (fun _ hk => hk.2) (.slice Ao29 t401.length co29)) (fun _ h_ => h_.1))));(case side2 => exact (Kd.R_reads' HO403.out).2.1);rintro e w30 ⟨rfl,hb⟩;replace HO397 := Aside0.mk (Kd.R_below (by (with_reducible repeat (first|apply Kd.R_alloc|apply Kd.R_drewN|apply Kd.R_drew));exact (Kd.R_mono (Kd.R_far (p := ⟨gb405,3,none⟩) (Kd.R_far (p := ⟨gb405,2,none⟩) (Kd.R_far (p := ⟨gb405,1,none⟩) (Kd.R_far (p := ⟨gb405,0,none⟩) (Kd.R_types HO397.out BK405.out (by decide)) (fun _ hk => hk.2) (.int .i64 t398)) (fun _ hk => hk.2) (.int .i64 t399)) (fun _ hk => hk.2) (.int .i64 t400)) (fun _ hk => hk.2) (.slice Ao29 t401.length co29)) (fun _ h_ => h_.1))) hb);replace HO403 := Aside0.mk (Kd.R_below (by (with_reducible repeat (first|apply Kd.R_alloc|apply Kd.R_drewN|apply Kd.R_drew));exact (Kd.R_mono (Kd.R_far (p := ⟨gb405,3,none⟩) (Kd.R_far (p := ⟨gb405,2,none⟩) (Kd.R_far (p := ⟨gb405,1,none⟩) (Kd.R_far (p := ⟨gb405,0,none⟩) (Kd.R_types HO403.out BK405.out (by decide)) (fun _ hk => hk.2) (.int .i64 t398)) (fun _ hk => hk.2) (.int .i64 t399)) (fun _ hk => hk.2) (.int .i64 t400)) (fun _ hk => hk.2) (.slice Ao29 t401.length co29)) (fun _ h_ => h_.1))) hb);replace BK394 := Aside0.mk (blk_below (kf_ BK394) hb);replace BK405 := Aside0.mk (blk_below (g := gb405) (o := .cells #[.int .i64 t398,.int .i64 t399,.int .i64 t400,.slice Ao29 t401.length co29] 26 (0,0)) (by (with_reducible repeat (first|refine blk_drewN ?_ _|refine blk_drew ?_|refine blk_alloc ?_ _));refine blk_put (cs := #[.int .i64 t398,.int .i64 t399,.int .i64 t400,.slice none 0 0]) ?_ 3 _ rfl;(with_reducible repeat (first|refine blk_drewN ?_ _|refine blk_drew ?_|refine blk_alloc ?_ _));refine blk_put (cs := #[.int .i64 t398,.int .i64 t399,.int .i64 0,.slice none 0 0]) ?_ 2 _ rfl;(with_reducible repeat (first|refine blk_drewN ?_ _|refine blk_drew ?_|refine blk_alloc ?_ _));refine blk_put (cs := #[.int .i64 t398,.int .i64 0,.int .i64 0,.slice none 0 0]) ?_ 1 _ rfl;(with_reducible repeat (first|refine blk_drewN ?_ _|refine blk_drew ?_|refine blk_alloc ?_ _));refine blk_put (cs := #[.int .i64 0,.int .i64 0,.int .i64 0,.slice none 0 0]) ?_ 0 _ rfl;(with_reducible repeat (first|refine blk_drewN ?_ _|refine blk_drew ?_|refine blk_alloc ?_ _));exact BK405.out) hb);replace HB := Aside0.mk (below_step b_ hb);(try clear hb);(try clear hb2);(try clear hk);(try clear hi);obtain ⟨⟨hcz31_0,hcz31_1,hcz31_2,hcz31_3⟩,hfz31_0,hfz31_1,hfz31_2,hfz31_3⟩ := cl4_ BK405.out)|(go_at_call 15;(with_reducible refine (impl_showRecord.calls k t398 t399 t400 _ _ t401 t407 _ ?sideT ?side1 ?side2 A7.out).mono ?_);(case sideT => exact tb_ htb);(case side1 => repeat (first|exact (Kd.R_reads' HO403.out).2.2|(with_reducible refine Kd.C_alloc ?_ _)|(with_reducible refine Kd.C_drewN ?_ _)|(with_reducible refine Kd.C_drew ?_)));(case side2 => exact (Kd.R_reads' HO403.out).2.1);rintro e w32 ⟨rfl,hb⟩;replace HO397 := Aside0.mk (Kd.R_below (by (with_reducible repeat (first|apply Kd.R_alloc|apply Kd.R_drewN|apply Kd.R_drew));exact HO397.out) hb);replace HO403 := Aside0.mk (Kd.R_below (by (with_reducible repeat (first|apply Kd.R_alloc|apply Kd.R_drewN|apply Kd.R_drew));exact HO403.out) hb);replace BK394 := Aside0.mk (blk_below (kb_ BK394) hb);replace BK405 := Aside0.mk (blk_below (kb_ BK405) hb);replace HB := Aside0.mk (below_step b_ hb);(try clear hb);(try clear hb2);(try clear hk);(try clear hi);obtain ⟨⟨hcz33_0,hcz33_1,hcz33_2,hcz33_3⟩,hfz33_0,hfz33_1,hfz33_2,hfz33_3⟩ := cl4_ BK394.out))
    refine bodyPost_ret (results_ct rfl _ _ gb394 26 #[.int .i64 0,.int .i64 0,.int .i64 0,.slice none 0 0] (0,0) _ rfl (by (with_reducible repeat (first|refine blk_drewN ?_ _|refine blk_drew ?_|refine blk_alloc ?_ _));refine blk_put (cs := #[.int .i64 0,.int .i64 0,.int .i64 0,.slice none 0 0]) ?_ 3 _ rfl;(with_reducible repeat (first|refine blk_drewN ?_ _|refine blk_drew ?_|refine blk_alloc ?_ _));refine blk_put (cs := #[.int .i64 0,.int .i64 0,.int .i64 0,.slice none 0 0]) ?_ 2 _ rfl;(with_reducible repeat (first|refine blk_drewN ?_ _|refine blk_drew ?_|refine blk_alloc ?_ _));refine blk_put (cs := #[.int .i64 0,.int .i64 0,.int .i64 0,.slice none 0 0]) ?_ 1 _ rfl;(with_reducible repeat (first|refine blk_drewN ?_ _|refine blk_drew ?_|refine blk_alloc ?_ _));refine blk_put (cs := #[.int .i64 0,.int .i64 0,.int .i64 0,.slice none 0 0]) ?_ 0 _ rfl;(with_reducible repeat (first|refine blk_drewN ?_ _|refine blk_drew ?_|refine blk_alloc ?_ _));exact BK394.out) Tryz.underlying26 rfl (by kernel_rfl)) rfl ?_
    exact ⟨_,rf_,by first|exact Kd.R_nil _ _ _ _ _|exact Kd.N_nil _ _ _ _ _|exact Kd.V_nil _ _ _ _ _|exact Kd.Q_nil _ _ _ _ _|exact Kd.S_nil _ _ _ _ _,b_⟩
  ·replace c6 := Bool.eq_false_iff.mpr c6
   subst c6
   replace H := ie_ H
   simp only [Option.some.injEq,Prod.mk.injEq] at H
   obtain ⟨rfl,rfl,rfl,rfl,rfl⟩ := H
   go_enter Tryz.func9,Tryz.ntmps9
   go_wp2_with (first|((with_reducible refine gate_dst (N := 2) rfl ?_);refine bx_ 2 #[.int .i64 0,.int .i64 0,.int .i64 0,.slice none 0 0] 26 ?_;intro gb394 hg w34 hbox hb;replace HB := nb_ hg hbox hb;obtain ⟨BK394,GW394,GE394,HB⟩ := HB;clear hb hbox hg)|((with_reducible refine gcal_ (f := 19) rfl ?_);refine gl_ (some 8) Tryz.func19 #[.string a0,.string (⟨#[32]⟩ : ByteArray)] ?_;(with_reducible refine (strings_Split.calls a0 (⟨#[32]⟩ : ByteArray) t395 _ ?sideT A2.out).mono ?_);(case sideT => exact tb_ htb);rintro e w35 ⟨v396,rfl,ho0,hb⟩;refine ⟨_,rfl,?_⟩;replace BK394 := Aside0.mk (blk_below (kb_ BK394) hb);have HO397 := Aside0.mk (Kd.R_lower ho0 (below_size b_));replace HB := Aside0.mk (below_step b_ hb);(try clear hb);(try clear hb2);(try clear hk);(try clear hi);(try clear ho0);obtain ⟨Ao36,co36,eo36⟩ := Kd.R_slice HO397.out;subst eo36)|((with_reducible refine gcal_ (f := 18) rfl ?_);refine gl_ (some 9) Tryz.func18 #[.slice Ao36 t395.length co36] ?_;(with_reducible refine (impl_readRecord.calls k _ _ t395 t398 t399 t400 t401 true _ ?sideT ?side1 ?side2 A3.out).mono ?_);(case sideT => exact tb_ htb);(case side1 => repeat (first|exact (Kd.R_reads' HO397.out).2.2|(with_reducible refine Kd.C_alloc ?_ _)|(with_reducible refine Kd.C_drewN ?_ _)|(with_reducible refine Kd.C_drew ?_)));(case side2 => exact (Kd.R_reads' HO397.out).2.1);rintro e w37 ⟨v402,rfl,ho0,hb⟩;refine ⟨_,rfl,?_⟩;replace HO397 := Aside0.mk (Kd.R_below (by (with_reducible repeat (first|apply Kd.R_alloc|apply Kd.R_drewN|apply Kd.R_drew));exact HO397.out) hb);replace BK394 := Aside0.mk (blk_below (kb_ BK394) hb);have HO403 := Aside0.mk (Kd.R_lower ho0 (below_size b_));replace HB := Aside0.mk (below_step b_ hb);(try clear hb);(try clear hb2);(try clear hk);(try clear hi);(try clear ho0))|((with_reducible refine gate_dst (N := 4) rfl ?_);refine bx_ 4 #[.int .i64 0,.int .i64 0,.int .i64 0,.slice none 0 0] 26 ?_;intro gb405 hg w38 hbox hb;replace HO397 := Aside0.mk (Kd.R_below (by (with_reducible repeat (first|apply Kd.R_alloc|apply Kd.R_drewN|apply Kd.R_drew));exact HO397.out) hb);replace HO403 := Aside0.mk (Kd.R_below (by (with_reducible repeat (first|apply Kd.R_alloc|apply Kd.R_drewN|apply Kd.R_drew));exact HO403.out) hb);replace HB := nb_ hg hbox hb;obtain ⟨BK405,GW405,GE405,HB⟩ := HB;have NB394_405 := Aside0.mk ((nl_ BK394 hg));have NB405_394 := Aside0.mk ((ng_ BK394 hg));replace BK394 := Aside0.mk (blk_below (kb_ BK394) hb);clear hb hbox hg;have hnb39 := NB405_394.out;have hnc39 := NB394_405.out;obtain ⟨⟨hcz40_0,hcz40_1,hcz40_2,hcz40_3⟩,hfz40_0,hfz40_1,hfz40_2,hfz40_3⟩ := cl4_ BK405.out;obtain ⟨Ao41,co41,eo41⟩ := Kd.R_slice HO403.out;subst eo41)|(go_at_call 14;(with_reducible refine (impl_isRecord.calls k t398 t399 t400 _ _ t401 false _ ?side1 ?side2 A5.out).mono ?_);(case side1 => refine (Kd.R_reads' (e := 47) (base := w.heap.size) (ok := fun k_ => True) (n := t401.length) (c := co41) ?_).2.2;exact (by (with_reducible repeat (first|apply Kd.R_alloc|apply Kd.R_drewN|apply Kd.R_drew));exact (Kd.R_mono (Kd.R_far (p := ⟨gb405,3,none⟩) (Kd.R_far (p := ⟨gb405,2,none⟩) (Kd.R_far (p := ⟨gb405,1,none⟩) (Kd.R_far (p := ⟨gb405,0,none⟩) (Kd.R_types HO403.out BK405.out (by decide)) (fun _ hk => hk.2) (.int .i64 t398)) (fun _ hk => hk.2) (.int .i64 t399)) (fun _ hk => hk.2) (.int .i64 t400)) (fun _ hk => hk.2) (.slice Ao41 t401.length co41)) (fun _ h_ => h_.1))));(case side2 => exact (Kd.R_reads' HO403.out).2.1);rintro e w42 ⟨rfl,hb⟩;replace HO397 := Aside0.mk (Kd.R_below (by (with_reducible repeat (first|apply Kd.R_alloc|apply Kd.R_drewN|apply Kd.R_drew));exact (Kd.R_mono (Kd.R_far (p := ⟨gb405,3,none⟩) (Kd.R_far (p := ⟨gb405,2,none⟩) (Kd.R_far (p := ⟨gb405,1,none⟩) (Kd.R_far (p := ⟨gb405,0,none⟩) (Kd.R_types HO397.out BK405.out (by decide)) (fun _ hk => hk.2) (.int .i64 t398)) (fun _ hk => hk.2) (.int .i64 t399)) (fun _ hk => hk.2) (.int .i64 t400)) (fun _ hk => hk.2) (.slice Ao41 t401.length co41)) (fun _ h_ => h_.1))) hb);replace HO403 := Aside0.mk (Kd.R_below (by (with_reducible repeat (first|apply Kd.R_alloc|apply Kd.R_drewN|apply Kd.R_drew));exact (Kd.R_mono (Kd.R_far (p := ⟨gb405,3,none⟩) (Kd.R_far (p := ⟨gb405,2,none⟩) (Kd.R_far (p := ⟨gb405,1,none⟩) (Kd.R_far (p := ⟨gb405,0,none⟩) (Kd.R_types HO403.out BK405.out (by decide)) (fun _ hk => hk.2) (.int .i64 t398)) (fun _ hk => hk.2) (.int .i64 t399)) (fun _ hk => hk.2) (.int .i64 t400)) (fun _ hk => hk.2) (.slice Ao41 t401.length co41)) (fun _ h_ => h_.1))) hb);replace BK394 := Aside0.mk (blk_below (kf_ BK394) hb);replace BK405 := Aside0.mk (blk_below (g := gb405) (o := .cells #[.int .i64 t398,.int .i64 t399,.int .i64 t400,.slice Ao41 t401.length co41] 26 (0,0)) (by (with_reducible repeat (first|refine blk_drewN ?_ _|refine blk_drew ?_|refine blk_alloc ?_ _));refine blk_put (cs := #[.int .i64 t398,.int .i64 t399,.int .i64 t400,.slice none 0 0]) ?_ 3 _ rfl;(with_reducible repeat (first|refine blk_drewN ?_ _|refine blk_drew ?_|refine blk_alloc ?_ _));refine blk_put (cs := #[.int .i64 t398,.int .i64 t399,.int .i64 0,.slice none 0 0]) ?_ 2 _ rfl;(with_reducible repeat (first|refine blk_drewN ?_ _|refine blk_drew ?_|refine blk_alloc ?_ _));refine blk_put (cs := #[.int .i64 t398,.int .i64 0,.int .i64 0,.slice none 0 0]) ?_ 1 _ rfl;(with_reducible repeat (first|refine blk_drewN ?_ _|refine blk_drew ?_|refine blk_alloc ?_ _));refine blk_put (cs := #[.int .i64 0,.int .i64 0,.int .i64 0,.slice none 0 0]) ?_ 0 _ rfl;(with_reducible repeat (first|refine blk_drewN ?_ _|refine blk_drew ?_|refine blk_alloc ?_ _));exact BK405.out) hb);replace HB := Aside0.mk (below_step b_ hb);(try clear hb);(try clear hb2);(try clear hk);(try clear hi);obtain ⟨⟨hcz43_0,hcz43_1,hcz43_2,hcz43_3⟩,hfz43_0,hfz43_1,hfz43_2,hfz43_3⟩ := cl4_ BK394.out))
   refine bodyPost_ret (results_ct rfl _ _ gb394 26 #[.int .i64 0,.int .i64 0,.int .i64 0,.slice none 0 0] (0,0) _ rfl (by (with_reducible repeat (first|refine blk_drewN ?_ _|refine blk_drew ?_|refine blk_alloc ?_ _));refine blk_put (cs := #[.int .i64 0,.int .i64 0,.int .i64 0,.slice none 0 0]) ?_ 3 _ rfl;(with_reducible repeat (first|refine blk_drewN ?_ _|refine blk_drew ?_|refine blk_alloc ?_ _));refine blk_put (cs := #[.int .i64 0,.int .i64 0,.int .i64 0,.slice none 0 0]) ?_ 2 _ rfl;(with_reducible repeat (first|refine blk_drewN ?_ _|refine blk_drew ?_|refine blk_alloc ?_ _));refine blk_put (cs := #[.int .i64 0,.int .i64 0,.int .i64 0,.slice none 0 0]) ?_ 1 _ rfl;(with_reducible repeat (first|refine blk_drewN ?_ _|refine blk_drew ?_|refine blk_alloc ?_ _));refine blk_put (cs := #[.int .i64 0,.int .i64 0,.int .i64 0,.slice none 0 0]) ?_ 0 _ rfl;(with_reducible repeat (first|refine blk_drewN ?_ _|refine blk_drew ?_|refine blk_alloc ?_ _));exact BK394.out) Tryz.underlying26 rfl (by kernel_rfl)) rfl ?_
   exact ⟨_,rf_,by first|exact Kd.R_nil _ _ _ _ _|exact Kd.N_nil _ _ _ _ _|exact Kd.V_nil _ _ _ _ _|exact Kd.Q_nil _ _ _ _ _|exact Kd.S_nil _ _ _ _ _,b_⟩
 ·replace c4 := Bool.eq_false_iff.mpr c4
  subst c4
  replace H := ie_ H
  simp only [Option.some.injEq,Prod.mk.injEq] at H
  obtain ⟨rfl,rfl,rfl,rfl,rfl⟩ := H
  go_enter Tryz.func9,Tryz.ntmps9
  go_wp2_with (first|((with_reducible refine gate_dst (N := 2) rfl ?_);refine bx_ 2 #[.int .i64 0,.int .i64 0,.int .i64 0,.slice none 0 0] 26 ?_;intro gb394 hg w44 hbox hb;replace HB := nb_ hg hbox hb;obtain ⟨BK394,GW394,GE394,HB⟩ := HB;clear hb hbox hg)|((with_reducible refine gcal_ (f := 19) rfl ?_);refine gl_ (some 8) Tryz.func19 #[.string a0,.string (⟨#[32]⟩ : ByteArray)] ?_;(with_reducible refine (strings_Split.calls a0 (⟨#[32]⟩ : ByteArray) t395 _ ?sideT A2.out).mono ?_);(case sideT => exact tb_ htb);rintro e w45 ⟨v396,rfl,ho0,hb⟩;refine ⟨_,rfl,?_⟩;replace BK394 := Aside0.mk (blk_below (kb_ BK394) hb);have HO397 := Aside0.mk (Kd.R_lower ho0 (below_size b_));replace HB := Aside0.mk (below_step b_ hb);(try clear hb);(try clear hb2);(try clear hk);(try clear hi);(try clear ho0);obtain ⟨Ao46,co46,eo46⟩ := Kd.R_slice HO397.out;subst eo46)|((with_reducible refine gcal_ (f := 18) rfl ?_);refine gl_ (some 9) Tryz.func18 #[.slice Ao46 t395.length co46] ?_;(with_reducible refine (impl_readRecord.calls k _ _ t395 t398 t399 t400 t401 false _ ?sideT ?side1 ?side2 A3.out).mono ?_);(case sideT => exact tb_ htb);(case side1 => repeat (first|exact (Kd.R_reads' HO397.out).2.2|(with_reducible refine Kd.C_alloc ?_ _)|(with_reducible refine Kd.C_drewN ?_ _)|(with_reducible refine Kd.C_drew ?_)));(case side2 => exact (Kd.R_reads' HO397.out).2.1);rintro e w47 ⟨v402,rfl,ho0,hb⟩;refine ⟨_,rfl,?_⟩;replace HO397 := Aside0.mk (Kd.R_below (by (with_reducible repeat (first|apply Kd.R_alloc|apply Kd.R_drewN|apply Kd.R_drew));exact HO397.out) hb);replace BK394 := Aside0.mk (blk_below (kb_ BK394) hb);have HO403 := Aside0.mk (Kd.R_lower ho0 (below_size b_));replace HB := Aside0.mk (below_step b_ hb);(try clear hb);(try clear hb2);(try clear hk);(try clear hi);(try clear ho0))|((with_reducible refine gate_dst (N := 4) rfl ?_);refine bx_ 4 #[.int .i64 0,.int .i64 0,.int .i64 0,.slice none 0 0] 26 ?_;intro gb405 hg w48 hbox hb;replace HO397 := Aside0.mk (Kd.R_below (by (with_reducible repeat (first|apply Kd.R_alloc|apply Kd.R_drewN|apply Kd.R_drew));exact HO397.out) hb);replace HO403 := Aside0.mk (Kd.R_below (by (with_reducible repeat (first|apply Kd.R_alloc|apply Kd.R_drewN|apply Kd.R_drew));exact HO403.out) hb);replace HB := nb_ hg hbox hb;obtain ⟨BK405,GW405,GE405,HB⟩ := HB;have NB394_405 := Aside0.mk ((nl_ BK394 hg));have NB405_394 := Aside0.mk ((ng_ BK394 hg));replace BK394 := Aside0.mk (blk_below (kb_ BK394) hb);clear hb hbox hg;have hnb49 := NB405_394.out;have hnc49 := NB394_405.out;obtain ⟨⟨hcz50_0,hcz50_1,hcz50_2,hcz50_3⟩,hfz50_0,hfz50_1,hfz50_2,hfz50_3⟩ := cl4_ BK405.out;obtain ⟨Ao51,co51,eo51⟩ := Kd.R_slice HO403.out;subst eo51;obtain ⟨⟨hcz52_0,hcz52_1,hcz52_2,hcz52_3⟩,hfz52_0,hfz52_1,hfz52_2,hfz52_3⟩ := cl4_ BK394.out))
  refine bodyPost_ret (results_ct rfl _ _ gb394 26 #[.int .i64 0,.int .i64 0,.int .i64 0,.slice none 0 0] (0,0) _ rfl (by (with_reducible repeat (first|refine blk_drewN ?_ _|refine blk_drew ?_|refine blk_alloc ?_ _));refine blk_put (cs := #[.int .i64 0,.int .i64 0,.int .i64 0,.slice none 0 0]) ?_ 3 _ rfl;(with_reducible repeat (first|refine blk_drewN ?_ _|refine blk_drew ?_|refine blk_alloc ?_ _));refine blk_put (cs := #[.int .i64 0,.int .i64 0,.int .i64 0,.slice none 0 0]) ?_ 2 _ rfl;(with_reducible repeat (first|refine blk_drewN ?_ _|refine blk_drew ?_|refine blk_alloc ?_ _));refine blk_put (cs := #[.int .i64 0,.int .i64 0,.int .i64 0,.slice none 0 0]) ?_ 1 _ rfl;(with_reducible repeat (first|refine blk_drewN ?_ _|refine blk_drew ?_|refine blk_alloc ?_ _));refine blk_put (cs := #[.int .i64 0,.int .i64 0,.int .i64 0,.slice none 0 0]) ?_ 0 _ rfl;(with_reducible repeat (first|refine blk_drewN ?_ _|refine blk_drew ?_|refine blk_alloc ?_ _));refine blk_far ?_ NB394_405.out _;(with_reducible repeat (first|refine blk_drewN ?_ _|refine blk_drew ?_|refine blk_alloc ?_ _));refine blk_far ?_ NB394_405.out _;(with_reducible repeat (first|refine blk_drewN ?_ _|refine blk_drew ?_|refine blk_alloc ?_ _));refine blk_far ?_ NB394_405.out _;(with_reducible repeat (first|refine blk_drewN ?_ _|refine blk_drew ?_|refine blk_alloc ?_ _));refine blk_far ?_ NB394_405.out _;(with_reducible repeat (first|refine blk_drewN ?_ _|refine blk_drew ?_|refine blk_alloc ?_ _));exact BK394.out) Tryz.underlying26 rfl (by kernel_rfl)) rfl ?_
  exact ⟨_,rf_,by first|exact Kd.R_nil _ _ _ _ _|exact Kd.N_nil _ _ _ _ _|exact Kd.V_nil _ _ _ _ _|exact Kd.Q_nil _ _ _ _ _|exact Kd.S_nil _ _ _ _ _,b_⟩

/-! ### laws_likeSets: function 20 -/
def laws_likeSets.l0 : Nat → List (S47) → List (S47) → Int → Option (Bool)
  | 0, _, _, _ => none
  | k + 1, x0, x1, x5 => if x5 < (x0.length : Int) then (if 0 ≤ x5 then (if x5 < (x1.length : Int) then (if (!(((rd_T47 x0 x5).f0) == ((rd_T47 x1 x5).f0)) || (!(((rd_T47 x0 x5).f1) == ((rd_T47 x1 x5).f1)) || (!(((rd_T47 x0 x5).f2) == ((rd_T47 x1 x5).f2)) || (!(((rd_T47 x0 x5).f3) == ((rd_T47 x1 x5).f3)) || (!(((rd_T47 x0 x5).f4) == ((rd_T47 x1 x5).f4))))))) = true then (some false) else (laws_likeSets.l0 k x0 x1 (wrap64 (x5 + 1)))) else (none)) else (none)) else (some true)
def laws_likeSets.f (k : Nat) (l0 : List (S47)) (l1 : List (S47)) : Option (Bool) := if (l0.length : Int) = (l1.length : Int) then (laws_likeSets.l0 k l0 l1 0) else (some false)

set_option maxHeartbeats 8000000 in
set_option maxRecDepth 100000 in
theorem laws_likeSets.calls (k : Nat) (A0 : Option Addr) (c0 : Nat) (l0 : List (S47)) (A1 : Option Addr) (c1 : Nat) (l1 : List (S47)) (r : Bool) (w : World) (hr0 : Kd.C k47 w A0 l0.length l0) (hc0 : l0.length ≤ c0) (hr1 : Kd.C k47 w A1 l1.length l1) (hc1 : l1.length ≤ c1) (h : laws_likeSets.f k l0 l1 = some r) :
    Calls Tryz.prog 20 #[.slice A0 l0.length c0, .slice A1 l1.length c1] w fun e w' => e = .returned (.bool r) ∧ Drawn0 w w' := by
 have hu47 := Tryz.underlying47
 have HR0 := Aside0.mk hr0
 have HC0 := Aside0.mk hc0
 clear hr0 hc0
 have HR1 := Aside0.mk hr1
 have HC1 := Aside0.mk hc1
 clear hr1 hc1
 have H : (if (l0.length : Int) = (l1.length : Int) then (laws_likeSets.l0 k l0 l1 0) else (some false)) = some r := h
 clear h
 by_cases c3 : (l0.length : Int) = (l1.length : Int)
 ·rw [if_pos c3] at H
  have c3b0 : ((l0.length : Int) == (l1.length : Int)) = true := beq_iff_eq.mpr c3
  have c3b1 : ((l0.length : Int) != (l1.length : Int)) = false := bne_eq_false_iff_eq.mpr c3
  have c3b2 : (l0.length == l1.length) = true := by first|simpa using c3|(simp at c3 ⊢;omega)
  clear c3
  have H' := Aside0.mk H
  clear H
  go_enter Tryz.func20,Tryz.ntmps20
  go_wp2
  repeat (go_quiet (fail);try go_wp2)
  go_loopg [5] k (fun kq v5 w' => ∃ (x5_1 : Int),v5 = .int .i64 x5_1 ∧ Aside0 (laws_likeSets.l0 kq l0 l1 x5_1 = some r) ∧ Aside0 (kq ≤ k) ∧ Drawn0 w w')
  case atStart => exact ⟨(0),rs_,H',⟨Nat.le_refl _⟩,by repeat (first|exact Drawn0.refl _|apply Drawn0.step)⟩
  case round =>
   clear H'
   try clear c1
   try clear c2
   try clear p2
   try clear c3
   try clear c3b0
   try clear c3b1
   try clear c3b2
   obtain ⟨x5_1,rfl,HA,HK1,⟨m1,rfl⟩⟩ := hrel
   cases gk with
   | zero => exact absurd HA.out (by simp [laws_likeSets.l0])
   | succ k1 =>
    have H := HA.out
    clear HA
    simp only [laws_likeSets.l0] at H
    by_cases c4 : x5_1 < (l0.length : Int)
    ·rw [if_pos c4] at H
     have c4b0 : decide (x5_1 < (l0.length : Int)) = true := decide_eq_true c4
     clear c4
     by_cases c5 : 0 ≤ x5_1
     ·rw [if_pos c5] at H
      have c5b0 : decide (0 ≤ x5_1) = true := decide_eq_true c5
      clear c5
      by_cases c6 : x5_1 < (l1.length : Int)
      ·rw [if_pos c6] at H
       have c6b0 : decide (x5_1 < (l1.length : Int)) = true := decide_eq_true c6
       clear c6
       by_cases c7 : (!(((rd_T47 l0 x5_1).f0) == ((rd_T47 l1 x5_1).f0)) || (!(((rd_T47 l0 x5_1).f1) == ((rd_T47 l1 x5_1).f1)) || (!(((rd_T47 l0 x5_1).f2) == ((rd_T47 l1 x5_1).f2)) || (!(((rd_T47 l0 x5_1).f3) == ((rd_T47 l1 x5_1).f3)) || (!(((rd_T47 l0 x5_1).f4) == ((rd_T47 l1 x5_1).f4))))))) = true
       ·rw [if_pos c7] at H
        have c7b0 : (!(((rd_T47 l0 x5_1).f0) == ((rd_T47 l1 x5_1).f0)) || (!(((rd_T47 l0 x5_1).f1) == ((rd_T47 l1 x5_1).f1)) || (!(((rd_T47 l0 x5_1).f2) == ((rd_T47 l1 x5_1).f2)) || (!(((rd_T47 l0 x5_1).f3) == ((rd_T47 l1 x5_1).f3)) || (!(((rd_T47 l0 x5_1).f4) == ((rd_T47 l1 x5_1).f4))))))) = true := c7
        clear c7
        obtain rfl := Option.some.inj H
        have p408 : 0 ≤ (x5_1 : Int) := od_
        have q408 : x5_1 < (l0.length : Int) := od_
        obtain ⟨ad408,e408,hx408_0,hx408_1,hx408_2,hx408_3,hx408_4⟩ := at_T47 HR0.out x5_1 p408 q408
        cases e408
        replace p408 := eq_true p408
        replace q408 := eq_true q408
        have p409 : 0 ≤ (x5_1 : Int) := od_
        have q409 : x5_1 < (l1.length : Int) := od_
        obtain ⟨ad409,e409,hx409_0,hx409_1,hx409_2,hx409_3,hx409_4⟩ := at_T47 HR1.out x5_1 p409 q409
        cases e409
        replace p409 := eq_true p409
        replace q409 := eq_true q409
        go_wp2
        repeat (go_quiet (fail);try go_wp2)
        go_ret
        exact ⟨rs_,by repeat (first|exact Drawn0.refl _|apply Drawn0.step)⟩
       ·rw [if_neg c7] at H
        have c7b0 : (!(((rd_T47 l0 x5_1).f0) == ((rd_T47 l1 x5_1).f0)) || (!(((rd_T47 l0 x5_1).f1) == ((rd_T47 l1 x5_1).f1)) || (!(((rd_T47 l0 x5_1).f2) == ((rd_T47 l1 x5_1).f2)) || (!(((rd_T47 l0 x5_1).f3) == ((rd_T47 l1 x5_1).f3)) || (!(((rd_T47 l0 x5_1).f4) == ((rd_T47 l1 x5_1).f4))))))) = false := by simpa using c7
        clear c7
        have H' := Aside0.mk H
        clear H
        have p408 : 0 ≤ (x5_1 : Int) := od_
        have q408 : x5_1 < (l0.length : Int) := od_
        obtain ⟨ad408,e408,hx408_0,hx408_1,hx408_2,hx408_3,hx408_4⟩ := at_T47 HR0.out x5_1 p408 q408
        cases e408
        replace p408 := eq_true p408
        replace q408 := eq_true q408
        have p409 : 0 ≤ (x5_1 : Int) := od_
        have q409 : x5_1 < (l1.length : Int) := od_
        obtain ⟨ad409,e409,hx409_0,hx409_1,hx409_2,hx409_3,hx409_4⟩ := at_T47 HR1.out x5_1 p409 q409
        cases e409
        replace p409 := eq_true p409
        replace q409 := eq_true q409
        go_wp2
        repeat (go_quiet (fail);try go_wp2)
        go_roundg k1
        case measure => have := HK1.out;omega
        case rel => exact ⟨(wrap64 (x5_1 + 1)),rs_,H',⟨by have := HK1.out;omega⟩,by repeat (first|exact Drawn0.refl _|apply Drawn0.step)⟩
      ·rw [if_neg c6] at H
       exact absurd H (by simp)
     ·rw [if_neg c5] at H
      exact absurd H (by simp)
    ·rw [if_neg c4] at H
     have c4b0 : decide (x5_1 < (l0.length : Int)) = false := decide_eq_false c4
     clear c4
     obtain rfl := Option.some.inj H
     go_wp2
     repeat (go_quiet (fail);try go_wp2)
     go_ret
     exact ⟨rs_,by repeat (first|exact Drawn0.refl _|apply Drawn0.step)⟩
 ·rw [if_neg c3] at H
  have c3b0 : ((l0.length : Int) == (l1.length : Int)) = false := beq_eq_false_iff_ne.mpr c3
  have c3b1 : ((l0.length : Int) != (l1.length : Int)) = true := bne_iff_ne.mpr c3
  have c3b2 : (l0.length == l1.length) = false := by first|simpa using c3|(simp at c3 ⊢;omega)
  obtain rfl := Option.some.inj H
  go_enter Tryz.func20,Tryz.ntmps20
  go_wp2
  repeat (go_quiet (fail);try go_wp2)
  go_ret
  exact ⟨rs_,by repeat (first|exact Drawn0.refl _|apply Drawn0.step)⟩

/-! ### laws_likeRecord: function 10 -/
def laws_likeRecord.f (k : Nat) (a0_0 : Int) (a0_1 : Int) (a0_2 : Int) (l0_3 : List (S47)) (a1_0 : Int) (a1_1 : Int) (a1_2 : Int) (l1_3 : List (S47)) : Option (Bool) := if a0_0 = a1_0 then (if a0_1 = a1_1 then (if a0_2 = a1_2 then ((laws_likeSets.f k l0_3 l1_3).bind fun t412 => (some t412)) else (some false)) else (some false)) else (some false)

set_option maxHeartbeats 8000000 in
set_option maxRecDepth 100000 in
theorem laws_likeRecord.calls (k : Nat) (a0_0 : Int) (a0_1 : Int) (a0_2 : Int) (A0_3 : Option Addr) (c0_3 : Nat) (l0_3 : List (S47)) (a1_0 : Int) (a1_1 : Int) (a1_2 : Int) (A1_3 : Option Addr) (c1_3 : Nat) (l1_3 : List (S47)) (r : Bool) (w : World) (hr0_3 : Kd.C k47 w A0_3 l0_3.length l0_3) (hc0_3 : l0_3.length ≤ c0_3) (hr1_3 : Kd.C k47 w A1_3 l1_3.length l1_3) (hc1_3 : l1_3.length ≤ c1_3) (h : laws_likeRecord.f k a0_0 a0_1 a0_2 l0_3 a1_0 a1_1 a1_2 l1_3 = some r) :
    Calls Tryz.prog 10 #[.agg #[.int .i64 a0_0, .int .i64 a0_1, .int .i64 a0_2, .slice A0_3 l0_3.length c0_3], .agg #[.int .i64 a1_0, .int .i64 a1_1, .int .i64 a1_2, .slice A1_3 l1_3.length c1_3]] w fun e w' => e = .returned (.bool r) ∧ Below w.heap.size w w' := by
 have hu26 := Tryz.underlying26
 have HR0_3 := Aside0.mk hr0_3
 have HC0_3 := Aside0.mk hc0_3
 clear hr0_3 hc0_3
 have HR1_3 := Aside0.mk hr1_3
 have HC1_3 := Aside0.mk hc1_3
 clear hr1_3 hc1_3
 have HB := Aside0.mk (Below.refl w.heap.size w)
 have H : (if a0_0 = a1_0 then (if a0_1 = a1_1 then (if a0_2 = a1_2 then ((laws_likeSets.f k l0_3 l1_3).bind fun t412 => (some t412)) else (some false)) else (some false)) else (some false)) = some r := h
 clear h
 by_cases c3 : a0_0 = a1_0
 ·rw [if_pos c3] at H
  have c3b0 : (a0_0 == a1_0) = true := beq_iff_eq.mpr c3
  have c3b1 : (a0_0 != a1_0) = false := bne_eq_false_iff_eq.mpr c3
  clear c3
  by_cases c4 : a0_1 = a1_1
  ·rw [if_pos c4] at H
   have c4b0 : (a0_1 == a1_1) = true := beq_iff_eq.mpr c4
   have c4b1 : (a0_1 != a1_1) = false := bne_eq_false_iff_eq.mpr c4
   clear c4
   by_cases c5 : a0_2 = a1_2
   ·rw [if_pos c5] at H
    have c5b0 : (a0_2 == a1_2) = true := beq_iff_eq.mpr c5
    have c5b1 : (a0_2 != a1_2) = false := bne_eq_false_iff_eq.mpr c5
    clear c5
    replace H := bs_ H
    obtain ⟨t412,A6,H⟩ := H
    obtain rfl := Option.some.inj H
    go_enter Tryz.func10,Tryz.ntmps10
    go_wp2_with (first|((with_reducible refine gate_dst (N := 2) rfl ?_);refine bx_ 2 #[.int .i64 a0_0,.int .i64 a0_1,.int .i64 a0_2,.slice A0_3 l0_3.length c0_3] 26 ?_;intro gb410 hg w7 hbox hb;replace HB := nb_ hg hbox hb;obtain ⟨BK410,GW410,GE410,HB⟩ := HB;clear hb hbox hg)|((with_reducible refine gate_dst (N := 3) rfl ?_);refine bx_ 3 #[.int .i64 a1_0,.int .i64 a1_1,.int .i64 a1_2,.slice A1_3 l1_3.length c1_3] 26 ?_;intro gb411 hg w8 hbox hb;replace HB := nb_ hg hbox hb;obtain ⟨BK411,GW411,GE411,HB⟩ := HB;have NB410_411 := Aside0.mk ((nl_ BK410 hg));have NB411_410 := Aside0.mk ((ng_ BK410 hg));replace BK410 := Aside0.mk (blk_below (kb_ BK410) hb);clear hb hbox hg;have hnb9 := NB410_411.out;have hnc9 := NB411_410.out;obtain ⟨⟨hcz10_0,hcz10_1,hcz10_2,hcz10_3⟩,hfz10_0,hfz10_1,hfz10_2,hfz10_3⟩ := cl4_ BK410.out;obtain ⟨⟨hcz11_0,hcz11_1,hcz11_2,hcz11_3⟩,hfz11_0,hfz11_1,hfz11_2,hfz11_3⟩ := cl4_ BK411.out)|(go_at_call 20;(with_reducible refine (laws_likeSets.calls k _ _ l0_3 _ _ l1_3 t412 _ ?side1 ?side2 ?side3 ?side4 A6.out).mono ?_);(case side1 => exact cb_ HR0_3);(case side2 => exact HC0_3.out);(case side3 => exact cb_ HR1_3);(case side4 => exact HC1_3.out);rintro e w' ⟨rfl,⟨nd,rfl⟩⟩))
    go_ret
    exact ⟨rf_,b_⟩
   ·rw [if_neg c5] at H
    have c5b0 : (a0_2 == a1_2) = false := beq_eq_false_iff_ne.mpr c5
    have c5b1 : (a0_2 != a1_2) = true := bne_iff_ne.mpr c5
    obtain rfl := Option.some.inj H
    go_enter Tryz.func10,Tryz.ntmps10
    go_wp2_with (first|((with_reducible refine gate_dst (N := 2) rfl ?_);refine bx_ 2 #[.int .i64 a0_0,.int .i64 a0_1,.int .i64 a0_2,.slice A0_3 l0_3.length c0_3] 26 ?_;intro gb410 hg w12 hbox hb;replace HB := nb_ hg hbox hb;obtain ⟨BK410,GW410,GE410,HB⟩ := HB;clear hb hbox hg)|((with_reducible refine gate_dst (N := 3) rfl ?_);refine bx_ 3 #[.int .i64 a1_0,.int .i64 a1_1,.int .i64 a1_2,.slice A1_3 l1_3.length c1_3] 26 ?_;intro gb411 hg w13 hbox hb;replace HB := nb_ hg hbox hb;obtain ⟨BK411,GW411,GE411,HB⟩ := HB;have NB410_411 := Aside0.mk ((nl_ BK410 hg));have NB411_410 := Aside0.mk ((ng_ BK410 hg));replace BK410 := Aside0.mk (blk_below (kb_ BK410) hb);clear hb hbox hg;have hnb14 := NB410_411.out;have hnc14 := NB411_410.out;obtain ⟨⟨hcz15_0,hcz15_1,hcz15_2,hcz15_3⟩,hfz15_0,hfz15_1,hfz15_2,hfz15_3⟩ := cl4_ BK410.out;obtain ⟨⟨hcz16_0,hcz16_1,hcz16_2,hcz16_3⟩,hfz16_0,hfz16_1,hfz16_2,hfz16_3⟩ := cl4_ BK411.out))
    go_ret
    exact ⟨rf_,b_⟩
  ·rw [if_neg c4] at H
   have c4b0 : (a0_1 == a1_1) = false := beq_eq_false_iff_ne.mpr c4
   have c4b1 : (a0_1 != a1_1) = true := bne_iff_ne.mpr c4
   obtain rfl := Option.some.inj H
   go_enter Tryz.func10,Tryz.ntmps10
   go_wp2_with (first|((with_reducible refine gate_dst (N := 2) rfl ?_);refine bx_ 2 #[.int .i64 a0_0,.int .i64 a0_1,.int .i64 a0_2,.slice A0_3 l0_3.length c0_3] 26 ?_;intro gb410 hg w17 hbox hb;replace HB := nb_ hg hbox hb;obtain ⟨BK410,GW410,GE410,HB⟩ := HB;clear hb hbox hg)|((with_reducible refine gate_dst (N := 3) rfl ?_);refine bx_ 3 #[.int .i64 a1_0,.int .i64 a1_1,.int .i64 a1_2,.slice A1_3 l1_3.length c1_3] 26 ?_;intro gb411 hg w18 hbox hb;replace HB := nb_ hg hbox hb;obtain ⟨BK411,GW411,GE411,HB⟩ := HB;have NB410_411 := Aside0.mk ((nl_ BK410 hg));have NB411_410 := Aside0.mk ((ng_ BK410 hg));replace BK410 := Aside0.mk (blk_below (kb_ BK410) hb);clear hb hbox hg;have hnb19 := NB410_411.out;have hnc19 := NB411_410.out;obtain ⟨⟨hcz20_0,hcz20_1,hcz20_2,hcz20_3⟩,hfz20_0,hfz20_1,hfz20_2,hfz20_3⟩ := cl4_ BK410.out;obtain ⟨⟨hcz21_0,hcz21_1,hcz21_2,hcz21_3⟩,hfz21_0,hfz21_1,hfz21_2,hfz21_3⟩ := cl4_ BK411.out))
   go_ret
   exact ⟨rf_,b_⟩
 ·rw [if_neg c3] at H
  have c3b0 : (a0_0 == a1_0) = false := beq_eq_false_iff_ne.mpr c3
  have c3b1 : (a0_0 != a1_0) = true := bne_iff_ne.mpr c3
  obtain rfl := Option.some.inj H
  go_enter Tryz.func10,Tryz.ntmps10
  go_wp2_with (first|((with_reducible refine gate_dst (N := 2) rfl ?_);refine bx_ 2 #[.int .i64 a0_0,.int .i64 a0_1,.int .i64 a0_2,.slice A0_3 l0_3.length c0_3] 26 ?_;intro gb410 hg w22 hbox hb;replace HB := nb_ hg hbox hb;obtain ⟨BK410,GW410,GE410,HB⟩ := HB;clear hb hbox hg)|((with_reducible refine gate_dst (N := 3) rfl ?_);refine bx_ 3 #[.int .i64 a1_0,.int .i64 a1_1,.int .i64 a1_2,.slice A1_3 l1_3.length c1_3] 26 ?_;intro gb411 hg w23 hbox hb;replace HB := nb_ hg hbox hb;obtain ⟨BK411,GW411,GE411,HB⟩ := HB;have NB410_411 := Aside0.mk ((nl_ BK410 hg));have NB411_410 := Aside0.mk ((ng_ BK410 hg));replace BK410 := Aside0.mk (blk_below (kb_ BK410) hb);clear hb hbox hg;have hnb24 := NB410_411.out;have hnc24 := NB411_410.out;obtain ⟨⟨hcz25_0,hcz25_1,hcz25_2,hcz25_3⟩,hfz25_0,hfz25_1,hfz25_2,hfz25_3⟩ := cl4_ BK410.out;obtain ⟨⟨hcz26_0,hcz26_1,hcz26_2,hcz26_3⟩,hfz26_0,hfz26_1,hfz26_2,hfz26_3⟩ := cl4_ BK411.out))
  go_ret
  exact ⟨rf_,b_⟩

end Go.Proofs.YtnilfnkdgdfnnaaGreatDoor.XRe
