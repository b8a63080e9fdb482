/- Proved: of each Go function here that a call comes to what the Lean function of its name tells. Written by a program of this session over the translation. No conditions beyond each theorem's own. -/
import Derived.Test.YtnilfnkdgdfnnaaDoorXRd0
import Derived.Test.YtnilfnkdgdfnnaaDoorXRd10
import Derived.Test.YtnilfnkdgdfnnaaDoorXRd11
import Derived.Test.YtnilfnkdgdfnnaaDoorXRd13
namespace Go.Proofs.YtnilfnkdgdfnnaaDoor.XRd
open Go.RowKit Go.Proofs.YtnilfnkdgdfnnaaDoor.Aid Go.Proofs.YtnilfnkdgdfnnaaDoorW.PrintWords Go.Proofs.YtnilfnkdgdfnnaaDoorW.PrintLast Go.Proofs.YtnilfnkdgdfnnaaDoorW.PrintMore
set_option linter.unusedVariables false
set_option linter.unusedSimpArgs false

-- NOT PRINTED: function 67 (utf8_RuneCountInString)

-- NOT PRINTED: function 83 (utf8_decodeRuneInStringSlow)

-- NOT PRINTED: function 68 (utf8_DecodeRuneInString)

-- NOT PRINTED: function 54 (strings_explode)

-- NOT PRINTED: function 98 (bytealg_IndexByteString)

-- NOT PRINTED: function 84 (stringslite_IndexByte)

-- NOT PRINTED: function 85 (bytealg_IndexString)

-- NOT PRINTED: function 86 (bytealg_Cutover)

-- NOT PRINTED: function 99 (bytealg_hashStr_string)

-- NOT PRINTED: function 87 (bytealg_IndexRabinKarp_string)

-- NOT PRINTED: function 70 (stringslite_Index)

-- NOT PRINTED: function 56 (strings_Index)

-- NOT PRINTED: function 69 (bytealg_CountString)

-- NOT PRINTED: function 55 (strings_Count)

-- NOT PRINTED: function 44 (strings_genSplit)

/-! ### strings_Split: function 24 -/
def strings_Split.f (a0 : ByteArray) (a1 : ByteArray) : Option (List ByteArray) := if a0.size < 4294967281 then (if 1 ≤ a1.size then some (Go.Lib.splitB a1 0 (Go.Lib.countB a0 a1) a0) else none) else none
set_option maxHeartbeats 8000000 in
theorem strings_Split.calls (a0 : ByteArray) (a1 : ByteArray) (r : List ByteArray) (w : World) (htb : Aside0 (Tb w)) (h : strings_Split.f a0 a1 = some r) :
    Calls Tryd.prog 24 #[.string a0, .string a1] w fun e w' => ∃ v0_ : Value, e = .returned (v0_) ∧ Kd.R Kd.string 9 w' w.heap.size (fun _ => True) v0_ r ∧ Below w.heap.size w w' := by
 unfold strings_Split.f at h
 by_cases h0 : a0.size < 4294967281
 ·rw [if_pos h0] at h
  by_cases h1 : 1 ≤ a1.size
  ·rw [if_pos h1] at h
   obtain rfl := Option.some.inj h
   clear h
   obtain ⟨m,hm⟩ := htb.out.cut
   have hl := Go.Lib.splitB_all a1 h1 0 _ a0 rfl
   have hn := Go.Lib.countB_le a1 h1 _ a0 (Nat.le_refl _)
   refine (Go.Proofs.YtnilfnkdgdfnnaaDoor.Shelf.strings_Split a0 a1 m w h0 (hm w (Below.refl _ _)) h1).mono fun e w' hh => ?_
   obtain ⟨rfl,rfl⟩ := hh
   refine ⟨_,rfl,⟨fun _ _ => trivial,?_⟩,below_alloc (Below.refl _ _) _⟩
   have ho := OwnRow.lit (R := Kd.string.M (w.alloc (.cells ((Go.Lib.splitB a1 0 (Go.Lib.countB a0 a1) a0).map Value.string).toArray 9)) w.heap.size (fun k => True ∧ some k ≠ (.slice (some ⟨w.heap.size,0,none⟩) (Go.Lib.countB a0 a1 + 1) (Go.Lib.countB a0 a1 + 1) : Value).ownBlock)) (e := 9) (size := 1) (ps := (Go.Lib.splitB a1 0 (Go.Lib.countB a0 a1) a0)) w w.heap.size (inner := (Go.Lib.splitB a1 0 (Go.Lib.countB a0 a1) a0).map Value.string) ⟨by simp,fun j p hp => ?_⟩ (Nat.le_refl _) (by omega)
   ·rw [hl] at ho
    exact ho
   ·rw [Nat.mul_one]
    have hj := (List.getElem?_eq_some_iff.1 hp)
    obtain ⟨hj,e⟩ := hj
    show _ = [Value.string p]
    rw [List.drop_eq_getElem_cons (by simpa using hj)]
    simp [e]
  ·rw [if_neg h1] at h;cases h
 ·rw [if_neg h0] at h;cases h

/-! ### impl_ReadRecord: function 11 -/
def impl_ReadRecord.f (k : Nat) (a0 : ByteArray) : Option (Int × Int × Int × (List (S47)) × Bool) := (strings_Split.f a0 (⟨#[32]⟩ : ByteArray)).bind fun t264 => ((impl_readRecord.f k t264).bind fun bt267 => (if bt267.2.2.2.2 = true then ((impl_isRecord.f k bt267.1 bt267.2.1 bt267.2.2.1 bt267.2.2.2.1).bind fun t275 => (if t275 = true then ((impl_showRecord.f k bt267.1 bt267.2.1 bt267.2.2.1 bt267.2.2.2.1).bind fun t276 => (if t276.toList = a0.toList then (some (bt267.1, bt267.2.1, bt267.2.2.1, bt267.2.2.2.1, true)) else (some (0, 0, 0, ([] : List (S47)), false)))) else (some (0, 0, 0, ([] : List (S47)), false)))) else (some (0, 0, 0, ([] : List (S47)), false))))

set_option maxHeartbeats 8000000 in
set_option maxRecDepth 100000 in
theorem impl_ReadRecord.calls (k : Nat) (a0 : ByteArray) (r1 : Int) (r2 : Int) (r3 : Int) (r4 : List (S47)) (r5 : Bool) (w : World) (htb : Aside0 (Tb w)) (h : impl_ReadRecord.f k a0 = some (r1, r2, r3, r4, r5)) :
    Calls Tryd.prog 11 #[.string a0] w fun e w' => ∃ v3_ : Value, e = .returned (.tuple #[.agg #[.int .i64 r1, .int .i64 r2, .int .i64 r3, v3_], .bool r5]) ∧ Kd.R k47 47 w' w.heap.size (fun _ => True) v3_ r4 ∧ Below w.heap.size w w' := by
 have hu29 := Tryd.underlying29
 have HB := Aside0.mk (Below.refl w.heap.size w)
 have H : ((strings_Split.f a0 (⟨#[32]⟩ : ByteArray)).bind fun t264 => ((impl_readRecord.f k t264).bind fun bt267 => (if bt267.2.2.2.2 = true then ((impl_isRecord.f k bt267.1 bt267.2.1 bt267.2.2.1 bt267.2.2.2.1).bind fun t275 => (if t275 = true then ((impl_showRecord.f k bt267.1 bt267.2.1 bt267.2.2.1 bt267.2.2.2.1).bind fun t276 => (if t276.toList = a0.toList then (some (bt267.1,bt267.2.1,bt267.2.2.1,bt267.2.2.2.1,true)) else (some (0,0,0,([] : List (S47)),false)))) else (some (0,0,0,([] : List (S47)),false)))) else (some (0,0,0,([] : List (S47)),false))))) = some (r1,r2,r3,r4,r5) := h
 clear h
 replace H := bs_ H
 obtain ⟨t264,A2,H⟩ := H
 replace H := Option.bind_eq_some_iff.mp H
 obtain ⟨⟨t267,t268,t269,t270,t273⟩,A30,H⟩ := H
 replace H : (if t273 = true then ((impl_isRecord.f k t267 t268 t269 t270).bind fun t275 => (if t275 = true then ((impl_showRecord.f k t267 t268 t269 t270).bind fun t276 => (if t276.toList = a0.toList then (some (t267,t268,t269,t270,true)) else (some (0,0,0,([] : List (S47)),false)))) else (some (0,0,0,([] : List (S47)),false)))) else (some (0,0,0,([] : List (S47)),false))) = some (r1,r2,r3,r4,r5) := H
 have A3 := Aside0.mk A30
 clear A30
 by_cases c4 : t273 = true
 ·subst c4
  replace H := it_ H
  replace H := bs_ H
  obtain ⟨t275,A5,H⟩ := H
  by_cases c6 : t275 = true
  ·subst c6
   replace H := it_ H
   replace H := bs_ H
   obtain ⟨t276,A7,H⟩ := H
   by_cases c8 : t276.toList = a0.toList
   ·rw [if_pos c8] at H
    have c8b0 : (t276.toList == a0.toList) = true := beq_iff_eq.mpr c8
    have c8b1 : (t276.toList != a0.toList) = false := bne_eq_false_iff_eq.mpr c8
    clear c8
    simp only [Option.some.injEq,Prod.mk.injEq] at H
    obtain ⟨rfl,rfl,rfl,rfl,rfl⟩ := H
    go_enter Tryd.func11,Tryd.ntmps11
    go_wp2_with (first|((with_reducible refine gate_dst (N := 2) rfl ?_);refine bx_ 2 #[.int .i64 0,.int .i64 0,.int .i64 0,.slice none 0 0] 29 ?_;intro gb263 hg w9 hbox hb;replace HB := nb_ hg hbox hb;obtain ⟨BK263,GW263,GE263,HB⟩ := HB;clear hb hbox hg)|((with_reducible refine gcal_ (f := 24) rfl ?_);refine gl_ (some 8) Tryd.func24 #[.string a0,.string (⟨#[32]⟩ : ByteArray)] ?_;(with_reducible refine (strings_Split.calls a0 (⟨#[32]⟩ : ByteArray) t264 _ ?sideT A2.out).mono ?_);(case sideT => exact tb_ htb);rintro e w10 ⟨v265,rfl,ho0,hb⟩;refine ⟨_,rfl,?_⟩;replace BK263 := Aside0.mk (blk_below (kb_ BK263) hb);have HO266 := Aside0.mk (Kd.R_lower ho0 (below_size b_));replace HB := Aside0.mk (below_step b_ hb);(try clear hb);(try clear hb2);(try clear hk);(try clear hi);(try clear ho0);obtain ⟨Ao11,co11,eo11⟩ := Kd.R_slice HO266.out;subst eo11)|((with_reducible refine gcal_ (f := 23) rfl ?_);refine gl_ (some 9) Tryd.func23 #[.slice Ao11 t264.length co11] ?_;(with_reducible refine (impl_readRecord.calls k _ _ t264 t267 t268 t269 t270 true _ ?sideT ?side1 ?side2 A3.out).mono ?_);(case sideT => exact tb_ htb);(case side1 => repeat (first|exact (Kd.R_reads' HO266.out).2.2|(with_reducible refine Kd.C_alloc ?_ _)|(with_reducible refine Kd.C_drewN ?_ _)|(with_reducible refine Kd.C_drew ?_)));(case side2 => exact (Kd.R_reads' HO266.out).2.1);rintro e w12 ⟨v271,rfl,ho0,hb⟩;refine ⟨_,rfl,?_⟩;replace HO266 := Aside0.mk (Kd.R_below (by (with_reducible repeat (first|apply Kd.R_alloc|apply Kd.R_drewN|apply Kd.R_drew));exact HO266.out) hb);replace BK263 := Aside0.mk (blk_below (kb_ BK263) hb);have HO272 := Aside0.mk (Kd.R_lower ho0 (below_size b_));replace HB := Aside0.mk (below_step b_ hb);(try clear hb);(try clear hb2);(try clear hk);(try clear hi);(try clear ho0))|((with_reducible refine gate_dst (N := 4) rfl ?_);refine bx_ 4 #[.int .i64 0,.int .i64 0,.int .i64 0,.slice none 0 0] 29 ?_;intro gb274 hg w13 hbox hb;replace HO266 := Aside0.mk (Kd.R_below (by (with_reducible repeat (first|apply Kd.R_alloc|apply Kd.R_drewN|apply Kd.R_drew));exact HO266.out) hb);replace HO272 := Aside0.mk (Kd.R_below (by (with_reducible repeat (first|apply Kd.R_alloc|apply Kd.R_drewN|apply Kd.R_drew));exact HO272.out) hb);replace HB := nb_ hg hbox hb;obtain ⟨BK274,GW274,GE274,HB⟩ := HB;have NB263_274 := Aside0.mk ((nl_ BK263 hg));have NB274_263 := Aside0.mk ((ng_ BK263 hg));replace BK263 := Aside0.mk (blk_below (kb_ BK263) hb);clear hb hbox hg;have hnb14 := NB274_263.out;have hnc14 := NB263_274.out;obtain ⟨⟨hcz15_0,hcz15_1,hcz15_2,hcz15_3⟩,hfz15_0,hfz15_1,hfz15_2,hfz15_3⟩ := cl4_ BK274.out;obtain ⟨Ao16,co16,eo16⟩ := Kd.R_slice HO272.out;subst eo16)|(go_at_call 18;(with_reducible refine (impl_isRecord.calls k t267 t268 t269 _ _ t270 true _ ?side1 ?side2 A5.out).mono ?_);(case side1 => refine (Kd.R_reads' (e := 47) (base := w.heap.size) (ok := fun k_ => True) (n := t270.length) (c := co16) ?_).2.2;exact (by (with_reducible repeat (first|apply Kd.R_alloc|apply Kd.R_drewN|apply Kd.R_drew));exact (Kd.R_mono (Kd.R_far (p := ⟨gb274,3,none⟩) (Kd.R_far (p := ⟨gb274,2,none⟩) (Kd.R_far (p := ⟨gb274,1,none⟩) (Kd.R_far (p := ⟨gb274,0,none⟩) (Kd.R_types HO272.out BK274.out (by decide)) (fun _ hk => hk.2) (.int .i64 t267)) (fun _ hk => hk.2) (.int .i64 t268)) (fun _ hk => hk.2) (.int .i64 t269)) (fun _ hk => hk.2) (.slice Ao16 t270.length co16)) (fun _ h_ => h_.1))));(case side2 => exact (Kd.R_reads' HO272.out).2.1);rintro e w17 ⟨rfl,hb⟩;replace HO266 := Aside0.mk (Kd.R_below (by (with_reducible repeat (first|apply Kd.R_alloc|apply Kd.R_drewN|apply Kd.R_drew));exact (Kd.R_mono (Kd.R_far (p := ⟨gb274,3,none⟩) (Kd.R_far (p := ⟨gb274,2,none⟩) (Kd.R_far (p := ⟨gb274,1,none⟩) (Kd.R_far (p := ⟨gb274,0,none⟩) (Kd.R_types HO266.out BK274.out (by decide)) (fun _ hk => hk.2) (.int .i64 t267)) (fun _ hk => hk.2) (.int .i64 t268)) (fun _ hk => hk.2) (.int .i64 t269)) (fun _ hk => hk.2) (.slice Ao16 t270.length co16)) (fun _ h_ => h_.1))) hb);replace HO272 := Aside0.mk (Kd.R_below (by (with_reducible repeat (first|apply Kd.R_alloc|apply Kd.R_drewN|apply Kd.R_drew));exact (Kd.R_mono (Kd.R_far (p := ⟨gb274,3,none⟩) (Kd.R_far (p := ⟨gb274,2,none⟩) (Kd.R_far (p := ⟨gb274,1,none⟩) (Kd.R_far (p := ⟨gb274,0,none⟩) (Kd.R_types HO272.out BK274.out (by decide)) (fun _ hk => hk.2) (.int .i64 t267)) (fun _ hk => hk.2) (.int .i64 t268)) (fun _ hk => hk.2) (.int .i64 t269)) (fun _ hk => hk.2) (.slice Ao16 t270.length co16)) (fun _ h_ => h_.1))) hb);replace BK263 := Aside0.mk (blk_below (kf_ BK263) hb);replace BK274 := Aside0.mk (blk_below (g := gb274) (o := .cells #[.int .i64 t267,.int .i64 t268,.int .i64 t269,.slice Ao16 t270.length co16] 29 (0,0)) (by (with_reducible repeat (first|refine blk_drewN ?_ _|refine blk_drew ?_|refine blk_alloc ?_ _));refine blk_put (cs := #[.int .i64 t267,.int .i64 t268,.int .i64 t269,.slice none 0 0]) ?_ 3 _ rfl;(with_reducible repeat (first|refine blk_drewN ?_ _|refine blk_drew ?_|refine blk_alloc ?_ _));refine blk_put (cs := #[.int .i64 t267,.int .i64 t268,.int .i64 0,.slice none 0 0]) ?_ 2 _ rfl;(with_reducible repeat (first|refine blk_drewN ?_ _|refine blk_drew ?_|refine blk_alloc ?_ _));refine blk_put (cs := #[.int .i64 t267,.int .i64 0,.int .i64 0,.slice none 0 0]) ?_ 1 _ rfl;(with_reducible repeat (first|refine blk_drewN ?_ _|refine blk_drew ?_|refine blk_alloc ?_ _));refine blk_put (cs := #[.int .i64 0,.int .i64 0,.int .i64 0,.slice none 0 0]) ?_ 0 _ rfl;(with_reducible repeat (first|refine blk_drewN ?_ _|refine blk_drew ?_|refine blk_alloc ?_ _));exact BK274.out) hb);replace HB := Aside0.mk (below_step b_ hb);(try clear hb);(try clear hb2);(try clear hk);(try clear hi);obtain ⟨⟨hcz18_0,hcz18_1,hcz18_2,hcz18_3⟩,hfz18_0,hfz18_1,hfz18_2,hfz18_3⟩ := cl4_ BK274.out)|(go_at_call 19;(with_reducible refine (impl_showRecord.calls k t267 t268 t269 _ _ t270 t276 _ ?sideT ?side1 ?side2 A7.out).mono ?_);(case sideT => exact tb_ htb);(case side1 => repeat (first|exact (Kd.R_reads' HO272.out).2.2|(with_reducible refine Kd.C_alloc ?_ _)|(with_reducible refine Kd.C_drewN ?_ _)|(with_reducible refine Kd.C_drew ?_)));(case side2 => exact (Kd.R_reads' HO272.out).2.1);rintro e w19 ⟨rfl,hb⟩;replace HO266 := Aside0.mk (Kd.R_below (by (with_reducible repeat (first|apply Kd.R_alloc|apply Kd.R_drewN|apply Kd.R_drew));exact HO266.out) hb);replace HO272 := Aside0.mk (Kd.R_below (by (with_reducible repeat (first|apply Kd.R_alloc|apply Kd.R_drewN|apply Kd.R_drew));exact HO272.out) hb);replace BK263 := Aside0.mk (blk_below (kb_ BK263) hb);replace BK274 := Aside0.mk (blk_below (kb_ BK274) hb);replace HB := Aside0.mk (below_step b_ hb);(try clear hb);(try clear hb2);(try clear hk);(try clear hi);obtain ⟨⟨hcz20_0,hcz20_1,hcz20_2,hcz20_3⟩,hfz20_0,hfz20_1,hfz20_2,hfz20_3⟩ := cl4_ BK274.out;obtain ⟨⟨hcz21_0,hcz21_1,hcz21_2,hcz21_3⟩,hfz21_0,hfz21_1,hfz21_2,hfz21_3⟩ := cl4_ BK263.out))
    refine bodyPost_ret (results_ct rfl _ _ gb263 29 #[.int .i64 t267,.int .i64 t268,.int .i64 t269,.slice Ao16 t270.length co16] (0,0) _ rfl (by (with_reducible repeat (first|refine blk_drewN ?_ _|refine blk_drew ?_|refine blk_alloc ?_ _));refine blk_put (cs := #[.int .i64 t267,.int .i64 t268,.int .i64 t269,.slice none 0 0]) ?_ 3 _ rfl;(with_reducible repeat (first|refine blk_drewN ?_ _|refine blk_drew ?_|refine blk_alloc ?_ _));refine blk_put (cs := #[.int .i64 t267,.int .i64 t268,.int .i64 0,.slice none 0 0]) ?_ 2 _ rfl;(with_reducible repeat (first|refine blk_drewN ?_ _|refine blk_drew ?_|refine blk_alloc ?_ _));refine blk_put (cs := #[.int .i64 t267,.int .i64 0,.int .i64 0,.slice none 0 0]) ?_ 1 _ rfl;(with_reducible repeat (first|refine blk_drewN ?_ _|refine blk_drew ?_|refine blk_alloc ?_ _));refine blk_put (cs := #[.int .i64 0,.int .i64 0,.int .i64 0,.slice none 0 0]) ?_ 0 _ rfl;(with_reducible repeat (first|refine blk_drewN ?_ _|refine blk_drew ?_|refine blk_alloc ?_ _));exact BK263.out) Tryd.underlying29 rfl (by kernel_rfl)) rfl ?_
    exact ⟨_,rf_,by (with_reducible repeat (first|apply Kd.R_alloc|apply Kd.R_drewN|apply Kd.R_drew));exact Kd.R_mono (Kd.R_far (p := ⟨gb263,3,none⟩) (Kd.R_far (p := ⟨gb263,2,none⟩) (Kd.R_far (p := ⟨gb263,1,none⟩) (Kd.R_far (p := ⟨gb263,0,none⟩) (Kd.R_types HO272.out BK263.out (by decide)) (fun _ hk => hk.2) (.int .i64 t267)) (fun _ hk => hk.2) (.int .i64 t268)) (fun _ hk => hk.2) (.int .i64 t269)) (fun _ hk => hk.2) (.slice Ao16 t270.length co16)) (fun _ hk => trivial),b_⟩
   ·rw [if_neg c8] at H
    have c8b0 : (t276.toList == a0.toList) = false := beq_eq_false_iff_ne.mpr c8
    have c8b1 : (t276.toList != a0.toList) = true := bne_iff_ne.mpr c8
    simp only [Option.some.injEq,Prod.mk.injEq] at H
    obtain ⟨rfl,rfl,rfl,rfl,rfl⟩ := H
    go_enter Tryd.func11,Tryd.ntmps11
    go_wp2_with (first|((with_reducible refine gate_dst (N := 2) rfl ?_);refine bx_ 2 #[.int .i64 0,.int .i64 0,.int .i64 0,.slice none 0 0] 29 ?_;intro gb263 hg w22 hbox hb;replace HB := nb_ hg hbox hb;obtain ⟨BK263,GW263,GE263,HB⟩ := HB;clear hb hbox hg)|((with_reducible refine gcal_ (f := 24) rfl ?_);refine gl_ (some 8) Tryd.func24 #[.string a0,.string (⟨#[32]⟩ : ByteArray)] ?_;(with_reducible refine (strings_Split.calls a0 (⟨#[32]⟩ : ByteArray) t264 _ ?sideT A2.out).mono ?_);(case sideT => exact tb_ htb);rintro e w23 ⟨v265,rfl,ho0,hb⟩;refine ⟨_,rfl,?_⟩;replace BK263 := Aside0.mk (blk_below (kb_ BK263) hb);have HO266 := Aside0.mk (Kd.R_lower ho0 (below_size b_));replace HB := Aside0.mk (below_step b_ hb);(try clear hb);(try clear hb2);(try clear hk);(try clear hi);(try clear ho0);obtain ⟨Ao24,co24,eo24⟩ := Kd.R_slice HO266.out;subst eo24)|((with_reducible refine gcal_ (f := 23) rfl ?_);refine gl_ (some 9) Tryd.func23 #[.slice Ao24 t264.length co24] ?_;(with_reducible refine (impl_readRecord.calls k _ _ t264 t267 t268 t269 t270 true _ ?sideT ?side1 ?side2 A3.out).mono ?_);(case sideT => exact tb_ htb);(case side1 => repeat (first|exact (Kd.R_reads' HO266.out).2.2|(with_reducible refine Kd.C_alloc ?_ _)|(with_reducible refine Kd.C_drewN ?_ _)|(with_reducible refine Kd.C_drew ?_)));(case side2 => exact (Kd.R_reads' HO266.out).2.1);rintro e w25 ⟨v271,rfl,ho0,hb⟩;refine ⟨_,rfl,?_⟩;replace HO266 := Aside0.mk (Kd.R_below (by (with_reducible repeat (first|apply Kd.R_alloc|apply Kd.R_drewN|apply Kd.R_drew));exact HO266.out) hb);replace BK263 := Aside0.mk (blk_below (kb_ BK263) hb);have HO272 := Aside0.mk (Kd.R_lower ho0 (below_size b_));replace HB := Aside0.mk (below_step b_ hb);(try clear hb);(try clear hb2);(try clear hk);(try clear hi);(try clear ho0))|((with_reducible refine gate_dst (N := 4) rfl ?_);refine bx_ 4 #[.int .i64 0,.int .i64 0,.int .i64 0,.slice none 0 0] 29 ?_;intro gb274 hg w26 hbox hb;replace HO266 := Aside0.mk (Kd.R_below (by (with_reducible repeat (first|apply Kd.R_alloc|apply Kd.R_drewN|apply Kd.R_drew));exact HO266.out) hb);replace HO272 := Aside0.mk (Kd.R_below (by (with_reducible repeat (first|apply Kd.R_alloc|apply Kd.R_drewN|apply Kd.R_drew));exact HO272.out) hb);replace HB := nb_ hg hbox hb;obtain ⟨BK274,GW274,GE274,HB⟩ := HB;have NB263_274 := Aside0.mk ((nl_ BK263 hg));have NB274_263 := Aside0.mk ((ng_ BK263 hg));replace BK263 := Aside0.mk (blk_below (kb_ BK263) hb);clear hb hbox hg;have hnb27 := NB274_263.out;have hnc27 := NB263_274.out;obtain ⟨⟨hcz28_0,hcz28_1,hcz28_2,hcz28_3⟩,hfz28_0,hfz28_1,hfz28_2,hfz28_3⟩ := cl4_ BK274.out;obtain ⟨Ao29,co29,eo29⟩ := Kd.R_slice HO272.out;subst eo29)|(go_at_call 18;(with_reducible refine (impl_isRecord.calls k t267 t268 t269 _ _ t270 true _ ?side1 ?side2 A5.out).mono ?_);(case side1 => refine (Kd.R_reads' (e := 47) (base := w.heap.size) (ok := fun k_ => True) (n := t270.length) (c := co29) ?_).2.2;exact (by (with_reducible repeat (first|apply Kd.R_alloc|apply Kd.R_drewN|apply Kd.R_drew));exact (Kd.R_mono (Kd.R_far (p := ⟨gb274,3,none⟩) (Kd.R_far (p := ⟨gb274,2,none⟩) (Kd.R_far (p := ⟨gb274,1,none⟩) (Kd.R_far (p := ⟨gb274,0,none⟩) (Kd.R_types HO272.out BK274.out (by decide)) (fun _ hk => hk.2) (.int .i64 t267)) (fun _ hk => hk.2) (.int .i64 t268)) (fun _ hk => hk.2) (.int .i64 t269)) (fun _ hk => hk.2) (.slice Ao29 t270.length co29)) (fun _ h_ => h_.1))));(case side2 => exact (Kd.R_reads' HO272.out).2.1);rintro e w30 ⟨rfl,hb⟩;replace HO266 := Aside0.mk (Kd.R_below (by (with_reducible repeat (first|apply Kd.R_alloc|apply Kd.R_drewN|apply Kd.R_drew));exact (Kd.R_mono (Kd.R_far (p := ⟨gb274,3,none⟩) (Kd.R_far (p := ⟨gb274,2,none⟩) (Kd.R_far (p := ⟨gb274,1,none⟩) (Kd.R_far (p := ⟨gb274,0,none⟩) (Kd.R_types HO266.out BK274.out (by decide)) (fun _ hk => hk.2) (.int .i64 t267)) (fun _ hk => hk.2) (.int .i64 t268)) (fun _ hk => hk.2) (.int .i64 t269)) (fun _ hk => hk.2) (.slice Ao29 t270.length co29)) (fun _ h_ => h_.1))) hb);replace HO272 := Aside0.mk (Kd.R_below (by (with_reducible repeat (first|apply Kd.R_alloc|apply Kd.R_drewN|apply Kd.R_drew));exact (Kd.R_mono (Kd.R_far (p := ⟨gb274,3,none⟩) (Kd.R_far (p := ⟨gb274,2,none⟩) (Kd.R_far (p := ⟨gb274,1,none⟩) (Kd.R_far (p := ⟨gb274,0,none⟩) (Kd.R_types HO272.out BK274.out (by decide)) (fun _ hk => hk.2) (.int .i64 t267)) (fun _ hk => hk.2) (.int .i64 t268)) (fun _ hk => hk.2) (.int .i64 t269)) (fun _ hk => hk.2) (.slice Ao29 t270.length co29)) (fun _ h_ => h_.1))) hb);replace BK263 := Aside0.mk (blk_below (kf_ BK263) hb);replace BK274 := Aside0.mk (blk_below (g := gb274) (o := .cells #[.int .i64 t267,.int .i64 t268,.int .i64 t269,.slice Ao29 t270.length co29] 29 (0,0)) (by (with_reducible repeat (first|refine blk_drewN ?_ _|refine blk_drew ?_|refine blk_alloc ?_ _));refine blk_put (cs := #[.int .i64 t267,.int .i64 t268,.int .i64 t269,.slice none 0 0]) ?_ 3 _ rfl;(with_reducible repeat (first|refine blk_drewN ?_ _|refine blk_drew ?_|refine blk_alloc ?_ _));refine blk_put (cs := #[.int .i64 t267,.int .i64 t268,.int .i64 0,.slice none 0 0]) ?_ 2 _ rfl;(with_reducible repeat (first|refine blk_drewN ?_ _|refine blk_drew ?_|refine blk_alloc ?_ _));refine blk_put (cs := #[.int .i64 t267,.int .i64 0,.int .i64 0,.slice none 0 0]) ?_ 1 _ rfl;(with_reducible repeat (first|refine blk_drewN ?_ _|refine blk_drew ?_|refine blk_alloc ?_ _));refine blk_put (cs := #[.int .i64 0,.int .i64 0,.int .i64 0,.slice none 0 0]) ?_ 0 _ rfl;(with_reducible repeat (first|refine blk_drewN ?_ _|refine blk_drew ?_|refine blk_alloc ?_ _));exact BK274.out) hb);replace HB := Aside0.mk (below_step b_ hb);(try clear hb);(try clear hb2);(try clear hk);(try clear hi);obtain ⟨⟨hcz31_0,hcz31_1,hcz31_2,hcz31_3⟩,hfz31_0,hfz31_1,hfz31_2,hfz31_3⟩ := cl4_ BK274.out)|(go_at_call 19;(with_reducible refine (impl_showRecord.calls k t267 t268 t269 _ _ t270 t276 _ ?sideT ?side1 ?side2 A7.out).mono ?_);(case sideT => exact tb_ htb);(case side1 => repeat (first|exact (Kd.R_reads' HO272.out).2.2|(with_reducible refine Kd.C_alloc ?_ _)|(with_reducible refine Kd.C_drewN ?_ _)|(with_reducible refine Kd.C_drew ?_)));(case side2 => exact (Kd.R_reads' HO272.out).2.1);rintro e w32 ⟨rfl,hb⟩;replace HO266 := Aside0.mk (Kd.R_below (by (with_reducible repeat (first|apply Kd.R_alloc|apply Kd.R_drewN|apply Kd.R_drew));exact HO266.out) hb);replace HO272 := Aside0.mk (Kd.R_below (by (with_reducible repeat (first|apply Kd.R_alloc|apply Kd.R_drewN|apply Kd.R_drew));exact HO272.out) hb);replace BK263 := Aside0.mk (blk_below (kb_ BK263) hb);replace BK274 := Aside0.mk (blk_below (kb_ BK274) hb);replace HB := Aside0.mk (below_step b_ hb);(try clear hb);(try clear hb2);(try clear hk);(try clear hi);obtain ⟨⟨hcz33_0,hcz33_1,hcz33_2,hcz33_3⟩,hfz33_0,hfz33_1,hfz33_2,hfz33_3⟩ := cl4_ BK263.out))
    refine bodyPost_ret (results_ct rfl _ _ gb263 29 #[.int .i64 0,.int .i64 0,.int .i64 0,.slice none 0 0] (0,0) _ rfl (by (with_reducible repeat (first|refine blk_drewN ?_ _|refine blk_drew ?_|refine blk_alloc ?_ _));refine blk_put (cs := #[.int .i64 0,.int .i64 0,.int .i64 0,.slice none 0 0]) ?_ 3 _ rfl;(with_reducible repeat (first|refine blk_drewN ?_ _|refine blk_drew ?_|refine blk_alloc ?_ _));refine blk_put (cs := #[.int .i64 0,.int .i64 0,.int .i64 0,.slice none 0 0]) ?_ 2 _ rfl;(with_reducible repeat (first|refine blk_drewN ?_ _|refine blk_drew ?_|refine blk_alloc ?_ _));refine blk_put (cs := #[.int .i64 0,.int .i64 0,.int .i64 0,.slice none 0 0]) ?_ 1 _ rfl;(with_reducible repeat (first|refine blk_drewN ?_ _|refine blk_drew ?_|refine blk_alloc ?_ _));refine blk_put (cs := #[.int .i64 0,.int .i64 0,.int .i64 0,.slice none 0 0]) ?_ 0 _ rfl;(with_reducible repeat (first|refine blk_drewN ?_ _|refine blk_drew ?_|refine blk_alloc ?_ _));exact BK263.out) Tryd.underlying29 rfl (by kernel_rfl)) rfl ?_
    exact ⟨_,rf_,by first|exact Kd.R_nil _ _ _ _ _|exact Kd.N_nil _ _ _ _ _|exact Kd.V_nil _ _ _ _ _|exact Kd.Q_nil _ _ _ _ _|exact Kd.S_nil _ _ _ _ _,b_⟩
  ·replace c6 := Bool.eq_false_iff.mpr c6
   subst c6
   replace H := ie_ H
   simp only [Option.some.injEq,Prod.mk.injEq] at H
   obtain ⟨rfl,rfl,rfl,rfl,rfl⟩ := H
   go_enter Tryd.func11,Tryd.ntmps11
   go_wp2_with (first|((with_reducible refine gate_dst (N := 2) rfl ?_);refine bx_ 2 #[.int .i64 0,.int .i64 0,.int .i64 0,.slice none 0 0] 29 ?_;intro gb263 hg w34 hbox hb;replace HB := nb_ hg hbox hb;obtain ⟨BK263,GW263,GE263,HB⟩ := HB;clear hb hbox hg)|((with_reducible refine gcal_ (f := 24) rfl ?_);refine gl_ (some 8) Tryd.func24 #[.string a0,.string (⟨#[32]⟩ : ByteArray)] ?_;(with_reducible refine (strings_Split.calls a0 (⟨#[32]⟩ : ByteArray) t264 _ ?sideT A2.out).mono ?_);(case sideT => exact tb_ htb);rintro e w35 ⟨v265,rfl,ho0,hb⟩;refine ⟨_,rfl,?_⟩;replace BK263 := Aside0.mk (blk_below (kb_ BK263) hb);have HO266 := Aside0.mk (Kd.R_lower ho0 (below_size b_));replace HB := Aside0.mk (below_step b_ hb);(try clear hb);(try clear hb2);(try clear hk);(try clear hi);(try clear ho0);obtain ⟨Ao36,co36,eo36⟩ := Kd.R_slice HO266.out;subst eo36)|((with_reducible refine gcal_ (f := 23) rfl ?_);refine gl_ (some 9) Tryd.func23 #[.slice Ao36 t264.length co36] ?_;(with_reducible refine (impl_readRecord.calls k _ _ t264 t267 t268 t269 t270 true _ ?sideT ?side1 ?side2 A3.out).mono ?_);(case sideT => exact tb_ htb);(case side1 => repeat (first|exact (Kd.R_reads' HO266.out).2.2|(with_reducible refine Kd.C_alloc ?_ _)|(with_reducible refine Kd.C_drewN ?_ _)|(with_reducible refine Kd.C_drew ?_)));(case side2 => exact (Kd.R_reads' HO266.out).2.1);rintro e w37 ⟨v271,rfl,ho0,hb⟩;refine ⟨_,rfl,?_⟩;replace HO266 := Aside0.mk (Kd.R_below (by (with_reducible repeat (first|apply Kd.R_alloc|apply Kd.R_drewN|apply Kd.R_drew));exact HO266.out) hb);replace BK263 := Aside0.mk (blk_below (kb_ BK263) hb);have HO272 := Aside0.mk (Kd.R_lower ho0 (below_size b_));replace HB := Aside0.mk (below_step b_ hb);(try clear hb);(try clear hb2);(try clear hk);(try clear hi);(try clear ho0))|((with_reducible refine gate_dst (N := 4) rfl ?_);refine bx_ 4 #[.int .i64 0,.int .i64 0,.int .i64 0,.slice none 0 0] 29 ?_;intro gb274 hg w38 hbox hb;replace HO266 := Aside0.mk (Kd.R_below (by (with_reducible repeat (first|apply Kd.R_alloc|apply Kd.R_drewN|apply Kd.R_drew));exact HO266.out) hb);replace HO272 := Aside0.mk (Kd.R_below (by (with_reducible repeat (first|apply Kd.R_alloc|apply Kd.R_drewN|apply Kd.R_drew));exact HO272.out) hb);replace HB := nb_ hg hbox hb;obtain ⟨BK274,GW274,GE274,HB⟩ := HB;have NB263_274 := Aside0.mk ((nl_ BK263 hg));have NB274_263 := Aside0.mk ((ng_ BK263 hg));replace BK263 := Aside0.mk (blk_below (kb_ BK263) hb);clear hb hbox hg;have hnb39 := NB274_263.out;have hnc39 := NB263_274.out;obtain ⟨⟨hcz40_0,hcz40_1,hcz40_2,hcz40_3⟩,hfz40_0,hfz40_1,hfz40_2,hfz40_3⟩ := cl4_ BK274.out;obtain ⟨Ao41,co41,eo41⟩ := Kd.R_slice HO272.out;subst eo41)|(go_at_call 18;(with_reducible refine (impl_isRecord.calls k t267 t268 t269 _ _ t270 false _ ?side1 ?side2 A5.out).mono ?_);(case side1 => refine (Kd.R_reads' (e := 47) (base := w.heap.size) (ok := fun k_ => True) (n := t270.length) (c := co41) ?_).2.2;exact (by (with_reducible repeat (first|apply Kd.R_alloc|apply Kd.R_drewN|apply Kd.R_drew));exact (Kd.R_mono (Kd.R_far (p := ⟨gb274,3,none⟩) (Kd.R_far (p := ⟨gb274,2,none⟩) (Kd.R_far (p := ⟨gb274,1,none⟩) (Kd.R_far (p := ⟨gb274,0,none⟩) (Kd.R_types HO272.out BK274.out (by decide)) (fun _ hk => hk.2) (.int .i64 t267)) (fun _ hk => hk.2) (.int .i64 t268)) (fun _ hk => hk.2) (.int .i64 t269)) (fun _ hk => hk.2) (.slice Ao41 t270.length co41)) (fun _ h_ => h_.1))));(case side2 => exact (Kd.R_reads' HO272.out).2.1);rintro e w42 ⟨rfl,hb⟩;replace HO266 := Aside0.mk (Kd.R_below (by (with_reducible repeat (first|apply Kd.R_alloc|apply Kd.R_drewN|apply Kd.R_drew));exact (Kd.R_mono (Kd.R_far (p := ⟨gb274,3,none⟩) (Kd.R_far (p := ⟨gb274,2,none⟩) (Kd.R_far (p := ⟨gb274,1,none⟩) (Kd.R_far (p := ⟨gb274,0,none⟩) (Kd.R_types HO266.out BK274.out (by decide)) (fun _ hk => hk.2) (.int .i64 t267)) (fun _ hk => hk.2) (.int .i64 t268)) (fun _ hk => hk.2) (.int .i64 t269)) (fun _ hk => hk.2) (.slice Ao41 t270.length co41)) (fun _ h_ => h_.1))) hb);replace HO272 := Aside0.mk (Kd.R_below (by (with_reducible repeat (first|apply Kd.R_alloc|apply Kd.R_drewN|apply Kd.R_drew));exact (Kd.R_mono (Kd.R_far (p := ⟨gb274,3,none⟩) (Kd.R_far (p := ⟨gb274,2,none⟩) (Kd.R_far (p := ⟨gb274,1,none⟩) (Kd.R_far (p := ⟨gb274,0,none⟩) (Kd.R_types HO272.out BK274.out (by decide)) (fun _ hk => hk.2) (.int .i64 t267)) (fun _ hk => hk.2) (.int .i64 t268)) (fun _ hk => hk.2) (.int .i64 t269)) (fun _ hk => hk.2) (.slice Ao41 t270.length co41)) (fun _ h_ => h_.1))) hb);replace BK263 := Aside0.mk (blk_below (kf_ BK263) hb);replace BK274 := Aside0.mk (blk_below (g := gb274) (o := .cells #[.int .i64 t267,.int .i64 t268,.int .i64 t269,.slice Ao41 t270.length co41] 29 (0,0)) (by (with_reducible repeat (first|refine blk_drewN ?_ _|refine blk_drew ?_|refine blk_alloc ?_ _));refine blk_put (cs := #[.int .i64 t267,.int .i64 t268,.int .i64 t269,.slice none 0 0]) ?_ 3 _ rfl;(with_reducible repeat (first|refine blk_drewN ?_ _|refine blk_drew ?_|refine blk_alloc ?_ _));refine blk_put (cs := #[.int .i64 t267,.int .i64 t268,.int .i64 0,.slice none 0 0]) ?_ 2 _ rfl;(with_reducible repeat (first|refine blk_drewN ?_ _|refine blk_drew ?_|refine blk_alloc ?_ _));refine blk_put (cs := #[.int .i64 t267,.int .i64 0,.int .i64 0,.slice none 0 0]) ?_ 1 _ rfl;(with_reducible repeat (first|refine blk_drewN ?_ _|refine blk_drew ?_|refine blk_alloc ?_ _));refine blk_put (cs := #[.int .i64 0,.int .i64 0,.int .i64 0,.slice none 0 0]) ?_ 0 _ rfl;(with_reducible repeat (first|refine blk_drewN ?_ _|refine blk_drew ?_|refine blk_alloc ?_ _));exact BK274.out) hb);replace HB := Aside0.mk (below_step b_ hb);(try clear hb);(try clear hb2);(try clear hk);(try clear hi);obtain ⟨⟨hcz43_0,hcz43_1,hcz43_2,hcz43_3⟩,hfz43_0,hfz43_1,hfz43_2,hfz43_3⟩ := cl4_ BK263.out))
   refine bodyPost_ret (results_ct rfl _ _ gb263 29 #[.int .i64 0,.int .i64 0,.int .i64 0,.slice none 0 0] (0,0) _ rfl (by (with_reducible repeat (first|refine blk_drewN ?_ _|refine blk_drew ?_|refine blk_alloc ?_ _));refine blk_put (cs := #[.int .i64 0,.int .i64 0,.int .i64 0,.slice none 0 0]) ?_ 3 _ rfl;(with_reducible repeat (first|refine blk_drewN ?_ _|refine blk_drew ?_|refine blk_alloc ?_ _));refine blk_put (cs := #[.int .i64 0,.int .i64 0,.int .i64 0,.slice none 0 0]) ?_ 2 _ rfl;(with_reducible repeat (first|refine blk_drewN ?_ _|refine blk_drew ?_|refine blk_alloc ?_ _));refine blk_put (cs := #[.int .i64 0,.int .i64 0,.int .i64 0,.slice none 0 0]) ?_ 1 _ rfl;(with_reducible repeat (first|refine blk_drewN ?_ _|refine blk_drew ?_|refine blk_alloc ?_ _));refine blk_put (cs := #[.int .i64 0,.int .i64 0,.int .i64 0,.slice none 0 0]) ?_ 0 _ rfl;(with_reducible repeat (first|refine blk_drewN ?_ _|refine blk_drew ?_|refine blk_alloc ?_ _));exact BK263.out) Tryd.underlying29 rfl (by kernel_rfl)) rfl ?_
   exact ⟨_,rf_,by first|exact Kd.R_nil _ _ _ _ _|exact Kd.N_nil _ _ _ _ _|exact Kd.V_nil _ _ _ _ _|exact Kd.Q_nil _ _ _ _ _|exact Kd.S_nil _ _ _ _ _,b_⟩
 ·replace c4 := Bool.eq_false_iff.mpr c4
  subst c4
  replace H := ie_ H
  simp only [Option.some.injEq,Prod.mk.injEq] at H
  obtain ⟨rfl,rfl,rfl,rfl,rfl⟩ := H
  go_enter Tryd.func11,Tryd.ntmps11
  go_wp2_with (first|((with_reducible refine gate_dst (N := 2) rfl ?_);refine bx_ 2 #[.int .i64 0,.int .i64 0,.int .i64 0,.slice none 0 0] 29 ?_;intro gb263 hg w44 hbox hb;replace HB := nb_ hg hbox hb;obtain ⟨BK263,GW263,GE263,HB⟩ := HB;clear hb hbox hg)|((with_reducible refine gcal_ (f := 24) rfl ?_);refine gl_ (some 8) Tryd.func24 #[.string a0,.string (⟨#[32]⟩ : ByteArray)] ?_;(with_reducible refine (strings_Split.calls a0 (⟨#[32]⟩ : ByteArray) t264 _ ?sideT A2.out).mono ?_);(case sideT => exact tb_ htb);rintro e w45 ⟨v265,rfl,ho0,hb⟩;refine ⟨_,rfl,?_⟩;replace BK263 := Aside0.mk (blk_below (kb_ BK263) hb);have HO266 := Aside0.mk (Kd.R_lower ho0 (below_size b_));replace HB := Aside0.mk (below_step b_ hb);(try clear hb);(try clear hb2);(try clear hk);(try clear hi);(try clear ho0);obtain ⟨Ao46,co46,eo46⟩ := Kd.R_slice HO266.out;subst eo46)|((with_reducible refine gcal_ (f := 23) rfl ?_);refine gl_ (some 9) Tryd.func23 #[.slice Ao46 t264.length co46] ?_;(with_reducible refine (impl_readRecord.calls k _ _ t264 t267 t268 t269 t270 false _ ?sideT ?side1 ?side2 A3.out).mono ?_);(case sideT => exact tb_ htb);(case side1 => repeat (first|exact (Kd.R_reads' HO266.out).2.2|(with_reducible refine Kd.C_alloc ?_ _)|(with_reducible refine Kd.C_drewN ?_ _)|(with_reducible refine Kd.C_drew ?_)));(case side2 => exact (Kd.R_reads' HO266.out).2.1);rintro e w47 ⟨v271,rfl,ho0,hb⟩;refine ⟨_,rfl,?_⟩;replace HO266 := Aside0.mk (Kd.R_below (by (with_reducible repeat (first|apply Kd.R_alloc|apply Kd.R_drewN|apply Kd.R_drew));exact HO266.out) hb);replace BK263 := Aside0.mk (blk_below (kb_ BK263) hb);have HO272 := Aside0.mk (Kd.R_lower ho0 (below_size b_));replace HB := Aside0.mk (below_step b_ hb);(try clear hb);(try clear hb2);(try clear hk);(try clear hi);(try clear ho0))|((with_reducible refine gate_dst (N := 4) rfl ?_);refine bx_ 4 #[.int .i64 0,.int .i64 0,.int .i64 0,.slice none 0 0] 29 ?_;intro gb274 hg w48 hbox hb;replace HO266 := Aside0.mk (Kd.R_below (by (with_reducible repeat (first|apply Kd.R_alloc|apply Kd.R_drewN|apply Kd.R_drew));exact HO266.out) hb);replace HO272 := Aside0.mk (Kd.R_below (by (with_reducible repeat (first|apply Kd.R_alloc|apply Kd.R_drewN|apply Kd.R_drew));exact HO272.out) hb);replace HB := nb_ hg hbox hb;obtain ⟨BK274,GW274,GE274,HB⟩ := HB;have NB263_274 := Aside0.mk ((nl_ BK263 hg));have NB274_263 := Aside0.mk ((ng_ BK263 hg));replace BK263 := Aside0.mk (blk_below (kb_ BK263) hb);clear hb hbox hg;have hnb49 := NB274_263.out;have hnc49 := NB263_274.out;obtain ⟨⟨hcz50_0,hcz50_1,hcz50_2,hcz50_3⟩,hfz50_0,hfz50_1,hfz50_2,hfz50_3⟩ := cl4_ BK274.out;obtain ⟨Ao51,co51,eo51⟩ := Kd.R_slice HO272.out;subst eo51;obtain ⟨⟨hcz52_0,hcz52_1,hcz52_2,hcz52_3⟩,hfz52_0,hfz52_1,hfz52_2,hfz52_3⟩ := cl4_ BK263.out))
  refine bodyPost_ret (results_ct rfl _ _ gb263 29 #[.int .i64 0,.int .i64 0,.int .i64 0,.slice none 0 0] (0,0) _ rfl (by (with_reducible repeat (first|refine blk_drewN ?_ _|refine blk_drew ?_|refine blk_alloc ?_ _));refine blk_put (cs := #[.int .i64 0,.int .i64 0,.int .i64 0,.slice none 0 0]) ?_ 3 _ rfl;(with_reducible repeat (first|refine blk_drewN ?_ _|refine blk_drew ?_|refine blk_alloc ?_ _));refine blk_put (cs := #[.int .i64 0,.int .i64 0,.int .i64 0,.slice none 0 0]) ?_ 2 _ rfl;(with_reducible repeat (first|refine blk_drewN ?_ _|refine blk_drew ?_|refine blk_alloc ?_ _));refine blk_put (cs := #[.int .i64 0,.int .i64 0,.int .i64 0,.slice none 0 0]) ?_ 1 _ rfl;(with_reducible repeat (first|refine blk_drewN ?_ _|refine blk_drew ?_|refine blk_alloc ?_ _));refine blk_put (cs := #[.int .i64 0,.int .i64 0,.int .i64 0,.slice none 0 0]) ?_ 0 _ rfl;(with_reducible repeat (first|refine blk_drewN ?_ _|refine blk_drew ?_|refine blk_alloc ?_ _));refine blk_far ?_ NB263_274.out _;(with_reducible repeat (first|refine blk_drewN ?_ _|refine blk_drew ?_|refine blk_alloc ?_ _));refine blk_far ?_ NB263_274.out _;(with_reducible repeat (first|refine blk_drewN ?_ _|refine blk_drew ?_|refine blk_alloc ?_ _));refine blk_far ?_ NB263_274.out _;(with_reducible repeat (first|refine blk_drewN ?_ _|refine blk_drew ?_|refine blk_alloc ?_ _));refine blk_far ?_ NB263_274.out _;(with_reducible repeat (first|refine blk_drewN ?_ _|refine blk_drew ?_|refine blk_alloc ?_ _));exact BK263.out) Tryd.underlying29 rfl (by kernel_rfl)) rfl ?_
  exact ⟨_,rf_,by first|exact Kd.R_nil _ _ _ _ _|exact Kd.N_nil _ _ _ _ _|exact Kd.V_nil _ _ _ _ _|exact Kd.Q_nil _ _ _ _ _|exact Kd.S_nil _ _ _ _ _,b_⟩

/-! ### laws_markSetS: function 25 -/
def laws_markSetS.l0 : Nat → List (S47) → Int → Int → Option (Int × (List (S47)))
  | 0, _, _, _ => none
  | k + 1, x0, x1, x5 => if x5 < (x0.length : Int) then (if 0 ≤ x5 then ((some (x0.set (x5 : Int).toNat (⟨x1, (rd_T47 x0 x5).f1, (rd_T47 x0 x5).f2, (rd_T47 x0 x5).f3, (rd_T47 x0 x5).f4⟩ : S47) : List (S47))).bind fun y277 => ((some (y277.set (x5 : Int).toNat (⟨(rd_T47 y277 x5).f0, wrap64 (x1 + 1), (rd_T47 y277 x5).f2, (rd_T47 y277 x5).f3, (rd_T47 y277 x5).f4⟩ : S47) : List (S47))).bind fun y278 => ((some (y278.set (x5 : Int).toNat (⟨(rd_T47 y278 x5).f0, (rd_T47 y278 x5).f1, wrap64 ((wrap64 (x1 + 1)) + 1), (rd_T47 y278 x5).f3, (rd_T47 y278 x5).f4⟩ : S47) : List (S47))).bind fun y279 => ((some (y279.set (x5 : Int).toNat (⟨(rd_T47 y279 x5).f0, (rd_T47 y279 x5).f1, (rd_T47 y279 x5).f2, ((Int.tmod (wrap64 ((wrap64 ((wrap64 (x1 + 1)) + 1)) + 1)) 3) == 0), (rd_T47 y279 x5).f4⟩ : S47) : List (S47))).bind fun y280 => (laws_markSetS.l0 k (y280.set (x5 : Int).toNat (⟨(rd_T47 y280 x5).f0, (rd_T47 y280 x5).f1, (rd_T47 y280 x5).f2, (rd_T47 y280 x5).f3, wrap64 ((wrap64 ((wrap64 ((wrap64 (x1 + 1)) + 1)) + 1)) + 1)⟩ : S47)) (wrap64 ((wrap64 ((wrap64 ((wrap64 ((wrap64 (x1 + 1)) + 1)) + 1)) + 1)) + 1)) (wrap64 (x5 + 1))))))) else (none)) else (some (x1, x0))
def laws_markSetS.f (k : Nat) (l0 : List (S47)) (a1 : Int) : Option (Int × (List (S47))) := laws_markSetS.l0 k l0 a1 0

set_option maxHeartbeats 8000000 in
set_option maxRecDepth 100000 in
theorem laws_markSetS.calls (k : Nat) (P0_ : Nat → Prop) (u9000_ : Value) (l0 : List (S47)) (a1 : Int) (r1 : Int) (r2 : List (S47)) (w0 w : World) (hB : Below w0.heap.size w0 w) (ho0 : Kd.R k47 47 w w0.heap.size P0_ u9000_ l0) (h : laws_markSetS.f k l0 a1 = some (r1, r2)) :
    Calls Tryd.prog 25 #[u9000_, .int .i64 a1] w fun e w' => e = .returned (.int .i64 r1) ∧ Kd.R k47 47 w' w0.heap.size (fun k_ => (P0_ k_ ∨ w.heap.size ≤ k_)) u9000_ r2 ∧ Below w0.heap.size w0 w' ∧ Kept w w' (fun k_ => P0_ k_) := by
 have HO0 := Aside0.mk (show Kd.R k47 47 w w0.heap.size (fun k_ => (P0_ k_ ∨ w.heap.size ≤ k_)) u9000_ l0 from Kd.R_mono ho0 (fun k_ hk => (.inl hk)))
 have HK := Aside0.mk (Kept.refl w (fun k_ => P0_ k_))
 have HW0 := Aside0.mk hB.size
 have HB := Aside0.mk hB
 clear hB
 have H : (laws_markSetS.l0 k l0 a1 0) = some (r1,r2) := h
 clear h
 have H' := Aside0.mk H
 clear H
 go_enter Tryd.func25,Tryd.ntmps25
 go_wp2
 go_loopg [1,5] k (fun kq v1 v5 w' => ∃ (x0_1 : List (S47)) (x1_1 : Int) (x5_1 : Int),v1 = .int .i64 x1_1 ∧ v5 = .int .i64 x5_1 ∧ Aside0 (laws_markSetS.l0 kq x0_1 x1_1 x5_1 = some (r1,r2)) ∧ Aside0 (kq ≤ k) ∧ Aside0 (Kd.R k47 47 w' w0.heap.size (fun k_ => (P0_ k_ ∨ w.heap.size ≤ k_)) u9000_ x0_1) ∧ Aside0 (Kept w w' (fun k_ => P0_ k_)) ∧ Aside0 (Below w0.heap.size w0 w'))
 case atStart => exact ⟨(l0),(a1),(0),rs_,rs_,H',⟨Nat.le_refl _⟩,⟨by (with_reducible repeat (first|apply Kd.R_alloc|apply Kd.R_drewN|apply Kd.R_drew));exact HO0.out⟩,⟨by repeat (first|(with_reducible first|exact HK.out|apply Kept.alloc|apply Kept.drewN|apply Kept.drew)|exact HK.out)⟩,⟨b_⟩⟩
 case round =>
  clear H'
  try clear c2
  try clear p2
  obtain ⟨x0_1,x1_1,x5_1,rfl,rfl,HA,HK1,HO_0,HK,HB⟩ := hrel
  cases gk with
    | zero => exact absurd HA.out (by simp [laws_markSetS.l0])
    | succ k1 =>
   have H := HA.out
   clear HA
   simp only [laws_markSetS.l0] at H
   by_cases c3 : x5_1 < (x0_1.length : Int)
   ·rw [if_pos c3] at H
    have c3b0 : decide (x5_1 < (x0_1.length : Int)) = true := decide_eq_true c3
    clear c3
    by_cases c4 : 0 ≤ x5_1
    ·rw [if_pos c4] at H
     have c4b0 : decide (0 ≤ x5_1) = true := decide_eq_true c4
     clear c4
     obtain ⟨y277,hy277⟩ : ∃ y_ : List (S47),y_ = (x0_1.set (x5_1 : Int).toNat (⟨x1_1,(rd_T47 x0_1 x5_1).f1,(rd_T47 x0_1 x5_1).f2,(rd_T47 x0_1 x5_1).f3,(rd_T47 x0_1 x5_1).f4⟩ : S47)) := ⟨_,rfl⟩
     replace H : ((some (y277.set (x5_1 : Int).toNat (⟨(rd_T47 y277 x5_1).f0,wrap64 (x1_1 + 1),(rd_T47 y277 x5_1).f2,(rd_T47 y277 x5_1).f3,(rd_T47 y277 x5_1).f4⟩ : S47) : List (S47))).bind fun y278 => ((some (y278.set (x5_1 : Int).toNat (⟨(rd_T47 y278 x5_1).f0,(rd_T47 y278 x5_1).f1,wrap64 ((wrap64 (x1_1 + 1)) + 1),(rd_T47 y278 x5_1).f3,(rd_T47 y278 x5_1).f4⟩ : S47) : List (S47))).bind fun y279 => ((some (y279.set (x5_1 : Int).toNat (⟨(rd_T47 y279 x5_1).f0,(rd_T47 y279 x5_1).f1,(rd_T47 y279 x5_1).f2,((Int.tmod (wrap64 ((wrap64 ((wrap64 (x1_1 + 1)) + 1)) + 1)) 3) == 0),(rd_T47 y279 x5_1).f4⟩ : S47) : List (S47))).bind fun y280 => (laws_markSetS.l0 k1 (y280.set (x5_1 : Int).toNat (⟨(rd_T47 y280 x5_1).f0,(rd_T47 y280 x5_1).f1,(rd_T47 y280 x5_1).f2,(rd_T47 y280 x5_1).f3,wrap64 ((wrap64 ((wrap64 ((wrap64 (x1_1 + 1)) + 1)) + 1)) + 1)⟩ : S47)) (wrap64 ((wrap64 ((wrap64 ((wrap64 ((wrap64 (x1_1 + 1)) + 1)) + 1)) + 1)) + 1)) (wrap64 (x5_1 + 1)))))) = some (r1,r2) := by first|(rw [hy277];with_reducible exact H)|(have H2_ := (Option.bind_some _ _).symm.trans H;rw [hy277];with_reducible exact H2_)|(have H2_ := (Option.bind_some _ _).symm.trans H;with_reducible exact H2_)|with_reducible exact H|(rw [hy277];exact H)|exact H
     have Ny277 := Aside0.mk hy277
     clear hy277
     obtain ⟨y278,hy278⟩ : ∃ y_ : List (S47),y_ = (y277.set (x5_1 : Int).toNat (⟨(rd_T47 y277 x5_1).f0,wrap64 (x1_1 + 1),(rd_T47 y277 x5_1).f2,(rd_T47 y277 x5_1).f3,(rd_T47 y277 x5_1).f4⟩ : S47)) := ⟨_,rfl⟩
     replace H : ((some (y278.set (x5_1 : Int).toNat (⟨(rd_T47 y278 x5_1).f0,(rd_T47 y278 x5_1).f1,wrap64 ((wrap64 (x1_1 + 1)) + 1),(rd_T47 y278 x5_1).f3,(rd_T47 y278 x5_1).f4⟩ : S47) : List (S47))).bind fun y279 => ((some (y279.set (x5_1 : Int).toNat (⟨(rd_T47 y279 x5_1).f0,(rd_T47 y279 x5_1).f1,(rd_T47 y279 x5_1).f2,((Int.tmod (wrap64 ((wrap64 ((wrap64 (x1_1 + 1)) + 1)) + 1)) 3) == 0),(rd_T47 y279 x5_1).f4⟩ : S47) : List (S47))).bind fun y280 => (laws_markSetS.l0 k1 (y280.set (x5_1 : Int).toNat (⟨(rd_T47 y280 x5_1).f0,(rd_T47 y280 x5_1).f1,(rd_T47 y280 x5_1).f2,(rd_T47 y280 x5_1).f3,wrap64 ((wrap64 ((wrap64 ((wrap64 (x1_1 + 1)) + 1)) + 1)) + 1)⟩ : S47)) (wrap64 ((wrap64 ((wrap64 ((wrap64 ((wrap64 (x1_1 + 1)) + 1)) + 1)) + 1)) + 1)) (wrap64 (x5_1 + 1))))) = some (r1,r2) := by first|(rw [hy278];with_reducible exact H)|(have H2_ := (Option.bind_some _ _).symm.trans H;rw [hy278];with_reducible exact H2_)|(have H2_ := (Option.bind_some _ _).symm.trans H;with_reducible exact H2_)|with_reducible exact H|(rw [hy278];exact H)|exact H
     have Ny278 := Aside0.mk hy278
     clear hy278
     obtain ⟨y279,hy279⟩ : ∃ y_ : List (S47),y_ = (y278.set (x5_1 : Int).toNat (⟨(rd_T47 y278 x5_1).f0,(rd_T47 y278 x5_1).f1,wrap64 ((wrap64 (x1_1 + 1)) + 1),(rd_T47 y278 x5_1).f3,(rd_T47 y278 x5_1).f4⟩ : S47)) := ⟨_,rfl⟩
     replace H : ((some (y279.set (x5_1 : Int).toNat (⟨(rd_T47 y279 x5_1).f0,(rd_T47 y279 x5_1).f1,(rd_T47 y279 x5_1).f2,((Int.tmod (wrap64 ((wrap64 ((wrap64 (x1_1 + 1)) + 1)) + 1)) 3) == 0),(rd_T47 y279 x5_1).f4⟩ : S47) : List (S47))).bind fun y280 => (laws_markSetS.l0 k1 (y280.set (x5_1 : Int).toNat (⟨(rd_T47 y280 x5_1).f0,(rd_T47 y280 x5_1).f1,(rd_T47 y280 x5_1).f2,(rd_T47 y280 x5_1).f3,wrap64 ((wrap64 ((wrap64 ((wrap64 (x1_1 + 1)) + 1)) + 1)) + 1)⟩ : S47)) (wrap64 ((wrap64 ((wrap64 ((wrap64 ((wrap64 (x1_1 + 1)) + 1)) + 1)) + 1)) + 1)) (wrap64 (x5_1 + 1)))) = some (r1,r2) := by first|(rw [hy279];with_reducible exact H)|(have H2_ := (Option.bind_some _ _).symm.trans H;rw [hy279];with_reducible exact H2_)|(have H2_ := (Option.bind_some _ _).symm.trans H;with_reducible exact H2_)|with_reducible exact H|(rw [hy279];exact H)|exact H
     have Ny279 := Aside0.mk hy279
     clear hy279
     obtain ⟨y280,hy280⟩ : ∃ y_ : List (S47),y_ = (y279.set (x5_1 : Int).toNat (⟨(rd_T47 y279 x5_1).f0,(rd_T47 y279 x5_1).f1,(rd_T47 y279 x5_1).f2,((Int.tmod (wrap64 ((wrap64 ((wrap64 (x1_1 + 1)) + 1)) + 1)) 3) == 0),(rd_T47 y279 x5_1).f4⟩ : S47)) := ⟨_,rfl⟩
     replace H : (laws_markSetS.l0 k1 (y280.set (x5_1 : Int).toNat (⟨(rd_T47 y280 x5_1).f0,(rd_T47 y280 x5_1).f1,(rd_T47 y280 x5_1).f2,(rd_T47 y280 x5_1).f3,wrap64 ((wrap64 ((wrap64 ((wrap64 (x1_1 + 1)) + 1)) + 1)) + 1)⟩ : S47)) (wrap64 ((wrap64 ((wrap64 ((wrap64 ((wrap64 (x1_1 + 1)) + 1)) + 1)) + 1)) + 1)) (wrap64 (x5_1 + 1))) = some (r1,r2) := by first|(rw [hy280];with_reducible exact H)|(have H2_ := (Option.bind_some _ _).symm.trans H;rw [hy280];with_reducible exact H2_)|(have H2_ := (Option.bind_some _ _).symm.trans H;with_reducible exact H2_)|with_reducible exact H|(rw [hy280];exact H)|exact H
     have Ny280 := Aside0.mk hy280
     clear hy280
     obtain ⟨y281,hy281⟩ : ∃ y_ : List (S47),y_ = (y280.set (x5_1 : Int).toNat (⟨(rd_T47 y280 x5_1).f0,(rd_T47 y280 x5_1).f1,(rd_T47 y280 x5_1).f2,(rd_T47 y280 x5_1).f3,wrap64 ((wrap64 ((wrap64 ((wrap64 (x1_1 + 1)) + 1)) + 1)) + 1)⟩ : S47)) := ⟨_,rfl⟩
     replace H : (laws_markSetS.l0 k1 y281 (wrap64 ((wrap64 ((wrap64 ((wrap64 ((wrap64 (x1_1 + 1)) + 1)) + 1)) + 1)) + 1)) (wrap64 (x5_1 + 1))) = some (r1,r2) := by first|(rw [hy281];with_reducible exact H)|(have H2_ := (Option.bind_some _ _).symm.trans H;rw [hy281];with_reducible exact H2_)|(have H2_ := (Option.bind_some _ _).symm.trans H;with_reducible exact H2_)|with_reducible exact H|(rw [hy281];exact H)|exact H
     have Ny281 := Aside0.mk hy281
     clear hy281
     have H' := Aside0.mk H
     clear H
     obtain ⟨Ao10,co10,eo10⟩ := Kd.R_slice HO_0.out
     subst eo10
     have p5 : 0 ≤ (x5_1 : Int) := od_
     have q5 : (x5_1 : Int) < ((x0_1.length : Int) : Int) := od_
     obtain ⟨go5,co5,eo5,gb5,gl5,cl5,HG5⟩ := Kd.R_form HO_0.out (by omega)
     (first|cases eo5|(injection eo5 with ea_ en_ ec_;(first|subst ea_|(injection ea_ with ea_;subst ea_));subst ec_;clear en_))
     have GB5 := Aside0.mk gb5
     have GG5 := Aside0.mk HG5
     clear gb5 gl5 HG5
     have HMgo5 := Aside0.mk (show (P0_ go5 ∨ w.heap.size ≤ go5) from (HO_0.out.1 _ rfl))
     obtain ⟨ce5,hcl5,hM5,hcc5,hfr5⟩ := Kd.R_elem HO_0.out z47 (x5_1 : Int) p5 q5
     obtain rfl := k47_openM hM5
     have hx5_0 : wr.cell? ⟨go5,(x5_1 : Int).toNat * 5,none⟩ = some (.int .i64 ((rd_T47 x0_1 x5_1).f0)) := hcc5 0 _ rfl
     have hx5_1 : wr.cell? ⟨go5,(x5_1 : Int).toNat * 5 + 1,none⟩ = some (.int .i64 ((rd_T47 x0_1 x5_1).f1)) := hcc5 1 _ rfl
     have hx5_2 : wr.cell? ⟨go5,(x5_1 : Int).toNat * 5 + 2,none⟩ = some (.int .i64 ((rd_T47 x0_1 x5_1).f2)) := hcc5 2 _ rfl
     have hx5_3 : wr.cell? ⟨go5,(x5_1 : Int).toNat * 5 + 3,none⟩ = some (.bool ((rd_T47 x0_1 x5_1).f3)) := hcc5 3 _ rfl
     have hx5_4 : wr.cell? ⟨go5,(x5_1 : Int).toNat * 5 + 4,none⟩ = some (.int .i64 ((rd_T47 x0_1 x5_1).f4)) := hcc5 4 _ rfl
     have hf5_0 : wr.frozen? ⟨go5,(x5_1 : Int).toNat * 5,none⟩ = false := hfr5 0
     have hf5_1 : wr.frozen? ⟨go5,(x5_1 : Int).toNat * 5 + 1,none⟩ = false := hfr5 1
     have hf5_2 : wr.frozen? ⟨go5,(x5_1 : Int).toNat * 5 + 2,none⟩ = false := hfr5 2
     have hf5_3 : wr.frozen? ⟨go5,(x5_1 : Int).toNat * 5 + 3,none⟩ = false := hfr5 3
     have hf5_4 : wr.frozen? ⟨go5,(x5_1 : Int).toNat * 5 + 4,none⟩ = false := hfr5 4
     clear hcl5 hcc5 hfr5 hM5
     replace p5 := eq_true p5
     replace q5 := eq_true q5
     have HX11 := Aside0.mk (show Kd.R k47 47 wr w0.heap.size (fun k_ => (P0_ k_ ∨ w.heap.size ≤ k_)) (.slice (some ⟨go5,0,none⟩) x0_1.length co10) x0_1 from (by (with_reducible repeat (first|apply Kd.R_alloc|apply Kd.R_drewN|apply Kd.R_drew));exact HO_0.out))
     obtain ⟨ce11,hcl11,hM11,hcc11,hfr11⟩ := Kd.R_elem HX11.out z47 (x5_1 : Int) (od_) (by have h_ : (x5_1 : Int) < ((x0_1.length : Int) : Int) := od_;first|exact h_|(have e_ := (Kd.R_reads' HO_0.out).1;omega)|simpa using h_)
     obtain rfl := k47_openM hM11
     have HP11 := Kd.R_seg HX11.out (x5_1 : Int) (od_) (by have h_ : (x5_1 : Int) < ((x0_1.length : Int) : Int) := od_;first|exact h_|(have e_ := (Kd.R_reads' HO_0.out).1;omega)|simpa using h_) (seg := [.int .i64 x1_1]) (j := 0) hcl11 hcc11 (show 1 ≤ 5 from by decide) (x' := (⟨x1_1,(rd_T47 x0_1 x5_1).f1,(rd_T47 x0_1 x5_1).f2,(rd_T47 x0_1 x5_1).f3,(rd_T47 x0_1 x5_1).f4⟩ : S47)) (k47_mkM _ _ _ (⟨x1_1,(rd_T47 x0_1 x5_1).f1,(rd_T47 x0_1 x5_1).f2,(rd_T47 x0_1 x5_1).f3,(rd_T47 x0_1 x5_1).f4⟩ : S47) ) (fun _ hk => hk)
     have hx11_0 := hcc11 0 _ rfl
     (try simp only [show (k47).sz = 5 from rfl,Nat.mul_one,Nat.add_zero] at hx11_0)
     have hf11_0 := hfr11 0
     (try simp only [show (k47).sz = 5 from rfl,Nat.mul_one,Nat.add_zero] at hf11_0)
     clear hcl11 hcc11 hfr11 hM11
     go_wp2_with (first|((with_reducible refine gate_store (t := 2) (p := 16) rfl ?_);refine store_event (t := 2) (p := 16) (v := ?vo_w12) (w1 := (wr.setCell ⟨go5,(x5_1 : Int).toNat * 5,none⟩ (.int .i64 x1_1))) ?hg ?ho ?hn ?hr ?_;(case ho => rfl);(case hg => rfl);(case hn => rfl);(case hr => first|(go_simp;done)|(go_simp;rfl)|(obtain ⟨_,_,e_⟩ := Kd.R_slice HO_0.out;subst e_;first|(go_simp;done)|(go_simp;rfl)));intro w12 hw;have hg : wr.grownBy w12 (some go5) := (by rw [hw];exact HP11.2);have hp_ : Kd.R k47 47 w12 w0.heap.size (fun k_ => (P0_ k_ ∨ w.heap.size ≤ k_)) (.slice (some ⟨go5,0,none⟩) x0_1.length co10) y277 := (by rw [hw,Ny277.out];exact HP11.1);clear HP11;replace HB := Aside0.mk ((by rw [hw];exact below_set (HB.out) GB5.out : Below w0.heap.size w0 w12));replace HK := Aside0.mk (Kept.of_grown (S := (fun k_ => P0_ k_)) hg (by repeat (first|(with_reducible first|exact HK.out|apply Kept.alloc|apply Kept.drewN|apply Kept.drew)|exact HK.out)) (fun k_ e_ => (HO_0.out.1 k_ e_)));replace HO_0 := Aside0.mk (hp_);clear hg hw hp_;have p6 : 0 ≤ (x5_1 : Int) := od_;have q6 : (x5_1 : Int) < ((x0_1.length : Int) : Int) := od_;obtain ⟨ce6,hcl6,hM6,hcc6,hfr6⟩ := Kd.R_elem HO_0.out z47 (x5_1 : Int) p6 q6;obtain rfl := k47_openM hM6;have hx6_0 : w12.cell? ⟨go5,(x5_1 : Int).toNat * 5,none⟩ = some (.int .i64 ((rd_T47 y277 x5_1).f0)) := hcc6 0 _ rfl;have hx6_1 : w12.cell? ⟨go5,(x5_1 : Int).toNat * 5 + 1,none⟩ = some (.int .i64 ((rd_T47 y277 x5_1).f1)) := hcc6 1 _ rfl;have hx6_2 : w12.cell? ⟨go5,(x5_1 : Int).toNat * 5 + 2,none⟩ = some (.int .i64 ((rd_T47 y277 x5_1).f2)) := hcc6 2 _ rfl;have hx6_3 : w12.cell? ⟨go5,(x5_1 : Int).toNat * 5 + 3,none⟩ = some (.bool ((rd_T47 y277 x5_1).f3)) := hcc6 3 _ rfl;have hx6_4 : w12.cell? ⟨go5,(x5_1 : Int).toNat * 5 + 4,none⟩ = some (.int .i64 ((rd_T47 y277 x5_1).f4)) := hcc6 4 _ rfl;have hf6_0 : w12.frozen? ⟨go5,(x5_1 : Int).toNat * 5,none⟩ = false := hfr6 0;have hf6_1 : w12.frozen? ⟨go5,(x5_1 : Int).toNat * 5 + 1,none⟩ = false := hfr6 1;have hf6_2 : w12.frozen? ⟨go5,(x5_1 : Int).toNat * 5 + 2,none⟩ = false := hfr6 2;have hf6_3 : w12.frozen? ⟨go5,(x5_1 : Int).toNat * 5 + 3,none⟩ = false := hfr6 3;have hf6_4 : w12.frozen? ⟨go5,(x5_1 : Int).toNat * 5 + 4,none⟩ = false := hfr6 4;clear hcl6 hcc6 hfr6 hM6;replace p6 := eq_true p6;replace q6 := eq_true q6;have HX13 := Aside0.mk (show Kd.R k47 47 w12 w0.heap.size (fun k_ => (P0_ k_ ∨ w.heap.size ≤ k_)) (.slice (some ⟨go5,0,none⟩) x0_1.length co10) y277 from (by (with_reducible repeat (first|apply Kd.R_alloc|apply Kd.R_drewN|apply Kd.R_drew));exact HO_0.out));obtain ⟨ce13,hcl13,hM13,hcc13,hfr13⟩ := Kd.R_elem HX13.out z47 (x5_1 : Int) (od_) (by have h_ : (x5_1 : Int) < ((x0_1.length : Int) : Int) := od_;first|exact h_|(have e_ := (Kd.R_reads' HO_0.out).1;omega)|simpa using h_);obtain rfl := k47_openM hM13;have HP13 := Kd.R_seg HX13.out (x5_1 : Int) (od_) (by have h_ : (x5_1 : Int) < ((x0_1.length : Int) : Int) := od_;first|exact h_|(have e_ := (Kd.R_reads' HO_0.out).1;omega)|simpa using h_) (seg := [.int .i64 (wrap64 (x1_1 + 1))]) (j := 1) hcl13 hcc13 (show 2 ≤ 5 from by decide) (x' := (⟨(rd_T47 y277 x5_1).f0,wrap64 (x1_1 + 1),(rd_T47 y277 x5_1).f2,(rd_T47 y277 x5_1).f3,(rd_T47 y277 x5_1).f4⟩ : S47)) (k47_mkM _ _ _ (⟨(rd_T47 y277 x5_1).f0,wrap64 (x1_1 + 1),(rd_T47 y277 x5_1).f2,(rd_T47 y277 x5_1).f3,(rd_T47 y277 x5_1).f4⟩ : S47) ) (fun _ hk => hk);have hx13_1 := hcc13 1 _ rfl;(try simp only [show (k47).sz = 5 from rfl,Nat.mul_one,Nat.add_zero] at hx13_1);have hf13_1 := hfr13 1;(try simp only [show (k47).sz = 5 from rfl,Nat.mul_one,Nat.add_zero] at hf13_1);clear hcl13 hcc13 hfr13 hM13)|((with_reducible refine gate_store (t := 2) (p := 23) rfl ?_);refine store_event (t := 2) (p := 23) (v := ?vo_w14) (w1 := (w12.setCell ⟨go5,(x5_1 : Int).toNat * 5 + 1,none⟩ (.int .i64 (wrap64 (x1_1 + 1))))) ?hg ?ho ?hn ?hr ?_;(case ho => rfl);(case hg => rfl);(case hn => rfl);(case hr => first|(go_simp;done)|(go_simp;rfl)|(obtain ⟨_,_,e_⟩ := Kd.R_slice HO_0.out;subst e_;first|(go_simp;done)|(go_simp;rfl)));intro w14 hw;have hg : w12.grownBy w14 (some go5) := (by rw [hw];exact HP13.2);have hp_ : Kd.R k47 47 w14 w0.heap.size (fun k_ => (P0_ k_ ∨ w.heap.size ≤ k_)) (.slice (some ⟨go5,0,none⟩) x0_1.length co10) y278 := (by rw [hw,Ny278.out];exact HP13.1);clear HP13;replace HB := Aside0.mk ((by rw [hw];exact below_set (HB.out) GB5.out : Below w0.heap.size w0 w14));replace HK := Aside0.mk (Kept.of_grown (S := (fun k_ => P0_ k_)) hg (by repeat (first|(with_reducible first|exact HK.out|apply Kept.alloc|apply Kept.drewN|apply Kept.drew)|exact HK.out)) (fun k_ e_ => (HO_0.out.1 k_ e_)));replace HO_0 := Aside0.mk (hp_);clear hg hw hp_;have p7 : 0 ≤ (x5_1 : Int) := od_;have q7 : (x5_1 : Int) < ((x0_1.length : Int) : Int) := od_;obtain ⟨ce7,hcl7,hM7,hcc7,hfr7⟩ := Kd.R_elem HO_0.out z47 (x5_1 : Int) p7 q7;obtain rfl := k47_openM hM7;have hx7_0 : w14.cell? ⟨go5,(x5_1 : Int).toNat * 5,none⟩ = some (.int .i64 ((rd_T47 y278 x5_1).f0)) := hcc7 0 _ rfl;have hx7_1 : w14.cell? ⟨go5,(x5_1 : Int).toNat * 5 + 1,none⟩ = some (.int .i64 ((rd_T47 y278 x5_1).f1)) := hcc7 1 _ rfl;have hx7_2 : w14.cell? ⟨go5,(x5_1 : Int).toNat * 5 + 2,none⟩ = some (.int .i64 ((rd_T47 y278 x5_1).f2)) := hcc7 2 _ rfl;have hx7_3 : w14.cell? ⟨go5,(x5_1 : Int).toNat * 5 + 3,none⟩ = some (.bool ((rd_T47 y278 x5_1).f3)) := hcc7 3 _ rfl;have hx7_4 : w14.cell? ⟨go5,(x5_1 : Int).toNat * 5 + 4,none⟩ = some (.int .i64 ((rd_T47 y278 x5_1).f4)) := hcc7 4 _ rfl;have hf7_0 : w14.frozen? ⟨go5,(x5_1 : Int).toNat * 5,none⟩ = false := hfr7 0;have hf7_1 : w14.frozen? ⟨go5,(x5_1 : Int).toNat * 5 + 1,none⟩ = false := hfr7 1;have hf7_2 : w14.frozen? ⟨go5,(x5_1 : Int).toNat * 5 + 2,none⟩ = false := hfr7 2;have hf7_3 : w14.frozen? ⟨go5,(x5_1 : Int).toNat * 5 + 3,none⟩ = false := hfr7 3;have hf7_4 : w14.frozen? ⟨go5,(x5_1 : Int).toNat * 5 + 4,none⟩ = false := hfr7 4;clear hcl7 hcc7 hfr7 hM7;replace p7 := eq_true p7;replace q7 := eq_true q7;have HX15 := Aside0.mk (show Kd.R k47 47 w14 w0.heap.size (fun k_ => (P0_ k_ ∨ w.heap.size ≤ k_)) (.slice (some ⟨go5,0,none⟩) x0_1.length co10) y278 from (by (with_reducible repeat (first|apply Kd.R_alloc|apply Kd.R_drewN|apply Kd.R_drew));exact HO_0.out));obtain ⟨ce15,hcl15,hM15,hcc15,hfr15⟩ := Kd.R_elem HX15.out z47 (x5_1 : Int) (od_) (by have h_ : (x5_1 : Int) < ((x0_1.length : Int) : Int) := od_;first|exact h_|(have e_ := (Kd.R_reads' HO_0.out).1;omega)|simpa using h_);obtain rfl := k47_openM hM15;have HP15 := Kd.R_seg HX15.out (x5_1 : Int) (od_) (by have h_ : (x5_1 : Int) < ((x0_1.length : Int) : Int) := od_;first|exact h_|(have e_ := (Kd.R_reads' HO_0.out).1;omega)|simpa using h_) (seg := [.int .i64 (wrap64 ((wrap64 (x1_1 + 1)) + 1))]) (j := 2) hcl15 hcc15 (show 3 ≤ 5 from by decide) (x' := (⟨(rd_T47 y278 x5_1).f0,(rd_T47 y278 x5_1).f1,wrap64 ((wrap64 (x1_1 + 1)) + 1),(rd_T47 y278 x5_1).f3,(rd_T47 y278 x5_1).f4⟩ : S47)) (k47_mkM _ _ _ (⟨(rd_T47 y278 x5_1).f0,(rd_T47 y278 x5_1).f1,wrap64 ((wrap64 (x1_1 + 1)) + 1),(rd_T47 y278 x5_1).f3,(rd_T47 y278 x5_1).f4⟩ : S47) ) (fun _ hk => hk);have hx15_2 := hcc15 2 _ rfl;(try simp only [show (k47).sz = 5 from rfl,Nat.mul_one,Nat.add_zero] at hx15_2);have hf15_2 := hfr15 2;(try simp only [show (k47).sz = 5 from rfl,Nat.mul_one,Nat.add_zero] at hf15_2);clear hcl15 hcc15 hfr15 hM15)|((with_reducible refine gate_store (t := 2) (p := 30) rfl ?_);refine store_event (t := 2) (p := 30) (v := ?vo_w16) (w1 := (w14.setCell ⟨go5,(x5_1 : Int).toNat * 5 + 2,none⟩ (.int .i64 (wrap64 ((wrap64 (x1_1 + 1)) + 1))))) ?hg ?ho ?hn ?hr ?_;(case ho => rfl);(case hg => rfl);(case hn => rfl);(case hr => first|(go_simp;done)|(go_simp;rfl)|(obtain ⟨_,_,e_⟩ := Kd.R_slice HO_0.out;subst e_;first|(go_simp;done)|(go_simp;rfl)));intro w16 hw;have hg : w14.grownBy w16 (some go5) := (by rw [hw];exact HP15.2);have hp_ : Kd.R k47 47 w16 w0.heap.size (fun k_ => (P0_ k_ ∨ w.heap.size ≤ k_)) (.slice (some ⟨go5,0,none⟩) x0_1.length co10) y279 := (by rw [hw,Ny279.out];exact HP15.1);clear HP15;replace HB := Aside0.mk ((by rw [hw];exact below_set (HB.out) GB5.out : Below w0.heap.size w0 w16));replace HK := Aside0.mk (Kept.of_grown (S := (fun k_ => P0_ k_)) hg (by repeat (first|(with_reducible first|exact HK.out|apply Kept.alloc|apply Kept.drewN|apply Kept.drew)|exact HK.out)) (fun k_ e_ => (HO_0.out.1 k_ e_)));replace HO_0 := Aside0.mk (hp_);clear hg hw hp_;have p8 : 0 ≤ (x5_1 : Int) := od_;have q8 : (x5_1 : Int) < ((x0_1.length : Int) : Int) := od_;obtain ⟨ce8,hcl8,hM8,hcc8,hfr8⟩ := Kd.R_elem HO_0.out z47 (x5_1 : Int) p8 q8;obtain rfl := k47_openM hM8;have hx8_0 : w16.cell? ⟨go5,(x5_1 : Int).toNat * 5,none⟩ = some (.int .i64 ((rd_T47 y279 x5_1).f0)) := hcc8 0 _ rfl;have hx8_1 : w16.cell? ⟨go5,(x5_1 : Int).toNat * 5 + 1,none⟩ = some (.int .i64 ((rd_T47 y279 x5_1).f1)) := hcc8 1 _ rfl;have hx8_2 : w16.cell? ⟨go5,(x5_1 : Int).toNat * 5 + 2,none⟩ = some (.int .i64 ((rd_T47 y279 x5_1).f2)) := hcc8 2 _ rfl;have hx8_3 : w16.cell? ⟨go5,(x5_1 : Int).toNat * 5 + 3,none⟩ = some (.bool ((rd_T47 y279 x5_1).f3)) := hcc8 3 _ rfl;have hx8_4 : w16.cell? ⟨go5,(x5_1 : Int).toNat * 5 + 4,none⟩ = some (.int .i64 ((rd_T47 y279 x5_1).f4)) := hcc8 4 _ rfl;have hf8_0 : w16.frozen? ⟨go5,(x5_1 : Int).toNat * 5,none⟩ = false := hfr8 0;have hf8_1 : w16.frozen? ⟨go5,(x5_1 : Int).toNat * 5 + 1,none⟩ = false := hfr8 1;have hf8_2 : w16.frozen? ⟨go5,(x5_1 : Int).toNat * 5 + 2,none⟩ = false := hfr8 2;have hf8_3 : w16.frozen? ⟨go5,(x5_1 : Int).toNat * 5 + 3,none⟩ = false := hfr8 3;have hf8_4 : w16.frozen? ⟨go5,(x5_1 : Int).toNat * 5 + 4,none⟩ = false := hfr8 4;clear hcl8 hcc8 hfr8 hM8;replace p8 := eq_true p8;replace q8 := eq_true q8;have HX17 := Aside0.mk (show Kd.R k47 47 w16 w0.heap.size (fun k_ => (P0_ k_ ∨ w.heap.size ≤ k_)) (.slice (some ⟨go5,0,none⟩) x0_1.length co10) y279 from (by (with_reducible repeat (first|apply Kd.R_alloc|apply Kd.R_drewN|apply Kd.R_drew));exact HO_0.out));obtain ⟨ce17,hcl17,hM17,hcc17,hfr17⟩ := Kd.R_elem HX17.out z47 (x5_1 : Int) (od_) (by have h_ : (x5_1 : Int) < ((x0_1.length : Int) : Int) := od_;first|exact h_|(have e_ := (Kd.R_reads' HO_0.out).1;omega)|simpa using h_);obtain rfl := k47_openM hM17;have HP17 := Kd.R_seg HX17.out (x5_1 : Int) (od_) (by have h_ : (x5_1 : Int) < ((x0_1.length : Int) : Int) := od_;first|exact h_|(have e_ := (Kd.R_reads' HO_0.out).1;omega)|simpa using h_) (seg := [.bool ((Int.tmod (wrap64 ((wrap64 ((wrap64 (x1_1 + 1)) + 1)) + 1)) 3) == 0)]) (j := 3) hcl17 hcc17 (show 4 ≤ 5 from by decide) (x' := (⟨(rd_T47 y279 x5_1).f0,(rd_T47 y279 x5_1).f1,(rd_T47 y279 x5_1).f2,((Int.tmod (wrap64 ((wrap64 ((wrap64 (x1_1 + 1)) + 1)) + 1)) 3) == 0),(rd_T47 y279 x5_1).f4⟩ : S47)) (k47_mkM _ _ _ (⟨(rd_T47 y279 x5_1).f0,(rd_T47 y279 x5_1).f1,(rd_T47 y279 x5_1).f2,((Int.tmod (wrap64 ((wrap64 ((wrap64 (x1_1 + 1)) + 1)) + 1)) 3) == 0),(rd_T47 y279 x5_1).f4⟩ : S47) ) (fun _ hk => hk);have hx17_3 := hcc17 3 _ rfl;(try simp only [show (k47).sz = 5 from rfl,Nat.mul_one,Nat.add_zero] at hx17_3);have hf17_3 := hfr17 3;(try simp only [show (k47).sz = 5 from rfl,Nat.mul_one,Nat.add_zero] at hf17_3);clear hcl17 hcc17 hfr17 hM17)|((with_reducible refine gate_store (t := 4) (p := 39) rfl ?_);refine store_event (t := 4) (p := 39) (v := ?vo_w18) (w1 := (w16.setCell ⟨go5,(x5_1 : Int).toNat * 5 + 3,none⟩ (.bool ((Int.tmod (wrap64 ((wrap64 ((wrap64 (x1_1 + 1)) + 1)) + 1)) 3) == 0)))) ?hg ?ho ?hn ?hr ?_;(case ho => rfl);(case hg => rfl);(case hn => rfl);(case hr => first|(go_simp;done)|(go_simp;rfl)|(obtain ⟨_,_,e_⟩ := Kd.R_slice HO_0.out;subst e_;first|(go_simp;done)|(go_simp;rfl)));intro w18 hw;have hg : w16.grownBy w18 (some go5) := (by rw [hw];exact HP17.2);have hp_ : Kd.R k47 47 w18 w0.heap.size (fun k_ => (P0_ k_ ∨ w.heap.size ≤ k_)) (.slice (some ⟨go5,0,none⟩) x0_1.length co10) y280 := (by rw [hw,Ny280.out];exact HP17.1);clear HP17;replace HB := Aside0.mk ((by rw [hw];exact below_set (HB.out) GB5.out : Below w0.heap.size w0 w18));replace HK := Aside0.mk (Kept.of_grown (S := (fun k_ => P0_ k_)) hg (by repeat (first|(with_reducible first|exact HK.out|apply Kept.alloc|apply Kept.drewN|apply Kept.drew)|exact HK.out)) (fun k_ e_ => (HO_0.out.1 k_ e_)));replace HO_0 := Aside0.mk (hp_);clear hg hw hp_;have p9 : 0 ≤ (x5_1 : Int) := od_;have q9 : (x5_1 : Int) < ((x0_1.length : Int) : Int) := od_;obtain ⟨ce9,hcl9,hM9,hcc9,hfr9⟩ := Kd.R_elem HO_0.out z47 (x5_1 : Int) p9 q9;obtain rfl := k47_openM hM9;have hx9_0 : w18.cell? ⟨go5,(x5_1 : Int).toNat * 5,none⟩ = some (.int .i64 ((rd_T47 y280 x5_1).f0)) := hcc9 0 _ rfl;have hx9_1 : w18.cell? ⟨go5,(x5_1 : Int).toNat * 5 + 1,none⟩ = some (.int .i64 ((rd_T47 y280 x5_1).f1)) := hcc9 1 _ rfl;have hx9_2 : w18.cell? ⟨go5,(x5_1 : Int).toNat * 5 + 2,none⟩ = some (.int .i64 ((rd_T47 y280 x5_1).f2)) := hcc9 2 _ rfl;have hx9_3 : w18.cell? ⟨go5,(x5_1 : Int).toNat * 5 + 3,none⟩ = some (.bool ((rd_T47 y280 x5_1).f3)) := hcc9 3 _ rfl;have hx9_4 : w18.cell? ⟨go5,(x5_1 : Int).toNat * 5 + 4,none⟩ = some (.int .i64 ((rd_T47 y280 x5_1).f4)) := hcc9 4 _ rfl;have hf9_0 : w18.frozen? ⟨go5,(x5_1 : Int).toNat * 5,none⟩ = false := hfr9 0;have hf9_1 : w18.frozen? ⟨go5,(x5_1 : Int).toNat * 5 + 1,none⟩ = false := hfr9 1;have hf9_2 : w18.frozen? ⟨go5,(x5_1 : Int).toNat * 5 + 2,none⟩ = false := hfr9 2;have hf9_3 : w18.frozen? ⟨go5,(x5_1 : Int).toNat * 5 + 3,none⟩ = false := hfr9 3;have hf9_4 : w18.frozen? ⟨go5,(x5_1 : Int).toNat * 5 + 4,none⟩ = false := hfr9 4;clear hcl9 hcc9 hfr9 hM9;replace p9 := eq_true p9;replace q9 := eq_true q9;have HX19 := Aside0.mk (show Kd.R k47 47 w18 w0.heap.size (fun k_ => (P0_ k_ ∨ w.heap.size ≤ k_)) (.slice (some ⟨go5,0,none⟩) x0_1.length co10) y280 from (by (with_reducible repeat (first|apply Kd.R_alloc|apply Kd.R_drewN|apply Kd.R_drew));exact HO_0.out));obtain ⟨ce19,hcl19,hM19,hcc19,hfr19⟩ := Kd.R_elem HX19.out z47 (x5_1 : Int) (od_) (by have h_ : (x5_1 : Int) < ((x0_1.length : Int) : Int) := od_;first|exact h_|(have e_ := (Kd.R_reads' HO_0.out).1;omega)|simpa using h_);obtain rfl := k47_openM hM19;have HP19 := Kd.R_seg HX19.out (x5_1 : Int) (od_) (by have h_ : (x5_1 : Int) < ((x0_1.length : Int) : Int) := od_;first|exact h_|(have e_ := (Kd.R_reads' HO_0.out).1;omega)|simpa using h_) (seg := [.int .i64 (wrap64 ((wrap64 ((wrap64 ((wrap64 (x1_1 + 1)) + 1)) + 1)) + 1))]) (j := 4) hcl19 hcc19 (show 5 ≤ 5 from by decide) (x' := (⟨(rd_T47 y280 x5_1).f0,(rd_T47 y280 x5_1).f1,(rd_T47 y280 x5_1).f2,(rd_T47 y280 x5_1).f3,wrap64 ((wrap64 ((wrap64 ((wrap64 (x1_1 + 1)) + 1)) + 1)) + 1)⟩ : S47)) (k47_mkM _ _ _ (⟨(rd_T47 y280 x5_1).f0,(rd_T47 y280 x5_1).f1,(rd_T47 y280 x5_1).f2,(rd_T47 y280 x5_1).f3,wrap64 ((wrap64 ((wrap64 ((wrap64 (x1_1 + 1)) + 1)) + 1)) + 1)⟩ : S47) ) (fun _ hk => hk);have hx19_4 := hcc19 4 _ rfl;(try simp only [show (k47).sz = 5 from rfl,Nat.mul_one,Nat.add_zero] at hx19_4);have hf19_4 := hfr19 4;(try simp only [show (k47).sz = 5 from rfl,Nat.mul_one,Nat.add_zero] at hf19_4);clear hcl19 hcc19 hfr19 hM19)|((with_reducible refine gate_store (t := 2) (p := 46) rfl ?_);refine store_event (t := 2) (p := 46) (v := ?vo_w20) (w1 := (w18.setCell ⟨go5,(x5_1 : Int).toNat * 5 + 4,none⟩ (.int .i64 (wrap64 ((wrap64 ((wrap64 ((wrap64 (x1_1 + 1)) + 1)) + 1)) + 1))))) ?hg ?ho ?hn ?hr ?_;(case ho => rfl);(case hg => rfl);(case hn => rfl);(case hr => first|(go_simp;done)|(go_simp;rfl)|(obtain ⟨_,_,e_⟩ := Kd.R_slice HO_0.out;subst e_;first|(go_simp;done)|(go_simp;rfl)));intro w20 hw;have hg : w18.grownBy w20 (some go5) := (by rw [hw];exact HP19.2);have hp_ : Kd.R k47 47 w20 w0.heap.size (fun k_ => (P0_ k_ ∨ w.heap.size ≤ k_)) (.slice (some ⟨go5,0,none⟩) x0_1.length co10) y281 := (by rw [hw,Ny281.out];exact HP19.1);clear HP19;replace HB := Aside0.mk ((by rw [hw];exact below_set (HB.out) GB5.out : Below w0.heap.size w0 w20));replace HK := Aside0.mk (Kept.of_grown (S := (fun k_ => P0_ k_)) hg (by repeat (first|(with_reducible first|exact HK.out|apply Kept.alloc|apply Kept.drewN|apply Kept.drew)|exact HK.out)) (fun k_ e_ => (HO_0.out.1 k_ e_)));replace HO_0 := Aside0.mk (hp_);clear hg hw hp_))
     go_roundg k1
     case measure => have := HK1.out;omega
     case rel => exact ⟨(y281),(wrap64 ((wrap64 ((wrap64 ((wrap64 ((wrap64 (x1_1 + 1)) + 1)) + 1)) + 1)) + 1)),(wrap64 (x5_1 + 1)),rs_,rs_,H',⟨by have := HK1.out;omega⟩,⟨by (with_reducible repeat (first|apply Kd.R_alloc|apply Kd.R_drewN|apply Kd.R_drew));exact HO_0.out⟩,⟨by repeat (first|(with_reducible first|exact HK.out|apply Kept.alloc|apply Kept.drewN|apply Kept.drew)|exact HK.out)⟩,⟨b_⟩⟩
    ·rw [if_neg c4] at H
     exact absurd H (by simp)
   ·rw [if_neg c3] at H
    have c3b0 : decide (x5_1 < (x0_1.length : Int)) = false := decide_eq_false c3
    clear c3
    simp only [Option.some.injEq,Prod.mk.injEq] at H
    obtain ⟨rfl,rfl⟩ := H
    obtain ⟨Ao21,co21,eo21⟩ := Kd.R_slice HO_0.out
    subst eo21
    go_wp2
    go_ret
    exact ⟨rf_,by (with_reducible repeat (first|apply Kd.R_alloc|apply Kd.R_drewN|apply Kd.R_drew));exact HO_0.out,b_,by repeat (first|(with_reducible first|exact HK.out|apply Kept.alloc|apply Kept.drewN|apply Kept.drew)|exact HK.out)⟩

/-! ### laws_markRecord: function 12 -/
def laws_markRecord.f (k : Nat) (a0_0 : Int) (a0_1 : Int) (a0_2 : Int) (l0_3 : List (S47)) (a1 : Int) : Option (Int × (List (S47))) := (laws_markSetS.f k l0_3 a1).bind fun bt283 => (some (bt283.1, bt283.2))

set_option maxHeartbeats 8000000 in
set_option maxRecDepth 100000 in
theorem laws_markRecord.calls (k : Nat) (a0_0 : Int) (a0_1 : Int) (a0_2 : Int) (P0_3_ : Nat → Prop) (u9000_ : Value) (l0_3 : List (S47)) (a1 : Int) (r1 : Int) (r2 : List (S47)) (w0 w : World) (hB : Below w0.heap.size w0 w) (ho0_3 : Kd.R k47 47 w w0.heap.size P0_3_ u9000_ l0_3) (h : laws_markRecord.f k a0_0 a0_1 a0_2 l0_3 a1 = some (r1, r2)) :
    Calls Tryd.prog 12 #[.agg #[.int .i64 a0_0, .int .i64 a0_1, .int .i64 a0_2, u9000_], .int .i64 a1] w fun e w' => e = .returned (.int .i64 r1) ∧ Kd.R k47 47 w' w0.heap.size (fun k_ => (P0_3_ k_ ∨ w.heap.size ≤ k_)) u9000_ r2 ∧ Below w0.heap.size w0 w' ∧ Kept w w' (fun k_ => P0_3_ k_) := by
 have hu29 := Tryd.underlying29
 have HO0_3 := Aside0.mk (show Kd.R k47 47 w w0.heap.size (fun k_ => (P0_3_ k_ ∨ w.heap.size ≤ k_)) u9000_ l0_3 from Kd.R_mono ho0_3 (fun k_ hk => (.inl hk)))
 have HK := Aside0.mk (Kept.refl w (fun k_ => P0_3_ k_))
 have HW0 := Aside0.mk hB.size
 have HB := Aside0.mk hB
 clear hB
 have H : ((laws_markSetS.f k l0_3 a1).bind fun bt283 => (some (bt283.1,bt283.2))) = some (r1,r2) := h
 clear h
 replace H := Option.bind_eq_some_iff.mp H
 obtain ⟨⟨t283,t284⟩,A30,H⟩ := H
 replace H : (some (t283,t284)) = some (r1,r2) := H
 have A3 := Aside0.mk A30
 clear A30
 simp only [Option.some.injEq,Prod.mk.injEq] at H
 obtain ⟨rfl,rfl⟩ := H
 obtain ⟨Ao4,co4,eo4⟩ := Kd.R_slice HO0_3.out
 subst eo4
 go_enter Tryd.func12,Tryd.ntmps12
 go_wp2_with (first|((with_reducible refine gate_dst (N := 2) rfl ?_);refine bx_ 2 #[.int .i64 a0_0,.int .i64 a0_1,.int .i64 a0_2,.slice Ao4 l0_3.length co4] 29 ?_;intro gb282 hg w5 hbox hb;replace HO0_3 := Aside0.mk (Kd.R_below (by (with_reducible repeat (first|apply Kd.R_alloc|apply Kd.R_drewN|apply Kd.R_drew));exact HO0_3.out) hb);have BK282 := Aside0.mk (hbox);have GW282 := Aside0.mk ((by rw [hg];exact (by first|exact HK.out.1|exact (show Kept w _ (fun k_ => P0_3_ k_) from by repeat (first|(with_reducible first|exact HK.out|apply Kept.alloc|apply Kept.drewN|apply Kept.drew)|exact HK.out)).1) : w.heap.size ≤ gb282));replace HK := Aside0.mk (Kept.below (S := (fun k_ => P0_3_ k_)) (by repeat (first|(with_reducible first|exact HK.out|apply Kept.alloc|apply Kept.drewN|apply Kept.drew)|exact HK.out)) hb);have GE282 := Aside0.mk ((gw_ (w := w0) hg));replace HB := Aside0.mk (below_step b_ hb);clear hb hbox hg;obtain ⟨⟨hcz6_0,hcz6_1,hcz6_2,hcz6_3⟩,hfz6_0,hfz6_1,hfz6_2,hfz6_3⟩ := cl4_ BK282.out)|((with_reducible refine gcal_ (f := 25) rfl ?_);refine gl_ (some 8) Tryd.func25 #[.slice Ao4 l0_3.length co4,.int .i64 a1] ?_;(with_reducible refine (laws_markSetS.calls k (fun k_ => some k_ = (.slice Ao4 l0_3.length co4 : Value).ownBlock) (.slice Ao4 l0_3.length co4) l0_3 a1 t283 t284 w0 _ ?side1 ?side2 A3.out).mono ?_);(case side1 => repeat (first|(with_reducible first|exact HB.out|apply below_alloc|apply pw_below_drewN|apply below_drew1|refine below_set ?_ GE282.out)|exact HB.out));(case side2 => exact Kd.R_tight rfl HO0_3.out);rintro e w7 ⟨rfl,hy0,hb,hkp⟩;refine ⟨_,rfl,?_⟩;replace BK282 := Aside0.mk (blk_kept kk_ hkp (fun hs_ => (fun e_ => (Kd.R_ne HO0_3.out BK282.out (by decide)) e_) hs_));replace HK := Aside0.mk (Kept.then_ (S := (fun k_ => P0_3_ k_)) (by repeat (first|(with_reducible first|exact HK.out|apply Kept.alloc|apply Kept.drewN|apply Kept.drew|refine Kept.setCell ?_ (.inr GW282.out) _)|exact HK.out)) hkp (fun k_ hs_ => (fun e_ => (HO0_3.out.1 k_ e_.symm)) hs_));replace HO0_3 := Aside0.mk (Kd.R_reok rfl hy0 (fun k_ e_ => HO0_3.out.1 k_ e_));replace HB := Aside0.mk (hb);(try clear hb);(try clear hkp);(try clear hy0)))
 go_ret
 exact ⟨rf_,by (with_reducible repeat (first|apply Kd.R_alloc|apply Kd.R_drewN|apply Kd.R_drew));exact HO0_3.out,b_,by repeat (first|(with_reducible first|exact HK.out|apply Kept.alloc|apply Kept.drewN|apply Kept.drew|refine Kept.setCell ?_ (.inr GW282.out) _)|exact HK.out)⟩

/-! ### laws_heldSetS: function 26 -/
def laws_heldSetS.l0 : Nat → List (S47) → Int → Int → Option (Int)
  | 0, _, _, _ => none
  | k + 1, x0, x1, x5 => if x5 < (x0.length : Int) then (if 0 ≤ x5 then (if ((rd_T47 x0 x5).f0) = x1 then (if ((rd_T47 x0 x5).f1) = (wrap64 (x1 + 1)) then (if ((rd_T47 x0 x5).f2) = (wrap64 ((wrap64 (x1 + 1)) + 1)) then (if (((rd_T47 x0 x5).f3) != ((Int.tmod (wrap64 ((wrap64 ((wrap64 (x1 + 1)) + 1)) + 1)) 3) == 0)) = true then (some (-1)) else (if ((rd_T47 x0 x5).f4) = (wrap64 ((wrap64 ((wrap64 ((wrap64 (x1 + 1)) + 1)) + 1)) + 1)) then (laws_heldSetS.l0 k x0 (wrap64 ((wrap64 ((wrap64 ((wrap64 ((wrap64 (x1 + 1)) + 1)) + 1)) + 1)) + 1)) (wrap64 (x5 + 1))) else (some (-1)))) else (some (-1))) else (some (-1))) else (some (-1))) else (none)) else (some x1)
def laws_heldSetS.f (k : Nat) (l0 : List (S47)) (a1 : Int) : Option (Int) := laws_heldSetS.l0 k l0 a1 0

set_option maxHeartbeats 8000000 in
set_option maxRecDepth 100000 in
theorem laws_heldSetS.calls (k : Nat) (A0 : Option Addr) (c0 : Nat) (l0 : List (S47)) (a1 : Int) (r : Int) (w : World) (hr0 : Kd.C k47 w A0 l0.length l0) (hc0 : l0.length ≤ c0) (h : laws_heldSetS.f k l0 a1 = some r) :
    Calls Tryd.prog 26 #[.slice A0 l0.length c0, .int .i64 a1] w fun e w' => e = .returned (.int .i64 r) ∧ Drawn0 w w' := by
 have HR0 := Aside0.mk hr0
 have HC0 := Aside0.mk hc0
 clear hr0 hc0
 have H : (laws_heldSetS.l0 k l0 a1 0) = some r := h
 clear h
 have H' := Aside0.mk H
 clear H
 go_enter Tryd.func26,Tryd.ntmps26
 go_wp2
 go_loopg [1,5] k (fun kq v1 v5 w' => ∃ (x1_1 : Int) (x5_1 : Int),v1 = .int .i64 x1_1 ∧ v5 = .int .i64 x5_1 ∧ Aside0 (laws_heldSetS.l0 kq l0 x1_1 x5_1 = some r) ∧ Aside0 (kq ≤ k) ∧ Drawn0 w w')
 case atStart => exact ⟨(a1),(0),rs_,rs_,H',⟨Nat.le_refl _⟩,by repeat (first|exact Drawn0.refl _|apply Drawn0.step)⟩
 case round =>
  clear H'
  try clear c2
  try clear p2
  obtain ⟨x1_1,x5_1,rfl,rfl,HA,HK1,⟨m1,rfl⟩⟩ := hrel
  cases gk with
    | zero => exact absurd HA.out (by simp [laws_heldSetS.l0])
    | succ k1 =>
   have H := HA.out
   clear HA
   simp only [laws_heldSetS.l0] at H
   by_cases c3 : x5_1 < (l0.length : Int)
   ·rw [if_pos c3] at H
    have c3b0 : decide (x5_1 < (l0.length : Int)) = true := decide_eq_true c3
    clear c3
    by_cases c4 : 0 ≤ x5_1
    ·rw [if_pos c4] at H
     have c4b0 : decide (0 ≤ x5_1) = true := decide_eq_true c4
     clear c4
     by_cases c5 : ((rd_T47 l0 x5_1).f0) = x1_1
     ·rw [if_pos c5] at H
      have c5b0 : (((rd_T47 l0 x5_1).f0) == x1_1) = true := beq_iff_eq.mpr c5
      have c5b1 : (((rd_T47 l0 x5_1).f0) != x1_1) = false := bne_eq_false_iff_eq.mpr c5
      clear c5
      by_cases c6 : ((rd_T47 l0 x5_1).f1) = (wrap64 (x1_1 + 1))
      ·rw [if_pos c6] at H
       have c6b0 : (((rd_T47 l0 x5_1).f1) == (wrap64 (x1_1 + 1))) = true := beq_iff_eq.mpr c6
       have c6b1 : (((rd_T47 l0 x5_1).f1) != (wrap64 (x1_1 + 1))) = false := bne_eq_false_iff_eq.mpr c6
       clear c6
       by_cases c7 : ((rd_T47 l0 x5_1).f2) = (wrap64 ((wrap64 (x1_1 + 1)) + 1))
       ·rw [if_pos c7] at H
        have c7b0 : (((rd_T47 l0 x5_1).f2) == (wrap64 ((wrap64 (x1_1 + 1)) + 1))) = true := beq_iff_eq.mpr c7
        have c7b1 : (((rd_T47 l0 x5_1).f2) != (wrap64 ((wrap64 (x1_1 + 1)) + 1))) = false := bne_eq_false_iff_eq.mpr c7
        clear c7
        by_cases c8 : (((rd_T47 l0 x5_1).f3) != ((Int.tmod (wrap64 ((wrap64 ((wrap64 (x1_1 + 1)) + 1)) + 1)) 3) == 0)) = true
        ·rw [if_pos c8] at H
         have c8b0 : (((rd_T47 l0 x5_1).f3) != ((Int.tmod (wrap64 ((wrap64 ((wrap64 (x1_1 + 1)) + 1)) + 1)) 3) == 0)) = true := c8
         (try (have c8b1 : decide (((rd_T47 l0 x5_1).f3) = ((Int.tmod (wrap64 ((wrap64 ((wrap64 (x1_1 + 1)) + 1)) + 1)) 3) == 0)) = false := by simpa using c8))
         (try (have c8b2 : (((rd_T47 l0 x5_1).f3) == ((Int.tmod (wrap64 ((wrap64 ((wrap64 (x1_1 + 1)) + 1)) + 1)) 3) == 0)) = false := by simpa using c8))
         (try (have c8b3 : ¬ (((rd_T47 l0 x5_1).f3) = ((Int.tmod (wrap64 ((wrap64 ((wrap64 (x1_1 + 1)) + 1)) + 1)) 3) == 0)) := by simpa using c8))
         clear c8
         obtain rfl := Option.some.inj H
         have p285 : 0 ≤ (x5_1 : Int) := od_
         have q285 : x5_1 < (l0.length : Int) := od_
         obtain ⟨ad285,e285,hx285_0,hx285_1,hx285_2,hx285_3,hx285_4⟩ := at_T47 HR0.out x5_1 p285 q285
         cases e285
         replace p285 := eq_true p285
         replace q285 := eq_true q285
         have p286 : 0 ≤ (x5_1 : Int) := od_
         have q286 : x5_1 < (l0.length : Int) := od_
         obtain ⟨ad286,e286,hx286_0,hx286_1,hx286_2,hx286_3,hx286_4⟩ := at_T47 HR0.out x5_1 p286 q286
         obtain rfl : ad285 = ad286 := (by injection e286)
         replace p286 := eq_true p286
         replace q286 := eq_true q286
         have p287 : 0 ≤ (x5_1 : Int) := od_
         have q287 : x5_1 < (l0.length : Int) := od_
         obtain ⟨ad287,e287,hx287_0,hx287_1,hx287_2,hx287_3,hx287_4⟩ := at_T47 HR0.out x5_1 p287 q287
         obtain rfl : ad285 = ad287 := (by injection e287)
         replace p287 := eq_true p287
         replace q287 := eq_true q287
         have p288 : 0 ≤ (x5_1 : Int) := od_
         have q288 : x5_1 < (l0.length : Int) := od_
         obtain ⟨ad288,e288,hx288_0,hx288_1,hx288_2,hx288_3,hx288_4⟩ := at_T47 HR0.out x5_1 p288 q288
         obtain rfl : ad285 = ad288 := (by injection e288)
         replace p288 := eq_true p288
         replace q288 := eq_true q288
         go_wp2
         go_ret
         exact ⟨rs_,by repeat (first|exact Drawn0.refl _|apply Drawn0.step)⟩
        ·rw [if_neg c8] at H
         have c8b0 : (((rd_T47 l0 x5_1).f3) != ((Int.tmod (wrap64 ((wrap64 ((wrap64 (x1_1 + 1)) + 1)) + 1)) 3) == 0)) = false := by simpa using c8
         (try (have c8b1 : decide (((rd_T47 l0 x5_1).f3) = ((Int.tmod (wrap64 ((wrap64 ((wrap64 (x1_1 + 1)) + 1)) + 1)) 3) == 0)) = true := by simpa using c8))
         (try (have c8b2 : (((rd_T47 l0 x5_1).f3) == ((Int.tmod (wrap64 ((wrap64 ((wrap64 (x1_1 + 1)) + 1)) + 1)) 3) == 0)) = true := by simpa using c8))
         clear c8
         by_cases c9 : ((rd_T47 l0 x5_1).f4) = (wrap64 ((wrap64 ((wrap64 ((wrap64 (x1_1 + 1)) + 1)) + 1)) + 1))
         ·rw [if_pos c9] at H
          have c9b0 : (((rd_T47 l0 x5_1).f4) == (wrap64 ((wrap64 ((wrap64 ((wrap64 (x1_1 + 1)) + 1)) + 1)) + 1))) = true := beq_iff_eq.mpr c9
          have c9b1 : (((rd_T47 l0 x5_1).f4) != (wrap64 ((wrap64 ((wrap64 ((wrap64 (x1_1 + 1)) + 1)) + 1)) + 1))) = false := bne_eq_false_iff_eq.mpr c9
          clear c9
          have H' := Aside0.mk H
          clear H
          have p285 : 0 ≤ (x5_1 : Int) := od_
          have q285 : x5_1 < (l0.length : Int) := od_
          obtain ⟨ad285,e285,hx285_0,hx285_1,hx285_2,hx285_3,hx285_4⟩ := at_T47 HR0.out x5_1 p285 q285
          cases e285
          replace p285 := eq_true p285
          replace q285 := eq_true q285
          have p286 : 0 ≤ (x5_1 : Int) := od_
          have q286 : x5_1 < (l0.length : Int) := od_
          obtain ⟨ad286,e286,hx286_0,hx286_1,hx286_2,hx286_3,hx286_4⟩ := at_T47 HR0.out x5_1 p286 q286
          obtain rfl : ad285 = ad286 := (by injection e286)
          replace p286 := eq_true p286
          replace q286 := eq_true q286
          have p287 : 0 ≤ (x5_1 : Int) := od_
          have q287 : x5_1 < (l0.length : Int) := od_
          obtain ⟨ad287,e287,hx287_0,hx287_1,hx287_2,hx287_3,hx287_4⟩ := at_T47 HR0.out x5_1 p287 q287
          obtain rfl : ad285 = ad287 := (by injection e287)
          replace p287 := eq_true p287
          replace q287 := eq_true q287
          have p288 : 0 ≤ (x5_1 : Int) := od_
          have q288 : x5_1 < (l0.length : Int) := od_
          obtain ⟨ad288,e288,hx288_0,hx288_1,hx288_2,hx288_3,hx288_4⟩ := at_T47 HR0.out x5_1 p288 q288
          obtain rfl : ad285 = ad288 := (by injection e288)
          replace p288 := eq_true p288
          replace q288 := eq_true q288
          have p289 : 0 ≤ (x5_1 : Int) := od_
          have q289 : x5_1 < (l0.length : Int) := od_
          obtain ⟨ad289,e289,hx289_0,hx289_1,hx289_2,hx289_3,hx289_4⟩ := at_T47 HR0.out x5_1 p289 q289
          obtain rfl : ad285 = ad289 := (by injection e289)
          replace p289 := eq_true p289
          replace q289 := eq_true q289
          go_wp2
          go_roundg k1
          case measure => have := HK1.out;omega
          case rel => exact ⟨(wrap64 ((wrap64 ((wrap64 ((wrap64 ((wrap64 (x1_1 + 1)) + 1)) + 1)) + 1)) + 1)),(wrap64 (x5_1 + 1)),rs_,rs_,H',⟨by have := HK1.out;omega⟩,by repeat (first|exact Drawn0.refl _|apply Drawn0.step)⟩
         ·rw [if_neg c9] at H
          have c9b0 : (((rd_T47 l0 x5_1).f4) == (wrap64 ((wrap64 ((wrap64 ((wrap64 (x1_1 + 1)) + 1)) + 1)) + 1))) = false := beq_eq_false_iff_ne.mpr c9
          have c9b1 : (((rd_T47 l0 x5_1).f4) != (wrap64 ((wrap64 ((wrap64 ((wrap64 (x1_1 + 1)) + 1)) + 1)) + 1))) = true := bne_iff_ne.mpr c9
          obtain rfl := Option.some.inj H
          have p285 : 0 ≤ (x5_1 : Int) := od_
          have q285 : x5_1 < (l0.length : Int) := od_
          obtain ⟨ad285,e285,hx285_0,hx285_1,hx285_2,hx285_3,hx285_4⟩ := at_T47 HR0.out x5_1 p285 q285
          cases e285
          replace p285 := eq_true p285
          replace q285 := eq_true q285
          have p286 : 0 ≤ (x5_1 : Int) := od_
          have q286 : x5_1 < (l0.length : Int) := od_
          obtain ⟨ad286,e286,hx286_0,hx286_1,hx286_2,hx286_3,hx286_4⟩ := at_T47 HR0.out x5_1 p286 q286
          obtain rfl : ad285 = ad286 := (by injection e286)
          replace p286 := eq_true p286
          replace q286 := eq_true q286
          have p287 : 0 ≤ (x5_1 : Int) := od_
          have q287 : x5_1 < (l0.length : Int) := od_
          obtain ⟨ad287,e287,hx287_0,hx287_1,hx287_2,hx287_3,hx287_4⟩ := at_T47 HR0.out x5_1 p287 q287
          obtain rfl : ad285 = ad287 := (by injection e287)
          replace p287 := eq_true p287
          replace q287 := eq_true q287
          have p288 : 0 ≤ (x5_1 : Int) := od_
          have q288 : x5_1 < (l0.length : Int) := od_
          obtain ⟨ad288,e288,hx288_0,hx288_1,hx288_2,hx288_3,hx288_4⟩ := at_T47 HR0.out x5_1 p288 q288
          obtain rfl : ad285 = ad288 := (by injection e288)
          replace p288 := eq_true p288
          replace q288 := eq_true q288
          have p289 : 0 ≤ (x5_1 : Int) := od_
          have q289 : x5_1 < (l0.length : Int) := od_
          obtain ⟨ad289,e289,hx289_0,hx289_1,hx289_2,hx289_3,hx289_4⟩ := at_T47 HR0.out x5_1 p289 q289
          obtain rfl : ad285 = ad289 := (by injection e289)
          replace p289 := eq_true p289
          replace q289 := eq_true q289
          go_wp2
          go_ret
          exact ⟨rs_,by repeat (first|exact Drawn0.refl _|apply Drawn0.step)⟩
       ·rw [if_neg c7] at H
        have c7b0 : (((rd_T47 l0 x5_1).f2) == (wrap64 ((wrap64 (x1_1 + 1)) + 1))) = false := beq_eq_false_iff_ne.mpr c7
        have c7b1 : (((rd_T47 l0 x5_1).f2) != (wrap64 ((wrap64 (x1_1 + 1)) + 1))) = true := bne_iff_ne.mpr c7
        obtain rfl := Option.some.inj H
        have p285 : 0 ≤ (x5_1 : Int) := od_
        have q285 : x5_1 < (l0.length : Int) := od_
        obtain ⟨ad285,e285,hx285_0,hx285_1,hx285_2,hx285_3,hx285_4⟩ := at_T47 HR0.out x5_1 p285 q285
        cases e285
        replace p285 := eq_true p285
        replace q285 := eq_true q285
        have p286 : 0 ≤ (x5_1 : Int) := od_
        have q286 : x5_1 < (l0.length : Int) := od_
        obtain ⟨ad286,e286,hx286_0,hx286_1,hx286_2,hx286_3,hx286_4⟩ := at_T47 HR0.out x5_1 p286 q286
        obtain rfl : ad285 = ad286 := (by injection e286)
        replace p286 := eq_true p286
        replace q286 := eq_true q286
        have p287 : 0 ≤ (x5_1 : Int) := od_
        have q287 : x5_1 < (l0.length : Int) := od_
        obtain ⟨ad287,e287,hx287_0,hx287_1,hx287_2,hx287_3,hx287_4⟩ := at_T47 HR0.out x5_1 p287 q287
        obtain rfl : ad285 = ad287 := (by injection e287)
        replace p287 := eq_true p287
        replace q287 := eq_true q287
        go_wp2
        go_ret
        exact ⟨rs_,by repeat (first|exact Drawn0.refl _|apply Drawn0.step)⟩
      ·rw [if_neg c6] at H
       have c6b0 : (((rd_T47 l0 x5_1).f1) == (wrap64 (x1_1 + 1))) = false := beq_eq_false_iff_ne.mpr c6
       have c6b1 : (((rd_T47 l0 x5_1).f1) != (wrap64 (x1_1 + 1))) = true := bne_iff_ne.mpr c6
       obtain rfl := Option.some.inj H
       have p285 : 0 ≤ (x5_1 : Int) := od_
       have q285 : x5_1 < (l0.length : Int) := od_
       obtain ⟨ad285,e285,hx285_0,hx285_1,hx285_2,hx285_3,hx285_4⟩ := at_T47 HR0.out x5_1 p285 q285
       cases e285
       replace p285 := eq_true p285
       replace q285 := eq_true q285
       have p286 : 0 ≤ (x5_1 : Int) := od_
       have q286 : x5_1 < (l0.length : Int) := od_
       obtain ⟨ad286,e286,hx286_0,hx286_1,hx286_2,hx286_3,hx286_4⟩ := at_T47 HR0.out x5_1 p286 q286
       obtain rfl : ad285 = ad286 := (by injection e286)
       replace p286 := eq_true p286
       replace q286 := eq_true q286
       go_wp2
       go_ret
       exact ⟨rs_,by repeat (first|exact Drawn0.refl _|apply Drawn0.step)⟩
     ·rw [if_neg c5] at H
      have c5b0 : (((rd_T47 l0 x5_1).f0) == x1_1) = false := beq_eq_false_iff_ne.mpr c5
      have c5b1 : (((rd_T47 l0 x5_1).f0) != x1_1) = true := bne_iff_ne.mpr c5
      obtain rfl := Option.some.inj H
      have p285 : 0 ≤ (x5_1 : Int) := od_
      have q285 : x5_1 < (l0.length : Int) := od_
      obtain ⟨ad285,e285,hx285_0,hx285_1,hx285_2,hx285_3,hx285_4⟩ := at_T47 HR0.out x5_1 p285 q285
      cases e285
      replace p285 := eq_true p285
      replace q285 := eq_true q285
      go_wp2
      go_ret
      exact ⟨rs_,by repeat (first|exact Drawn0.refl _|apply Drawn0.step)⟩
    ·rw [if_neg c4] at H
     exact absurd H (by simp)
   ·rw [if_neg c3] at H
    have c3b0 : decide (x5_1 < (l0.length : Int)) = false := decide_eq_false c3
    clear c3
    obtain rfl := Option.some.inj H
    go_wp2
    go_ret
    exact ⟨rs_,by repeat (first|exact Drawn0.refl _|apply Drawn0.step)⟩

/-! ### laws_heldRecord: function 13 -/
def laws_heldRecord.f (k : Nat) (a0_0 : Int) (a0_1 : Int) (a0_2 : Int) (l0_3 : List (S47)) (a1 : Int) : Option (Int) := (laws_heldSetS.f k l0_3 a1).bind fun t291 => (if t291 < 0 then (some (-1)) else (some t291))

set_option maxHeartbeats 8000000 in
set_option maxRecDepth 100000 in
theorem laws_heldRecord.calls (k : Nat) (a0_0 : Int) (a0_1 : Int) (a0_2 : Int) (A0_3 : Option Addr) (c0_3 : Nat) (l0_3 : List (S47)) (a1 : Int) (r : Int) (w : World) (hr0_3 : Kd.C k47 w A0_3 l0_3.length l0_3) (hc0_3 : l0_3.length ≤ c0_3) (h : laws_heldRecord.f k a0_0 a0_1 a0_2 l0_3 a1 = some r) :
    Calls Tryd.prog 13 #[.agg #[.int .i64 a0_0, .int .i64 a0_1, .int .i64 a0_2, .slice A0_3 l0_3.length c0_3], .int .i64 a1] w fun e w' => e = .returned (.int .i64 r) ∧ Below w.heap.size w w' := by
 have hu29 := Tryd.underlying29
 have HR0_3 := Aside0.mk hr0_3
 have HC0_3 := Aside0.mk hc0_3
 clear hr0_3 hc0_3
 have HB := Aside0.mk (Below.refl w.heap.size w)
 have H : ((laws_heldSetS.f k l0_3 a1).bind fun t291 => (if t291 < 0 then (some (-1)) else (some t291))) = some r := h
 clear h
 replace H := bs_ H
 obtain ⟨t291,A3,H⟩ := H
 by_cases c4 : t291 < 0
 ·rw [if_pos c4] at H
  have c4b0 : decide (t291 < 0) = true := decide_eq_true c4
  clear c4
  obtain rfl := Option.some.inj H
  go_enter Tryd.func13,Tryd.ntmps13
  go_wp2_with (first|((with_reducible refine gate_dst (N := 2) rfl ?_);refine bx_ 2 #[.int .i64 a0_0,.int .i64 a0_1,.int .i64 a0_2,.slice A0_3 l0_3.length c0_3] 29 ?_;intro gb290 hg w5 hbox hb;replace HB := nb_ hg hbox hb;obtain ⟨BK290,GW290,GE290,HB⟩ := HB;clear hb hbox hg;obtain ⟨⟨hcz6_0,hcz6_1,hcz6_2,hcz6_3⟩,hfz6_0,hfz6_1,hfz6_2,hfz6_3⟩ := cl4_ BK290.out)|((with_reducible refine gcal_ (f := 26) rfl ?_);refine gl_ (some 8) Tryd.func26 #[.slice A0_3 l0_3.length c0_3,.int .i64 a1] ?_;(with_reducible refine (laws_heldSetS.calls k _ _ l0_3 a1 t291 _ ?side1 ?side2 A3.out).mono ?_);(case side1 => exact cb_ HR0_3);(case side2 => exact HC0_3.out);rintro e w' ⟨rfl,⟨nd,rfl⟩⟩;refine ⟨_,rfl,?_⟩))
  go_ret
  exact ⟨rf_,b_⟩
 ·rw [if_neg c4] at H
  have c4b0 : decide (t291 < 0) = false := decide_eq_false c4
  clear c4
  obtain rfl := Option.some.inj H
  go_enter Tryd.func13,Tryd.ntmps13
  go_wp2_with (first|((with_reducible refine gate_dst (N := 2) rfl ?_);refine bx_ 2 #[.int .i64 a0_0,.int .i64 a0_1,.int .i64 a0_2,.slice A0_3 l0_3.length c0_3] 29 ?_;intro gb290 hg w7 hbox hb;replace HB := nb_ hg hbox hb;obtain ⟨BK290,GW290,GE290,HB⟩ := HB;clear hb hbox hg;obtain ⟨⟨hcz8_0,hcz8_1,hcz8_2,hcz8_3⟩,hfz8_0,hfz8_1,hfz8_2,hfz8_3⟩ := cl4_ BK290.out)|((with_reducible refine gcal_ (f := 26) rfl ?_);refine gl_ (some 8) Tryd.func26 #[.slice A0_3 l0_3.length c0_3,.int .i64 a1] ?_;(with_reducible refine (laws_heldSetS.calls k _ _ l0_3 a1 t291 _ ?side1 ?side2 A3.out).mono ?_);(case side1 => exact cb_ HR0_3);(case side2 => exact HC0_3.out);rintro e w' ⟨rfl,⟨nd,rfl⟩⟩;refine ⟨_,rfl,?_⟩))
  go_ret
  exact ⟨rf_,b_⟩

end Go.Proofs.YtnilfnkdgdfnnaaDoor.XRd
