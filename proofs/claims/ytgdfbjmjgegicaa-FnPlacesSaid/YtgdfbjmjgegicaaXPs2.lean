/- Proved: of each Go function here that a call comes to what the Lean function of its name tells. Written by a program of this session over the translation. No conditions beyond each theorem's own. -/
import Derived.Test.YtgdfbjmjgegicaaXPs0
import Derived.Test.YtgdfbjmjgegicaaXPs1
namespace Go.Proofs.Ytgdfbjmjgegicaa.XPs
open Go.RowKit Go.Proofs.Ytgdfbjmjgegicaa.Aid Go.Proofs.YtgdfbjmjgegicaaW.PrintWords Go.Proofs.YtgdfbjmjgegicaaW.PrintLast Go.Proofs.YtgdfbjmjgegicaaW.PrintMore
set_option linter.unusedVariables false
set_option linter.unusedSimpArgs false

/-! ### spec_l5Draw: function 94 -/
def spec_l5Draw.w : Nat → List (S84) → Option (List (S84))
  | 0, _ => none
  | k + 1, x => if (x.length : Int) < 7 then (if 0 < x.length then (spec_l5Draw.w k (x ++ [rd_T84 x 0])) else none) else some x
def spec_l5Draw.h (k : Nat) (x : List (S84)) (s : List Int) (i : Int) (h : Int) : Option ((List (S84)) × Int × Int) := (spec_l1Below.f s i h (x.length : Int)).bind fun a => (spec_l1Below.f s a.2.1 a.2.2 3).bind fun b => if 0 ≤ a.1 then (if a.1 < (x.length : Int) then (if b.1 = 0 then ((spec_l1Below.f s b.2.1 b.2.2 4).bind fun c => if 0 < (rd_T84 x a.1).f0.length then (if 0 ≤ c.1 then (if c.1 < 4 then (if (rd_T84 x a.1).f0.length < 17592186044416 then some (x.set a.1.toNat (⟨(rd_T84 x a.1).f0 ++ [rd [-1, 7, 8, rd (rd_T84 x a.1).f0 0] c.1]⟩ : S84), c.2.1, c.2.2) else none) else none) else none) else none) else (if b.1 = 1 then some (x.set a.1.toNat (⟨[]⟩ : S84), b.2.1, b.2.2) else (if b.1 = 2 then ((spec_l5Draw.w k x).bind fun y => some (y, b.2.1, b.2.2)) else some (x, b.2.1, b.2.2)))) else none) else none
mutual
def spec_l5Draw.l0 : Nat → List (S84) → Int → List Int → Int → Int → Option ((List (S84)) × Int × Int)
  | 0, _, _, _, _, _ => none
  | k + 1, x3, x4, x1000, x1001, x1002 => if x4 > 0 then ((spec_l1Below.f x1000 x1001 x1002 3).bind fun bt133 => (spec_l5Draw.l1 k x3 x4 (wrap64 (1 + bt133.1)) x1000 bt133.2.1 bt133.2.2 ([] : List Int))) else ((spec_l1Once.f x1000 x1001 x1002 10).bind fun bt129 => (if bt129.1 = true then (spec_l5Draw.h k x3 x1000 bt129.2.1 bt129.2.2) else (some (x3, bt129.2.1, bt129.2.2))))
def spec_l5Draw.l1 : Nat → List (S84) → Int → Int → List Int → Int → Int → List Int → Option ((List (S84)) × Int × Int)
  | 0, _, _, _, _, _, _, _ => none
  | k + 1, x3, x4, x6, x1000, x1001, x1002, x133000 => if x6 > 0 then ((spec_l1Below.f x1000 x1001 x1002 6).bind fun bt139 => ((spec_l3Has.f k x133000 bt139.1).bind fun t142 => (if t142 = true then (spec_l5Draw.l1 k x3 x4 (wrap64 (x6 - 1)) x1000 bt139.2.1 bt139.2.2 x133000) else (if x133000.length < 17592186044416 then (spec_l5Draw.l1 k x3 x4 (wrap64 (x6 - 1)) x1000 bt139.2.1 bt139.2.2 (x133000 ++ [bt139.1])) else (none))))) else (if x3.length < 5864062014805 then (spec_l5Draw.l0 k (x3 ++ [(⟨x133000⟩ : S84)]) (wrap64 (x4 - 1)) x1000 x1001 x1002) else (none))
end
def spec_l5Draw.f (k : Nat) (s0_0 : List Int) (s0_1 : Int) (s0_2 : Int) : Option ((List (S84)) × Int × Int) := (spec_l1Below.f s0_0 s0_1 s0_2 4).bind fun bt126 => (spec_l5Draw.l0 k (([] : List (S84))) (wrap64 (1 + bt126.1)) s0_0 bt126.2.1 bt126.2.2)

def spec_l5Draw.T17 : Bool × List (List Nat × List Nat) := (true, [([], []), ([], []), ([1], [1]), ([2], [2]), ([3], [3]), ([], []), ([5], [5]), ([6], [6]), ([7], [7]), ([8], [8]), ([9], [9]), ([10], [10]), ([], []), ([12], [12]), ([11, 13], [11, 13]), ([14], [14]), ([15], [15]), ([4, 16, 13], [4, 16]), ([0, 0, 1, 2, 3, 4, 5, 6, 7, 8, 9, 10, 11, 12, 13, 14, 15, 16, 17], [0]), ([18, 0, 1, 2, 3, 4, 5, 6, 7, 8, 9, 10, 11, 12, 13, 14, 15, 16, 17], [18]), ([19, 17, 17, 0, 1, 2, 3, 4, 5, 6, 7, 8, 9, 10, 11, 12, 13, 14, 15, 16, 17], [17, 19])])
def spec_l5Draw.B17 : List Nat := [0, 0, 2, 6, 14, 0, 32, 96, 224, 480, 992, 2016, 0, 4096, 16352, 32736, 65504, 131070, 262143, 524287, 1048575]
theorem spec_l5Draw.tab17 : rtab .any (opsOf Try.f94 17) = spec_l5Draw.T17 := by kernel_rfl
theorem spec_l5Draw.bits17 : waitsOk spec_l5Draw.T17.2 spec_l5Draw.B17 = true := by kernel_rfl
set_option maxHeartbeats 8000000 in
set_option maxRecDepth 100000 in
theorem spec_l5Draw.calls (k : Nat) (g : Nat) (s0_0 : List Int) (s0_1 : Int) (s0_2 : Int) (r1 : List (S84)) (r2 : Int) (r3 : Int) (w0 w : World) (hI : IsS112 w0 w g s0_0 s0_1 s0_2) (hB : Below w0.heap.size w0 w) (h : spec_l5Draw.f k s0_0 s0_1 s0_2 = some (r1, r2, r3)) :
    Calls Try.prog 94 #[.pointer (some ⟨g, 0, none⟩)] w fun e w' => ∃ v0_ : Value, e = .returned (v0_) ∧ Kd.N k84 84 w' w.heap.size (fun k_ => w.heap.size ≤ k_) v0_ r1 ∧ IsS112 w0 w' g s0_0 r2 r3 ∧ Below w0.heap.size w0 w' ∧ KeepBut w w' g none := by
 have hu84 := Try.underlying84
 have HI0 := Aside0.mk hI
 have HK := Aside0.mk (KeepBut.refl w g none)
 have HL := Aside0.mk hB.size
 clear hI
 have HW0 := Aside0.mk hB.size
 have HB := Aside0.mk hB
 clear hB
 have H : ((spec_l1Below.f s0_0 s0_1 s0_2 4).bind fun bt126 => (spec_l5Draw.l0 k (([] : List (S84))) (wrap64 (1 + bt126.1)) s0_0 bt126.2.1 bt126.2.2)) = some (r1,r2,r3) := h
 clear h
 obtain ⟨y123,hy123⟩ : ∃ y_ : List (S84),y_ = (([] : List (S84))) := ⟨_,rfl⟩
 replace H : ((spec_l1Below.f s0_0 s0_1 s0_2 4).bind fun bt126 => (spec_l5Draw.l0 k y123 (wrap64 (1 + bt126.1)) s0_0 bt126.2.1 bt126.2.2)) = some (r1,r2,r3) := by first|(rw [hy123];with_reducible exact H)|(have H2_ := (Option.bind_some _ _).symm.trans H;rw [hy123];with_reducible exact H2_)|(have H2_ := (Option.bind_some _ _).symm.trans H;with_reducible exact H2_)|with_reducible exact H|(rw [hy123];exact H)|exact H
 have Ny123 := Aside0.mk hy123
 clear hy123
 replace H := Option.bind_eq_some_iff.mp H
 obtain ⟨⟨t126,t127,t128⟩,A20,H⟩ := H
 replace H : (spec_l5Draw.l0 k y123 (wrap64 (1 + t126)) s0_0 t127 t128) = some (r1,r2,r3) := H
 have A2 := Aside0.mk A20
 clear A20
 have H' := Aside0.mk H
 clear H
 go_enter Try.func94,Try.ntmps94
 go_wp2_with (first|((with_reducible refine gate_dst (N := 9) rfl ?_);refine Kd.S_lit k84 _ 84 ?hg (N := 9) ?hd (xs := ([] : List (S84))) (inner := []) (ok := fun _ => True) (okp := fun _ => True) ?hr ?hp (fun _ hk => hk) trivial (Below.refl _ _) (Nat.le_refl _) (by simp) ?_;(case hd => rfl);(case hg => rfl);(case hr => first|(go_simp;done)|(go_simp;rfl));(case hp => exact (Reps.none _ _));intro v124 w3 ho4 hb hg_ hnew_;clear hg_ hnew_;(first|rw [← Ny123.out] at ho4|(simp only [Int.reduceToNat] at ho4;rw [← Ny123.out] at ho4));replace HB := Aside0.mk (below_step (by repeat (first|(with_reducible first|exact HB.out|apply below_alloc|apply pw_below_drewN|apply below_drew1|refine below_set ?_ (IsS112.ge HI0.out))|exact HB.out)) hb);replace HI0 := Aside0.mk (IsS112.below (by repeat (first|(with_reducible first|exact HI0.out|apply IsS112.alloc|apply IsS112.drewN|apply IsS112.drew|apply IsS112.set_1|apply IsS112.set_2)|exact HI0.out)) hb);have HO125 := Aside0.mk (Kd.S_lower ho4 (keep_size (w := w) (g := g) (row := none) (by repeat (first|(with_reducible first|exact HK.out|apply KeepBut.set_|apply keep_drewN|apply keep_drew|apply keep_alloc)|exact HK.out))));replace HK := Aside0.mk (KeepBut.trans (by repeat (first|(with_reducible first|exact HK.out|apply KeepBut.set_|apply keep_drewN|apply keep_drew|apply keep_alloc)|exact HK.out)) (KeepBut.of_below hb g none) (.inl rfl));clear hb ho4)|((with_reducible refine gcal_ (f := 74) rfl ?_);refine gl_ (some 11) Try.func74 #[.pointer (some ⟨g,0,none⟩),.int .i64 4] ?_;(with_reducible refine (spec_l1Below.calls g s0_0 s0_1 s0_2 4 t126 t127 t128 w0 _ ?side1 ?side2 A2.out).mono ?_);(case side1 => repeat (first|(with_reducible first|exact HI0.out|apply IsS112.alloc|apply IsS112.drewN|apply IsS112.drew|apply IsS112.set_1|apply IsS112.set_2)|exact HI0.out));(case side2 => repeat (first|(with_reducible first|exact HB.out|apply below_alloc|apply pw_below_drewN|apply below_drew1|refine below_set ?_ (IsS112.ge HI0.out))|exact HB.out));rintro e w5 ⟨rfl,hi,hb,hk⟩;refine ⟨_,rfl,?_⟩;replace HO125 := Aside0.mk (Kd.S_mono (Kd.S_keep (IsS112.apartS (show IsS112 w0 _ g s0_0 s0_1 s0_2 from by repeat (first|(with_reducible first|exact HI0.out|apply IsS112.alloc|apply IsS112.drewN|apply IsS112.drew|apply IsS112.set_1|apply IsS112.set_2)|exact HI0.out)) (by (with_reducible repeat (first|apply Kd.S_alloc|apply Kd.S_drewN|apply Kd.S_drew));exact HO125.out) (by decide)) hk (fun _ h => h.2)) (fun _ h => h.1));replace HK := Aside0.mk (KeepBut.trans (by repeat (first|(with_reducible first|exact HK.out|apply KeepBut.set_|apply keep_drewN|apply keep_drew|apply keep_alloc)|exact HK.out)) hk (.inl rfl));replace HB := Aside0.mk (hb);replace HI0 := Aside0.mk (hi);(try clear hb);(try clear hb2);(try clear hk);(try clear hi)))
 go_loopg [3,4] k (fun kq v3 v4 w' => ∃ (x3_1 : List (S84)) (x4_1 : Int) (x1001_1 : Int) (x1002_1 : Int),v4 = .int .i64 x4_1 ∧ Aside0 (spec_l5Draw.l0 kq x3_1 x4_1 s0_0 x1001_1 x1002_1 = some (r1,r2,r3)) ∧ Aside0 (kq ≤ k) ∧ Aside0 (Kd.S k84 84 w' w.heap.size (fun _ => True) v3 x3_1) ∧ Aside0 (IsS112 w0 w' g s0_0 x1001_1 x1002_1) ∧ Aside0 (KeepBut w w' g none) ∧ Aside0 (Below w0.heap.size w0 w'))
 case atStart => exact ⟨(y123),(wrap64 (1 + t126)),(t127),(t128),rs_,H',⟨Nat.le_refl _⟩,⟨by (with_reducible repeat (first|apply Kd.S_alloc|apply Kd.S_drewN|apply Kd.S_drew));exact HO125.out⟩,⟨by repeat (first|(with_reducible first|exact HI0.out|apply IsS112.alloc|apply IsS112.drewN|apply IsS112.drew|apply IsS112.set_1|apply IsS112.set_2)|exact HI0.out)⟩,⟨by repeat (first|(with_reducible first|exact HK.out|apply KeepBut.set_|apply keep_drewN|apply keep_drew|apply keep_alloc)|exact HK.out)⟩,⟨by repeat (first|(with_reducible first|exact HB.out|apply below_alloc|apply pw_below_drewN|apply below_drew1|refine below_set ?_ (IsS112.ge HI0.out))|exact HB.out)⟩⟩
 case round =>
  clear H'
  try clear p2
  obtain ⟨x3_1,x4_1,x1001_1,x1002_1,rfl,HA,HK1,HO_3,HI0,HK,HB⟩ := hrel
  cases gk with
    | zero => exact absurd HA.out (by simp [spec_l5Draw.l0])
    | succ k1 =>
   have H := HA.out
   clear HA
   simp only [spec_l5Draw.l0] at H
   by_cases c6 : x4_1 > 0
   ·rw [if_pos c6] at H
    have c6b0 : decide (0 < x4_1) = true := decide_eq_true c6
    clear c6
    replace H := Option.bind_eq_some_iff.mp H
    obtain ⟨⟨t133,t134,t135⟩,A70,H⟩ := H
    replace H : (spec_l5Draw.l1 k1 x3_1 x4_1 (wrap64 (1 + t133)) s0_0 t134 t135 ([] : List Int)) = some (r1,r2,r3) := H
    have A7 := Aside0.mk A70
    clear A70
    have H' := Aside0.mk H
    clear H
    go_wp2_with (first|((with_reducible refine gate_dst (N := 5) rfl ?_);refine bx_ 5 #[.slice none 0 0] 84 ?_;intro gb132 hg w8 hbox hb;replace HO_3 := Aside0.mk (Kd.S_below (Kd.S_elderB (by (with_reducible repeat (first|apply Kd.S_alloc|apply Kd.S_drewN|apply Kd.S_drew));exact HO_3.out) gb132 (Nat.le_of_eq hg.symm)) hb);replace HB := Aside0.mk (below_step (by repeat (first|(with_reducible first|exact HB.out|apply below_alloc|apply pw_below_drewN|apply below_drew1|refine below_set ?_ (IsS112.ge HI0.out))|exact HB.out)) hb);have BK132 := Aside0.mk (hbox);have GW132 := Aside0.mk ((by rw [hg];exact (keep_size (w := w) (g := g) (row := none) (by repeat (first|(with_reducible first|exact HK.out|apply KeepBut.set_|apply keep_drewN|apply keep_drew|apply keep_alloc)|exact HK.out))) : w.heap.size ≤ gb132));have GE132 := Aside0.mk ((Nat.le_trans HW0.out (by rw [hg];exact (keep_size (w := w) (g := g) (row := none) (by repeat (first|(with_reducible first|exact HK.out|apply KeepBut.set_|apply keep_drewN|apply keep_drew|apply keep_alloc)|exact HK.out))) : w.heap.size ≤ gb132) : w0.heap.size ≤ gb132));replace HK := Aside0.mk (KeepBut.trans (by repeat (first|(with_reducible first|exact HK.out|apply KeepBut.set_|apply keep_drewN|apply keep_drew|apply keep_alloc)|exact HK.out)) (KeepBut.of_below hb g none) (.inl rfl));have NB0_132 := Aside0.mk ((by rw [hg];exact Nat.ne_of_lt (IsS112.lt (show IsS112 w0 _ g s0_0 x1001_1 x1002_1 from by repeat (first|(with_reducible first|exact HI0.out|apply IsS112.alloc|apply IsS112.drewN|apply IsS112.drew|apply IsS112.set_1|apply IsS112.set_2)|exact HI0.out))) : g ≠ gb132));have NB132_0 := Aside0.mk ((by rw [hg];exact Nat.ne_of_gt (IsS112.lt (show IsS112 w0 _ g s0_0 x1001_1 x1002_1 from by repeat (first|(with_reducible first|exact HI0.out|apply IsS112.alloc|apply IsS112.drewN|apply IsS112.drew|apply IsS112.set_1|apply IsS112.set_2)|exact HI0.out))) : gb132 ≠ g));replace HI0 := Aside0.mk (IsS112.below (by repeat (first|(with_reducible first|exact HI0.out|apply IsS112.alloc|apply IsS112.drewN|apply IsS112.drew|apply IsS112.set_1|apply IsS112.set_2)|exact HI0.out)) hb);clear hb hbox hg;have hnb9 := NB132_0.out;have hnc9 := NB0_132.out;have hcz10_0 : w8.cell? ⟨gb132,0,none⟩ = some (.slice none 0 0) := (blk_cell BK132.out 0).trans rfl;have hfz10_0 := blk_frozen BK132.out 0)|((with_reducible refine gcal_ (f := 74) rfl ?_);refine gl_ (some 19) Try.func74 #[.pointer (some ⟨g,0,none⟩),.int .i64 3] ?_;(with_reducible refine (spec_l1Below.calls g s0_0 x1001_1 x1002_1 3 t133 t134 t135 w0 _ ?side1 ?side2 A7.out).mono ?_);(case side1 => repeat (first|(with_reducible first|exact HI0.out|apply IsS112.alloc|apply IsS112.drewN|apply IsS112.drew|apply IsS112.set_1|apply IsS112.set_2|refine IsS112.far ?_ NB0_132.out _)|exact HI0.out));(case side2 => repeat (first|(with_reducible first|exact HB.out|apply below_alloc|apply pw_below_drewN|apply below_drew1|refine below_set ?_ (IsS112.ge HI0.out)|refine below_set ?_ GE132.out)|exact HB.out));rintro e w11 ⟨rfl,hi,hb,hk⟩;refine ⟨_,rfl,?_⟩;replace HO_3 := Aside0.mk (Kd.S_mono (Kd.S_keep (IsS112.apartS (show IsS112 w0 _ g s0_0 x1001_1 x1002_1 from by repeat (first|(with_reducible first|exact HI0.out|apply IsS112.alloc|apply IsS112.drewN|apply IsS112.drew|apply IsS112.set_1|apply IsS112.set_2|refine IsS112.far ?_ NB0_132.out _)|exact HI0.out)) (by (with_reducible repeat (first|apply Kd.S_alloc|apply Kd.S_drewN|apply Kd.S_drew));exact (Kd.S_mono (Kd.S_far (p := ⟨gb132,0,none⟩) (Kd.S_mono HO_3.out (fun k_ hk => (⟨hk,hk.2⟩ : _ ∧ k_ ≠ gb132))) (fun _ hk => hk.2) (.slice none 0 0)) (fun _ h_ => h_.1))) (by decide)) hk (fun _ h => h.2)) (fun _ h => h.1));replace BK132 := Aside0.mk (KeepBut.blk hk (g' := gb132) (o := .cells #[.slice none 0 0] 84 (0,0)) (by (with_reducible repeat (first|refine blk_drewN ?_ _|refine blk_drew ?_|refine blk_alloc ?_ _));refine blk_put (cs := #[.slice none 0 0]) ?_ 0 _ rfl;(with_reducible repeat (first|refine blk_drewN ?_ _|refine blk_drew ?_|refine blk_alloc ?_ _));exact BK132.out) NB132_0.out (by simp));replace HK := Aside0.mk (KeepBut.trans (by repeat (first|(with_reducible first|exact HK.out|apply KeepBut.set_|apply keep_drewN|apply keep_drew|apply keep_alloc|refine keep_far ?_ GW132.out _)|exact HK.out)) hk (.inl rfl));replace HB := Aside0.mk (hb);replace HI0 := Aside0.mk (hi);(try clear hb);(try clear hb2);(try clear hk);(try clear hi)))
    go_loopg [6] k1 (fun kq v6 w' => ∃ (x6_2 : Int) (x1001_2 : Int) (x1002_2 : Int) (x133000_2 : List Int) (u133000 : Value),v6 = .int .i64 x6_2 ∧ Aside0 (spec_l5Draw.l1 kq x3_1 x4_1 x6_2 s0_0 x1001_2 x1002_2 x133000_2 = some (r1,r2,r3)) ∧ Aside0 (kq ≤ k1) ∧ Aside0 (Kd.S k84 84 w' w.heap.size (fun k_ => some k_ ≠ (u133000 : Value).ownBlock ∧ k_ ≠ gb132) u3 x3_1) ∧ Aside0 (Kd.R (Kd.int .i64) 2 w' w.heap.size (fun _ => True) u133000 x133000_2) ∧ Aside0 (w'.heap[gb132]? = some (.cells #[u133000] 84 (0,0))) ∧ Aside0 (IsS112 w0 w' g s0_0 x1001_2 x1002_2) ∧ Aside0 (KeepBut w w' g none) ∧ Aside0 (Below w0.heap.size w0 w'))
    case atStart => exact ⟨(wrap64 (1 + t133)),(t134),(t135),(([] : List Int)),(.slice none 0 0),rs_,H',⟨Nat.le_refl _⟩,⟨by (with_reducible repeat (first|apply Kd.S_alloc|apply Kd.S_drewN|apply Kd.S_drew));exact Kd.S_mono HO_3.out (fun _ hk => ⟨(by simp [Value.ownBlock]),hk.2⟩)⟩,⟨by first|exact Kd.R_nil _ _ _ _ _|exact Kd.N_nil _ _ _ _ _|exact Kd.V_nil _ _ _ _ _|exact Kd.Q_nil _ _ _ _ _|exact Kd.S_nil _ _ _ _ _⟩,⟨kb_ BK132⟩,⟨by repeat (first|(with_reducible first|exact HI0.out|apply IsS112.alloc|apply IsS112.drewN|apply IsS112.drew|apply IsS112.set_1|apply IsS112.set_2|refine IsS112.far ?_ NB0_132.out _)|exact HI0.out)⟩,⟨by repeat (first|(with_reducible first|exact HK.out|apply KeepBut.set_|apply keep_drewN|apply keep_drew|apply keep_alloc|refine keep_far ?_ GW132.out _)|exact HK.out)⟩,⟨by repeat (first|(with_reducible first|exact HB.out|apply below_alloc|apply pw_below_drewN|apply below_drew1|refine below_set ?_ (IsS112.ge HI0.out)|refine below_set ?_ GE132.out)|exact HB.out)⟩⟩
    case round =>
     clear H'
     try clear p2
     try clear c6
     try clear c6b0
     try clear p6
     try clear c7
     try clear c9
     try clear hcz10_0
     try clear hfz10_0
     try clear p2
     obtain ⟨x6_2,x1001_2,x1002_2,x133000_2,u133000,rfl,HA,HK2,HO_3,HO_133000,BK132,HI0,HK,HB⟩ := hrel
     cases gk with
     | zero => exact absurd HA.out (by simp [spec_l5Draw.l1])
     | succ k2 =>
      have H := HA.out
      clear HA
      simp only [spec_l5Draw.l1] at H
      by_cases c12 : x6_2 > 0
      ·rw [if_pos c12] at H
       have c12b0 : decide (0 < x6_2) = true := decide_eq_true c12
       clear c12
       replace H := Option.bind_eq_some_iff.mp H
       obtain ⟨⟨t139,t140,t141⟩,A130,H⟩ := H
       replace H : ((spec_l3Has.f k2 x133000_2 t139).bind fun t142 => (if t142 = true then (spec_l5Draw.l1 k2 x3_1 x4_1 (wrap64 (x6_2 - 1)) s0_0 t140 t141 x133000_2) else (if x133000_2.length < 17592186044416 then (spec_l5Draw.l1 k2 x3_1 x4_1 (wrap64 (x6_2 - 1)) s0_0 t140 t141 (x133000_2 ++ [t139])) else (none)))) = some (r1,r2,r3) := H
       have A13 := Aside0.mk A130
       clear A130
       replace H := bs_ H
       obtain ⟨t142,A14,H⟩ := H
       by_cases c15 : t142 = true
       ·subst c15
        replace H := it_ H
        have H' := Aside0.mk H
        clear H
        go_wp2_with (first|((with_reducible refine gcal_ (f := 74) rfl ?_);refine gl_ (some 26) Try.func74 #[.pointer (some ⟨g,0,none⟩),.int .i64 6] ?_;(with_reducible refine (spec_l1Below.calls g s0_0 x1001_2 x1002_2 6 t139 t140 t141 w0 _ ?side1 ?side2 A13.out).mono ?_);(case side1 => repeat (first|(with_reducible first|exact HI0.out|apply IsS112.alloc|apply IsS112.drewN|apply IsS112.drew|apply IsS112.set_1|apply IsS112.set_2|refine IsS112.far ?_ NB0_132.out _)|exact HI0.out));(case side2 => repeat (first|(with_reducible first|exact HB.out|apply below_alloc|apply pw_below_drewN|apply below_drew1|refine below_set ?_ (IsS112.ge HI0.out)|refine below_set ?_ GE132.out)|exact HB.out));rintro e w16 ⟨rfl,hi,hb,hk⟩;refine ⟨_,rfl,?_⟩;replace HO_3 := Aside0.mk (Kd.S_mono (Kd.S_keep (IsS112.apartS (show IsS112 w0 _ g s0_0 x1001_2 x1002_2 from by repeat (first|(with_reducible first|exact HI0.out|apply IsS112.alloc|apply IsS112.drewN|apply IsS112.drew|apply IsS112.set_1|apply IsS112.set_2|refine IsS112.far ?_ NB0_132.out _)|exact HI0.out)) (by (with_reducible repeat (first|apply Kd.S_alloc|apply Kd.S_drewN|apply Kd.S_drew));exact HO_3.out) (by decide)) hk (fun _ h => h.2)) (fun _ h => h.1));replace HO_133000 := Aside0.mk (Kd.R_mono (Kd.R_keep (IsS112.apart (show IsS112 w0 _ g s0_0 x1001_2 x1002_2 from by repeat (first|(with_reducible first|exact HI0.out|apply IsS112.alloc|apply IsS112.drewN|apply IsS112.drew|apply IsS112.set_1|apply IsS112.set_2|refine IsS112.far ?_ NB0_132.out _)|exact HI0.out)) (by (with_reducible repeat (first|apply Kd.R_alloc|apply Kd.R_drewN|apply Kd.R_drew));exact HO_133000.out) (by decide)) hk (fun _ h => h.2)) (fun _ h => h.1));replace BK132 := Aside0.mk (KeepBut.blk hk (g' := gb132) (o := .cells #[u133000] 84 (0,0)) kk_ NB132_0.out (by simp));replace HK := Aside0.mk (KeepBut.trans (by repeat (first|(with_reducible first|exact HK.out|apply KeepBut.set_|apply keep_drewN|apply keep_drew|apply keep_alloc|refine keep_far ?_ GW132.out _)|exact HK.out)) hk (.inl rfl));replace HB := Aside0.mk (hb);replace HI0 := Aside0.mk (hi);(try clear hb);(try clear hb2);(try clear hk);(try clear hi);have hnb17 := NB132_0.out;have hnc17 := NB0_132.out;have hcz18_0 : w16.cell? ⟨gb132,0,none⟩ = some (u133000) := (blk_cell BK132.out 0).trans rfl;have hfz18_0 := blk_frozen BK132.out 0;obtain ⟨Ao19,co19,eo19⟩ := Kd.R_slice HO_133000.out;subst eo19)|((with_reducible refine gcal_ (f := 70) rfl ?_);refine gl_ (some 30) Try.func70 #[.slice Ao19 x133000_2.length co19,.int .i64 t139] ?_;(with_reducible refine (spec_l3Has.calls k2 _ _ x133000_2 t139 true _ ?side1 ?side2 A14.out).mono ?_);(case side1 => repeat (first|exact (Kd.R_reads' HO_133000.out).2.2|(with_reducible refine Kd.C_alloc ?_ _)|(with_reducible refine Kd.C_drewN ?_ _)|(with_reducible refine Kd.C_drew ?_)));(case side2 => exact (Kd.R_reads' HO_133000.out).2.1);rintro e w' ⟨rfl,⟨nd,rfl⟩⟩;refine ⟨_,rfl,?_⟩))
        go_roundg k2
        case measure => have := HK1.out;have := HK2.out;omega
        case rel => exact ⟨(wrap64 (x6_2 - 1)),(t140),(t141),(x133000_2),(.slice Ao19 x133000_2.length co19),rs_,H',⟨by have := HK1.out;have := HK2.out;omega⟩,⟨by (with_reducible repeat (first|apply Kd.S_alloc|apply Kd.S_drewN|apply Kd.S_drew));exact HO_3.out⟩,⟨by (with_reducible repeat (first|apply Kd.R_alloc|apply Kd.R_drewN|apply Kd.R_drew));exact HO_133000.out⟩,⟨kb_ BK132⟩,⟨by repeat (first|(with_reducible first|exact HI0.out|apply IsS112.alloc|apply IsS112.drewN|apply IsS112.drew|apply IsS112.set_1|apply IsS112.set_2|refine IsS112.far ?_ NB0_132.out _)|exact HI0.out)⟩,⟨by repeat (first|(with_reducible first|exact HK.out|apply KeepBut.set_|apply keep_drewN|apply keep_drew|apply keep_alloc|refine keep_far ?_ GW132.out _)|exact HK.out)⟩,⟨by repeat (first|(with_reducible first|exact HB.out|apply below_alloc|apply pw_below_drewN|apply below_drew1|refine below_set ?_ (IsS112.ge HI0.out)|refine below_set ?_ GE132.out)|exact HB.out)⟩⟩
       ·replace c15 := Bool.eq_false_iff.mpr c15
        subst c15
        replace H := ie_ H
        by_cases c20 : x133000_2.length < 17592186044416
        ·rw [if_pos c20] at H
         have LMc20 := Aside0.mk c20
         clear c20
         obtain ⟨y143,hy143⟩ : ∃ y_ : List Int,y_ = (x133000_2 ++ [t139]) := ⟨_,rfl⟩
         replace H : (spec_l5Draw.l1 k2 x3_1 x4_1 (wrap64 (x6_2 - 1)) s0_0 t140 t141 y143) = some (r1,r2,r3) := by first|(rw [hy143];with_reducible exact H)|(have H2_ := (Option.bind_some _ _).symm.trans H;rw [hy143];with_reducible exact H2_)|(have H2_ := (Option.bind_some _ _).symm.trans H;with_reducible exact H2_)|with_reducible exact H|(rw [hy143];exact H)|exact H
         have Ny143 := Aside0.mk hy143
         clear hy143
         have H' := Aside0.mk H
         clear H
         go_wp2_with (first|((with_reducible refine gcal_ (f := 74) rfl ?_);refine gl_ (some 26) Try.func74 #[.pointer (some ⟨g,0,none⟩),.int .i64 6] ?_;(with_reducible refine (spec_l1Below.calls g s0_0 x1001_2 x1002_2 6 t139 t140 t141 w0 _ ?side1 ?side2 A13.out).mono ?_);(case side1 => repeat (first|(with_reducible first|exact HI0.out|apply IsS112.alloc|apply IsS112.drewN|apply IsS112.drew|apply IsS112.set_1|apply IsS112.set_2|refine IsS112.far ?_ NB0_132.out _)|exact HI0.out));(case side2 => repeat (first|(with_reducible first|exact HB.out|apply below_alloc|apply pw_below_drewN|apply below_drew1|refine below_set ?_ (IsS112.ge HI0.out)|refine below_set ?_ GE132.out)|exact HB.out));rintro e w21 ⟨rfl,hi,hb,hk⟩;refine ⟨_,rfl,?_⟩;replace HO_3 := Aside0.mk (Kd.S_mono (Kd.S_keep (IsS112.apartS (show IsS112 w0 _ g s0_0 x1001_2 x1002_2 from by repeat (first|(with_reducible first|exact HI0.out|apply IsS112.alloc|apply IsS112.drewN|apply IsS112.drew|apply IsS112.set_1|apply IsS112.set_2|refine IsS112.far ?_ NB0_132.out _)|exact HI0.out)) (by (with_reducible repeat (first|apply Kd.S_alloc|apply Kd.S_drewN|apply Kd.S_drew));exact HO_3.out) (by decide)) hk (fun _ h => h.2)) (fun _ h => h.1));replace HO_133000 := Aside0.mk (Kd.R_mono (Kd.R_keep (IsS112.apart (show IsS112 w0 _ g s0_0 x1001_2 x1002_2 from by repeat (first|(with_reducible first|exact HI0.out|apply IsS112.alloc|apply IsS112.drewN|apply IsS112.drew|apply IsS112.set_1|apply IsS112.set_2|refine IsS112.far ?_ NB0_132.out _)|exact HI0.out)) (by (with_reducible repeat (first|apply Kd.R_alloc|apply Kd.R_drewN|apply Kd.R_drew));exact HO_133000.out) (by decide)) hk (fun _ h => h.2)) (fun _ h => h.1));replace BK132 := Aside0.mk (KeepBut.blk hk (g' := gb132) (o := .cells #[u133000] 84 (0,0)) kk_ NB132_0.out (by simp));replace HK := Aside0.mk (KeepBut.trans (by repeat (first|(with_reducible first|exact HK.out|apply KeepBut.set_|apply keep_drewN|apply keep_drew|apply keep_alloc|refine keep_far ?_ GW132.out _)|exact HK.out)) hk (.inl rfl));replace HB := Aside0.mk (hb);replace HI0 := Aside0.mk (hi);(try clear hb);(try clear hb2);(try clear hk);(try clear hi);have hnb22 := NB132_0.out;have hnc22 := NB0_132.out;have hcz23_0 : w21.cell? ⟨gb132,0,none⟩ = some (u133000) := (blk_cell BK132.out 0).trans rfl;have hfz23_0 := blk_frozen BK132.out 0;obtain ⟨Ao24,co24,eo24⟩ := Kd.R_slice HO_133000.out;subst eo24)|((with_reducible refine gcal_ (f := 70) rfl ?_);refine gl_ (some 30) Try.func70 #[.slice Ao24 x133000_2.length co24,.int .i64 t139] ?_;(with_reducible refine (spec_l3Has.calls k2 _ _ x133000_2 t139 false _ ?side1 ?side2 A14.out).mono ?_);(case side1 => repeat (first|exact (Kd.R_reads' HO_133000.out).2.2|(with_reducible refine Kd.C_alloc ?_ _)|(with_reducible refine Kd.C_drewN ?_ _)|(with_reducible refine Kd.C_drew ?_)));(case side2 => exact (Kd.R_reads' HO_133000.out).2.1);rintro e w' ⟨rfl,⟨nd,rfl⟩⟩;refine ⟨_,rfl,?_⟩;(try (rw [drewN_self w21];generalize hq_ : World.drewN w21 _ = w21;have n0_ : Aside0 (Kd.R (Kd.int .i64) 2 w21 w.heap.size (fun _ => True) (.slice Ao24 x133000_2.length co24) x133000_2) := ⟨by rw [← hq_];exact (by (with_reducible repeat (first|apply Kd.R_alloc|apply Kd.R_drewN|apply Kd.R_drew));exact HO_133000.out)⟩;have n1_ : Aside0 (Kd.S k84 84 w21 w.heap.size (fun k_ => some k_ ≠ (.slice Ao24 x133000_2.length co24 : Value).ownBlock ∧ k_ ≠ gb132) u3 x3_1) := ⟨by rw [← hq_];exact (by (with_reducible repeat (first|apply Kd.S_alloc|apply Kd.S_drewN|apply Kd.S_drew));exact HO_3.out)⟩;have n2_ : Aside0 (w21.heap[gb132]? = some (.cells #[.slice Ao24 x133000_2.length co24] 84 (0,0))) := ⟨by rw [← hq_];exact kk_⟩;have n3_ : Aside0 (IsS112 w0 w21 g s0_0 t140 t141) := ⟨by rw [← hq_];exact (by repeat (first|(with_reducible first|exact HI0.out|apply IsS112.alloc|apply IsS112.drewN|apply IsS112.drew|apply IsS112.set_1|apply IsS112.set_2|refine IsS112.far ?_ NB0_132.out _)|exact HI0.out))⟩;have n4_ : Aside0 (KeepBut w w21 g none) := ⟨by rw [← hq_];exact (by repeat (first|(with_reducible first|exact HK.out|apply KeepBut.set_|apply keep_drewN|apply keep_drew|apply keep_alloc|refine keep_far ?_ GW132.out _)|exact HK.out))⟩;have n5_ : Aside0 (Below w0.heap.size w0 w21) := ⟨by rw [← hq_];exact (by repeat (first|(with_reducible first|exact HB.out|apply below_alloc|apply pw_below_drewN|apply below_drew1|refine below_set ?_ (IsS112.ge HI0.out)|refine below_set ?_ GE132.out)|exact HB.out))⟩;clear HO_133000 HO_3 BK132 HI0 HK HB hq_;have HO_133000 := n0_;have HO_3 := n1_;have BK132 := n2_;have HI0 := n3_;have HK := n4_;have HB := n5_;clear n0_ n1_ n2_ n3_ n4_ n5_));(try (have hcy1_0 : w21.cell? ⟨gb132,0,none⟩ = some (.slice Ao24 x133000_2.length co24) := (blk_cell BK132.out 0).trans rfl));(try (have hfy1_0 := blk_frozen BK132.out 0)))|((with_reducible refine gblt_ (b := .append) (xs := #[.tmp 33,.tmp 35]) rfl ?_);at_builtin;refine Kd.R_append (Kd.int .i64) w.heap.size rfl (.tmp 33) (.tmp 35) 35 2 (.int .i64 0) 8 rfl Try.underlying35 info2 rfl (by decide) (by omega) (.slice Ao24 x133000_2.length co24) x133000_2 t139 [.int .i64 t139] (fun _ => True) (fun _ => False) rfl rfl ?aP (fun _ hk => hk.elim) ?aF ?aO (Below.refl _ _) ?aS ?aL ?_;(case aP => exact rfl);(case aF => exact (fun _ _ => trivial));(case aO => exact (by (with_reducible repeat (first|apply Kd.R_alloc|apply Kd.R_drewN|apply Kd.R_drew));exact HO_133000.out));(case aS => exact (keep_size (w := w) (g := g) (row := none) (by repeat (first|(with_reducible first|exact HK.out|apply KeepBut.set_|apply keep_drewN|apply keep_drew|apply keep_alloc|refine keep_far ?_ GW132.out _)|exact HK.out))));(case aL => have := LMc20.out;omega);intro v144 w25 ho hb hg hat;rw [← Ny143.out] at ho;replace HO_3 := Aside0.mk (Kd.S_after (ok := (fun k_ => k_ ≠ gb132)) (by (with_reducible repeat (first|apply Kd.S_alloc|apply Kd.S_drewN|apply Kd.S_drew));exact Kd.S_mono HO_3.out (fun _ hk => ⟨hk.2,hk.1⟩)) hg hat);replace BK132 := Aside0.mk (blk_grown (kb_ BK132) hg (Kd.R_ne HO_133000.out BK132.out (by decide)));replace HB := Aside0.mk (below_weaken (by repeat (first|(with_reducible first|exact HB.out|apply below_alloc|apply pw_below_drewN|apply below_drew1|refine below_set ?_ (IsS112.ge HI0.out)|refine below_set ?_ GE132.out)|exact HB.out)) HL.out hb);replace HI0 := Aside0.mk (IsS112.grown (by repeat (first|(with_reducible first|exact HI0.out|apply IsS112.alloc|apply IsS112.drewN|apply IsS112.drew|apply IsS112.set_1|apply IsS112.set_2|refine IsS112.far ?_ NB0_132.out _)|exact HI0.out)) hg (IsS112.own_ne HI0.out HO_133000.out (by decide)));replace HK := Aside0.mk (KeepBut.trans (by repeat (first|(with_reducible first|exact HK.out|apply KeepBut.set_|apply keep_drewN|apply keep_drew|apply keep_alloc|refine keep_far ?_ GW132.out _)|exact HK.out)) (KeepBut.of_grown hg g) (Kd.R_base2 HO_133000.out));have HO145 := Aside0.mk (ho);clear HO_133000;clear ho hb hg hat;obtain ⟨Ao26,co26,eo26⟩ := Kd.R_slice HO145.out;subst eo26;have hcz27_0 : w25.cell? ⟨gb132,0,none⟩ = some (.slice Ao24 x133000_2.length co24) := (blk_cell BK132.out 0).trans rfl;have hfz27_0 := blk_frozen BK132.out 0))
         go_roundg k2
         case measure => have := HK1.out;have := HK2.out;omega
         case rel => exact ⟨(wrap64 (x6_2 - 1)),(t140),(t141),(y143),(.slice Ao26 y143.length co26),rs_,H',⟨by have := HK1.out;have := HK2.out;omega⟩,⟨by (with_reducible repeat (first|apply Kd.S_alloc|apply Kd.S_drewN|apply Kd.S_drew));exact Kd.S_mono (Kd.S_far (p := ⟨gb132,0,none⟩) (Kd.S_mono HO_3.out (fun k_ hk => (⟨hk,hk.1⟩ : _ ∧ k_ ≠ gb132))) (fun _ hk => hk.2) (.slice Ao26 y143.length co26)) (fun _ hk => ⟨hk.1.2,hk.1.1⟩)⟩,⟨by (with_reducible repeat (first|apply Kd.R_alloc|apply Kd.R_drewN|apply Kd.R_drew));exact Kd.R_mono (Kd.R_far (p := ⟨gb132,0,none⟩) (Kd.R_types HO145.out BK132.out (by decide)) (fun _ hk => hk.2) (.slice Ao26 y143.length co26)) (fun _ hk => trivial)⟩,⟨by (with_reducible repeat (first|refine blk_drewN ?_ _|refine blk_drew ?_|refine blk_alloc ?_ _));refine blk_put (cs := #[.slice Ao24 x133000_2.length co24]) ?_ 0 _ rfl;(with_reducible repeat (first|refine blk_drewN ?_ _|refine blk_drew ?_|refine blk_alloc ?_ _));exact BK132.out⟩,⟨by repeat (first|(with_reducible first|exact HI0.out|apply IsS112.alloc|apply IsS112.drewN|apply IsS112.drew|apply IsS112.set_1|apply IsS112.set_2|refine IsS112.far ?_ NB0_132.out _)|exact HI0.out)⟩,⟨by repeat (first|(with_reducible first|exact HK.out|apply KeepBut.set_|apply keep_drewN|apply keep_drew|apply keep_alloc|refine keep_far ?_ GW132.out _)|exact HK.out)⟩,⟨by repeat (first|(with_reducible first|exact HB.out|apply below_alloc|apply pw_below_drewN|apply below_drew1|refine below_set ?_ (IsS112.ge HI0.out)|refine below_set ?_ GE132.out)|exact HB.out)⟩⟩
        ·rw [if_neg c20] at H
         exact absurd H (by simp)
      ·rw [if_neg c12] at H
       have c12b0 : decide (0 < x6_2) = false := decide_eq_false c12
       clear c12
       by_cases c28 : x3_1.length < 5864062014805
       ·rw [if_pos c28] at H
        have LMc28 := Aside0.mk c28
        clear c28
        obtain ⟨y136,hy136⟩ : ∃ y_ : List (S84),y_ = (x3_1 ++ [(⟨x133000_2⟩ : S84)]) := ⟨_,rfl⟩
        replace H : (spec_l5Draw.l0 k2 y136 (wrap64 (x4_1 - 1)) s0_0 x1001_2 x1002_2) = some (r1,r2,r3) := by first|(rw [hy136];with_reducible exact H)|(have H2_ := (Option.bind_some _ _).symm.trans H;rw [hy136];with_reducible exact H2_)|(have H2_ := (Option.bind_some _ _).symm.trans H;with_reducible exact H2_)|with_reducible exact H|(rw [hy136];exact H)|exact H
        have Ny136 := Aside0.mk hy136
        clear hy136
        have H' := Aside0.mk H
        clear H
        have hnb29 := NB132_0.out
        have hnc29 := NB0_132.out
        have hcz30_0 : wr.cell? ⟨gb132,0,none⟩ = some (u133000) := (blk_cell BK132.out 0).trans rfl
        have hfz30_0 := blk_frozen BK132.out 0
        obtain ⟨Ao32,co32,eo32⟩ := Kd.R_slice HO_133000.out
        subst eo32
        go_wp2_with (first|((with_reducible refine gblt_ (b := .append) (xs := #[.tmp 38,.tmp 40]) rfl ?_);at_builtin;refine Kd.S_append k84 w.heap.size rfl (.tmp 38) (.tmp 40) 70 84 (.agg #[(.slice none 0 0)]) 24 rfl Try.underlying70 info84 rfl (by decide) (by omega) u3 x3_1 (⟨x133000_2⟩ : S84) [.slice Ao32 x133000_2.length co32] (fun k_ => k_ ≠ gb132) (fun k_ => some k_ = (.slice Ao32 x133000_2.length co32 : Value).ownBlock) rfl rfl ?aP (fun k_ hk_ => ((Kd.R_mono (ok' := fun k_ => ((fun k_ => k_ ≠ gb132)) k_ ∧ some k_ ≠ (u3 : Value).ownBlock) (Kd.R_types (Kd.R_apart' (HO_133000.out) (Kd.S_typed HO_3.out) (by decide)) BK132.out (by decide)) (fun k_ hk => ⟨hk.2,hk.1.2⟩))).1 k_ hk_.symm) ?aF ?aO (Below.refl _ _) ?aS ?aL ?_;(case aP => exact k84_mkM _ _ _ (⟨x133000_2⟩ : S84) (Kd.R_mono (Kd.R_tight rfl (Kd.R_mono (ok' := fun k_ => ((fun k_ => k_ ≠ gb132)) k_ ∧ some k_ ≠ (u3 : Value).ownBlock) (Kd.R_types (Kd.R_apart' (HO_133000.out) (Kd.S_typed HO_3.out) (by decide)) BK132.out (by decide)) (fun k_ hk => ⟨hk.2,hk.1.2⟩))) (fun _ h_ => h_)));(case aF => exact (fun k_ hk => Kd.freshB (kb_ BK132) k_ hk));(case aO => exact (by (with_reducible repeat (first|apply Kd.S_alloc|apply Kd.S_drewN|apply Kd.S_drew));exact Kd.S_mono HO_3.out (fun k_ hk => ⟨hk.2,fun e_ => hk.1 e_⟩)));(case aS => exact (keep_size (w := w) (g := g) (row := none) (by repeat (first|(with_reducible first|exact HK.out|apply KeepBut.set_|apply keep_drewN|apply keep_drew|apply keep_alloc|refine keep_far ?_ GW132.out _)|exact HK.out))));(case aL => have := LMc28.out;omega);intro v137 w31 ho hb hg hat;rw [← Ny136.out] at ho;replace BK132 := Aside0.mk (blk_grown (kb_ BK132) hg (Kd.S_away HO_3.out (fun _ hk => hk.2)));replace HB := Aside0.mk (below_weaken (by repeat (first|(with_reducible first|exact HB.out|apply below_alloc|apply pw_below_drewN|apply below_drew1|refine below_set ?_ (IsS112.ge HI0.out)|refine below_set ?_ GE132.out)|exact HB.out)) HL.out hb);replace HI0 := Aside0.mk (IsS112.grown (by repeat (first|(with_reducible first|exact HI0.out|apply IsS112.alloc|apply IsS112.drewN|apply IsS112.drew|apply IsS112.set_1|apply IsS112.set_2|refine IsS112.far ?_ NB0_132.out _)|exact HI0.out)) hg (IsS112.own_neS HI0.out HO_3.out (by decide)));replace HK := Aside0.mk (KeepBut.trans (by repeat (first|(with_reducible first|exact HK.out|apply KeepBut.set_|apply keep_drewN|apply keep_drew|apply keep_alloc|refine keep_far ?_ GW132.out _)|exact HK.out)) (KeepBut.of_grown hg g) (Kd.S_base2 HO_3.out));have HO138 := Aside0.mk (ho);clear HO_3 HO_133000;clear ho hb hg hat))
        go_roundg k2
        case measure => have := HK1.out;have := HK2.out;omega
        case rel => exact ⟨(y136),(wrap64 (x4_1 - 1)),(x1001_2),(x1002_2),rs_,H',⟨by have := HK1.out;have := HK2.out;omega⟩,⟨by (with_reducible repeat (first|apply Kd.S_alloc|apply Kd.S_drewN|apply Kd.S_drew));exact Kd.S_mono HO138.out (fun _ hk => trivial)⟩,⟨by repeat (first|(with_reducible first|exact HI0.out|apply IsS112.alloc|apply IsS112.drewN|apply IsS112.drew|apply IsS112.set_1|apply IsS112.set_2|refine IsS112.far ?_ NB0_132.out _)|exact HI0.out)⟩,⟨by repeat (first|(with_reducible first|exact HK.out|apply KeepBut.set_|apply keep_drewN|apply keep_drew|apply keep_alloc|refine keep_far ?_ GW132.out _)|exact HK.out)⟩,⟨by repeat (first|(with_reducible first|exact HB.out|apply below_alloc|apply pw_below_drewN|apply below_drew1|refine below_set ?_ (IsS112.ge HI0.out)|refine below_set ?_ GE132.out)|exact HB.out)⟩⟩
       ·rw [if_neg c28] at H
        exact absurd H (by simp)
   ·rw [if_neg c6] at H
    have c6b0 : decide (0 < x4_1) = false := decide_eq_false c6
    clear c6
    replace H := Option.bind_eq_some_iff.mp H
    obtain ⟨⟨t129,t130,t131⟩,A330,H⟩ := H
    replace H : (if t129 = true then (spec_l5Draw.h k1 x3_1 s0_0 t130 t131) else (some (x3_1,t130,t131))) = some (r1,r2,r3) := H
    have A33 := Aside0.mk A330
    clear A330
    by_cases c34 : t129 = true
    ·subst c34
     replace H := it_ H
     unfold spec_l5Draw.h at H
     obtain ⟨⟨a1,a2,a3⟩,B1_,H⟩ := Option.bind_eq_some_iff.1 H
     have B1 : Aside0 (spec_l1Below.f s0_0 t130 t131 (x3_1.length : Int) = some (a1,a2,a3)) := ⟨B1_⟩
     clear B1_
     dsimp only at H
     obtain ⟨⟨b1,b2,b3⟩,B2_,H⟩ := Option.bind_eq_some_iff.1 H
     have B2 : Aside0 (spec_l1Below.f s0_0 a2 a3 3 = some (b1,b2,b3)) := ⟨B2_⟩
     clear B2_
     dsimp only at H
     by_cases q1 : 0 ≤ a1
     rotate_left
     ·rw [if_neg q1] at H;cases H
     rw [if_pos q1] at H
     by_cases q2 : a1 < (x3_1.length : Int)
     rotate_left
     ·rw [if_neg q2] at H;cases H
     rw [if_pos q2] at H
     have Q1 := Aside0.mk q1
     have Q2 := Aside0.mk q2
     have p1_ : (0 ≤ a1) = True := eq_true q1
     have q1_ : (a1 < (x3_1.length : Int)) = True := eq_true q2
     obtain ⟨go,co,eo,gbo,glo,_⟩ := Kd.S_form HO_3.out (by omega)
     subst eo
     have GO : Aside0 (w.heap.size ≤ go) := ⟨gbo⟩
     clear q1 q2 gbo glo
     by_cases e0 : b1 = 0
     ·subst e0
      rw [if_pos rfl] at H
      obtain ⟨⟨c1,c2,c3⟩,B3_,H⟩ := Option.bind_eq_some_iff.1 H
      have B3 : Aside0 (spec_l1Below.f s0_0 b2 b3 4 = some (c1,c2,c3)) := ⟨B3_⟩
      clear B3_
      dsimp only at H
      by_cases q3 : 0 < (rd_T84 x3_1 a1).f0.length
      rotate_left
      ·rw [if_neg q3] at H;cases H
      rw [if_pos q3] at H
      by_cases q4 : 0 ≤ c1
      rotate_left
      ·rw [if_neg q4] at H;cases H
      rw [if_pos q4] at H
      by_cases q5 : c1 < 4
      rotate_left
      ·rw [if_neg q5] at H;cases H
      rw [if_pos q5] at H
      by_cases q6 : (rd_T84 x3_1 a1).f0.length < 17592186044416
      rotate_left
      ·rw [if_neg q6] at H;cases H
      rw [if_pos q6] at H
      have Q3 := Aside0.mk q3
      have Q4 := Aside0.mk q4
      have Q5 := Aside0.mk q5
      have Q6 := Aside0.mk q6
      have p3_ : ((0 : Int) < ((rd_T84 x3_1 a1).f0.length : Int)) = True := eq_true (by omega)
      have p3b_ : (0 < (rd_T84 x3_1 a1).f0.length) = True := eq_true q3
      clear q3 q4 q5 q6
      simp only [Option.some.injEq,Prod.mk.injEq] at H
      obtain ⟨rfl,rfl,rfl⟩ := H
      go_wp2_with (first|((with_reducible refine gcal_ (f := 88) rfl ?_);refine gl_ (some 43) Try.func88 #[.pointer (some ⟨g,0,none⟩),.int .i64 10] ?_;(with_reducible refine (spec_l1Once.calls g s0_0 x1001_1 x1002_1 10 true t130 t131 w0 _ ?side1 ?side2 A33.out).mono ?_);(case side1 => repeat (first|(with_reducible first|exact HI0.out|apply IsS112.alloc|apply IsS112.drewN|apply IsS112.drew|apply IsS112.set_1|apply IsS112.set_2)|exact HI0.out));(case side2 => repeat (first|(with_reducible first|exact HB.out|apply below_alloc|apply pw_below_drewN|apply below_drew1|refine below_set ?_ (IsS112.ge HI0.out))|exact HB.out));rintro e w35 ⟨rfl,hi,hb,hk⟩;refine ⟨_,rfl,?_⟩;replace HO_3 := Aside0.mk (Kd.S_mono (Kd.S_keep (IsS112.apartS (show IsS112 w0 _ g s0_0 x1001_1 x1002_1 from by repeat (first|(with_reducible first|exact HI0.out|apply IsS112.alloc|apply IsS112.drewN|apply IsS112.drew|apply IsS112.set_1|apply IsS112.set_2)|exact HI0.out)) (by (with_reducible repeat (first|apply Kd.S_alloc|apply Kd.S_drewN|apply Kd.S_drew));exact HO_3.out) (by decide)) hk (fun _ h => h.2)) (fun _ h => h.1));replace HK := Aside0.mk (KeepBut.trans (by repeat (first|(with_reducible first|exact HK.out|apply KeepBut.set_|apply keep_drewN|apply keep_drew|apply keep_alloc)|exact HK.out)) hk (.inl rfl));replace HB := Aside0.mk (hb);replace HI0 := Aside0.mk (hi);(try clear hb);(try clear hb2);(try clear hk);(try clear hi))|((with_reducible refine gcal_ (f := 74) rfl ?_);refine gl_ (some 48) Try.func74 #[.pointer (some ⟨g,0,none⟩),.int .i64 (x3_1.length : Int)] ?_;(with_reducible refine (spec_l1Below.calls g s0_0 t130 t131 (x3_1.length : Int) a1 a2 a3 w0 _ ?side1 ?side2 B1.out).mono ?_);(case side1 => exact (by repeat (first|exact HI0.out|apply IsS112.alloc|apply IsS112.drewN|apply IsS112.drew)));(case side2 => exact (by repeat (first|exact HB.out|apply below_alloc|apply pw_below_drewN|apply below_drew1)));rintro e wo ⟨rfl,hi,hb,hk⟩;refine ⟨_,rfl,?_⟩;replace HO_3 := Aside0.mk (Kd.S_mono (Kd.S_keep (IsS112.apartS (show IsS112 w0 _ g s0_0 t130 t131 from (by repeat (first|exact HI0.out|apply IsS112.alloc|apply IsS112.drewN|apply IsS112.drew))) (by (with_reducible repeat (first|apply Kd.S_alloc|apply Kd.S_drewN|apply Kd.S_drew));exact HO_3.out) (by decide)) hk (fun _ h => h.2)) (fun _ h => h.1));replace HK := Aside0.mk (KeepBut.trans (by repeat (first|exact HK.out|apply keep_drewN|apply keep_drew|apply keep_alloc)) hk (.inl rfl));replace HB := Aside0.mk hb;replace HI0 := Aside0.mk hi;clear hb hk hi)|((with_reducible refine gcal_ (f := 74) rfl ?_);refine gl_ (some 51) Try.func74 #[.pointer (some ⟨g,0,none⟩),.int .i64 3] ?_;(with_reducible refine (spec_l1Below.calls g s0_0 a2 a3 3 0 b2 b3 w0 _ ?side1 ?side2 B2.out).mono ?_);(case side1 => exact (by repeat (first|exact HI0.out|apply IsS112.alloc|apply IsS112.drewN|apply IsS112.drew)));(case side2 => exact (by repeat (first|exact HB.out|apply below_alloc|apply pw_below_drewN|apply below_drew1)));rintro e wq ⟨rfl,hi,hb,hk⟩;refine ⟨_,rfl,?_⟩;replace HO_3 := Aside0.mk (Kd.S_mono (Kd.S_keep (IsS112.apartS (show IsS112 w0 _ g s0_0 a2 a3 from (by repeat (first|exact HI0.out|apply IsS112.alloc|apply IsS112.drewN|apply IsS112.drew))) (by (with_reducible repeat (first|apply Kd.S_alloc|apply Kd.S_drewN|apply Kd.S_drew));exact HO_3.out) (by decide)) hk (fun _ h => h.2)) (fun _ h => h.1));replace HK := Aside0.mk (KeepBut.trans (by repeat (first|exact HK.out|apply keep_drewN|apply keep_drew|apply keep_alloc)) hk (.inl rfl));replace HB := Aside0.mk hb;replace HI0 := Aside0.mk hi;clear hb hk hi))
      have LG : Aside0 (g < wq.heap.size) := ⟨IsS112.lt HI0.out⟩
      have LO : Aside0 (go < wq.heap.size) := ⟨by obtain ⟨_,_,e_,_,l_,_⟩ := Kd.S_form HO_3.out (by have := Q1.out;have := Q2.out;omega);injection e_ with e_;injection e_ with e_;injection e_ with e_;rw [e_];exact l_⟩
      have NEgo : Aside0 (g ≠ go) := ⟨fun e_ => (IsS112.own_neS HI0.out HO_3.out (by decide)) (by rw [e_];rfl)⟩
      have HX := Kd.S_mono (ok' := fun k_ => k_ ≠ g ∧ ¬ wq.heap.size ≤ k_) (Kd.S_bound (IsS112.apartS HI0.out HO_3.out (by decide))) (fun k_ hk => ⟨hk.1.2,Nat.not_le.2 hk.2.2.1⟩)
      obtain ⟨oki,ce,hcl,hM,hcc,hfr,hoki,hH⟩ := Kd.S_elem HX z84 a1 Q1.out Q2.out
      obtain ⟨v0,rfl,hv⟩ := k84_openM hM
      replace hv : (Kd.int .i64).R 2 wq w.heap.size oki v0 (rd_T84 x3_1 a1).f0 := hv
      obtain ⟨gi,ci,ei,gbi,gli,_⟩ := Kd.R_form hv Q3.out
      subst ei
      obtain ⟨ad0,e0_,hy⟩ := Kd.at_int (Kd.R_reads' hv).2.2 0 (Int.le_refl 0) (by have := Q3.out;omega)
      injection e0_ with e0_
      subst e0_
      have hyd : wq.drew.cell? ⟨gi,0,none⟩ = some (.int .i64 (rd (rd_T84 x3_1 a1).f0 0)) := hy
      have HV := Aside0.mk (Kd.R_drew hv)
      have HH := Aside0.mk (Kd.H_step (w1 := wq.drew) hH (fun _ _ _ _ => rfl))
      replace HI0 := Aside0.mk (IsS112.drew HI0.out)
      replace HB := Aside0.mk (below_drew1 HB.out)
      replace HK := Aside0.mk (keep_drew HK.out)
      have GQ : Aside0 (wq.heap.size ≤ wq.drew.heap.size) := ⟨Nat.le_refl _⟩
      have hS : wq.drew.cell? ⟨go,(a1 : Int).toNat,none⟩ = some (.slice (some ⟨gi,0,none⟩) (rd_T84 x3_1 a1).f0.length ci) := (by have h_ := (Kd.H_at HH.out Q1.out Q2.out).1 0 _ rfl;rw [show (a1 : Int).toNat * k84.sz + 0 = (a1 : Int).toNat from Nat.mul_one _] at h_;exact h_)
      clear HO_3 HX hcl hM hcc hfr hoki hH hv hy gbi gli
      refine std_ 21 (S := fun w' => w'.cell? ⟨go,(a1 : Int).toNat,none⟩ = some (.slice (some ⟨gi,0,none⟩) (rd_T84 x3_1 a1).f0.length ci)) (ds := [20]) hS (fun hHeld => ?_)
      refine with_tabW spec_l5Draw.tab17 spec_l5Draw.bits17 (fun HT_ HW_ => ?_)
      clear hS
      generalize wq.drew = w50 at HV HH HI0 HB HK hyd hHeld GQ ⊢
      refine pv_ 0 54 ?_
      refine pv_ 1 55 ?_
      refine pv_ 2 56 ?_
      refine pv_ 3 57 ?_
      refine pv_ 5 59 ?_
      refine pv_ 6 60 ?_
      refine pv_ 7 61 ?_
      refine tx_ 4 58 hHeld ?_
      refine tx_ 8 62 hHeld ?_
      refine pv_ 9 63 ?_
      refine pv_ 12 66 ?_
      refine two_ (i := 10) (j := 13) (Ni := some 64) (Nj := some 67) #[true,true,true,true,true,true,true,true,true,true,true,false,true,false,false,false,false,false,false,false,false] #[true,true,true,true,true,true,true,true,true,true,false,false,true,true,false,false,false,false,false,false,false] rfl rfl rfl rfl (two_of HT_.out (by kernel_rfl)) (by decide) (by decide) (fun K hK => ?_) (fun K hK => ?_)
      ·refine value_ (w1 := ?_) (v := ?_) (by rfl) rfl ?_ ?_
       rotate_left 2
       ·go_simp
        constructor
        ·rfl
        ·rfl
       refine hK.out _ _ hHeld (fun hHeld => ?_)
       clear hK K
       refine nr_ (some 64) _ ?_
       refine two_ (i := 11) (j := 13) (Ni := some 65) (Nj := some 67) #[true,true,true,true,true,true,true,true,true,true,true,true,true,false,false,false,false,false,false,false,false] #[true,true,true,true,true,true,true,true,true,true,true,false,true,true,false,false,false,false,false,false,false] rfl rfl rfl rfl (two_of HT_.out (by kernel_rfl)) (by decide) (by decide) (fun K hK => ?_) (fun K hK => ?_)
       ·refine Kd.R_lit_step (Kd.int .i64) _ 2 (by rfl) (N := 65) rfl (xs := ([-1,7,8,rd (rd_T84 x3_1 a1).f0 0] : List Int)) (inner := [.int .i64 (-1),.int .i64 7,.int .i64 8,.int .i64 (rd (rd_T84 x3_1 a1).f0 0)]) (ok := fun _ => True) (okp := fun _ => True) ?hr (Reps.one (show Kd.M (Kd.int .i64) _ _ _ (-1) [.int .i64 (-1)] from rfl) (Reps.one (show Kd.M (Kd.int .i64) _ _ _ (7) [.int .i64 (7)] from rfl) (Reps.one (show Kd.M (Kd.int .i64) _ _ _ (8) [.int .i64 (8)] from rfl) (Reps.one (show Kd.M (Kd.int .i64) _ _ _ (rd (rd_T84 x3_1 a1).f0 0) [.int .i64 (rd (rd_T84 x3_1 a1).f0 0)] from rfl) (Reps.none _ _))))) (fun _ hk => hk) trivial (Below.refl _ _) (Nat.le_refl _) (by simp) ?_
        case hr => first|(go_simp;done)|(go_simp;rfl)
        intro v31 w31 ho hb hg hnew_
        obtain ⟨gl,cl,el,_,_,_⟩ := Kd.R_form ho (by simp)
        subst el
        have HLIT := Aside0.mk ho
        replace HV := Aside0.mk (Kd.R_below HV.out hb)
        replace HH := Aside0.mk (Kd.H_step (w1 := w31) HH.out (fun k_ _ _ hlt => hb.block k_ hlt))
        replace GQ := Aside0.mk (Nat.le_trans GQ.out hb.size)
        replace HI0 := Aside0.mk (IsS112.below HI0.out hb)
        replace HK := Aside0.mk (KeepBut.trans HK.out (KeepBut.of_below hb g none) (.inl rfl))
        replace HB := Aside0.mk (below_step HB.out hb)
        clear ho hb hg hnew_
        refine hK.out _ _ (by have h_ := (Kd.H_at HH.out Q1.out Q2.out).1 0 _ rfl;rw [show (a1 : Int).toNat * k84.sz + 0 = (a1 : Int).toNat from Nat.mul_one _] at h_;exact h_) (fun hHeld => ?_)
        clear hK K
        refine nr_ (some 65) _ ?_
        refine oy_ 13 67 (fun K hK => ?_)
        refine gs_ Try.func74 #[.pointer (some ⟨g,0,none⟩),.int .i64 4] ?_
        with_reducible refine (spec_l1Below.calls g s0_0 b2 b3 4 c1 c2 c3 w0 _ ?side1 ?side2 B3.out).mono ?_
        case side1 => exact HI0.out
        case side2 => exact HB.out
        rintro e w52 ⟨rfl,hi,hb,hk⟩
        refine ⟨_,rfl,?_⟩
        have hgi : gi ≠ g := fun e_ => (IsS112.own_ne HI0.out HV.out (by decide)) (by rw [← e_];rfl)
        replace HV := Aside0.mk (Kd.R_mono (Kd.R_keep (IsS112.apart HI0.out HV.out (by decide)) hk (fun _ h => h.2)) (fun _ h => h.1))
        replace HH := Aside0.mk (Kd.H_step (w1 := w52) HH.out (fun k_ hk_ _ hlt => hk.2 k_ hlt hk_.1 (by simp)))
        replace HLIT := Aside0.mk (Kd.R_mono (Kd.R_keep (IsS112.apart HI0.out HLIT.out (by decide)) hk (fun _ h => h.2)) (fun _ h => h.1))
        replace GQ := Aside0.mk (Nat.le_trans GQ.out hk.1)
        replace HK := Aside0.mk (KeepBut.trans HK.out hk (.inl rfl))
        replace HB := Aside0.mk hb
        replace HI0 := Aside0.mk hi
        clear hi hb hk hgi
        refine hK.out _ _ (by have h_ := (Kd.H_at HH.out Q1.out Q2.out).1 0 _ rfl;rw [show (a1 : Int).toNat * k84.sz + 0 = (a1 : Int).toNat from Nat.mul_one _] at h_;exact h_) (fun hHeld => ?_)
        clear hK K
        refine nr_ (some 67) _ ?_
        obtain ⟨adl,el2,hl⟩ := Kd.at_int (Kd.R_reads' HLIT.out).2.2 c1 Q4.out (by have := Q5.out;simp;omega)
        injection el2 with el2
        subst el2
        rw [add_at,Nat.zero_add] at hl
        have p4_ : (0 ≤ c1) = True := eq_true Q4.out
        have q4_ : (c1 < 4) = True := eq_true Q5.out
        refine pv_ 14 68 ?_
        refine oy_ 15 69 (fun K hK => ?_)
        refine value_ (w1 := ?_) (v := ?_) (by rfl) rfl ?_ ?_
        rotate_left 2
        ·go_simp
         constructor
         ·rfl
         ·rfl
        refine hK.out _ _ hHeld (fun hHeld => ?_)
        clear hK K
        refine nr_ (some 69) _ ?_
        refine oy_ 16 70 (fun K hK => ?_)
        refine value_ (w1 := ?_) (v := ?_) (by rfl) rfl ?_ ?_
        rotate_left 2
        ·go_simp
         constructor
         ·rfl
         ·rfl
        refine hK.out _ _ ((World.cell?_alloc_lt _ _ _ (World.block_lt_of_cell? _ _ hHeld)).trans hHeld) (fun hHeld => ?_)
        clear hK K
        refine nr_ (some 70) _ ?_
        refine oy_ 17 71 (fun K hK => ?_)
        refine Kd.R_append_step (Kd.int .i64) (w0 := _) w.heap.size (by rfl) (.tmp 58) (.tmp 70) 35 2 (.int .i64 0) 8 rfl Try.underlying35 info2 rfl (by decide) (by omega) (.slice (some ⟨gi,0,none⟩) (rd_T84 x3_1 a1).f0.length ci) (rd_T84 x3_1 a1).f0 (rd ([-1,7,8,rd (rd_T84 x3_1 a1).f0 0] : List Int) c1) [.int .i64 (rd ([-1,7,8,rd (rd_T84 x3_1 a1).f0 0] : List Int) c1)] (fun k_ => oki k_ ∨ wq.heap.size ≤ k_) (fun _ => False) rfl rfl ?aP (fun _ hk => hk.elim) ?aF ?aO (Below.refl _ _) ?aS ?aL ?_
        case aP => exact rfl
        case aF => exact (fun k_ hk => .inr (Nat.le_trans GQ.out hk))
        case aO => exact (Kd.R_mono HV.out (fun _ h => .inl h))
        case aS => exact keep_size HK.out
        case aL => have := Q6.out;omega
        intro v60 w60 ho hb hg hat
        obtain ⟨Av,cv,ev⟩ := Kd.R_slice ho
        subst ev
        have HN := Aside0.mk ho
        replace HH := Aside0.mk (Kd.H_grown HH.out hg (fun k_ e_ => HV.out.1 k_ e_))
        replace HI0 := Aside0.mk (IsS112.grown HI0.out hg (IsS112.own_ne HI0.out HV.out (by decide)))
        replace HK := Aside0.mk (KeepBut.trans HK.out (KeepBut.of_grown hg g) (Kd.R_base2 HV.out))
        replace HB := Aside0.mk (below_weaken HB.out HL.out hb)
        clear ho hb hg hat HV
        refine hK.out _ _ (by have h_ := (Kd.H_at HH.out Q1.out Q2.out).1 0 _ rfl;rw [show (a1 : Int).toNat * k84.sz + 0 = (a1 : Int).toNat from Nat.mul_one _] at h_;exact h_) (fun hHeld => ?_)
        clear hK K
        refine nr_ (some 71) _ ?_
        refine pv_ 18 72 ?_
        refine pv_ 19 73 ?_
        refine last_ (i := 20) (N := none) #[true,true,true,true,true,true,true,true,true,true,true,true,true,true,true,true,true,true,true,true,true] rfl rfl (one_of HT_.out (by kernel_rfl)) (by decide) (fun K hK => ?_)
        have hs26 := hHeld
        have hfs26 : w60.frozen? ⟨go,(a1 : Int).toNat,none⟩ = false := (by have h_ := (Kd.H_at HH.out Q1.out Q2.out).2 0;rw [show (a1 : Int).toNat * k84.sz + 0 = (a1 : Int).toNat from Nat.mul_one _] at h_;exact h_)
        refine skip_ (w1 := ?_) (by rfl) rfl ?_ ?_
        rotate_left
        ·go_simp
         rfl
        refine hK.out _ _ ?_
        clear hK K
        refine done_ (done_of HT_.out (by kernel_rfl)) ?_
        have HP := Kd.S_seg (ok := fun k_ => k_ ≠ g) (okg := fun k_ => wq.heap.size ≤ k_) (okp := fun k_ => oki k_ ∨ wq.heap.size ≤ k_) HH.out Q1.out Q2.out (seg := [(.slice Av ((rd_T84 x3_1 a1).f0 ++ [(rd ([-1,7,8,rd (rd_T84 x3_1 a1).f0 0] : List Int) c1)]).length cv)]) (j := 0) (show 0 + 1 ≤ 1 from by decide) (x' := (⟨(rd_T84 x3_1 a1).f0 ++ [(rd ([-1,7,8,rd (rd_T84 x3_1 a1).f0 0] : List Int) c1)]⟩ : S84)) (k84_mkM _ _ _ (⟨(rd_T84 x3_1 a1).f0 ++ [(rd ([-1,7,8,rd (rd_T84 x3_1 a1).f0 0] : List Int) c1)]⟩ : S84) HN.out) (fun _ hk => hk) (fun k_ hk => ⟨fun e_ => by have := LG.out;omega,fun e_ => by have := LO.out;omega⟩)
        rw [show (a1 : Int).toNat * k84.sz + 0 = (a1 : Int).toNat from Nat.mul_one _] at HP
        have HP2 : Kd.S k84 84 (w60.setCell ⟨go,(a1 : Int).toNat,none⟩ (.slice Av ((rd_T84 x3_1 a1).f0 ++ [(rd ([-1,7,8,rd (rd_T84 x3_1 a1).f0 0] : List Int) c1)]).length cv)) w.heap.size (fun k_ => k_ ≠ g) (.slice (some ⟨go,0,none⟩) x3_1.length co) (x3_1.set (a1 : Int).toNat (⟨(rd_T84 x3_1 a1).f0 ++ [(rd ([-1,7,8,rd (rd_T84 x3_1 a1).f0 0] : List Int) c1)]⟩ : S84)) := HP.1
        clear HP
        try rw [show ((rd_T84 x3_1 a1).f0 ++ [(rd ([-1,7,8,rd (rd_T84 x3_1 a1).f0 0] : List Int) c1)]).length = (rd_T84 x3_1 a1).f0.length + 1 from by simp] at HP2
        try go_wp2
        go_ret
        exact ⟨_,by first|rfl|(simp [errW_none,errW_some] <;> rfl),Kd.S_N (Kd.S_mono (Kd.S_bound HP2) (fun _ hk => hk.2.1)),(IsS112.far HI0.out NEgo.out _),(below_set HB.out (Nat.le_trans HL.out GO.out)),(keep_far HK.out GO.out _)⟩
       ·refine gs_ Try.func74 #[.pointer (some ⟨g,0,none⟩),.int .i64 4] ?_
        with_reducible refine (spec_l1Below.calls g s0_0 b2 b3 4 c1 c2 c3 w0 _ ?side1 ?side2 B3.out).mono ?_
        case side1 => exact HI0.out
        case side2 => exact HB.out
        rintro e w52 ⟨rfl,hi,hb,hk⟩
        refine ⟨_,rfl,?_⟩
        have hgi : gi ≠ g := fun e_ => (IsS112.own_ne HI0.out HV.out (by decide)) (by rw [← e_];rfl)
        replace HV := Aside0.mk (Kd.R_mono (Kd.R_keep (IsS112.apart HI0.out HV.out (by decide)) hk (fun _ h => h.2)) (fun _ h => h.1))
        replace HH := Aside0.mk (Kd.H_step (w1 := w52) HH.out (fun k_ hk_ _ hlt => hk.2 k_ hlt hk_.1 (by simp)))
        replace GQ := Aside0.mk (Nat.le_trans GQ.out hk.1)
        replace HK := Aside0.mk (KeepBut.trans HK.out hk (.inl rfl))
        replace HB := Aside0.mk hb
        replace HI0 := Aside0.mk hi
        clear hi hb hk hgi
        refine hK.out _ _ (by have h_ := (Kd.H_at HH.out Q1.out Q2.out).1 0 _ rfl;rw [show (a1 : Int).toNat * k84.sz + 0 = (a1 : Int).toNat from Nat.mul_one _] at h_;exact h_) (fun hHeld => ?_)
        clear hK K
        refine nr_ (some 67) _ ?_
        refine oy_ 11 65 (fun K hK => ?_)
        refine Kd.R_lit_step (Kd.int .i64) _ 2 (by rfl) (N := 65) rfl (xs := ([-1,7,8,rd (rd_T84 x3_1 a1).f0 0] : List Int)) (inner := [.int .i64 (-1),.int .i64 7,.int .i64 8,.int .i64 (rd (rd_T84 x3_1 a1).f0 0)]) (ok := fun _ => True) (okp := fun _ => True) ?hr (Reps.one (show Kd.M (Kd.int .i64) _ _ _ (-1) [.int .i64 (-1)] from rfl) (Reps.one (show Kd.M (Kd.int .i64) _ _ _ (7) [.int .i64 (7)] from rfl) (Reps.one (show Kd.M (Kd.int .i64) _ _ _ (8) [.int .i64 (8)] from rfl) (Reps.one (show Kd.M (Kd.int .i64) _ _ _ (rd (rd_T84 x3_1 a1).f0 0) [.int .i64 (rd (rd_T84 x3_1 a1).f0 0)] from rfl) (Reps.none _ _))))) (fun _ hk => hk) trivial (Below.refl _ _) (Nat.le_refl _) (by simp) ?_
        case hr => first|(go_simp;done)|(go_simp;rfl)
        intro v31 w31 ho hb hg hnew_
        obtain ⟨gl,cl,el,_,_,_⟩ := Kd.R_form ho (by simp)
        subst el
        have HLIT := Aside0.mk ho
        replace HV := Aside0.mk (Kd.R_below HV.out hb)
        replace HH := Aside0.mk (Kd.H_step (w1 := w31) HH.out (fun k_ _ _ hlt => hb.block k_ hlt))
        replace GQ := Aside0.mk (Nat.le_trans GQ.out hb.size)
        replace HI0 := Aside0.mk (IsS112.below HI0.out hb)
        replace HK := Aside0.mk (KeepBut.trans HK.out (KeepBut.of_below hb g none) (.inl rfl))
        replace HB := Aside0.mk (below_step HB.out hb)
        clear ho hb hg hnew_
        refine hK.out _ _ (by have h_ := (Kd.H_at HH.out Q1.out Q2.out).1 0 _ rfl;rw [show (a1 : Int).toNat * k84.sz + 0 = (a1 : Int).toNat from Nat.mul_one _] at h_;exact h_) (fun hHeld => ?_)
        clear hK K
        refine nr_ (some 65) _ ?_
        obtain ⟨adl,el2,hl⟩ := Kd.at_int (Kd.R_reads' HLIT.out).2.2 c1 Q4.out (by have := Q5.out;simp;omega)
        injection el2 with el2
        subst el2
        rw [add_at,Nat.zero_add] at hl
        have p4_ : (0 ≤ c1) = True := eq_true Q4.out
        have q4_ : (c1 < 4) = True := eq_true Q5.out
        refine pv_ 14 68 ?_
        refine oy_ 15 69 (fun K hK => ?_)
        refine value_ (w1 := ?_) (v := ?_) (by rfl) rfl ?_ ?_
        rotate_left 2
        ·go_simp
         constructor
         ·rfl
         ·rfl
        refine hK.out _ _ hHeld (fun hHeld => ?_)
        clear hK K
        refine nr_ (some 69) _ ?_
        refine oy_ 16 70 (fun K hK => ?_)
        refine value_ (w1 := ?_) (v := ?_) (by rfl) rfl ?_ ?_
        rotate_left 2
        ·go_simp
         constructor
         ·rfl
         ·rfl
        refine hK.out _ _ ((World.cell?_alloc_lt _ _ _ (World.block_lt_of_cell? _ _ hHeld)).trans hHeld) (fun hHeld => ?_)
        clear hK K
        refine nr_ (some 70) _ ?_
        refine oy_ 17 71 (fun K hK => ?_)
        refine Kd.R_append_step (Kd.int .i64) (w0 := _) w.heap.size (by rfl) (.tmp 58) (.tmp 70) 35 2 (.int .i64 0) 8 rfl Try.underlying35 info2 rfl (by decide) (by omega) (.slice (some ⟨gi,0,none⟩) (rd_T84 x3_1 a1).f0.length ci) (rd_T84 x3_1 a1).f0 (rd ([-1,7,8,rd (rd_T84 x3_1 a1).f0 0] : List Int) c1) [.int .i64 (rd ([-1,7,8,rd (rd_T84 x3_1 a1).f0 0] : List Int) c1)] (fun k_ => oki k_ ∨ wq.heap.size ≤ k_) (fun _ => False) rfl rfl ?aP (fun _ hk => hk.elim) ?aF ?aO (Below.refl _ _) ?aS ?aL ?_
        case aP => exact rfl
        case aF => exact (fun k_ hk => .inr (Nat.le_trans GQ.out hk))
        case aO => exact (Kd.R_mono HV.out (fun _ h => .inl h))
        case aS => exact keep_size HK.out
        case aL => have := Q6.out;omega
        intro v60 w60 ho hb hg hat
        obtain ⟨Av,cv,ev⟩ := Kd.R_slice ho
        subst ev
        have HN := Aside0.mk ho
        replace HH := Aside0.mk (Kd.H_grown HH.out hg (fun k_ e_ => HV.out.1 k_ e_))
        replace HI0 := Aside0.mk (IsS112.grown HI0.out hg (IsS112.own_ne HI0.out HV.out (by decide)))
        replace HK := Aside0.mk (KeepBut.trans HK.out (KeepBut.of_grown hg g) (Kd.R_base2 HV.out))
        replace HB := Aside0.mk (below_weaken HB.out HL.out hb)
        clear ho hb hg hat HV
        refine hK.out _ _ (by have h_ := (Kd.H_at HH.out Q1.out Q2.out).1 0 _ rfl;rw [show (a1 : Int).toNat * k84.sz + 0 = (a1 : Int).toNat from Nat.mul_one _] at h_;exact h_) (fun hHeld => ?_)
        clear hK K
        refine nr_ (some 71) _ ?_
        refine pv_ 18 72 ?_
        refine pv_ 19 73 ?_
        refine last_ (i := 20) (N := none) #[true,true,true,true,true,true,true,true,true,true,true,true,true,true,true,true,true,true,true,true,true] rfl rfl (one_of HT_.out (by kernel_rfl)) (by decide) (fun K hK => ?_)
        have hs26 := hHeld
        have hfs26 : w60.frozen? ⟨go,(a1 : Int).toNat,none⟩ = false := (by have h_ := (Kd.H_at HH.out Q1.out Q2.out).2 0;rw [show (a1 : Int).toNat * k84.sz + 0 = (a1 : Int).toNat from Nat.mul_one _] at h_;exact h_)
        refine skip_ (w1 := ?_) (by rfl) rfl ?_ ?_
        rotate_left
        ·go_simp
         rfl
        refine hK.out _ _ ?_
        clear hK K
        refine done_ (done_of HT_.out (by kernel_rfl)) ?_
        have HP := Kd.S_seg (ok := fun k_ => k_ ≠ g) (okg := fun k_ => wq.heap.size ≤ k_) (okp := fun k_ => oki k_ ∨ wq.heap.size ≤ k_) HH.out Q1.out Q2.out (seg := [(.slice Av ((rd_T84 x3_1 a1).f0 ++ [(rd ([-1,7,8,rd (rd_T84 x3_1 a1).f0 0] : List Int) c1)]).length cv)]) (j := 0) (show 0 + 1 ≤ 1 from by decide) (x' := (⟨(rd_T84 x3_1 a1).f0 ++ [(rd ([-1,7,8,rd (rd_T84 x3_1 a1).f0 0] : List Int) c1)]⟩ : S84)) (k84_mkM _ _ _ (⟨(rd_T84 x3_1 a1).f0 ++ [(rd ([-1,7,8,rd (rd_T84 x3_1 a1).f0 0] : List Int) c1)]⟩ : S84) HN.out) (fun _ hk => hk) (fun k_ hk => ⟨fun e_ => by have := LG.out;omega,fun e_ => by have := LO.out;omega⟩)
        rw [show (a1 : Int).toNat * k84.sz + 0 = (a1 : Int).toNat from Nat.mul_one _] at HP
        have HP2 : Kd.S k84 84 (w60.setCell ⟨go,(a1 : Int).toNat,none⟩ (.slice Av ((rd_T84 x3_1 a1).f0 ++ [(rd ([-1,7,8,rd (rd_T84 x3_1 a1).f0 0] : List Int) c1)]).length cv)) w.heap.size (fun k_ => k_ ≠ g) (.slice (some ⟨go,0,none⟩) x3_1.length co) (x3_1.set (a1 : Int).toNat (⟨(rd_T84 x3_1 a1).f0 ++ [(rd ([-1,7,8,rd (rd_T84 x3_1 a1).f0 0] : List Int) c1)]⟩ : S84)) := HP.1
        clear HP
        try rw [show ((rd_T84 x3_1 a1).f0 ++ [(rd ([-1,7,8,rd (rd_T84 x3_1 a1).f0 0] : List Int) c1)]).length = (rd_T84 x3_1 a1).f0.length + 1 from by simp] at HP2
        try go_wp2
        go_ret
        exact ⟨_,by first|rfl|(simp [errW_none,errW_some] <;> rfl),Kd.S_N (Kd.S_mono (Kd.S_bound HP2) (fun _ hk => hk.2.1)),(IsS112.far HI0.out NEgo.out _),(below_set HB.out (Nat.le_trans HL.out GO.out)),(keep_far HK.out GO.out _)⟩
      ·refine gs_ Try.func74 #[.pointer (some ⟨g,0,none⟩),.int .i64 4] ?_
       with_reducible refine (spec_l1Below.calls g s0_0 b2 b3 4 c1 c2 c3 w0 _ ?side1 ?side2 B3.out).mono ?_
       case side1 => exact HI0.out
       case side2 => exact HB.out
       rintro e w52 ⟨rfl,hi,hb,hk⟩
       refine ⟨_,rfl,?_⟩
       have hgi : gi ≠ g := fun e_ => (IsS112.own_ne HI0.out HV.out (by decide)) (by rw [← e_];rfl)
       replace HV := Aside0.mk (Kd.R_mono (Kd.R_keep (IsS112.apart HI0.out HV.out (by decide)) hk (fun _ h => h.2)) (fun _ h => h.1))
       replace HH := Aside0.mk (Kd.H_step (w1 := w52) HH.out (fun k_ hk_ _ hlt => hk.2 k_ hlt hk_.1 (by simp)))
       replace hyd := (World.cell?_of_block (a := ⟨gi,0,none⟩) (hk.2 gi (World.block_lt_of_cell? _ _ hyd) hgi (by simp))).trans hyd
       replace GQ := Aside0.mk (Nat.le_trans GQ.out hk.1)
       replace HK := Aside0.mk (KeepBut.trans HK.out hk (.inl rfl))
       replace HB := Aside0.mk hb
       replace HI0 := Aside0.mk hi
       clear hi hb hk hgi
       refine hK.out _ _ (by have h_ := (Kd.H_at HH.out Q1.out Q2.out).1 0 _ rfl;rw [show (a1 : Int).toNat * k84.sz + 0 = (a1 : Int).toNat from Nat.mul_one _] at h_;exact h_) (fun hHeld => ?_)
       clear hK K
       refine nr_ (some 67) _ ?_
       refine oy_ 10 64 (fun K hK => ?_)
       refine value_ (w1 := ?_) (v := ?_) (by rfl) rfl ?_ ?_
       rotate_left 2
       ·go_simp
        constructor
        ·rfl
        ·rfl
       refine hK.out _ _ hHeld (fun hHeld => ?_)
       clear hK K
       refine nr_ (some 64) _ ?_
       refine oy_ 11 65 (fun K hK => ?_)
       refine Kd.R_lit_step (Kd.int .i64) _ 2 (by rfl) (N := 65) rfl (xs := ([-1,7,8,rd (rd_T84 x3_1 a1).f0 0] : List Int)) (inner := [.int .i64 (-1),.int .i64 7,.int .i64 8,.int .i64 (rd (rd_T84 x3_1 a1).f0 0)]) (ok := fun _ => True) (okp := fun _ => True) ?hr (Reps.one (show Kd.M (Kd.int .i64) _ _ _ (-1) [.int .i64 (-1)] from rfl) (Reps.one (show Kd.M (Kd.int .i64) _ _ _ (7) [.int .i64 (7)] from rfl) (Reps.one (show Kd.M (Kd.int .i64) _ _ _ (8) [.int .i64 (8)] from rfl) (Reps.one (show Kd.M (Kd.int .i64) _ _ _ (rd (rd_T84 x3_1 a1).f0 0) [.int .i64 (rd (rd_T84 x3_1 a1).f0 0)] from rfl) (Reps.none _ _))))) (fun _ hk => hk) trivial (Below.refl _ _) (Nat.le_refl _) (by simp) ?_
       case hr => first|(go_simp;done)|(go_simp;rfl)
       intro v31 w31 ho hb hg hnew_
       obtain ⟨gl,cl,el,_,_,_⟩ := Kd.R_form ho (by simp)
       subst el
       have HLIT := Aside0.mk ho
       replace HV := Aside0.mk (Kd.R_below HV.out hb)
       replace HH := Aside0.mk (Kd.H_step (w1 := w31) HH.out (fun k_ _ _ hlt => hb.block k_ hlt))
       replace GQ := Aside0.mk (Nat.le_trans GQ.out hb.size)
       replace HI0 := Aside0.mk (IsS112.below HI0.out hb)
       replace HK := Aside0.mk (KeepBut.trans HK.out (KeepBut.of_below hb g none) (.inl rfl))
       replace HB := Aside0.mk (below_step HB.out hb)
       clear ho hb hg hnew_
       refine hK.out _ _ (by have h_ := (Kd.H_at HH.out Q1.out Q2.out).1 0 _ rfl;rw [show (a1 : Int).toNat * k84.sz + 0 = (a1 : Int).toNat from Nat.mul_one _] at h_;exact h_) (fun hHeld => ?_)
       clear hK K
       refine nr_ (some 65) _ ?_
       obtain ⟨adl,el2,hl⟩ := Kd.at_int (Kd.R_reads' HLIT.out).2.2 c1 Q4.out (by have := Q5.out;simp;omega)
       injection el2 with el2
       subst el2
       rw [add_at,Nat.zero_add] at hl
       have p4_ : (0 ≤ c1) = True := eq_true Q4.out
       have q4_ : (c1 < 4) = True := eq_true Q5.out
       refine pv_ 14 68 ?_
       refine oy_ 15 69 (fun K hK => ?_)
       refine value_ (w1 := ?_) (v := ?_) (by rfl) rfl ?_ ?_
       rotate_left 2
       ·go_simp
        constructor
        ·rfl
        ·rfl
       refine hK.out _ _ hHeld (fun hHeld => ?_)
       clear hK K
       refine nr_ (some 69) _ ?_
       refine oy_ 16 70 (fun K hK => ?_)
       refine value_ (w1 := ?_) (v := ?_) (by rfl) rfl ?_ ?_
       rotate_left 2
       ·go_simp
        constructor
        ·rfl
        ·rfl
       refine hK.out _ _ ((World.cell?_alloc_lt _ _ _ (World.block_lt_of_cell? _ _ hHeld)).trans hHeld) (fun hHeld => ?_)
       clear hK K
       refine nr_ (some 70) _ ?_
       refine oy_ 17 71 (fun K hK => ?_)
       refine Kd.R_append_step (Kd.int .i64) (w0 := _) w.heap.size (by rfl) (.tmp 58) (.tmp 70) 35 2 (.int .i64 0) 8 rfl Try.underlying35 info2 rfl (by decide) (by omega) (.slice (some ⟨gi,0,none⟩) (rd_T84 x3_1 a1).f0.length ci) (rd_T84 x3_1 a1).f0 (rd ([-1,7,8,rd (rd_T84 x3_1 a1).f0 0] : List Int) c1) [.int .i64 (rd ([-1,7,8,rd (rd_T84 x3_1 a1).f0 0] : List Int) c1)] (fun k_ => oki k_ ∨ wq.heap.size ≤ k_) (fun _ => False) rfl rfl ?aP (fun _ hk => hk.elim) ?aF ?aO (Below.refl _ _) ?aS ?aL ?_
       case aP => exact rfl
       case aF => exact (fun k_ hk => .inr (Nat.le_trans GQ.out hk))
       case aO => exact (Kd.R_mono HV.out (fun _ h => .inl h))
       case aS => exact keep_size HK.out
       case aL => have := Q6.out;omega
       intro v60 w60 ho hb hg hat
       obtain ⟨Av,cv,ev⟩ := Kd.R_slice ho
       subst ev
       have HN := Aside0.mk ho
       replace HH := Aside0.mk (Kd.H_grown HH.out hg (fun k_ e_ => HV.out.1 k_ e_))
       replace HI0 := Aside0.mk (IsS112.grown HI0.out hg (IsS112.own_ne HI0.out HV.out (by decide)))
       replace HK := Aside0.mk (KeepBut.trans HK.out (KeepBut.of_grown hg g) (Kd.R_base2 HV.out))
       replace HB := Aside0.mk (below_weaken HB.out HL.out hb)
       clear ho hb hg hat HV
       refine hK.out _ _ (by have h_ := (Kd.H_at HH.out Q1.out Q2.out).1 0 _ rfl;rw [show (a1 : Int).toNat * k84.sz + 0 = (a1 : Int).toNat from Nat.mul_one _] at h_;exact h_) (fun hHeld => ?_)
       clear hK K
       refine nr_ (some 71) _ ?_
       refine pv_ 18 72 ?_
       refine pv_ 19 73 ?_
       refine last_ (i := 20) (N := none) #[true,true,true,true,true,true,true,true,true,true,true,true,true,true,true,true,true,true,true,true,true] rfl rfl (one_of HT_.out (by kernel_rfl)) (by decide) (fun K hK => ?_)
       have hs26 := hHeld
       have hfs26 : w60.frozen? ⟨go,(a1 : Int).toNat,none⟩ = false := (by have h_ := (Kd.H_at HH.out Q1.out Q2.out).2 0;rw [show (a1 : Int).toNat * k84.sz + 0 = (a1 : Int).toNat from Nat.mul_one _] at h_;exact h_)
       refine skip_ (w1 := ?_) (by rfl) rfl ?_ ?_
       rotate_left
       ·go_simp
        rfl
       refine hK.out _ _ ?_
       clear hK K
       refine done_ (done_of HT_.out (by kernel_rfl)) ?_
       have HP := Kd.S_seg (ok := fun k_ => k_ ≠ g) (okg := fun k_ => wq.heap.size ≤ k_) (okp := fun k_ => oki k_ ∨ wq.heap.size ≤ k_) HH.out Q1.out Q2.out (seg := [(.slice Av ((rd_T84 x3_1 a1).f0 ++ [(rd ([-1,7,8,rd (rd_T84 x3_1 a1).f0 0] : List Int) c1)]).length cv)]) (j := 0) (show 0 + 1 ≤ 1 from by decide) (x' := (⟨(rd_T84 x3_1 a1).f0 ++ [(rd ([-1,7,8,rd (rd_T84 x3_1 a1).f0 0] : List Int) c1)]⟩ : S84)) (k84_mkM _ _ _ (⟨(rd_T84 x3_1 a1).f0 ++ [(rd ([-1,7,8,rd (rd_T84 x3_1 a1).f0 0] : List Int) c1)]⟩ : S84) HN.out) (fun _ hk => hk) (fun k_ hk => ⟨fun e_ => by have := LG.out;omega,fun e_ => by have := LO.out;omega⟩)
       rw [show (a1 : Int).toNat * k84.sz + 0 = (a1 : Int).toNat from Nat.mul_one _] at HP
       have HP2 : Kd.S k84 84 (w60.setCell ⟨go,(a1 : Int).toNat,none⟩ (.slice Av ((rd_T84 x3_1 a1).f0 ++ [(rd ([-1,7,8,rd (rd_T84 x3_1 a1).f0 0] : List Int) c1)]).length cv)) w.heap.size (fun k_ => k_ ≠ g) (.slice (some ⟨go,0,none⟩) x3_1.length co) (x3_1.set (a1 : Int).toNat (⟨(rd_T84 x3_1 a1).f0 ++ [(rd ([-1,7,8,rd (rd_T84 x3_1 a1).f0 0] : List Int) c1)]⟩ : S84)) := HP.1
       clear HP
       try rw [show ((rd_T84 x3_1 a1).f0 ++ [(rd ([-1,7,8,rd (rd_T84 x3_1 a1).f0 0] : List Int) c1)]).length = (rd_T84 x3_1 a1).f0.length + 1 from by simp] at HP2
       try go_wp2
       go_ret
       exact ⟨_,by first|rfl|(simp [errW_none,errW_some] <;> rfl),Kd.S_N (Kd.S_mono (Kd.S_bound HP2) (fun _ hk => hk.2.1)),(IsS112.far HI0.out NEgo.out _),(below_set HB.out (Nat.le_trans HL.out GO.out)),(keep_far HK.out GO.out _)⟩
     rw [if_neg e0] at H
     by_cases e1 : b1 = 1
     ·subst e1
      rw [if_pos rfl] at H
      simp only [Option.some.injEq,Prod.mk.injEq] at H
      obtain ⟨rfl,rfl,rfl⟩ := H
      go_wp2_with (first|((with_reducible refine gcal_ (f := 88) rfl ?_);refine gl_ (some 43) Try.func88 #[.pointer (some ⟨g,0,none⟩),.int .i64 10] ?_;(with_reducible refine (spec_l1Once.calls g s0_0 x1001_1 x1002_1 10 true t130 t131 w0 _ ?side1 ?side2 A33.out).mono ?_);(case side1 => repeat (first|(with_reducible first|exact HI0.out|apply IsS112.alloc|apply IsS112.drewN|apply IsS112.drew|apply IsS112.set_1|apply IsS112.set_2)|exact HI0.out));(case side2 => repeat (first|(with_reducible first|exact HB.out|apply below_alloc|apply pw_below_drewN|apply below_drew1|refine below_set ?_ (IsS112.ge HI0.out))|exact HB.out));rintro e w35 ⟨rfl,hi,hb,hk⟩;refine ⟨_,rfl,?_⟩;replace HO_3 := Aside0.mk (Kd.S_mono (Kd.S_keep (IsS112.apartS (show IsS112 w0 _ g s0_0 x1001_1 x1002_1 from by repeat (first|(with_reducible first|exact HI0.out|apply IsS112.alloc|apply IsS112.drewN|apply IsS112.drew|apply IsS112.set_1|apply IsS112.set_2)|exact HI0.out)) (by (with_reducible repeat (first|apply Kd.S_alloc|apply Kd.S_drewN|apply Kd.S_drew));exact HO_3.out) (by decide)) hk (fun _ h => h.2)) (fun _ h => h.1));replace HK := Aside0.mk (KeepBut.trans (by repeat (first|(with_reducible first|exact HK.out|apply KeepBut.set_|apply keep_drewN|apply keep_drew|apply keep_alloc)|exact HK.out)) hk (.inl rfl));replace HB := Aside0.mk (hb);replace HI0 := Aside0.mk (hi);(try clear hb);(try clear hb2);(try clear hk);(try clear hi))|((with_reducible refine gcal_ (f := 74) rfl ?_);refine gl_ (some 48) Try.func74 #[.pointer (some ⟨g,0,none⟩),.int .i64 (x3_1.length : Int)] ?_;(with_reducible refine (spec_l1Below.calls g s0_0 t130 t131 (x3_1.length : Int) a1 a2 a3 w0 _ ?side1 ?side2 B1.out).mono ?_);(case side1 => exact (by repeat (first|exact HI0.out|apply IsS112.alloc|apply IsS112.drewN|apply IsS112.drew)));(case side2 => exact (by repeat (first|exact HB.out|apply below_alloc|apply pw_below_drewN|apply below_drew1)));rintro e wo ⟨rfl,hi,hb,hk⟩;refine ⟨_,rfl,?_⟩;replace HO_3 := Aside0.mk (Kd.S_mono (Kd.S_keep (IsS112.apartS (show IsS112 w0 _ g s0_0 t130 t131 from (by repeat (first|exact HI0.out|apply IsS112.alloc|apply IsS112.drewN|apply IsS112.drew))) (by (with_reducible repeat (first|apply Kd.S_alloc|apply Kd.S_drewN|apply Kd.S_drew));exact HO_3.out) (by decide)) hk (fun _ h => h.2)) (fun _ h => h.1));replace HK := Aside0.mk (KeepBut.trans (by repeat (first|exact HK.out|apply keep_drewN|apply keep_drew|apply keep_alloc)) hk (.inl rfl));replace HB := Aside0.mk hb;replace HI0 := Aside0.mk hi;clear hb hk hi)|((with_reducible refine gcal_ (f := 74) rfl ?_);refine gl_ (some 51) Try.func74 #[.pointer (some ⟨g,0,none⟩),.int .i64 3] ?_;(with_reducible refine (spec_l1Below.calls g s0_0 a2 a3 3 1 b2 b3 w0 _ ?side1 ?side2 B2.out).mono ?_);(case side1 => exact (by repeat (first|exact HI0.out|apply IsS112.alloc|apply IsS112.drewN|apply IsS112.drew)));(case side2 => exact (by repeat (first|exact HB.out|apply below_alloc|apply pw_below_drewN|apply below_drew1)));rintro e wq ⟨rfl,hi,hb,hk⟩;refine ⟨_,rfl,?_⟩;replace HO_3 := Aside0.mk (Kd.S_mono (Kd.S_keep (IsS112.apartS (show IsS112 w0 _ g s0_0 a2 a3 from (by repeat (first|exact HI0.out|apply IsS112.alloc|apply IsS112.drewN|apply IsS112.drew))) (by (with_reducible repeat (first|apply Kd.S_alloc|apply Kd.S_drewN|apply Kd.S_drew));exact HO_3.out) (by decide)) hk (fun _ h => h.2)) (fun _ h => h.1));replace HK := Aside0.mk (KeepBut.trans (by repeat (first|exact HK.out|apply keep_drewN|apply keep_drew|apply keep_alloc)) hk (.inl rfl));replace HB := Aside0.mk hb;replace HI0 := Aside0.mk hi;clear hb hk hi)|((with_reducible refine gate_dst (N := 77) rfl ?_);refine Kd.R_lit (Kd.int .i64) _ 2 ?hg (N := 77) ?hd (xs := ([] : List Int)) (inner := []) (ok := fun _ => True) (okp := fun _ => True) ?hr ?hp (fun _ hk => hk) trivial (Below.refl _ _) (Nat.le_refl _) (by simp) ?_;(case hd => rfl);(case hg => rfl);(case hr => first|(go_simp;done)|(go_simp;rfl));(case hp => exact (Reps.none _ _));intro v77 w77 ho hb hg_ hnew_;clear hg_ hnew_;obtain ⟨A77,c77,e77⟩ := Kd.R_slice ho;subst e77;have LG : Aside0 (g < wq.heap.size) := ⟨IsS112.lt HI0.out⟩;have LO : Aside0 (go < wq.heap.size) := ⟨by obtain ⟨_,_,e_,_,l_,_⟩ := Kd.S_form HO_3.out (by have := Q1.out;have := Q2.out;omega);injection e_ with e_;injection e_ with e_;injection e_ with e_;rw [e_];exact l_⟩;have NEgo : Aside0 (g ≠ go) := ⟨fun e_ => (IsS112.own_neS HI0.out HO_3.out (by decide)) (by rw [e_];rfl)⟩;have HX := Kd.S_mono (ok' := fun k_ => k_ ≠ g ∧ ¬ wq.heap.size ≤ k_) (Kd.S_bound (IsS112.apartS HI0.out HO_3.out (by decide))) (fun k_ hk => ⟨hk.1.2,Nat.not_le.2 hk.2.2.1⟩);replace HX := Kd.S_below HX hb;obtain ⟨oki,ce,hcl,hM,hcc,hfr,hoki,hH⟩ := Kd.S_elem HX z84 a1 Q1.out Q2.out;obtain ⟨v0,rfl,hv⟩ := k84_openM hM;have HM := Aside0.mk (Kd.R_mono (ok' := fun k_ => oki k_ ∨ wq.heap.size ≤ k_) (Kd.R_bound ho) (fun _ hk => .inr hk.2.1));have HM := Aside0.mk (Kd.R_lower HM.out (keep_size HK.out));have HH := Aside0.mk hH;replace HI0 := Aside0.mk (IsS112.below HI0.out hb);replace HK := Aside0.mk (KeepBut.trans HK.out (KeepBut.of_below hb g none) (.inl rfl));replace HB := Aside0.mk (below_step HB.out hb);have hs77 : w77.cell? ⟨go,(a1 : Int).toNat,none⟩ = some v0 := (by have h_ := (Kd.H_at HH.out Q1.out Q2.out).1 0 _ rfl;rw [show (a1 : Int).toNat * k84.sz + 0 = (a1 : Int).toNat from Nat.mul_one _] at h_;exact h_);have hfs77 : w77.frozen? ⟨go,(a1 : Int).toNat,none⟩ = false := (by have h_ := (Kd.H_at HH.out Q1.out Q2.out).2 0;rw [show (a1 : Int).toNat * k84.sz + 0 = (a1 : Int).toNat from Nat.mul_one _] at h_;exact h_);clear HO_3 HX hcl hM hcc hfr hoki hH hv ho hb))
      have HP := Kd.S_seg (ok := fun k_ => k_ ≠ g) (okg := fun k_ => wq.heap.size ≤ k_) (okp := fun k_ => oki k_ ∨ wq.heap.size ≤ k_) HH.out Q1.out Q2.out (seg := [(.slice A77 ([] : List Int).length c77)]) (j := 0) (show 0 + 1 ≤ 1 from by decide) (x' := (⟨[]⟩ : S84)) (k84_mkM _ _ _ (⟨[]⟩ : S84) HM.out) (fun _ hk => hk) (fun k_ hk => ⟨fun e_ => by have := LG.out;omega,fun e_ => by have := LO.out;omega⟩)
      rw [show (a1 : Int).toNat * k84.sz + 0 = (a1 : Int).toNat from Nat.mul_one _] at HP
      have HP2 : Kd.S k84 84 (w77.setCell ⟨go,(a1 : Int).toNat,none⟩ (.slice A77 ([] : List Int).length c77)) w.heap.size (fun k_ => k_ ≠ g) (.slice (some ⟨go,0,none⟩) x3_1.length co) (x3_1.set (a1 : Int).toNat (⟨[]⟩ : S84)) := HP.1
      clear HP
      try rw [show ((rd_T84 x3_1 a1).f0 ++ [(rd ([-1,7,8,rd (rd_T84 x3_1 a1).f0 0] : List Int) c1)]).length = (rd_T84 x3_1 a1).f0.length + 1 from by simp] at HP2
      try go_wp2
      go_ret
      exact ⟨_,by first|rfl|(simp [errW_none,errW_some] <;> rfl),Kd.S_N (Kd.S_mono (Kd.S_bound HP2) (fun _ hk => hk.2.1)),(IsS112.far HI0.out NEgo.out _),(below_set HB.out (Nat.le_trans HL.out GO.out)),(keep_far HK.out GO.out _)⟩
     rw [if_neg e1] at H
     by_cases e2 : b1 = 2
     ·subst e2
      rw [if_pos rfl] at H
      obtain ⟨y0,H0,H⟩ := Option.bind_eq_some_iff.1 H
      simp only [Option.some.injEq,Prod.mk.injEq] at H
      obtain ⟨rfl,rfl,rfl⟩ := H
      have H' : Aside0 (spec_l5Draw.w k1 x3_1 = some y0) := ⟨H0⟩
      clear H0
      go_wp2_with (first|((with_reducible refine gcal_ (f := 88) rfl ?_);refine gl_ (some 43) Try.func88 #[.pointer (some ⟨g,0,none⟩),.int .i64 10] ?_;(with_reducible refine (spec_l1Once.calls g s0_0 x1001_1 x1002_1 10 true t130 t131 w0 _ ?side1 ?side2 A33.out).mono ?_);(case side1 => repeat (first|(with_reducible first|exact HI0.out|apply IsS112.alloc|apply IsS112.drewN|apply IsS112.drew|apply IsS112.set_1|apply IsS112.set_2)|exact HI0.out));(case side2 => repeat (first|(with_reducible first|exact HB.out|apply below_alloc|apply pw_below_drewN|apply below_drew1|refine below_set ?_ (IsS112.ge HI0.out))|exact HB.out));rintro e w35 ⟨rfl,hi,hb,hk⟩;refine ⟨_,rfl,?_⟩;replace HO_3 := Aside0.mk (Kd.S_mono (Kd.S_keep (IsS112.apartS (show IsS112 w0 _ g s0_0 x1001_1 x1002_1 from by repeat (first|(with_reducible first|exact HI0.out|apply IsS112.alloc|apply IsS112.drewN|apply IsS112.drew|apply IsS112.set_1|apply IsS112.set_2)|exact HI0.out)) (by (with_reducible repeat (first|apply Kd.S_alloc|apply Kd.S_drewN|apply Kd.S_drew));exact HO_3.out) (by decide)) hk (fun _ h => h.2)) (fun _ h => h.1));replace HK := Aside0.mk (KeepBut.trans (by repeat (first|(with_reducible first|exact HK.out|apply KeepBut.set_|apply keep_drewN|apply keep_drew|apply keep_alloc)|exact HK.out)) hk (.inl rfl));replace HB := Aside0.mk (hb);replace HI0 := Aside0.mk (hi);(try clear hb);(try clear hb2);(try clear hk);(try clear hi))|((with_reducible refine gcal_ (f := 74) rfl ?_);refine gl_ (some 48) Try.func74 #[.pointer (some ⟨g,0,none⟩),.int .i64 (x3_1.length : Int)] ?_;(with_reducible refine (spec_l1Below.calls g s0_0 t130 t131 (x3_1.length : Int) a1 a2 a3 w0 _ ?side1 ?side2 B1.out).mono ?_);(case side1 => exact (by repeat (first|exact HI0.out|apply IsS112.alloc|apply IsS112.drewN|apply IsS112.drew)));(case side2 => exact (by repeat (first|exact HB.out|apply below_alloc|apply pw_below_drewN|apply below_drew1)));rintro e wo ⟨rfl,hi,hb,hk⟩;refine ⟨_,rfl,?_⟩;replace HO_3 := Aside0.mk (Kd.S_mono (Kd.S_keep (IsS112.apartS (show IsS112 w0 _ g s0_0 t130 t131 from (by repeat (first|exact HI0.out|apply IsS112.alloc|apply IsS112.drewN|apply IsS112.drew))) (by (with_reducible repeat (first|apply Kd.S_alloc|apply Kd.S_drewN|apply Kd.S_drew));exact HO_3.out) (by decide)) hk (fun _ h => h.2)) (fun _ h => h.1));replace HK := Aside0.mk (KeepBut.trans (by repeat (first|exact HK.out|apply keep_drewN|apply keep_drew|apply keep_alloc)) hk (.inl rfl));replace HB := Aside0.mk hb;replace HI0 := Aside0.mk hi;clear hb hk hi)|((with_reducible refine gcal_ (f := 74) rfl ?_);refine gl_ (some 51) Try.func74 #[.pointer (some ⟨g,0,none⟩),.int .i64 3] ?_;(with_reducible refine (spec_l1Below.calls g s0_0 a2 a3 3 2 b2 b3 w0 _ ?side1 ?side2 B2.out).mono ?_);(case side1 => exact (by repeat (first|exact HI0.out|apply IsS112.alloc|apply IsS112.drewN|apply IsS112.drew)));(case side2 => exact (by repeat (first|exact HB.out|apply below_alloc|apply pw_below_drewN|apply below_drew1)));rintro e wq ⟨rfl,hi,hb,hk⟩;refine ⟨_,rfl,?_⟩;replace HO_3 := Aside0.mk (Kd.S_mono (Kd.S_keep (IsS112.apartS (show IsS112 w0 _ g s0_0 a2 a3 from (by repeat (first|exact HI0.out|apply IsS112.alloc|apply IsS112.drewN|apply IsS112.drew))) (by (with_reducible repeat (first|apply Kd.S_alloc|apply Kd.S_drewN|apply Kd.S_drew));exact HO_3.out) (by decide)) hk (fun _ h => h.2)) (fun _ h => h.1));replace HK := Aside0.mk (KeepBut.trans (by repeat (first|exact HK.out|apply keep_drewN|apply keep_drew|apply keep_alloc)) hk (.inl rfl));replace HB := Aside0.mk hb;replace HI0 := Aside0.mk hi;clear hb hk hi))
      go_loopg [3] k1 (fun kq v3 w' => ∃ (y : List (S84)),Aside0 (spec_l5Draw.w kq y = some y0) ∧ Aside0 (kq ≤ k1) ∧ Aside0 (Kd.N k84 84 w' w.heap.size (fun k_ => w.heap.size ≤ k_) v3 y) ∧ Aside0 (IsS112 w0 w' g s0_0 b2 b3) ∧ Aside0 (KeepBut w w' g none) ∧ Aside0 (Below w0.heap.size w0 w'))
      case atStart => exact ⟨x3_1,H',⟨Nat.le_refl _⟩,⟨Kd.S_N (Kd.S_mono (Kd.S_bound (by (with_reducible repeat (first|apply Kd.S_alloc|apply Kd.S_drewN|apply Kd.S_drew));exact HO_3.out)) (fun _ hk => hk.2.1))⟩,⟨(by repeat (first|exact HI0.out|apply IsS112.alloc|apply IsS112.drewN|apply IsS112.drew))⟩,⟨(by repeat (first|exact HK.out|apply keep_drewN|apply keep_drew|apply keep_alloc))⟩,⟨(by repeat (first|exact HB.out|apply below_alloc|apply pw_below_drewN|apply below_drew1))⟩⟩
      case round =>
       clear H' HO_3 HI0 HK HB
       obtain ⟨y,HA,HK2,HO,HI0,HK,HB⟩ := hrel
       cases gk with
       | zero => exact absurd HA.out (by simp [spec_l5Draw.w])
       | succ k2 =>
        have H := HA.out
        clear HA
        rw [spec_l5Draw.w] at H
        by_cases d1 : (y.length : Int) < 7
        ·rw [if_pos d1] at H
         by_cases d2 : 0 < y.length
         rotate_left
         ·rw [if_neg d2] at H;cases H
         rw [if_pos d2] at H
         have D1 := Aside0.mk d1
         have d1b : decide ((y.length : Int) < 7) = true := decide_eq_true d1
         have d1c : ((y.length : Int) < 7) = True := eq_true d1
         have d2b : ((0 : Int) < (y.length : Int)) = True := eq_true (by omega)
         have d2c : (0 < y.length) = True := eq_true d2
         obtain ⟨gy,cy,ey,gby,_,_⟩ := Kd.N_form HO.out d2
         subst ey
         have GY : Aside0 (w.heap.size ≤ gy) := ⟨gby⟩
         obtain ⟨ce,hcl,hF,hcc,hfr⟩ := Kd.N_elem HO.out z84 0 (Int.le_refl 0) (by omega)
         generalize he0 : y.getD (0 : Int).toNat z84 = e0 at hF
         have he1 : rd_T84 y 0 = e0 := he0
         rw [he1] at H
         have HE0 := hF
         obtain ⟨Ae,ce1,rfl,hle,hFe⟩ := k84_openF hF
         have hx0 : wr.cell? ⟨gy,0,none⟩ = some (.slice Ae e0.f0.length ce1) := (by have h_ := hcc 0 _ rfl;exact h_)
         have HE : Aside0 (Kd.FK k84 wr (fun k_ => w.heap.size ≤ k_ ∧ k_ ≠ gy) e0 [.slice Ae e0.f0.length ce1]) := ⟨HE0⟩
         have H' := Aside0.mk H
         clear H hcl hcc hfr hF HE0 hle hFe gby d1 d2 he0 he1
         go_wp2_with (first|((with_reducible refine gblt_ (b := .append) (xs := #[.tmp 85,.tmp 89]) rfl ?_);at_builtin;refine Kd.N_append k84 w.heap.size rfl (.tmp 85) (.tmp 89) 70 84 (.agg #[(.slice none 0 0)]) 24 rfl Try.underlying70 info84 rfl (by decide) (by omega) (.slice (some ⟨gy,0,none⟩) y.length cy) y e0 [.slice Ae e0.f0.length ce1] (fun k_ => w.heap.size ≤ k_) (fun k_ => w.heap.size ≤ k_ ∧ k_ ≠ gy) rfl rfl ?aP (fun k_ hk => ⟨hk.1,fun e_ => hk.2 (by injection e_)⟩) ?aF ?aO (Below.refl _ _) ?aS ?aL ?_;(case aP => exact HE.out);(case aF => exact (fun k_ hk => Nat.le_trans (keep_size HK.out) hk));(case aO => exact HO.out);(case aS => exact keep_size HK.out);(case aL => have := D1.out;omega);intro v90 w90 ho hb hg hat;replace HI0 := Aside0.mk (IsS112.grown HI0.out hg (IsS112.own_neN HI0.out HO.out (by decide)));replace HK := Aside0.mk (KeepBut.trans HK.out (KeepBut.of_grown hg g) (.inr ⟨gy,rfl,GY.out⟩));replace HB := Aside0.mk (below_weaken HB.out HL.out hb);have HO2 := Aside0.mk ho;clear HO ho hb hg hat))
         go_roundg k2
         case measure => have := HK2.out;omega
         case rel => exact ⟨(y ++ [e0]),H',⟨by have := HK2.out;omega⟩,⟨HO2.out⟩,⟨HI0.out⟩,⟨HK.out⟩,⟨HB.out⟩⟩
        ·rw [if_neg d1] at H
         have d1b : decide ((y.length : Int) < 7) = false := decide_eq_false d1
         have d1c : ((y.length : Int) < 7) = False := eq_false d1
         obtain rfl := Option.some.inj H
         clear d1 H
         obtain ⟨Ay,cy,ey⟩ := Kd.N_slice HO.out
         subst ey
         go_wp2
         go_ret
         exact ⟨_,by first|rfl|(simp [errW_none,errW_some] <;> rfl),HO.out,(by repeat (first|exact HI0.out|apply IsS112.alloc|apply IsS112.drewN|apply IsS112.drew)),(by repeat (first|exact HB.out|apply below_alloc|apply pw_below_drewN|apply below_drew1)),(by repeat (first|exact HK.out|apply keep_drewN|apply keep_drew|apply keep_alloc))⟩
     rw [if_neg e2] at H
     simp only [Option.some.injEq,Prod.mk.injEq] at H
     obtain ⟨rfl,rfl,rfl⟩ := H
     have e0b : (b1 == 0) = false := beq_eq_false_iff_ne.mpr e0
     have e1b : (b1 == 1) = false := beq_eq_false_iff_ne.mpr e1
     have e2b : (b1 == 2) = false := beq_eq_false_iff_ne.mpr e2
     clear e0 e1 e2
     go_wp2_with (first|((with_reducible refine gcal_ (f := 88) rfl ?_);refine gl_ (some 43) Try.func88 #[.pointer (some ⟨g,0,none⟩),.int .i64 10] ?_;(with_reducible refine (spec_l1Once.calls g s0_0 x1001_1 x1002_1 10 true t130 t131 w0 _ ?side1 ?side2 A33.out).mono ?_);(case side1 => repeat (first|(with_reducible first|exact HI0.out|apply IsS112.alloc|apply IsS112.drewN|apply IsS112.drew|apply IsS112.set_1|apply IsS112.set_2)|exact HI0.out));(case side2 => repeat (first|(with_reducible first|exact HB.out|apply below_alloc|apply pw_below_drewN|apply below_drew1|refine below_set ?_ (IsS112.ge HI0.out))|exact HB.out));rintro e w35 ⟨rfl,hi,hb,hk⟩;refine ⟨_,rfl,?_⟩;replace HO_3 := Aside0.mk (Kd.S_mono (Kd.S_keep (IsS112.apartS (show IsS112 w0 _ g s0_0 x1001_1 x1002_1 from by repeat (first|(with_reducible first|exact HI0.out|apply IsS112.alloc|apply IsS112.drewN|apply IsS112.drew|apply IsS112.set_1|apply IsS112.set_2)|exact HI0.out)) (by (with_reducible repeat (first|apply Kd.S_alloc|apply Kd.S_drewN|apply Kd.S_drew));exact HO_3.out) (by decide)) hk (fun _ h => h.2)) (fun _ h => h.1));replace HK := Aside0.mk (KeepBut.trans (by repeat (first|(with_reducible first|exact HK.out|apply KeepBut.set_|apply keep_drewN|apply keep_drew|apply keep_alloc)|exact HK.out)) hk (.inl rfl));replace HB := Aside0.mk (hb);replace HI0 := Aside0.mk (hi);(try clear hb);(try clear hb2);(try clear hk);(try clear hi))|((with_reducible refine gcal_ (f := 74) rfl ?_);refine gl_ (some 48) Try.func74 #[.pointer (some ⟨g,0,none⟩),.int .i64 (x3_1.length : Int)] ?_;(with_reducible refine (spec_l1Below.calls g s0_0 t130 t131 (x3_1.length : Int) a1 a2 a3 w0 _ ?side1 ?side2 B1.out).mono ?_);(case side1 => exact (by repeat (first|exact HI0.out|apply IsS112.alloc|apply IsS112.drewN|apply IsS112.drew)));(case side2 => exact (by repeat (first|exact HB.out|apply below_alloc|apply pw_below_drewN|apply below_drew1)));rintro e wo ⟨rfl,hi,hb,hk⟩;refine ⟨_,rfl,?_⟩;replace HO_3 := Aside0.mk (Kd.S_mono (Kd.S_keep (IsS112.apartS (show IsS112 w0 _ g s0_0 t130 t131 from (by repeat (first|exact HI0.out|apply IsS112.alloc|apply IsS112.drewN|apply IsS112.drew))) (by (with_reducible repeat (first|apply Kd.S_alloc|apply Kd.S_drewN|apply Kd.S_drew));exact HO_3.out) (by decide)) hk (fun _ h => h.2)) (fun _ h => h.1));replace HK := Aside0.mk (KeepBut.trans (by repeat (first|exact HK.out|apply keep_drewN|apply keep_drew|apply keep_alloc)) hk (.inl rfl));replace HB := Aside0.mk hb;replace HI0 := Aside0.mk hi;clear hb hk hi)|((with_reducible refine gcal_ (f := 74) rfl ?_);refine gl_ (some 51) Try.func74 #[.pointer (some ⟨g,0,none⟩),.int .i64 3] ?_;(with_reducible refine (spec_l1Below.calls g s0_0 a2 a3 3 b1 b2 b3 w0 _ ?side1 ?side2 B2.out).mono ?_);(case side1 => exact (by repeat (first|exact HI0.out|apply IsS112.alloc|apply IsS112.drewN|apply IsS112.drew)));(case side2 => exact (by repeat (first|exact HB.out|apply below_alloc|apply pw_below_drewN|apply below_drew1)));rintro e wq ⟨rfl,hi,hb,hk⟩;refine ⟨_,rfl,?_⟩;replace HO_3 := Aside0.mk (Kd.S_mono (Kd.S_keep (IsS112.apartS (show IsS112 w0 _ g s0_0 a2 a3 from (by repeat (first|exact HI0.out|apply IsS112.alloc|apply IsS112.drewN|apply IsS112.drew))) (by (with_reducible repeat (first|apply Kd.S_alloc|apply Kd.S_drewN|apply Kd.S_drew));exact HO_3.out) (by decide)) hk (fun _ h => h.2)) (fun _ h => h.1));replace HK := Aside0.mk (KeepBut.trans (by repeat (first|exact HK.out|apply keep_drewN|apply keep_drew|apply keep_alloc)) hk (.inl rfl));replace HB := Aside0.mk hb;replace HI0 := Aside0.mk hi;clear hb hk hi))
     go_ret
     exact ⟨_,by first|rfl|(simp [errW_none,errW_some] <;> rfl),Kd.S_N (Kd.S_mono (Kd.S_bound (by (with_reducible repeat (first|apply Kd.S_alloc|apply Kd.S_drewN|apply Kd.S_drew));exact HO_3.out)) (fun _ hk => hk.2.1)),(by repeat (first|exact HI0.out|apply IsS112.alloc|apply IsS112.drewN|apply IsS112.drew)),(by repeat (first|exact HB.out|apply below_alloc|apply pw_below_drewN|apply below_drew1)),(by repeat (first|exact HK.out|apply keep_drewN|apply keep_drew|apply keep_alloc))⟩
    ·replace c34 := Bool.eq_false_iff.mpr c34
     subst c34
     replace H := ie_ H
     simp only [Option.some.injEq,Prod.mk.injEq] at H
     obtain ⟨rfl,rfl,rfl⟩ := H
     go_wp2_with (first|((with_reducible refine gcal_ (f := 88) rfl ?_);refine gl_ (some 43) Try.func88 #[.pointer (some ⟨g,0,none⟩),.int .i64 10] ?_;(with_reducible refine (spec_l1Once.calls g s0_0 x1001_1 x1002_1 10 false t130 t131 w0 _ ?side1 ?side2 A33.out).mono ?_);(case side1 => repeat (first|(with_reducible first|exact HI0.out|apply IsS112.alloc|apply IsS112.drewN|apply IsS112.drew|apply IsS112.set_1|apply IsS112.set_2)|exact HI0.out));(case side2 => repeat (first|(with_reducible first|exact HB.out|apply below_alloc|apply pw_below_drewN|apply below_drew1|refine below_set ?_ (IsS112.ge HI0.out))|exact HB.out));rintro e w36 ⟨rfl,hi,hb,hk⟩;refine ⟨_,rfl,?_⟩;replace HO_3 := Aside0.mk (Kd.S_mono (Kd.S_keep (IsS112.apartS (show IsS112 w0 _ g s0_0 x1001_1 x1002_1 from by repeat (first|(with_reducible first|exact HI0.out|apply IsS112.alloc|apply IsS112.drewN|apply IsS112.drew|apply IsS112.set_1|apply IsS112.set_2)|exact HI0.out)) (by (with_reducible repeat (first|apply Kd.S_alloc|apply Kd.S_drewN|apply Kd.S_drew));exact HO_3.out) (by decide)) hk (fun _ h => h.2)) (fun _ h => h.1));replace HK := Aside0.mk (KeepBut.trans (by repeat (first|(with_reducible first|exact HK.out|apply KeepBut.set_|apply keep_drewN|apply keep_drew|apply keep_alloc)|exact HK.out)) hk (.inl rfl));replace HB := Aside0.mk (hb);replace HI0 := Aside0.mk (hi);(try clear hb);(try clear hb2);(try clear hk);(try clear hi)))
     go_ret
     exact ⟨_,rf_,Kd.S_N (Kd.S_mono (Kd.S_bound (by (with_reducible repeat (first|apply Kd.S_alloc|apply Kd.S_drewN|apply Kd.S_drew));exact HO_3.out)) (fun _ hk => hk.2.1)),by repeat (first|(with_reducible first|exact HI0.out|apply IsS112.alloc|apply IsS112.drewN|apply IsS112.drew|apply IsS112.set_1|apply IsS112.set_2)|exact HI0.out),by repeat (first|(with_reducible first|exact HB.out|apply below_alloc|apply pw_below_drewN|apply below_drew1|refine below_set ?_ (IsS112.ge HI0.out))|exact HB.out),by repeat (first|(with_reducible first|exact HK.out|apply KeepBut.set_|apply keep_drewN|apply keep_drew|apply keep_alloc)|exact HK.out)⟩

/-! ### spec_DrawRemap: function 51 -/
def spec_DrawRemap.l0 : Nat → List (S84) → List Bool → Int → List Int → Int → Int → Option ((List (S84)) × List Bool)
  | 0, _, _, _, _, _, _ => none
  | k + 1, x5, x6, x7, x150000, x150001, x150002 => if x7 > 0 then ((spec_l1Once.f x150000 x150001 x150002 3).bind fun bt161 => (if x6.length < 140737488355328 then (spec_DrawRemap.l0 k x5 (x6 ++ [!bt161.1]) (wrap64 (x7 - 1)) x150000 bt161.2.1 bt161.2.2) else (none))) else ((spec_l1Once.f x150000 x150001 x150002 20).bind fun bt167 => (if bt167.1 = true then (if 9 ≤ 281474976710656 then (some (x5, (List.replicate 9 false))) else (none)) else (some (x5, x6))))
def spec_DrawRemap.f (k : Nat) (l0 : List Int) : Option ((List (S84)) × List Bool) := (spec_l1New.f k l0).bind fun bt146 => ((spec_l5Draw.f k bt146.1 bt146.2.1 bt146.2.2).bind fun bt150 => ((spec_l1Below.f bt146.1 bt150.2.1 bt150.2.2 9).bind fun bt158 => (spec_DrawRemap.l0 k bt150.1 (([] : List Bool)) bt158.1 bt146.1 bt158.2.1 bt158.2.2)))

set_option maxHeartbeats 8000000 in
set_option maxRecDepth 100000 in
theorem spec_DrawRemap.calls (k : Nat) (A0 : Option Addr) (c0 : Nat) (l0 : List Int) (r1 : List (S84)) (r2 : List Bool) (w : World) (hr0 : Kd.C (Kd.int .u8) w A0 l0.length l0) (hc0 : l0.length ≤ c0) (h : spec_DrawRemap.f k l0 = some (r1, r2)) :
    Calls Try.prog 51 #[.slice A0 l0.length c0] w fun e w' => ∃ v0_ v1_ : Value, e = .returned (.tuple #[v0_, v1_]) ∧ Kd.N k84 84 w' w.heap.size (fun k_ => (w.heap.size ≤ k_) ∧ some k_ ≠ (v1_ : Value).ownBlock) v0_ r1 ∧ Kd.R Kd.bool 4 w' w.heap.size (fun k_ => (w.heap.size ≤ k_)) v1_ r2 ∧ Below w.heap.size w w' := by
 have HR0 := Aside0.mk hr0
 have HC0 := Aside0.mk hc0
 clear hr0 hc0
 have HB := Aside0.mk (Below.refl w.heap.size w)
 have H : ((spec_l1New.f k l0).bind fun bt146 => ((spec_l5Draw.f k bt146.1 bt146.2.1 bt146.2.2).bind fun bt150 => ((spec_l1Below.f bt146.1 bt150.2.1 bt150.2.2 9).bind fun bt158 => (spec_DrawRemap.l0 k bt150.1 (([] : List Bool)) bt158.1 bt146.1 bt158.2.1 bt158.2.2)))) = some (r1,r2) := h
 clear h
 replace H := Option.bind_eq_some_iff.mp H
 obtain ⟨⟨t146,t147,t148⟩,A20,H⟩ := H
 replace H : ((spec_l5Draw.f k t146 t147 t148).bind fun bt150 => ((spec_l1Below.f t146 bt150.2.1 bt150.2.2 9).bind fun bt158 => (spec_DrawRemap.l0 k bt150.1 (([] : List Bool)) bt158.1 t146 bt158.2.1 bt158.2.2))) = some (r1,r2) := H
 have A2 := Aside0.mk A20
 clear A20
 replace H := Option.bind_eq_some_iff.mp H
 obtain ⟨⟨t150,t153,t154⟩,A30,H⟩ := H
 replace H : ((spec_l1Below.f t146 t153 t154 9).bind fun bt158 => (spec_DrawRemap.l0 k t150 (([] : List Bool)) bt158.1 t146 bt158.2.1 bt158.2.2)) = some (r1,r2) := H
 have A3 := Aside0.mk A30
 clear A30
 obtain ⟨y155,hy155⟩ : ∃ y_ : List Bool,y_ = (([] : List Bool)) := ⟨_,rfl⟩
 replace H : ((spec_l1Below.f t146 t153 t154 9).bind fun bt158 => (spec_DrawRemap.l0 k t150 y155 bt158.1 t146 bt158.2.1 bt158.2.2)) = some (r1,r2) := by first|(rw [hy155];with_reducible exact H)|(have H2_ := (Option.bind_some _ _).symm.trans H;rw [hy155];with_reducible exact H2_)|(have H2_ := (Option.bind_some _ _).symm.trans H;with_reducible exact H2_)|with_reducible exact H|(rw [hy155];exact H)|exact H
 have Ny155 := Aside0.mk hy155
 clear hy155
 replace H := Option.bind_eq_some_iff.mp H
 obtain ⟨⟨t158,t159,t160⟩,A40,H⟩ := H
 replace H : (spec_DrawRemap.l0 k t150 y155 t158 t146 t159 t160) = some (r1,r2) := H
 have A4 := Aside0.mk A40
 clear A40
 have H' := Aside0.mk H
 clear H
 go_enter Try.func51,Try.ntmps51
 go_wp2_with (first|((with_reducible refine gcal_ (f := 72) rfl ?_);refine gl_ (some 9) Try.func72 #[.slice A0 l0.length c0] ?_;(with_reducible refine (spec_l1New.calls k _ _ l0 t146 t147 t148 w _ ?side1 ?side2 ?side3 A2.out).mono ?_);(case side1 => repeat (first|(with_reducible first|exact HB.out|apply below_alloc|apply pw_below_drewN|apply below_drew1)|exact HB.out));(case side2 => exact HR0.out);(case side3 => exact HC0.out);rintro e w5 ⟨g149,rfl,hi,hb,hb2⟩;refine ⟨_,rfl,?_⟩;replace HB := Aside0.mk (hb);have HI149 := Aside0.mk (hi);(try clear hb);(try clear hb2);(try clear hk);(try clear hi))|((with_reducible refine gcal_ (f := 94) rfl ?_);refine gl_ (some 11) Try.func94 #[.pointer (some ⟨g149,0,none⟩)] ?_;(with_reducible refine (spec_l5Draw.calls k g149 t146 t147 t148 t150 t153 t154 w _ ?side1 ?side2 A3.out).mono ?_);(case side1 => repeat (first|(with_reducible first|exact HI149.out|apply IsS112.alloc|apply IsS112.drewN|apply IsS112.drew|apply IsS112.set_1|apply IsS112.set_2)|exact HI149.out));(case side2 => repeat (first|(with_reducible first|exact HB.out|apply below_alloc|apply pw_below_drewN|apply below_drew1|refine below_set ?_ (IsS112.ge HI149.out))|exact HB.out));rintro e w6 ⟨v151,rfl,ho0,hi,hb,hk⟩;refine ⟨_,rfl,?_⟩;have HO152 := Aside0.mk (Kd.N_lower (Kd.N_mono (ok' := fun k_ => (w.heap.size ≤ k_) ∧ k_ ≠ g149) ho0 (fun k_ hk_ => ⟨(Nat.le_trans (below_size (by repeat (first|(with_reducible first|exact HB.out|apply below_alloc|apply pw_below_drewN|apply below_drew1|refine below_set ?_ (IsS112.ge HI149.out))|exact HB.out))) hk_),(IsS112.fresh (by repeat (first|(with_reducible first|exact HI149.out|apply IsS112.alloc|apply IsS112.drewN|apply IsS112.drew|apply IsS112.set_1|apply IsS112.set_2)|exact HI149.out)) k_ hk_)⟩)) (below_size (by repeat (first|(with_reducible first|exact HB.out|apply below_alloc|apply pw_below_drewN|apply below_drew1|refine below_set ?_ (IsS112.ge HI149.out))|exact HB.out))));replace HB := Aside0.mk (hb);replace HI149 := Aside0.mk (hi);(try clear hb);(try clear hb2);(try clear hk);(try clear hi);(try clear ho0))|((with_reducible refine gate_dst (N := 12) rfl ?_);refine Kd.R_lit Kd.bool _ 4 ?hg (N := 12) ?hd (xs := ([] : List Bool)) (inner := []) (ok := fun _ => True) (okp := fun _ => True) ?hr ?hp (fun _ hk => hk) trivial (Below.refl _ _) (Nat.le_refl _) (by simp) ?_;(case hd => rfl);(case hg => rfl);(case hr => first|(go_simp;done)|(go_simp;rfl));(case hp => exact (Reps.none _ _));intro v156 w7 ho8 hb hg_ hnew_;clear hg_ hnew_;(first|rw [← Ny155.out] at ho8|(simp only [Int.reduceToNat] at ho8;rw [← Ny155.out] at ho8));replace HO152 := Aside0.mk (Kd.N_elder' (by (with_reducible repeat (first|apply Kd.N_alloc|apply Kd.N_drewN|apply Kd.N_drew));exact HO152.out) (Kd.R_base ho8) hb);have HO157 := Aside0.mk (Kd.R_lower (Kd.R_newM (M := fun k_ => (w.heap.size ≤ k_)) ho8 (below_size (by repeat (first|(with_reducible first|exact HB.out|apply below_alloc|apply pw_below_drewN|apply below_drew1|refine below_set ?_ (IsS112.ge HI149.out))|exact HB.out))) (fun k_ h_ => h_)) (below_size (by repeat (first|(with_reducible first|exact HB.out|apply below_alloc|apply pw_below_drewN|apply below_drew1|refine below_set ?_ (IsS112.ge HI149.out))|exact HB.out))));replace HB := Aside0.mk (below_step (by repeat (first|(with_reducible first|exact HB.out|apply below_alloc|apply pw_below_drewN|apply below_drew1|refine below_set ?_ (IsS112.ge HI149.out))|exact HB.out)) hb);replace HI149 := Aside0.mk (IsS112.below (by repeat (first|(with_reducible first|exact HI149.out|apply IsS112.alloc|apply IsS112.drewN|apply IsS112.drew|apply IsS112.set_1|apply IsS112.set_2)|exact HI149.out)) hb);clear hb ho8)|((with_reducible refine gcal_ (f := 74) rfl ?_);refine gl_ (some 14) Try.func74 #[.pointer (some ⟨g149,0,none⟩),.int .i64 9] ?_;(with_reducible refine (spec_l1Below.calls g149 t146 t153 t154 9 t158 t159 t160 w _ ?side1 ?side2 A4.out).mono ?_);(case side1 => repeat (first|(with_reducible first|exact HI149.out|apply IsS112.alloc|apply IsS112.drewN|apply IsS112.drew|apply IsS112.set_1|apply IsS112.set_2)|exact HI149.out));(case side2 => repeat (first|(with_reducible first|exact HB.out|apply below_alloc|apply pw_below_drewN|apply below_drew1|refine below_set ?_ (IsS112.ge HI149.out))|exact HB.out));rintro e w9 ⟨rfl,hi,hb,hk⟩;refine ⟨_,rfl,?_⟩;replace HO152 := Aside0.mk (Kd.N_mono (Kd.N_keep (Kd.N_mono (ok := fun k_ => ((((w.heap.size ≤ k_)) ∧ k_ ≠ g149) ∧ some k_ ≠ (v156 : Value).ownBlock)) (by (with_reducible repeat (first|apply Kd.N_alloc|apply Kd.N_drewN|apply Kd.N_drew));exact HO152.out) (fun k_ hk_ => (⟨hk_,hk_.1.2⟩ : _ ∧ k_ ≠ g149))) hk (fun _ h => h.2)) (fun _ h => h.1));replace HO157 := Aside0.mk (Kd.R_mono (Kd.R_keep (IsS112.apart (show IsS112 w _ g149 t146 t153 t154 from by repeat (first|(with_reducible first|exact HI149.out|apply IsS112.alloc|apply IsS112.drewN|apply IsS112.drew|apply IsS112.set_1|apply IsS112.set_2)|exact HI149.out)) (by (with_reducible repeat (first|apply Kd.R_alloc|apply Kd.R_drewN|apply Kd.R_drew));exact HO157.out) (by decide)) hk (fun _ h => h.2)) (fun _ h => h.1));replace HB := Aside0.mk (hb);replace HI149 := Aside0.mk (hi);(try clear hb);(try clear hb2);(try clear hk);(try clear hi)))
 go_loopg [6,7] k (fun kq v6 v7 w' => ∃ (x6_1 : List Bool) (x7_1 : Int) (x150001_1 : Int) (x150002_1 : Int),v7 = .int .i64 x7_1 ∧ Aside0 (spec_DrawRemap.l0 kq t150 x6_1 x7_1 t146 x150001_1 x150002_1 = some (r1,r2)) ∧ Aside0 (kq ≤ k) ∧ Aside0 (Kd.N k84 84 w' w.heap.size (fun k_ => (w.heap.size ≤ k_) ∧ some k_ ≠ (v6 : Value).ownBlock ∧ k_ ≠ g149) v151 t150) ∧ Aside0 (Kd.R Kd.bool 4 w' w.heap.size (fun k_ => (w.heap.size ≤ k_)) v6 x6_1) ∧ Aside0 (IsS112 w w' g149 t146 x150001_1 x150002_1) ∧ Aside0 (Below w.heap.size w w'))
 case atStart => exact ⟨(y155),(t158),(t159),(t160),rs_,H',⟨Nat.le_refl _⟩,⟨by (with_reducible repeat (first|apply Kd.N_alloc|apply Kd.N_drewN|apply Kd.N_drew));exact Kd.N_mono HO152.out (fun _ hk => ⟨hk.1.1,⟨hk.2,hk.1.2⟩⟩)⟩,⟨by (with_reducible repeat (first|apply Kd.R_alloc|apply Kd.R_drewN|apply Kd.R_drew));exact Kd.R_mono HO157.out (fun _ hk => hk.1)⟩,⟨by repeat (first|(with_reducible first|exact HI149.out|apply IsS112.alloc|apply IsS112.drewN|apply IsS112.drew|apply IsS112.set_1|apply IsS112.set_2)|exact HI149.out)⟩,⟨by repeat (first|(with_reducible first|exact HB.out|apply below_alloc|apply pw_below_drewN|apply below_drew1|refine below_set ?_ (IsS112.ge HI149.out))|exact HB.out)⟩⟩
 case round =>
  clear H'
  try clear p2
  try clear c5
  try clear c7
  try clear c9
  obtain ⟨x6_1,x7_1,x150001_1,x150002_1,rfl,HA,HK1,HO_5,HO_6,HI149,HB⟩ := hrel
  cases gk with
    | zero => exact absurd HA.out (by simp [spec_DrawRemap.l0])
    | succ k1 =>
   have H := HA.out
   clear HA
   simp only [spec_DrawRemap.l0] at H
   by_cases c10 : x7_1 > 0
   ·rw [if_pos c10] at H
    have c10b0 : decide (0 < x7_1) = true := decide_eq_true c10
    clear c10
    replace H := Option.bind_eq_some_iff.mp H
    obtain ⟨⟨t161,t162,t163⟩,A110,H⟩ := H
    replace H : (if x6_1.length < 140737488355328 then (spec_DrawRemap.l0 k1 t150 (x6_1 ++ [!t161]) (wrap64 (x7_1 - 1)) t146 t162 t163) else (none)) = some (r1,r2) := H
    have A11 := Aside0.mk A110
    clear A110
    by_cases c12 : x6_1.length < 140737488355328
    ·rw [if_pos c12] at H
     have LMc12 := Aside0.mk c12
     clear c12
     obtain ⟨y164,hy164⟩ : ∃ y_ : List Bool,y_ = (x6_1 ++ [!t161]) := ⟨_,rfl⟩
     replace H : (spec_DrawRemap.l0 k1 t150 y164 (wrap64 (x7_1 - 1)) t146 t162 t163) = some (r1,r2) := by first|(rw [hy164];with_reducible exact H)|(have H2_ := (Option.bind_some _ _).symm.trans H;rw [hy164];with_reducible exact H2_)|(have H2_ := (Option.bind_some _ _).symm.trans H;with_reducible exact H2_)|with_reducible exact H|(rw [hy164];exact H)|exact H
     have Ny164 := Aside0.mk hy164
     clear hy164
     have H' := Aside0.mk H
     clear H
     go_wp2_with (first|((with_reducible refine gcal_ (f := 88) rfl ?_);refine gl_ (some 21) Try.func88 #[.pointer (some ⟨g149,0,none⟩),.int .i64 3] ?_;(with_reducible refine (spec_l1Once.calls g149 t146 x150001_1 x150002_1 3 t161 t162 t163 w _ ?side1 ?side2 A11.out).mono ?_);(case side1 => repeat (first|(with_reducible first|exact HI149.out|apply IsS112.alloc|apply IsS112.drewN|apply IsS112.drew|apply IsS112.set_1|apply IsS112.set_2)|exact HI149.out));(case side2 => repeat (first|(with_reducible first|exact HB.out|apply below_alloc|apply pw_below_drewN|apply below_drew1|refine below_set ?_ (IsS112.ge HI149.out))|exact HB.out));rintro e w13 ⟨rfl,hi,hb,hk⟩;refine ⟨_,rfl,?_⟩;replace HO_5 := Aside0.mk (Kd.N_mono (Kd.N_keep (Kd.N_mono (ok := fun k_ => (((w.heap.size ≤ k_)) ∧ (some k_ ≠ (u6 : Value).ownBlock ∧ k_ ≠ g149))) (by (with_reducible repeat (first|apply Kd.N_alloc|apply Kd.N_drewN|apply Kd.N_drew));exact HO_5.out) (fun k_ hk_ => (⟨hk_,hk_.2.2⟩ : _ ∧ k_ ≠ g149))) hk (fun _ h => h.2)) (fun _ h => h.1));replace HO_6 := Aside0.mk (Kd.R_mono (Kd.R_keep (IsS112.apart (show IsS112 w _ g149 t146 x150001_1 x150002_1 from by repeat (first|(with_reducible first|exact HI149.out|apply IsS112.alloc|apply IsS112.drewN|apply IsS112.drew|apply IsS112.set_1|apply IsS112.set_2)|exact HI149.out)) (by (with_reducible repeat (first|apply Kd.R_alloc|apply Kd.R_drewN|apply Kd.R_drew));exact HO_6.out) (by decide)) hk (fun _ h => h.2)) (fun _ h => h.1));replace HB := Aside0.mk (hb);replace HI149 := Aside0.mk (hi);(try clear hb);(try clear hb2);(try clear hk);(try clear hi))|((with_reducible refine gblt_ (b := .append) (xs := #[.tmp 19,.tmp 23]) rfl ?_);at_builtin;refine Kd.R_append Kd.bool (w0 := w) w.heap.size rfl (.tmp 19) (.tmp 23) 71 4 (.bool false) 1 rfl Try.underlying71 info4 rfl (by decide) (by omega) u6 x6_1 (!t161) [.bool (!t161)] (fun k_ => (w.heap.size ≤ k_)) (fun _ => False) rfl rfl ?aP (fun _ hk => hk.elim) ?aF ?aO ?aB ?aS ?aL ?_;(case aP => exact rfl);(case aB => exact (by repeat (first|(with_reducible first|exact HB.out|apply below_alloc|apply pw_below_drewN|apply below_drew1|refine below_set ?_ (IsS112.ge HI149.out))|exact HB.out)));(case aF => exact (fun k_ hk => (Nat.le_trans (below_size (by repeat (first|(with_reducible first|exact HB.out|apply below_alloc|apply pw_below_drewN|apply below_drew1|refine below_set ?_ (IsS112.ge HI149.out))|exact HB.out))) hk)));(case aO => exact (by (with_reducible repeat (first|apply Kd.R_alloc|apply Kd.R_drewN|apply Kd.R_drew));exact HO_6.out));(case aS => exact (below_size (by repeat (first|(with_reducible first|exact HB.out|apply below_alloc|apply pw_below_drewN|apply below_drew1|refine below_set ?_ (IsS112.ge HI149.out))|exact HB.out))));(case aL => have := LMc12.out;omega);intro v165 w14 ho hb hg hat;rw [← Ny164.out] at ho;replace HO_5 := Aside0.mk (Kd.N_afterv (ok := (fun k_ => (w.heap.size ≤ k_) ∧ k_ ≠ g149)) (by (with_reducible repeat (first|apply Kd.N_alloc|apply Kd.N_drewN|apply Kd.N_drew));exact Kd.N_mono HO_5.out (fun _ hk => ⟨⟨hk.1,hk.2.2⟩,hk.2.1⟩)) hg hat);replace HI149 := Aside0.mk (IsS112.grown (by repeat (first|(with_reducible first|exact HI149.out|apply IsS112.alloc|apply IsS112.drewN|apply IsS112.drew|apply IsS112.set_1|apply IsS112.set_2)|exact HI149.out)) hg (IsS112.own_ne HI149.out HO_6.out (by decide)));replace HB := Aside0.mk (hb);have HO166 := Aside0.mk (ho);clear HO_6;clear ho hb hg hat))
     go_roundg k1
     case measure => have := HK1.out;omega
     case rel => exact ⟨(y164),(wrap64 (x7_1 - 1)),(t162),(t163),rs_,H',⟨by have := HK1.out;omega⟩,⟨by (with_reducible repeat (first|apply Kd.N_alloc|apply Kd.N_drewN|apply Kd.N_drew));exact Kd.N_mono HO_5.out (fun _ hk => ⟨hk.1.1,⟨hk.2,hk.1.2⟩⟩)⟩,⟨by (with_reducible repeat (first|apply Kd.R_alloc|apply Kd.R_drewN|apply Kd.R_drew));exact HO166.out⟩,⟨by repeat (first|(with_reducible first|exact HI149.out|apply IsS112.alloc|apply IsS112.drewN|apply IsS112.drew|apply IsS112.set_1|apply IsS112.set_2)|exact HI149.out)⟩,⟨by repeat (first|(with_reducible first|exact HB.out|apply below_alloc|apply pw_below_drewN|apply below_drew1|refine below_set ?_ (IsS112.ge HI149.out))|exact HB.out)⟩⟩
    ·rw [if_neg c12] at H
     exact absurd H (by simp)
   ·rw [if_neg c10] at H
    have c10b0 : decide (0 < x7_1) = false := decide_eq_false c10
    clear c10
    replace H := Option.bind_eq_some_iff.mp H
    obtain ⟨⟨t167,t168,t169⟩,A150,H⟩ := H
    replace H : (if t167 = true then (if 9 ≤ 281474976710656 then (some (t150,(List.replicate 9 false))) else (none)) else (some (t150,x6_1))) = some (r1,r2) := H
    have A15 := Aside0.mk A150
    clear A150
    by_cases c16 : t167 = true
    ·subst c16
     replace H := it_ H
     by_cases c17 : 9 ≤ 281474976710656
     ·rw [if_pos c17] at H
      have c17b0 := eq_true c17
      have c17b1 : decide (9 ≤ 281474976710656) = true := decide_eq_true c17
      clear c17
      obtain ⟨y170,hy170⟩ : ∃ y_ : List Bool,y_ = (List.replicate 9 false) := ⟨_,rfl⟩
      replace H : (some (t150,y170)) = some (r1,r2) := by first|(rw [hy170];with_reducible exact H)|(have H2_ := (Option.bind_some _ _).symm.trans H;rw [hy170];with_reducible exact H2_)|(have H2_ := (Option.bind_some _ _).symm.trans H;with_reducible exact H2_)|with_reducible exact H|(rw [hy170];exact H)|exact H
      have Ny170 := Aside0.mk hy170
      clear hy170
      simp only [Option.some.injEq,Prod.mk.injEq] at H
      obtain ⟨rfl,rfl⟩ := H
      go_wp2_with (first|((with_reducible refine gcal_ (f := 88) rfl ?_);refine gl_ (some 26) Try.func88 #[.pointer (some ⟨g149,0,none⟩),.int .i64 20] ?_;(with_reducible refine (spec_l1Once.calls g149 t146 x150001_1 x150002_1 20 true t168 t169 w _ ?side1 ?side2 A15.out).mono ?_);(case side1 => repeat (first|(with_reducible first|exact HI149.out|apply IsS112.alloc|apply IsS112.drewN|apply IsS112.drew|apply IsS112.set_1|apply IsS112.set_2)|exact HI149.out));(case side2 => repeat (first|(with_reducible first|exact HB.out|apply below_alloc|apply pw_below_drewN|apply below_drew1|refine below_set ?_ (IsS112.ge HI149.out))|exact HB.out));rintro e w18 ⟨rfl,hi,hb,hk⟩;refine ⟨_,rfl,?_⟩;replace HO_5 := Aside0.mk (Kd.N_mono (Kd.N_keep (Kd.N_mono (ok := fun k_ => (((w.heap.size ≤ k_)) ∧ (some k_ ≠ (u6 : Value).ownBlock ∧ k_ ≠ g149))) (by (with_reducible repeat (first|apply Kd.N_alloc|apply Kd.N_drewN|apply Kd.N_drew));exact HO_5.out) (fun k_ hk_ => (⟨hk_,hk_.2.2⟩ : _ ∧ k_ ≠ g149))) hk (fun _ h => h.2)) (fun _ h => h.1));replace HO_6 := Aside0.mk (Kd.R_mono (Kd.R_keep (IsS112.apart (show IsS112 w _ g149 t146 x150001_1 x150002_1 from by repeat (first|(with_reducible first|exact HI149.out|apply IsS112.alloc|apply IsS112.drewN|apply IsS112.drew|apply IsS112.set_1|apply IsS112.set_2)|exact HI149.out)) (by (with_reducible repeat (first|apply Kd.R_alloc|apply Kd.R_drewN|apply Kd.R_drew));exact HO_6.out) (by decide)) hk (fun _ h => h.2)) (fun _ h => h.1));replace HB := Aside0.mk (hb);replace HI149 := Aside0.mk (hi);(try clear hb);(try clear hb2);(try clear hk);(try clear hi))|((with_reducible refine gate_dst (N := 27) rfl ?_);refine Kd.R_make Kd.bool _ 4 rfl (N := 27) rfl 71 _ _ rfl 9 rfl rfl Try.underlying71 (.bool false) 1 info4 rfl (by decide) (by omega) false (ok := fun _ => True) (okp := fun _ => True) rfl (fun _ hk => hk) trivial (by omega) (by omega) (Below.refl _ _) (Nat.le_refl _) ?_;intro v171 w19 ho20 hb hg_ hnew_;clear hg_ hnew_;(first|rw [← Ny170.out] at ho20|(simp only [Int.reduceToNat] at ho20;rw [← Ny170.out] at ho20));replace HO_5 := Aside0.mk (Kd.N_elder' (by (with_reducible repeat (first|apply Kd.N_alloc|apply Kd.N_drewN|apply Kd.N_drew));exact HO_5.out) (Kd.R_base ho20) hb);have HO172 := Aside0.mk (Kd.R_lower (Kd.R_new' (Kd.R_newM (M := fun k_ => (w.heap.size ≤ k_)) ho20 (below_size (by repeat (first|(with_reducible first|exact HB.out|apply below_alloc|apply pw_below_drewN|apply below_drew1|refine below_set ?_ (IsS112.ge HI149.out))|exact HB.out))) (fun k_ h_ => h_)) (Kd.R_lt (by (with_reducible repeat (first|apply Kd.R_alloc|apply Kd.R_drewN|apply Kd.R_drew));exact HO_6.out))) (below_size (by repeat (first|(with_reducible first|exact HB.out|apply below_alloc|apply pw_below_drewN|apply below_drew1|refine below_set ?_ (IsS112.ge HI149.out))|exact HB.out))));replace HO_6 := Aside0.mk (Kd.R_elder' (by (with_reducible repeat (first|apply Kd.R_alloc|apply Kd.R_drewN|apply Kd.R_drew));exact HO_6.out) (Kd.R_base ho20) hb);replace HB := Aside0.mk (below_step (by repeat (first|(with_reducible first|exact HB.out|apply below_alloc|apply pw_below_drewN|apply below_drew1|refine below_set ?_ (IsS112.ge HI149.out))|exact HB.out)) hb);replace HI149 := Aside0.mk (IsS112.below (by repeat (first|(with_reducible first|exact HI149.out|apply IsS112.alloc|apply IsS112.drewN|apply IsS112.drew|apply IsS112.set_1|apply IsS112.set_2)|exact HI149.out)) hb);clear hb ho20))
      go_ret2
      exact ⟨_,_,rf_,by (with_reducible repeat (first|apply Kd.N_alloc|apply Kd.N_drewN|apply Kd.N_drew));exact Kd.N_mono HO_5.out (fun _ hk => ⟨hk.1.1,hk.2⟩),by (with_reducible repeat (first|apply Kd.R_alloc|apply Kd.R_drewN|apply Kd.R_drew));exact Kd.R_mono HO172.out (fun _ hk => hk.1.1),by repeat (first|(with_reducible first|exact HB.out|apply below_alloc|apply pw_below_drewN|apply below_drew1|refine below_set ?_ (IsS112.ge HI149.out))|exact HB.out)⟩
     ·rw [if_neg c17] at H
      exact absurd H (by simp)
    ·replace c16 := Bool.eq_false_iff.mpr c16
     subst c16
     replace H := ie_ H
     simp only [Option.some.injEq,Prod.mk.injEq] at H
     obtain ⟨rfl,rfl⟩ := H
     go_wp2_with (first|((with_reducible refine gcal_ (f := 88) rfl ?_);refine gl_ (some 26) Try.func88 #[.pointer (some ⟨g149,0,none⟩),.int .i64 20] ?_;(with_reducible refine (spec_l1Once.calls g149 t146 x150001_1 x150002_1 20 false t168 t169 w _ ?side1 ?side2 A15.out).mono ?_);(case side1 => repeat (first|(with_reducible first|exact HI149.out|apply IsS112.alloc|apply IsS112.drewN|apply IsS112.drew|apply IsS112.set_1|apply IsS112.set_2)|exact HI149.out));(case side2 => repeat (first|(with_reducible first|exact HB.out|apply below_alloc|apply pw_below_drewN|apply below_drew1|refine below_set ?_ (IsS112.ge HI149.out))|exact HB.out));rintro e w21 ⟨rfl,hi,hb,hk⟩;refine ⟨_,rfl,?_⟩;replace HO_5 := Aside0.mk (Kd.N_mono (Kd.N_keep (Kd.N_mono (ok := fun k_ => (((w.heap.size ≤ k_)) ∧ (some k_ ≠ (u6 : Value).ownBlock ∧ k_ ≠ g149))) (by (with_reducible repeat (first|apply Kd.N_alloc|apply Kd.N_drewN|apply Kd.N_drew));exact HO_5.out) (fun k_ hk_ => (⟨hk_,hk_.2.2⟩ : _ ∧ k_ ≠ g149))) hk (fun _ h => h.2)) (fun _ h => h.1));replace HO_6 := Aside0.mk (Kd.R_mono (Kd.R_keep (IsS112.apart (show IsS112 w _ g149 t146 x150001_1 x150002_1 from by repeat (first|(with_reducible first|exact HI149.out|apply IsS112.alloc|apply IsS112.drewN|apply IsS112.drew|apply IsS112.set_1|apply IsS112.set_2)|exact HI149.out)) (by (with_reducible repeat (first|apply Kd.R_alloc|apply Kd.R_drewN|apply Kd.R_drew));exact HO_6.out) (by decide)) hk (fun _ h => h.2)) (fun _ h => h.1));replace HB := Aside0.mk (hb);replace HI149 := Aside0.mk (hi);(try clear hb);(try clear hb2);(try clear hk);(try clear hi)))
     go_ret2
     exact ⟨_,_,rf_,by (with_reducible repeat (first|apply Kd.N_alloc|apply Kd.N_drewN|apply Kd.N_drew));exact Kd.N_mono HO_5.out (fun _ hk => ⟨hk.1,hk.2.1⟩),by (with_reducible repeat (first|apply Kd.R_alloc|apply Kd.R_drewN|apply Kd.R_drew));exact HO_6.out,by repeat (first|(with_reducible first|exact HB.out|apply below_alloc|apply pw_below_drewN|apply below_drew1|refine below_set ?_ (IsS112.ge HI149.out))|exact HB.out)⟩

/-! ### impl_within: function 100 -/
def impl_within.f (a0 : Int) (a1 : Int) (a2 : Int) : Option (Bool) := if a0 ≥ a1 then (some (decide (a0 ≤ a2))) else (some false)
set_option maxHeartbeats 8000000 in
set_option maxRecDepth 100000 in
theorem impl_within.calls (a0 : Int) (a1 : Int) (a2 : Int) (r : Bool) (w : World) (h : impl_within.f a0 a1 a2 = some r) :
    Calls Try.prog 100 #[.int .i64 a0, .int .i64 a1, .int .i64 a2] w fun e w' => e = .returned (.bool r) ∧ Drawn0 w w' := by
 have H : (if a0 ≥ a1 then (some (decide (a0 ≤ a2))) else (some false)) = some r := h
 clear h
 by_cases c4 : a0 ≥ a1
 ·rw [if_pos c4] at H
  have c4b0 : decide (a1 ≤ a0) = true := decide_eq_true c4
  clear c4
  obtain rfl := Option.some.inj H
  go_enter Try.func100,Try.ntmps100
  go_wp2
  go_ret
  exact ⟨rs_,by repeat (first|exact Drawn0.refl _|apply Drawn0.step)⟩
 ·rw [if_neg c4] at H
  have c4b0 : decide (a1 ≤ a0) = false := decide_eq_false c4
  clear c4
  obtain rfl := Option.some.inj H
  go_enter Try.func100,Try.ntmps100
  go_wp2
  go_ret
  exact ⟨rs_,by repeat (first|exact Drawn0.refl _|apply Drawn0.step)⟩

/-! ### impl_Place: function 103 -/
def impl_Place.f (l0 : List (S84)) : Option (Int) := some (l0.length : Int)
set_option maxHeartbeats 8000000 in
set_option maxRecDepth 100000 in
theorem impl_Place.calls (A0 : Option Addr) (c0 : Nat) (l0 : List (S84)) (r : Int) (w : World) (hr0 : Kd.C k84 w A0 l0.length l0) (hc0 : l0.length ≤ c0) (h : impl_Place.f l0 = some r) :
    Calls Try.prog 103 #[.slice A0 l0.length c0] w fun e w' => e = .returned (.int .i64 r) ∧ Drawn0 w w' := by
 have HR0 := Aside0.mk hr0
 have HC0 := Aside0.mk hc0
 clear hr0 hc0
 have H : (some (l0.length : Int)) = some r := h
 clear h
 obtain rfl := Option.some.inj H
 go_enter Try.func103,Try.ntmps103
 go_wp2
 go_ret
 exact ⟨rs_,by repeat (first|exact Drawn0.refl _|apply Drawn0.step)⟩

end Go.Proofs.Ytgdfbjmjgegicaa.XPs
