/- Proved: of each Go function here that a call comes to what the Lean function of its name tells. Written by a program of this session over the translation. No conditions beyond each theorem's own. -/
import Derived.Test.YtodgacnioeoogaaXRm0
import Derived.Test.YtodgacnioeoogaaXRm5
namespace Go.Proofs.Ytodgacnioeoogaa.XRm
open Go.RowKit Go.Proofs.Ytodgacnioeoogaa.Aid Go.Proofs.YtodgacnioeoogaaW.PrintWords Go.Proofs.YtodgacnioeoogaaW.PrintLast Go.Proofs.YtodgacnioeoogaaW.PrintMore
set_option linter.unusedVariables false
set_option linter.unusedSimpArgs false

/-! ### impl_remap: function 120 -/
mutual
def impl_remap.l0 : Nat → List (S97) → List Int → List (S97) → Int → Int → List Bool → Option ((List (S97)) × List Int)
  | 0, _, _, _, _, _, _ => none
  | k + 1, x6, x7, x16, x17, x18, x208000 => if x18 < x17 then (if 0 ≤ x18 then (if x18 < (x16.length : Int) then (impl_remap.l1 k x6 x7 x18 x16 x17 x18 ((rd_T97 x16 x18).f0) (((rd_T97 x16 x18).f0).length : Int) 0 x208000 ((rd_T97 x16 x18).f0) ([] : List Int)) else (none)) else (none)) else (some (x6, x7))
def impl_remap.l1 : Nat → List (S97) → List Int → Int → List (S97) → Int → Int → List Int → Int → Int → List Bool → List Int → List Int → Option ((List (S97)) × List Int)
  | 0, _, _, _, _, _, _, _, _, _, _, _, _ => none
  | k + 1, x6, x7, x9, x16, x17, x18, x24, x25, x26, x208000, x210000, x211000 => if x26 < x25 then (if 0 ≤ x26 then (if x26 < (x24.length : Int) then ((impl_remap_1.f (rd x24 x26) x208000).bind fun t212 => (if t212 = true then (if x211000.length < 17592186044416 then (impl_remap.l1 k x6 x7 x9 x16 x17 x18 x24 x25 (wrap64 (x26 + 1)) x208000 x210000 (x211000 ++ [rd x24 x26])) else (none)) else (impl_remap.l1 k x6 x7 x9 x16 x17 x18 x24 x25 (wrap64 (x26 + 1)) x208000 x210000 x211000))) else (none)) else (none)) else (if (x211000.length : Int) = 0 then (if x7.length < 17592186044416 then ((slices_Clone_int64_int64.f x210000).bind fun t219 => (if x6.length < 5864062014805 then (impl_remap.l0 k (x6 ++ [(⟨t219⟩ : S97)]) (x7 ++ [x9]) x16 x17 (wrap64 (x18 + 1)) x208000) else (none))) else (none)) else ((impl_size_bool.f x208000).bind fun t225 => (impl_remap.l2 k x6 x7 x16 x17 x18 t225 0 x208000 x211000)))
def impl_remap.l2 : Nat → List (S97) → List Int → List (S97) → Int → Int → Int → Int → List Bool → List Int → Option ((List (S97)) × List Int)
  | 0, _, _, _, _, _, _, _, _, _ => none
  | k + 1, x6, x7, x16, x17, x18, x56, x57, x208000, x211000 => if x57 < x56 then (if 0 ≤ x57 then (if x57 < (x208000.length : Int) then (if rdOf false x208000 x57 = true then (if (x211000.length : Int) < 3 then ((slices_Contains_int64_int64.f k x211000 x57).bind fun t227 => (if t227 = true then (impl_remap.l2 k x6 x7 x16 x17 x18 x56 (wrap64 (x57 + 1)) x208000 x211000) else (if x211000.length < 17592186044416 then (impl_remap.l2 k x6 x7 x16 x17 x18 x56 (wrap64 (x57 + 1)) x208000 (x211000 ++ [x57])) else (none)))) else (impl_remap.l2 k x6 x7 x16 x17 x18 x56 (wrap64 (x57 + 1)) x208000 x211000)) else (impl_remap.l2 k x6 x7 x16 x17 x18 x56 (wrap64 (x57 + 1)) x208000 x211000)) else (none)) else (none)) else (if x6.length < 5864062014805 then (impl_remap.l0 k (x6 ++ [(⟨x211000⟩ : S97)]) x7 x16 x17 (wrap64 (x18 + 1)) x208000) else (none))
end
def impl_remap.f (k : Nat) (l0 : List (S97)) (l1 : List Bool) : Option ((List (S97)) × List Int) := impl_remap.l0 k ([] : List (S97)) ([] : List Int) l0 (l0.length : Int) 0 l1

set_option maxHeartbeats 8000000 in
set_option maxRecDepth 100000 in
theorem impl_remap.calls (k : Nat) (A0 : Option Addr) (c0 : Nat) (l0 : List (S97)) (A1 : Option Addr) (c1 : Nat) (l1 : List Bool) (r1 : List (S97)) (r2 : List Int) (w : World) (hr0 : Kd.C k97 w A0 l0.length l0) (hc0 : l0.length ≤ c0) (hr1 : Kd.C Kd.bool w A1 l1.length l1) (hc1 : l1.length ≤ c1) (h : impl_remap.f k l0 l1 = some (r1, r2)) :
    Calls Try.prog 120 #[.slice A0 l0.length c0, .slice A1 l1.length c1] w fun e w' => ∃ v0_ v1_ : Value, e = .returned (.tuple #[v0_, v1_]) ∧ Kd.S k97 97 w' w.heap.size (fun k_ => some k_ ≠ (v1_ : Value).ownBlock) v0_ r1 ∧ Kd.R (Kd.int .i64) 2 w' w.heap.size (fun _ => True) v1_ r2 ∧ Below w.heap.size w w' := by
 have hu97 := Try.underlying97
 have HR0 := Aside0.mk hr0
 have HC0 := Aside0.mk hc0
 clear hr0 hc0
 have HR1 := Aside0.mk hr1
 have HC1 := Aside0.mk hc1
 clear hr1 hc1
 have HB := Aside0.mk (Below.refl w.heap.size w)
 have H : (impl_remap.l0 k ([] : List (S97)) ([] : List Int) l0 (l0.length : Int) 0 l1) = some (r1,r2) := h
 clear h
 have H' := Aside0.mk H
 clear H
 go_enter Try.func120,Try.ntmps120
 go_wp2_with (first|((with_reducible refine gate_dst (N := 3) rfl ?_);(try (refine gate_guard (by rfl) ?_;dsimp only));refine box_event ?hg (N := 3) ?hd (cs := #[.slice A1 l1.length c1]) (t := 84) ?hr ?_;(case hd => rfl);(case hg => rfl);(case hr => first|(go_simp;done)|(go_simp;rfl));intro gb207 hg w3 hbox hb;have n0_ := Aside0.mk (below_step (by repeat (first|(with_reducible first|exact HB.out|apply below_alloc|apply pw_below_drewN|apply below_drew1)|exact HB.out)) hb);have n1_ := Aside0.mk (hbox);have n2_ := Aside0.mk ((by rw [hg];exact (below_size (by repeat (first|(with_reducible first|exact HB.out|apply below_alloc|apply pw_below_drewN|apply below_drew1)|exact HB.out))) : w.heap.size ≤ gb207));have n3_ := Aside0.mk ((by rw [hg];exact (below_size (by repeat (first|(with_reducible first|exact HB.out|apply below_alloc|apply pw_below_drewN|apply below_drew1)|exact HB.out))) : w.heap.size ≤ gb207));clear HB;have HB := n0_;have BK207 := n1_;have GW207 := n2_;have GE207 := n3_;clear n0_ n1_ n2_ n3_;clear hb hbox hg))
 go_loopg [6,7,18] k (fun kq v6 v7 v18 w' => ∃ (x6_1 : List (S97)) (x7_1 : List Int) (x18_1 : Int),v18 = .int .i64 x18_1 ∧ Aside0 (impl_remap.l0 kq x6_1 x7_1 l0 (l0.length : Int) x18_1 l1 = some (r1,r2)) ∧ Aside0 (kq ≤ k) ∧ Aside0 (Kd.S k97 97 w' w.heap.size (fun k_ => some k_ ≠ (v7 : Value).ownBlock) v6 x6_1) ∧ Aside0 (Kd.R (Kd.int .i64) 2 w' w.heap.size (fun _ => True) v7 x7_1) ∧ Aside0 (w'.heap[gb207]? = some (.cells #[(.slice A1 l1.length c1)] 84 (0,0))) ∧ Aside0 (Below w.heap.size w w'))
 case atStart => exact ⟨(([] : List (S97))),(([] : List Int)),(0),(by first|rfl|(simp;done)|(simp [*];done)),H',⟨Nat.le_refl _⟩,⟨by first|exact Kd.S_nil _ _ _ _ _|exact Kd.N_nil _ _ _ _ _|exact Kd.V_nil _ _ _ _ _|exact Kd.Q_nil _ _ _ _ _|exact Kd.R_nil _ _ _ _ _⟩,⟨by first|exact Kd.R_nil _ _ _ _ _|exact Kd.N_nil _ _ _ _ _|exact Kd.V_nil _ _ _ _ _|exact Kd.Q_nil _ _ _ _ _|exact Kd.S_nil _ _ _ _ _⟩,⟨by (with_reducible repeat (first|refine blk_drewN ?_ _|refine blk_drew ?_|refine blk_alloc ?_ _));exact BK207.out⟩,⟨by repeat (first|(with_reducible first|exact HB.out|apply below_alloc|apply pw_below_drewN|apply below_drew1|refine below_set ?_ GE207.out)|exact HB.out)⟩⟩
 case round =>
  clear H'
  try clear c1
  try clear p2
  obtain ⟨x6_1,x7_1,x18_1,rfl,HA,HK1,HO_6,HO_7,BK207,HB⟩ := hrel
  cases gk with
    | zero => exact absurd HA.out (by simp [impl_remap.l0])
    | succ k1 =>
   have H := HA.out
   clear HA
   simp only [impl_remap.l0] at H
   by_cases c4 : x18_1 < (l0.length : Int)
   ·rw [if_pos c4] at H
    have c4b0 : decide (x18_1 < (l0.length : Int)) = true := decide_eq_true c4
    clear c4
    by_cases c5 : 0 ≤ x18_1
    ·rw [if_pos c5] at H
     have c5b0 : decide (0 ≤ x18_1) = true := decide_eq_true c5
     clear c5
     by_cases c6 : x18_1 < (l0.length : Int)
     ·rw [if_pos c6] at H
      have c6b0 : decide (x18_1 < (l0.length : Int)) = true := decide_eq_true c6
      clear c6
      have H' := Aside0.mk H
      clear H
      have p208 : 0 ≤ (x18_1 : Int) := of_decide_eq_true (by first|(with_reducible assumption)|assumption)
      have q208 : x18_1 < (l0.length : Int) := of_decide_eq_true (by first|(with_reducible assumption)|assumption)
      obtain ⟨ad208,A208_0,c208_0,e208,hx208_0,hl208_0,hi208_0⟩ := at_T97 HR0.out x18_1 p208 q208
      cases e208
      replace hx208_0 := (HB.out.cell (World.block_lt_of_cell? w _ hx208_0)).trans hx208_0
      have HR208_0 := Aside0.mk hi208_0
      have HC208_0 := Aside0.mk hl208_0
      clear hi208_0 hl208_0
      replace p208 := eq_true p208
      replace q208 := eq_true q208
      go_wp2_with (first|((with_reducible refine gate_dst (N := 10) rfl ?_);(try (refine gate_guard (by rfl) ?_;dsimp only));refine box_event ?hg (N := 10) ?hd (cs := #[.slice none 0 0]) (t := 97) ?hr ?_;(case hd => rfl);(case hg => rfl);(case hr => first|(go_simp;done)|(go_simp;rfl));intro gb209 hg w7 hbox hb;have n0_ := Aside0.mk (Kd.S_below (Kd.S_elderB (by (with_reducible repeat (first|apply Kd.S_alloc|apply Kd.S_drewN|apply Kd.S_drew));exact HO_6.out) gb209 (Nat.le_of_eq hg.symm)) hb);have n1_ := Aside0.mk (Kd.R_below (by (with_reducible repeat (first|apply Kd.R_alloc|apply Kd.R_drewN|apply Kd.R_drew));exact HO_7.out) hb);have n2_ := Aside0.mk (blk_below (g := gb207) (o := .cells #[.slice A1 l1.length c1] 84 (0,0)) (by (with_reducible repeat (first|refine blk_drewN ?_ _|refine blk_drew ?_|refine blk_alloc ?_ _));exact BK207.out) hb);have n3_ := Aside0.mk (below_step (by repeat (first|(with_reducible first|exact HB.out|apply below_alloc|apply pw_below_drewN|apply below_drew1|refine below_set ?_ GE207.out)|exact HB.out)) hb);have n4_ := Aside0.mk (hbox);have n5_ := Aside0.mk ((by rw [hg];exact (below_size (by repeat (first|(with_reducible first|exact HB.out|apply below_alloc|apply pw_below_drewN|apply below_drew1|refine below_set ?_ GE207.out)|exact HB.out))) : w.heap.size ≤ gb209));have n6_ := Aside0.mk ((by rw [hg];exact (below_size (by repeat (first|(with_reducible first|exact HB.out|apply below_alloc|apply pw_below_drewN|apply below_drew1|refine below_set ?_ GE207.out)|exact HB.out))) : w.heap.size ≤ gb209));have n7_ := Aside0.mk ((by rw [hg];exact Nat.ne_of_lt (blk_lt (g := gb207) (o := .cells #[.slice A1 l1.length c1] 84 (0,0)) (by (with_reducible repeat (first|refine blk_drewN ?_ _|refine blk_drew ?_|refine blk_alloc ?_ _));exact BK207.out)) : gb207 ≠ gb209));have n8_ := Aside0.mk ((by rw [hg];exact Nat.ne_of_gt (blk_lt (g := gb207) (o := .cells #[.slice A1 l1.length c1] 84 (0,0)) (by (with_reducible repeat (first|refine blk_drewN ?_ _|refine blk_drew ?_|refine blk_alloc ?_ _));exact BK207.out)) : gb209 ≠ gb207));clear HO_6;clear HO_7;clear BK207;clear HB;have HO_6 := n0_;have HO_7 := n1_;have BK207 := n2_;have HB := n3_;have BK209 := n4_;have GW209 := n5_;have GE209 := n6_;have NB207_209 := n7_;have NB209_207 := n8_;clear n0_ n1_ n2_ n3_ n4_ n5_ n6_ n7_ n8_;clear hb hbox hg;have hnb8 := NB209_207.out;have hnc8 := NB207_209.out;have hcz9_0 : w7.cell? ⟨gb209,0,none⟩ = some (.slice none 0 0) := (blk_cell BK209.out 0).trans rfl;have hfz9_0 := blk_frozen BK209.out 0)|((with_reducible refine gate_dst (N := 11) rfl ?_);(try (refine gate_guard (by rfl) ?_;dsimp only));refine box_event ?hg (N := 11) ?hd (cs := #[.slice none 0 0]) (t := 97) ?hr ?_;(case hd => rfl);(case hg => rfl);(case hr => first|(go_simp;done)|(go_simp;rfl));intro gb210 hg w10 hbox hb;have n0_ := Aside0.mk (Kd.S_below (Kd.S_elderB (by (with_reducible repeat (first|apply Kd.S_alloc|apply Kd.S_drewN|apply Kd.S_drew));exact (Kd.S_mono (Kd.S_far (p := ⟨gb209,0,none⟩) (Kd.S_mono HO_6.out (fun k_ hk => (⟨hk,hk.2⟩ : _ ∧ k_ ≠ gb209))) (fun _ hk => hk.2) (.slice A208_0 ((rd_T97 l0 x18_1).f0).length c208_0)) (fun _ h_ => h_.1))) gb210 (Nat.le_of_eq hg.symm)) hb);have n1_ := Aside0.mk (Kd.R_below (by (with_reducible repeat (first|apply Kd.R_alloc|apply Kd.R_drewN|apply Kd.R_drew));exact (Kd.R_mono (Kd.R_far (p := ⟨gb209,0,none⟩) (Kd.R_types HO_7.out BK209.out (by decide)) (fun _ hk => hk.2) (.slice A208_0 ((rd_T97 l0 x18_1).f0).length c208_0)) (fun _ h_ => h_.1))) hb);have n2_ := Aside0.mk (blk_below (g := gb207) (o := .cells #[.slice A1 l1.length c1] 84 (0,0)) (by (with_reducible repeat (first|refine blk_drewN ?_ _|refine blk_drew ?_|refine blk_alloc ?_ _));refine blk_far ?_ NB207_209.out _;(with_reducible repeat (first|refine blk_drewN ?_ _|refine blk_drew ?_|refine blk_alloc ?_ _));exact BK207.out) hb);have n3_ := Aside0.mk (blk_below (g := gb209) (o := .cells #[.slice A208_0 ((rd_T97 l0 x18_1).f0).length c208_0] 97 (0,0)) (by (with_reducible repeat (first|refine blk_drewN ?_ _|refine blk_drew ?_|refine blk_alloc ?_ _));refine blk_put (cs := #[.slice none 0 0]) ?_ 0 _ rfl;(with_reducible repeat (first|refine blk_drewN ?_ _|refine blk_drew ?_|refine blk_alloc ?_ _));exact BK209.out) hb);have n4_ := Aside0.mk (below_step (by repeat (first|(with_reducible first|exact HB.out|apply below_alloc|apply pw_below_drewN|apply below_drew1|refine below_set ?_ GE207.out|refine below_set ?_ GE209.out)|exact HB.out)) hb);have n5_ := Aside0.mk (hbox);have n6_ := Aside0.mk ((by rw [hg];exact (below_size (by repeat (first|(with_reducible first|exact HB.out|apply below_alloc|apply pw_below_drewN|apply below_drew1|refine below_set ?_ GE207.out|refine below_set ?_ GE209.out)|exact HB.out))) : w.heap.size ≤ gb210));have n7_ := Aside0.mk ((by rw [hg];exact (below_size (by repeat (first|(with_reducible first|exact HB.out|apply below_alloc|apply pw_below_drewN|apply below_drew1|refine below_set ?_ GE207.out|refine below_set ?_ GE209.out)|exact HB.out))) : w.heap.size ≤ gb210));have n8_ := Aside0.mk ((by rw [hg];exact Nat.ne_of_lt (blk_lt (g := gb207) (o := .cells #[.slice A1 l1.length c1] 84 (0,0)) (by (with_reducible repeat (first|refine blk_drewN ?_ _|refine blk_drew ?_|refine blk_alloc ?_ _));refine blk_far ?_ NB207_209.out _;(with_reducible repeat (first|refine blk_drewN ?_ _|refine blk_drew ?_|refine blk_alloc ?_ _));exact BK207.out)) : gb207 ≠ gb210));have n9_ := Aside0.mk ((by rw [hg];exact Nat.ne_of_gt (blk_lt (g := gb207) (o := .cells #[.slice A1 l1.length c1] 84 (0,0)) (by (with_reducible repeat (first|refine blk_drewN ?_ _|refine blk_drew ?_|refine blk_alloc ?_ _));refine blk_far ?_ NB207_209.out _;(with_reducible repeat (first|refine blk_drewN ?_ _|refine blk_drew ?_|refine blk_alloc ?_ _));exact BK207.out)) : gb210 ≠ gb207));have n10_ := Aside0.mk ((by rw [hg];exact Nat.ne_of_lt (blk_lt (g := gb209) (o := .cells #[.slice A208_0 ((rd_T97 l0 x18_1).f0).length c208_0] 97 (0,0)) (by (with_reducible repeat (first|refine blk_drewN ?_ _|refine blk_drew ?_|refine blk_alloc ?_ _));refine blk_put (cs := #[.slice none 0 0]) ?_ 0 _ rfl;(with_reducible repeat (first|refine blk_drewN ?_ _|refine blk_drew ?_|refine blk_alloc ?_ _));exact BK209.out)) : gb209 ≠ gb210));have n11_ := Aside0.mk ((by rw [hg];exact Nat.ne_of_gt (blk_lt (g := gb209) (o := .cells #[.slice A208_0 ((rd_T97 l0 x18_1).f0).length c208_0] 97 (0,0)) (by (with_reducible repeat (first|refine blk_drewN ?_ _|refine blk_drew ?_|refine blk_alloc ?_ _));refine blk_put (cs := #[.slice none 0 0]) ?_ 0 _ rfl;(with_reducible repeat (first|refine blk_drewN ?_ _|refine blk_drew ?_|refine blk_alloc ?_ _));exact BK209.out)) : gb210 ≠ gb209));clear HO_6;clear HO_7;clear BK207;clear BK209;clear HB;have HO_6 := n0_;have HO_7 := n1_;have BK207 := n2_;have BK209 := n3_;have HB := n4_;have BK210 := n5_;have GW210 := n6_;have GE210 := n7_;have NB207_210 := n8_;have NB210_207 := n9_;have NB209_210 := n10_;have NB210_209 := n11_;clear n0_ n1_ n2_ n3_ n4_ n5_ n6_ n7_ n8_ n9_ n10_ n11_;clear hb hbox hg;have hnb11 := NB209_210.out;have hnc11 := NB210_209.out;have hcz12_0 : w10.cell? ⟨gb209,0,none⟩ = some (.slice A208_0 ((rd_T97 l0 x18_1).f0).length c208_0) := (blk_cell BK209.out 0).trans rfl;have hfz12_0 := blk_frozen BK209.out 0))
      go_loopg [26] k1 (fun kq v26 w' => ∃ (x26_2 : Int) (x211000_2 : List Int) (u211000 : Value),v26 = .int .i64 x26_2 ∧ Aside0 (impl_remap.l1 kq x6_1 x7_1 x18_1 l0 (l0.length : Int) x18_1 ((rd_T97 l0 x18_1).f0) (((rd_T97 l0 x18_1).f0).length : Int) x26_2 l1 ((rd_T97 l0 x18_1).f0) x211000_2 = some (r1,r2)) ∧ Aside0 (kq ≤ k1) ∧ Aside0 (Kd.S k97 97 w' w.heap.size (fun k_ => some k_ ≠ (u7 : Value).ownBlock ∧ some k_ ≠ (u211000 : Value).ownBlock ∧ k_ ≠ gb209 ∧ k_ ≠ gb210) u6 x6_1) ∧ Aside0 (Kd.R (Kd.int .i64) 2 w' w.heap.size (fun k_ => some k_ ≠ (u211000 : Value).ownBlock) u7 x7_1) ∧ Aside0 (Kd.R (Kd.int .i64) 2 w' w.heap.size (fun k_ => some k_ ≠ (u7 : Value).ownBlock) u211000 x211000_2) ∧ Aside0 (w'.heap[gb207]? = some (.cells #[(.slice A1 l1.length c1)] 84 (0,0))) ∧ Aside0 (w'.heap[gb209]? = some (.cells #[(.slice A208_0 ((rd_T97 l0 x18_1).f0).length c208_0)] 97 (0,0))) ∧ Aside0 (w'.heap[gb210]? = some (.cells #[u211000] 97 (0,0))) ∧ Aside0 (Below w.heap.size w w'))
      case atStart => exact ⟨(0),(([] : List Int)),(.slice none 0 0),(by first|rfl|(simp;done)|(simp [*];done)),H',⟨Nat.le_refl _⟩,⟨by (with_reducible repeat (first|apply Kd.S_alloc|apply Kd.S_drewN|apply Kd.S_drew));exact Kd.S_mono HO_6.out (fun _ hk => ⟨hk.1.1,⟨(by simp [Value.ownBlock]),⟨hk.1.2,hk.2⟩⟩⟩)⟩,⟨by (with_reducible repeat (first|apply Kd.R_alloc|apply Kd.R_drewN|apply Kd.R_drew));exact Kd.R_mono HO_7.out (fun _ hk => (by simp [Value.ownBlock]))⟩,⟨by first|exact Kd.R_nil _ _ _ _ _|exact Kd.N_nil _ _ _ _ _|exact Kd.V_nil _ _ _ _ _|exact Kd.Q_nil _ _ _ _ _|exact Kd.S_nil _ _ _ _ _⟩,⟨by (with_reducible repeat (first|refine blk_drewN ?_ _|refine blk_drew ?_|refine blk_alloc ?_ _));exact BK207.out⟩,⟨by (with_reducible repeat (first|refine blk_drewN ?_ _|refine blk_drew ?_|refine blk_alloc ?_ _));exact BK209.out⟩,⟨by (with_reducible repeat (first|refine blk_drewN ?_ _|refine blk_drew ?_|refine blk_alloc ?_ _));exact BK210.out⟩,⟨by repeat (first|(with_reducible first|exact HB.out|apply below_alloc|apply pw_below_drewN|apply below_drew1|refine below_set ?_ GE207.out|refine below_set ?_ GE209.out|refine below_set ?_ GE210.out)|exact HB.out)⟩⟩
      case round =>
       clear H'
       try clear c1
       try clear c2
       try clear p2
       try clear q2
       try clear hx2
       try clear c4
       try clear c4b0
       try clear c5
       try clear c5b0
       try clear c6
       try clear c6b0
       try clear c8
       try clear c11
       try clear c12
       try clear hcz12_0
       try clear hcz9_0
       try clear hfz12_0
       try clear hfz9_0
       try clear hx208_0
       try clear p2
       try clear p208
       try clear q208
       obtain ⟨x26_2,x211000_2,u211000,rfl,HA,HK2,HO_6,HO_7,HO_211000,BK207,BK209,BK210,HB⟩ := hrel
       cases gk with
       | zero => exact absurd HA.out (by simp [impl_remap.l1])
       | succ k2 =>
        have H := HA.out
        clear HA
        simp only [impl_remap.l1] at H
        by_cases c13 : x26_2 < (((rd_T97 l0 x18_1).f0).length : Int)
        ·rw [if_pos c13] at H
         have c13b0 : decide (x26_2 < (((rd_T97 l0 x18_1).f0).length : Int)) = true := decide_eq_true c13
         clear c13
         by_cases c14 : 0 ≤ x26_2
         ·rw [if_pos c14] at H
          have c14b0 : decide (0 ≤ x26_2) = true := decide_eq_true c14
          clear c14
          by_cases c15 : x26_2 < (((rd_T97 l0 x18_1).f0).length : Int)
          ·rw [if_pos c15] at H
           have c15b0 : decide (x26_2 < (((rd_T97 l0 x18_1).f0).length : Int)) = true := decide_eq_true c15
           clear c15
           replace H := Option.bind_eq_some_iff.mp H
           obtain ⟨t212,A160,H⟩ := H
           replace H : (if t212 = true then (if x211000_2.length < 17592186044416 then (impl_remap.l1 k2 x6_1 x7_1 x18_1 l0 (l0.length : Int) x18_1 ((rd_T97 l0 x18_1).f0) (((rd_T97 l0 x18_1).f0).length : Int) (wrap64 (x26_2 + 1)) l1 ((rd_T97 l0 x18_1).f0) (x211000_2 ++ [rd ((rd_T97 l0 x18_1).f0) x26_2])) else (none)) else (impl_remap.l1 k2 x6_1 x7_1 x18_1 l0 (l0.length : Int) x18_1 ((rd_T97 l0 x18_1).f0) (((rd_T97 l0 x18_1).f0).length : Int) (wrap64 (x26_2 + 1)) l1 ((rd_T97 l0 x18_1).f0) x211000_2)) = some (r1,r2) := H
           have A16 := Aside0.mk A160
           clear A160
           by_cases c17 : t212 = true
           ·subst c17
            have H1 : (if x211000_2.length < 17592186044416 then (impl_remap.l1 k2 x6_1 x7_1 x18_1 l0 (l0.length : Int) x18_1 ((rd_T97 l0 x18_1).f0) (((rd_T97 l0 x18_1).f0).length : Int) (wrap64 (x26_2 + 1)) l1 ((rd_T97 l0 x18_1).f0) (x211000_2 ++ [rd ((rd_T97 l0 x18_1).f0) x26_2])) else (none)) = some (r1,r2) := by rw [if_pos rfl] at H;exact H
            clear H
            have H := H1
            clear H1
            by_cases c18 : x211000_2.length < 17592186044416
            ·rw [if_pos c18] at H
             have LMc18 := Aside0.mk c18
             clear c18
             obtain ⟨y213,hy213⟩ : ∃ y_ : List Int,y_ = (x211000_2 ++ [rd ((rd_T97 l0 x18_1).f0) x26_2]) := ⟨_,rfl⟩
             replace H : (impl_remap.l1 k2 x6_1 x7_1 x18_1 l0 (l0.length : Int) x18_1 ((rd_T97 l0 x18_1).f0) (((rd_T97 l0 x18_1).f0).length : Int) (wrap64 (x26_2 + 1)) l1 ((rd_T97 l0 x18_1).f0) y213) = some (r1,r2) := by first|(rw [hy213];with_reducible exact H)|(have H2_ := (Option.bind_some _ _).symm.trans H;rw [hy213];with_reducible exact H2_)|(have H2_ := (Option.bind_some _ _).symm.trans H;with_reducible exact H2_)|with_reducible exact H|(rw [hy213];exact H)|exact H
             have Ny213 := Aside0.mk hy213
             clear hy213
             have H' := Aside0.mk H
             clear H
             have p211 : 0 ≤ (x26_2 : Int) := of_decide_eq_true (by first|(with_reducible assumption)|assumption)
             have q211 : x26_2 < (((rd_T97 l0 x18_1).f0).length : Int) := of_decide_eq_true (by first|(with_reducible assumption)|assumption)
             obtain ⟨ad211,e211,hx211_0⟩ := Kd.at_int HR208_0.out x26_2 p211 q211
             cases e211
             replace hx211_0 := (HB.out.cell (World.block_lt_of_cell? w _ hx211_0)).trans hx211_0
             replace p211 := eq_true p211
             replace q211 := eq_true q211
             go_wp2_with (first|(go_at_call 138;(with_reducible refine (impl_remap_1.calls (rd ((rd_T97 l0 x18_1).f0) x26_2) gb207 A1 c1 l1 true _ ?side1 ?side2 ?side3 A16.out).mono ?_);(case side1 => exact (blk_cell (by (with_reducible repeat (first|refine blk_drewN ?_ _|refine blk_drew ?_|refine blk_alloc ?_ _));exact BK207.out) 0).trans rfl);(case side2 => repeat (first|exact (Kd.C_below HR1.out HB.out)|(with_reducible refine Kd.C_alloc ?_ _)|(with_reducible refine Kd.C_drewN ?_ _)|(with_reducible refine Kd.C_drew ?_)));(case side3 => exact HC1.out);rintro e w19 ⟨rfl,hb⟩;have n0_ := Aside0.mk (Kd.S_below (by (with_reducible repeat (first|apply Kd.S_alloc|apply Kd.S_drewN|apply Kd.S_drew));exact HO_6.out) hb);have n1_ := Aside0.mk (Kd.R_below (by (with_reducible repeat (first|apply Kd.R_alloc|apply Kd.R_drewN|apply Kd.R_drew));exact HO_7.out) hb);have n2_ := Aside0.mk (Kd.R_below (by (with_reducible repeat (first|apply Kd.R_alloc|apply Kd.R_drewN|apply Kd.R_drew));exact HO_211000.out) hb);have n3_ := Aside0.mk (blk_below (g := gb207) (o := .cells #[.slice A1 l1.length c1] 84 (0,0)) (by (with_reducible repeat (first|refine blk_drewN ?_ _|refine blk_drew ?_|refine blk_alloc ?_ _));exact BK207.out) hb);have n4_ := Aside0.mk (blk_below (g := gb209) (o := .cells #[.slice (some ad211) ((rd_T97 l0 x18_1).f0).length c208_0] 97 (0,0)) (by (with_reducible repeat (first|refine blk_drewN ?_ _|refine blk_drew ?_|refine blk_alloc ?_ _));exact BK209.out) hb);have n5_ := Aside0.mk (blk_below (g := gb210) (o := .cells #[u211000] 97 (0,0)) (by (with_reducible repeat (first|refine blk_drewN ?_ _|refine blk_drew ?_|refine blk_alloc ?_ _));exact BK210.out) hb);have n6_ := Aside0.mk (below_step (by repeat (first|(with_reducible first|exact HB.out|apply below_alloc|apply pw_below_drewN|apply below_drew1|refine below_set ?_ GE207.out|refine below_set ?_ GE209.out|refine below_set ?_ GE210.out)|exact HB.out)) hb);clear HO_6;clear HO_7;clear HO_211000;clear BK207;clear BK209;clear BK210;clear HB;have HO_6 := n0_;have HO_7 := n1_;have HO_211000 := n2_;have BK207 := n3_;have BK209 := n4_;have BK210 := n5_;have HB := n6_;clear n0_ n1_ n2_ n3_ n4_ n5_ n6_;(try clear hb);(try clear hb2);(try clear hk);(try clear hi);have hnb20 := NB210_207.out;have hnc20 := NB207_210.out;have hnb21 := NB210_209.out;have hnc21 := NB209_210.out;have hcz22_0 : w19.cell? ⟨gb210,0,none⟩ = some (u211000) := (blk_cell BK210.out 0).trans rfl;have hfz22_0 := blk_frozen BK210.out 0)|((with_reducible refine gblt_ (b := .append) (xs := #[.tmp 34,.tmp 36]) rfl ?_);(try (refine gate_guard (by rfl) ?_;dsimp only));at_builtin;refine Kd.R_append (Kd.int .i64) (w0 := w) w.heap.size rfl (.tmp 34) (.tmp 36) 64 2 (.int .i64 0) 8 rfl Try.underlying64 info2 rfl (by decide) (by omega) u211000 x211000_2 (rd ((rd_T97 l0 x18_1).f0) x26_2) [.int .i64 (rd ((rd_T97 l0 x18_1).f0) x26_2)] (fun k_ => some k_ ≠ (u7 : Value).ownBlock) (fun _ => False) rfl rfl ?aP (fun _ hk => hk.elim) ?aF ?aO ?aB ?aS ?aL ?_;(case aP => exact rfl);(case aB => exact (by repeat (first|(with_reducible first|exact HB.out|apply below_alloc|apply pw_below_drewN|apply below_drew1|refine below_set ?_ GE207.out|refine below_set ?_ GE209.out|refine below_set ?_ GE210.out)|exact HB.out)));(case aF => exact (fun k_ hk => Kd.fresh' (Kd.R_lt (by (with_reducible repeat (first|apply Kd.R_alloc|apply Kd.R_drewN|apply Kd.R_drew));exact HO_7.out)) k_ hk));(case aO => exact (by (with_reducible repeat (first|apply Kd.R_alloc|apply Kd.R_drewN|apply Kd.R_drew));exact HO_211000.out));(case aS => exact (below_size (by repeat (first|(with_reducible first|exact HB.out|apply below_alloc|apply pw_below_drewN|apply below_drew1|refine below_set ?_ GE207.out|refine below_set ?_ GE209.out|refine below_set ?_ GE210.out)|exact HB.out))));(case aL => have := LMc18.out;omega);intro v214 w23 ho hb hg hat;rw [← Ny213.out] at ho;have n0_ := Aside0.mk (Kd.S_after (ok := (fun k_ => some k_ ≠ (u7 : Value).ownBlock ∧ k_ ≠ gb209 ∧ k_ ≠ gb210)) (by (with_reducible repeat (first|apply Kd.S_alloc|apply Kd.S_drewN|apply Kd.S_drew));exact Kd.S_mono HO_6.out (fun _ hk => ⟨⟨hk.1,⟨hk.2.2.1,hk.2.2.2⟩⟩,hk.2.1⟩)) hg hat);have n1_ := Aside0.mk (Kd.R_after (ok := (fun _ => True)) (by (with_reducible repeat (first|apply Kd.R_alloc|apply Kd.R_drewN|apply Kd.R_drew));exact Kd.R_mono HO_7.out (fun _ hk => ⟨trivial,hk⟩)) hg hat);have n2_ := Aside0.mk (blk_grown (g := gb207) (o := .cells #[.slice A1 l1.length c1] 84 (0,0)) (by (with_reducible repeat (first|refine blk_drewN ?_ _|refine blk_drew ?_|refine blk_alloc ?_ _));exact BK207.out) hg (Kd.R_ne HO_211000.out BK207.out (by decide)));have n3_ := Aside0.mk (blk_grown (g := gb209) (o := .cells #[.slice (some ad211) ((rd_T97 l0 x18_1).f0).length c208_0] 97 (0,0)) (by (with_reducible repeat (first|refine blk_drewN ?_ _|refine blk_drew ?_|refine blk_alloc ?_ _));exact BK209.out) hg (Kd.R_ne HO_211000.out BK209.out (by decide)));have n4_ := Aside0.mk (blk_grown (g := gb210) (o := .cells #[u211000] 97 (0,0)) (by (with_reducible repeat (first|refine blk_drewN ?_ _|refine blk_drew ?_|refine blk_alloc ?_ _));exact BK210.out) hg (Kd.R_ne HO_211000.out BK210.out (by decide)));have n5_ := Aside0.mk (hb);have n6_ := Aside0.mk (ho);clear HO_6;clear HO_7;clear BK207;clear BK209;clear BK210;clear HB;clear HO_211000;have HO_6 := n0_;have HO_7 := n1_;have BK207 := n2_;have BK209 := n3_;have BK210 := n4_;have HB := n5_;have HO215 := n6_;clear n0_ n1_ n2_ n3_ n4_ n5_ n6_;clear ho hb hg hat;obtain ⟨Ao24,co24,eo24⟩ := Kd.R_slice HO215.out;subst eo24;have hcz25_0 : w23.cell? ⟨gb210,0,none⟩ = some (u211000) := (blk_cell BK210.out 0).trans rfl;have hfz25_0 := blk_frozen BK210.out 0))
             go_roundg k2
             case measure => have := HK1.out;have := HK2.out;omega
             case rel => exact ⟨(wrap64 (x26_2 + 1)),(y213),(.slice Ao24 y213.length co24),(by first|rfl|(simp;done)|(simp [*];done)),H',⟨by have := HK1.out;have := HK2.out;omega⟩,⟨by (with_reducible repeat (first|apply Kd.S_alloc|apply Kd.S_drewN|apply Kd.S_drew));exact Kd.S_mono (Kd.S_far (p := ⟨gb210,0,none⟩) (Kd.S_mono HO_6.out (fun k_ hk => (⟨hk,hk.1.2.2⟩ : _ ∧ k_ ≠ gb210))) (fun _ hk => hk.2) (.slice Ao24 y213.length co24)) (fun _ hk => ⟨hk.1.1.1,⟨hk.1.2,⟨hk.1.1.2.1,hk.1.1.2.2⟩⟩⟩)⟩,⟨by (with_reducible repeat (first|apply Kd.R_alloc|apply Kd.R_drewN|apply Kd.R_drew));exact Kd.R_mono (Kd.R_far (p := ⟨gb210,0,none⟩) (Kd.R_types HO_7.out BK210.out (by decide)) (fun _ hk => hk.2) (.slice Ao24 y213.length co24)) (fun _ hk => hk.1.2)⟩,⟨by (with_reducible repeat (first|apply Kd.R_alloc|apply Kd.R_drewN|apply Kd.R_drew));exact Kd.R_mono (Kd.R_far (p := ⟨gb210,0,none⟩) (Kd.R_types HO215.out BK210.out (by decide)) (fun _ hk => hk.2) (.slice Ao24 y213.length co24)) (fun _ hk => hk.1)⟩,⟨by (with_reducible repeat (first|refine blk_drewN ?_ _|refine blk_drew ?_|refine blk_alloc ?_ _));refine blk_far ?_ NB207_210.out _;(with_reducible repeat (first|refine blk_drewN ?_ _|refine blk_drew ?_|refine blk_alloc ?_ _));exact BK207.out⟩,⟨by (with_reducible repeat (first|refine blk_drewN ?_ _|refine blk_drew ?_|refine blk_alloc ?_ _));refine blk_far ?_ NB209_210.out _;(with_reducible repeat (first|refine blk_drewN ?_ _|refine blk_drew ?_|refine blk_alloc ?_ _));exact BK209.out⟩,⟨by (with_reducible repeat (first|refine blk_drewN ?_ _|refine blk_drew ?_|refine blk_alloc ?_ _));refine blk_put (cs := #[u211000]) ?_ 0 _ rfl;(with_reducible repeat (first|refine blk_drewN ?_ _|refine blk_drew ?_|refine blk_alloc ?_ _));exact BK210.out⟩,⟨by repeat (first|(with_reducible first|exact HB.out|apply below_alloc|apply pw_below_drewN|apply below_drew1|refine below_set ?_ GE207.out|refine below_set ?_ GE209.out|refine below_set ?_ GE210.out)|exact HB.out)⟩⟩
            ·rw [if_neg c18] at H
             exact absurd H (by simp)
           ·replace c17 := Bool.eq_false_iff.mpr c17
            subst c17
            have H1 : (impl_remap.l1 k2 x6_1 x7_1 x18_1 l0 (l0.length : Int) x18_1 ((rd_T97 l0 x18_1).f0) (((rd_T97 l0 x18_1).f0).length : Int) (wrap64 (x26_2 + 1)) l1 ((rd_T97 l0 x18_1).f0) x211000_2) = some (r1,r2) := by rw [if_neg (show ¬ (false = true) by decide)] at H;exact H
            clear H
            have H := H1
            clear H1
            have H' := Aside0.mk H
            clear H
            have p211 : 0 ≤ (x26_2 : Int) := of_decide_eq_true (by first|(with_reducible assumption)|assumption)
            have q211 : x26_2 < (((rd_T97 l0 x18_1).f0).length : Int) := of_decide_eq_true (by first|(with_reducible assumption)|assumption)
            obtain ⟨ad211,e211,hx211_0⟩ := Kd.at_int HR208_0.out x26_2 p211 q211
            cases e211
            replace hx211_0 := (HB.out.cell (World.block_lt_of_cell? w _ hx211_0)).trans hx211_0
            replace p211 := eq_true p211
            replace q211 := eq_true q211
            go_wp2_with (first|(go_at_call 138;(with_reducible refine (impl_remap_1.calls (rd ((rd_T97 l0 x18_1).f0) x26_2) gb207 A1 c1 l1 false _ ?side1 ?side2 ?side3 A16.out).mono ?_);(case side1 => exact (blk_cell (by (with_reducible repeat (first|refine blk_drewN ?_ _|refine blk_drew ?_|refine blk_alloc ?_ _));exact BK207.out) 0).trans rfl);(case side2 => repeat (first|exact (Kd.C_below HR1.out HB.out)|(with_reducible refine Kd.C_alloc ?_ _)|(with_reducible refine Kd.C_drewN ?_ _)|(with_reducible refine Kd.C_drew ?_)));(case side3 => exact HC1.out);rintro e w26 ⟨rfl,hb⟩;have n0_ := Aside0.mk (Kd.S_below (by (with_reducible repeat (first|apply Kd.S_alloc|apply Kd.S_drewN|apply Kd.S_drew));exact HO_6.out) hb);have n1_ := Aside0.mk (Kd.R_below (by (with_reducible repeat (first|apply Kd.R_alloc|apply Kd.R_drewN|apply Kd.R_drew));exact HO_7.out) hb);have n2_ := Aside0.mk (Kd.R_below (by (with_reducible repeat (first|apply Kd.R_alloc|apply Kd.R_drewN|apply Kd.R_drew));exact HO_211000.out) hb);have n3_ := Aside0.mk (blk_below (g := gb207) (o := .cells #[.slice A1 l1.length c1] 84 (0,0)) (by (with_reducible repeat (first|refine blk_drewN ?_ _|refine blk_drew ?_|refine blk_alloc ?_ _));exact BK207.out) hb);have n4_ := Aside0.mk (blk_below (g := gb209) (o := .cells #[.slice (some ad211) ((rd_T97 l0 x18_1).f0).length c208_0] 97 (0,0)) (by (with_reducible repeat (first|refine blk_drewN ?_ _|refine blk_drew ?_|refine blk_alloc ?_ _));exact BK209.out) hb);have n5_ := Aside0.mk (blk_below (g := gb210) (o := .cells #[u211000] 97 (0,0)) (by (with_reducible repeat (first|refine blk_drewN ?_ _|refine blk_drew ?_|refine blk_alloc ?_ _));exact BK210.out) hb);have n6_ := Aside0.mk (below_step (by repeat (first|(with_reducible first|exact HB.out|apply below_alloc|apply pw_below_drewN|apply below_drew1|refine below_set ?_ GE207.out|refine below_set ?_ GE209.out|refine below_set ?_ GE210.out)|exact HB.out)) hb);clear HO_6;clear HO_7;clear HO_211000;clear BK207;clear BK209;clear BK210;clear HB;have HO_6 := n0_;have HO_7 := n1_;have HO_211000 := n2_;have BK207 := n3_;have BK209 := n4_;have BK210 := n5_;have HB := n6_;clear n0_ n1_ n2_ n3_ n4_ n5_ n6_;(try clear hb);(try clear hb2);(try clear hk);(try clear hi)))
            go_roundg k2
            case measure => have := HK1.out;have := HK2.out;omega
            case rel => exact ⟨(wrap64 (x26_2 + 1)),(x211000_2),(u211000),(by first|rfl|(simp;done)|(simp [*];done)),H',⟨by have := HK1.out;have := HK2.out;omega⟩,⟨by (with_reducible repeat (first|apply Kd.S_alloc|apply Kd.S_drewN|apply Kd.S_drew));exact HO_6.out⟩,⟨by (with_reducible repeat (first|apply Kd.R_alloc|apply Kd.R_drewN|apply Kd.R_drew));exact HO_7.out⟩,⟨by (with_reducible repeat (first|apply Kd.R_alloc|apply Kd.R_drewN|apply Kd.R_drew));exact HO_211000.out⟩,⟨by (with_reducible repeat (first|refine blk_drewN ?_ _|refine blk_drew ?_|refine blk_alloc ?_ _));exact BK207.out⟩,⟨by (with_reducible repeat (first|refine blk_drewN ?_ _|refine blk_drew ?_|refine blk_alloc ?_ _));exact BK209.out⟩,⟨by (with_reducible repeat (first|refine blk_drewN ?_ _|refine blk_drew ?_|refine blk_alloc ?_ _));exact BK210.out⟩,⟨by repeat (first|(with_reducible first|exact HB.out|apply below_alloc|apply pw_below_drewN|apply below_drew1|refine below_set ?_ GE207.out|refine below_set ?_ GE209.out|refine below_set ?_ GE210.out)|exact HB.out)⟩⟩
          ·rw [if_neg c15] at H
           exact absurd H (by simp)
         ·rw [if_neg c14] at H
          exact absurd H (by simp)
        ·rw [if_neg c13] at H
         have c13b0 : decide (x26_2 < (((rd_T97 l0 x18_1).f0).length : Int)) = false := decide_eq_false c13
         clear c13
         by_cases c27 : (x211000_2.length : Int) = 0
         ·rw [if_pos c27] at H
          have c27b0 : ((x211000_2.length : Int) == 0) = true := beq_iff_eq.mpr c27
          have c27b1 : ((x211000_2.length : Int) != 0) = false := bne_eq_false_iff_eq.mpr c27
          clear c27
          by_cases c28 : x7_1.length < 17592186044416
          ·rw [if_pos c28] at H
           have LMc28 := Aside0.mk c28
           clear c28
           obtain ⟨y216,hy216⟩ : ∃ y_ : List Int,y_ = (x7_1 ++ [x18_1]) := ⟨_,rfl⟩
           replace H : ((slices_Clone_int64_int64.f ((rd_T97 l0 x18_1).f0)).bind fun t219 => (if x6_1.length < 5864062014805 then (impl_remap.l0 k2 (x6_1 ++ [(⟨t219⟩ : S97)]) y216 l0 (l0.length : Int) (wrap64 (x18_1 + 1)) l1) else (none))) = some (r1,r2) := by first|(rw [hy216];with_reducible exact H)|(have H2_ := (Option.bind_some _ _).symm.trans H;rw [hy216];with_reducible exact H2_)|(have H2_ := (Option.bind_some _ _).symm.trans H;with_reducible exact H2_)|with_reducible exact H|(rw [hy216];exact H)|exact H
           have Ny216 := Aside0.mk hy216
           clear hy216
           replace H := Option.bind_eq_some_iff.mp H
           obtain ⟨t219,A290,H⟩ := H
           replace H : (if x6_1.length < 5864062014805 then (impl_remap.l0 k2 (x6_1 ++ [(⟨t219⟩ : S97)]) y216 l0 (l0.length : Int) (wrap64 (x18_1 + 1)) l1) else (none)) = some (r1,r2) := H
           have A29 := Aside0.mk A290
           clear A290
           by_cases c30 : x6_1.length < 5864062014805
           ·rw [if_pos c30] at H
            have LMc30 := Aside0.mk c30
            clear c30
            obtain ⟨y222,hy222⟩ : ∃ y_ : List (S97),y_ = (x6_1 ++ [(⟨t219⟩ : S97)]) := ⟨_,rfl⟩
            replace H : (impl_remap.l0 k2 y222 y216 l0 (l0.length : Int) (wrap64 (x18_1 + 1)) l1) = some (r1,r2) := by first|(rw [hy222];with_reducible exact H)|(have H2_ := (Option.bind_some _ _).symm.trans H;rw [hy222];with_reducible exact H2_)|(have H2_ := (Option.bind_some _ _).symm.trans H;with_reducible exact H2_)|with_reducible exact H|(rw [hy222];exact H)|exact H
            have Ny222 := Aside0.mk hy222
            clear hy222
            have H' := Aside0.mk H
            clear H
            have hnb31 := NB210_207.out
            have hnc31 := NB207_210.out
            have hnb32 := NB210_209.out
            have hnc32 := NB209_210.out
            have hcz33_0 : wr.cell? ⟨gb210,0,none⟩ = some (u211000) := (blk_cell BK210.out 0).trans rfl
            have hfz33_0 := blk_frozen BK210.out 0
            obtain ⟨Ao34,co34,eo34⟩ := Kd.R_slice HO_211000.out
            subst eo34
            go_wp2_with (first|((with_reducible refine gblt_ (b := .append) (xs := #[.tmp 44,.tmp 46]) rfl ?_);(try (refine gate_guard (by rfl) ?_;dsimp only));at_builtin;refine Kd.R_append (Kd.int .i64) (w0 := w) w.heap.size rfl (.tmp 44) (.tmp 46) 64 2 (.int .i64 0) 8 rfl Try.underlying64 info2 rfl (by decide) (by omega) u7 x7_1 x18_1 [.int .i64 x18_1] (fun k_ => some k_ ≠ (.slice Ao34 x211000_2.length co34 : Value).ownBlock) (fun _ => False) rfl rfl ?aP (fun _ hk => hk.elim) ?aF ?aO ?aB ?aS ?aL ?_;(case aP => exact rfl);(case aB => exact (by repeat (first|(with_reducible first|exact HB.out|apply below_alloc|apply pw_below_drewN|apply below_drew1|refine below_set ?_ GE207.out|refine below_set ?_ GE209.out|refine below_set ?_ GE210.out)|exact HB.out)));(case aF => exact (fun k_ hk => Kd.fresh' (Kd.R_lt (by (with_reducible repeat (first|apply Kd.R_alloc|apply Kd.R_drewN|apply Kd.R_drew));exact HO_211000.out)) k_ hk));(case aO => exact (by (with_reducible repeat (first|apply Kd.R_alloc|apply Kd.R_drewN|apply Kd.R_drew));exact HO_7.out));(case aS => exact (below_size (by repeat (first|(with_reducible first|exact HB.out|apply below_alloc|apply pw_below_drewN|apply below_drew1|refine below_set ?_ GE207.out|refine below_set ?_ GE209.out|refine below_set ?_ GE210.out)|exact HB.out))));(case aL => have := LMc28.out;omega);intro v217 w35 ho hb hg hat;rw [← Ny216.out] at ho;have n0_ := Aside0.mk (Kd.S_after (ok := (fun k_ => some k_ ≠ (.slice Ao34 x211000_2.length co34 : Value).ownBlock ∧ k_ ≠ gb209 ∧ k_ ≠ gb210)) (by (with_reducible repeat (first|apply Kd.S_alloc|apply Kd.S_drewN|apply Kd.S_drew));exact Kd.S_mono HO_6.out (fun _ hk => ⟨⟨hk.2.1,⟨hk.2.2.1,hk.2.2.2⟩⟩,hk.1⟩)) hg hat);have n1_ := Aside0.mk (Kd.R_after (ok := (fun _ => True)) (by (with_reducible repeat (first|apply Kd.R_alloc|apply Kd.R_drewN|apply Kd.R_drew));exact Kd.R_mono HO_211000.out (fun _ hk => ⟨trivial,hk⟩)) hg hat);have n2_ := Aside0.mk (blk_grown (g := gb207) (o := .cells #[.slice A1 l1.length c1] 84 (0,0)) (by (with_reducible repeat (first|refine blk_drewN ?_ _|refine blk_drew ?_|refine blk_alloc ?_ _));exact BK207.out) hg (Kd.R_ne HO_7.out BK207.out (by decide)));have n3_ := Aside0.mk (blk_grown (g := gb209) (o := .cells #[.slice A208_0 ((rd_T97 l0 x18_1).f0).length c208_0] 97 (0,0)) (by (with_reducible repeat (first|refine blk_drewN ?_ _|refine blk_drew ?_|refine blk_alloc ?_ _));exact BK209.out) hg (Kd.R_ne HO_7.out BK209.out (by decide)));have n4_ := Aside0.mk (blk_grown (g := gb210) (o := .cells #[.slice Ao34 x211000_2.length co34] 97 (0,0)) (by (with_reducible repeat (first|refine blk_drewN ?_ _|refine blk_drew ?_|refine blk_alloc ?_ _));exact BK210.out) hg (Kd.R_ne HO_7.out BK210.out (by decide)));have n5_ := Aside0.mk (hb);have n6_ := Aside0.mk (ho);clear HO_6;clear HO_211000;clear BK207;clear BK209;clear BK210;clear HB;clear HO_7;have HO_6 := n0_;have HO_211000 := n1_;have BK207 := n2_;have BK209 := n3_;have BK210 := n4_;have HB := n5_;have HO218 := n6_;clear n0_ n1_ n2_ n3_ n4_ n5_ n6_;clear ho hb hg hat;have hnb36 := NB209_207.out;have hnc36 := NB207_209.out;have hcz37_0 : w35.cell? ⟨gb209,0,none⟩ = some (.slice A208_0 ((rd_T97 l0 x18_1).f0).length c208_0) := (blk_cell BK209.out 0).trans rfl;have hfz37_0 := blk_frozen BK209.out 0)|((with_reducible refine gcal_ (f := 101) rfl ?_);refine goesL_ (some 51) rfl rfl Try.func101 (by kernel_rfl) rfl #[.slice A208_0 ((rd_T97 l0 x18_1).f0).length c208_0] rfl (by (try simp only [List.map_toArray,List.map_cons,List.map_nil]);first|done|rfl|(simp only [List.length_drop,List.length_take];rfl)) ?_;(with_reducible refine (slices_Clone_int64_int64.calls _ _ ((rd_T97 l0 x18_1).f0) t219 _ ?side1 ?side2 A29.out).mono ?_);(case side1 => repeat (first|exact (Kd.C_below HR208_0.out HB.out)|(with_reducible refine Kd.C_alloc ?_ _)|(with_reducible refine Kd.C_drewN ?_ _)|(with_reducible refine Kd.C_drew ?_)));(case side2 => exact HC208_0.out);rintro e w38 ⟨v220,rfl,ho0,hb⟩;refine ⟨_,rfl,?_⟩;have n0_ := Aside0.mk (Kd.S_elder' (by (with_reducible repeat (first|apply Kd.S_alloc|apply Kd.S_drewN|apply Kd.S_drew));exact HO_6.out) (Kd.R_base ho0) hb);have n1_ := Aside0.mk (Kd.R_elder' (by (with_reducible repeat (first|apply Kd.R_alloc|apply Kd.R_drewN|apply Kd.R_drew));exact HO_211000.out) (Kd.R_base ho0) hb);have n2_ := Aside0.mk (Kd.R_elder' (by (with_reducible repeat (first|apply Kd.R_alloc|apply Kd.R_drewN|apply Kd.R_drew));exact HO218.out) (Kd.R_base ho0) hb);have n3_ := Aside0.mk (Kd.R_lower (Kd.R_new' (Kd.R_new' ho0 (Kd.R_lt (by (with_reducible repeat (first|apply Kd.R_alloc|apply Kd.R_drewN|apply Kd.R_drew));exact HO_211000.out))) (Kd.R_lt (by (with_reducible repeat (first|apply Kd.R_alloc|apply Kd.R_drewN|apply Kd.R_drew));exact HO218.out))) (below_size (by repeat (first|(with_reducible first|exact HB.out|apply below_alloc|apply pw_below_drewN|apply below_drew1|refine below_set ?_ GE207.out|refine below_set ?_ GE209.out|refine below_set ?_ GE210.out)|exact HB.out))));have n4_ := Aside0.mk (blk_below (g := gb207) (o := .cells #[.slice A1 l1.length c1] 84 (0,0)) (by (with_reducible repeat (first|refine blk_drewN ?_ _|refine blk_drew ?_|refine blk_alloc ?_ _));exact BK207.out) hb);have n5_ := Aside0.mk (blk_below (g := gb209) (o := .cells #[.slice A208_0 ((rd_T97 l0 x18_1).f0).length c208_0] 97 (0,0)) (by (with_reducible repeat (first|refine blk_drewN ?_ _|refine blk_drew ?_|refine blk_alloc ?_ _));exact BK209.out) hb);have n6_ := Aside0.mk (blk_below (g := gb210) (o := .cells #[.slice Ao34 x211000_2.length co34] 97 (0,0)) (by (with_reducible repeat (first|refine blk_drewN ?_ _|refine blk_drew ?_|refine blk_alloc ?_ _));exact BK210.out) hb);have n7_ := Aside0.mk (below_step (by repeat (first|(with_reducible first|exact HB.out|apply below_alloc|apply pw_below_drewN|apply below_drew1|refine below_set ?_ GE207.out|refine below_set ?_ GE209.out|refine below_set ?_ GE210.out)|exact HB.out)) hb);clear HO_6;clear HO_211000;clear HO218;clear BK207;clear BK209;clear BK210;clear HB;have HO_6 := n0_;have HO_211000 := n1_;have HO218 := n2_;have HO221 := n3_;have BK207 := n4_;have BK209 := n5_;have BK210 := n6_;have HB := n7_;clear n0_ n1_ n2_ n3_ n4_ n5_ n6_ n7_;(try clear hb);(try clear hb2);(try clear hk);(try clear hi);(try clear ho0);obtain ⟨Ao39,co39,eo39⟩ := Kd.R_slice HO221.out;subst eo39)|((with_reducible refine gblt_ (b := .append) (xs := #[.tmp 48,.tmp 53]) rfl ?_);(try (refine gate_guard (by rfl) ?_;dsimp only));at_builtin;refine Kd.S_append k97 (w0 := w) w.heap.size rfl (.tmp 48) (.tmp 53) 34 97 (.agg #[(.slice none 0 0)]) 24 rfl Try.underlying34 info97 rfl (by decide) (by omega) u6 x6_1 (⟨t219⟩ : S97) [.slice Ao39 t219.length co39] (fun k_ => some k_ ≠ (.slice Ao34 x211000_2.length co34 : Value).ownBlock ∧ some k_ ≠ (v217 : Value).ownBlock ∧ k_ ≠ gb209 ∧ k_ ≠ gb210) (fun k_ => some k_ = (.slice Ao39 t219.length co39 : Value).ownBlock) rfl rfl ?aP (fun k_ hk_ => ((Kd.R_mono (ok' := fun k_ => ((fun k_ => some k_ ≠ (.slice Ao34 x211000_2.length co34 : Value).ownBlock ∧ some k_ ≠ (v217 : Value).ownBlock ∧ k_ ≠ gb209 ∧ k_ ≠ gb210)) k_ ∧ some k_ ≠ (u6 : Value).ownBlock) (Kd.R_types (Kd.R_types (Kd.R_apart' (HO221.out) (Kd.S_typed HO_6.out) (by decide)) BK209.out (by decide)) BK210.out (by decide)) (fun k_ hk => ⟨⟨hk.1.1.1.1.2,⟨hk.1.1.1.2,⟨hk.1.2,hk.2⟩⟩⟩,hk.1.1.2⟩))).1 k_ hk_.symm) ?aF ?aO ?aB ?aS ?aL ?_;(case aP => exact k97_mkM _ _ _ (⟨t219⟩ : S97) (Kd.R_mono (Kd.R_tight rfl (Kd.R_mono (ok' := fun k_ => ((fun k_ => some k_ ≠ (.slice Ao34 x211000_2.length co34 : Value).ownBlock ∧ some k_ ≠ (v217 : Value).ownBlock ∧ k_ ≠ gb209 ∧ k_ ≠ gb210)) k_ ∧ some k_ ≠ (u6 : Value).ownBlock) (Kd.R_types (Kd.R_types (Kd.R_apart' (HO221.out) (Kd.S_typed HO_6.out) (by decide)) BK209.out (by decide)) BK210.out (by decide)) (fun k_ hk => ⟨⟨hk.1.1.1.1.2,⟨hk.1.1.1.2,⟨hk.1.2,hk.2⟩⟩⟩,hk.1.1.2⟩))) (fun _ h_ => h_)));(case aB => exact (by repeat (first|(with_reducible first|exact HB.out|apply below_alloc|apply pw_below_drewN|apply below_drew1|refine below_set ?_ GE207.out|refine below_set ?_ GE209.out|refine below_set ?_ GE210.out)|exact HB.out)));(case aF => exact (fun k_ hk => ⟨Kd.fresh' (Kd.R_lt (by (with_reducible repeat (first|apply Kd.R_alloc|apply Kd.R_drewN|apply Kd.R_drew));exact HO_211000.out)) k_ hk,Kd.fresh' (Kd.R_lt (by (with_reducible repeat (first|apply Kd.R_alloc|apply Kd.R_drewN|apply Kd.R_drew));exact HO218.out)) k_ hk,Kd.freshB (g := gb209) (o := .cells #[.slice A208_0 ((rd_T97 l0 x18_1).f0).length c208_0] 97 (0,0)) (by (with_reducible repeat (first|refine blk_drewN ?_ _|refine blk_drew ?_|refine blk_alloc ?_ _));exact BK209.out) k_ hk,Kd.freshB (g := gb210) (o := .cells #[.slice Ao34 x211000_2.length co34] 97 (0,0)) (by (with_reducible repeat (first|refine blk_drewN ?_ _|refine blk_drew ?_|refine blk_alloc ?_ _));exact BK210.out) k_ hk⟩));(case aO => exact (by (with_reducible repeat (first|apply Kd.S_alloc|apply Kd.S_drewN|apply Kd.S_drew));exact Kd.S_mono HO_6.out (fun k_ hk => ⟨⟨hk.1.1.1,⟨hk.1.2,⟨hk.1.1.2.1,hk.1.1.2.2⟩⟩⟩,fun e_ => hk.2 e_⟩)));(case aS => exact (below_size (by repeat (first|(with_reducible first|exact HB.out|apply below_alloc|apply pw_below_drewN|apply below_drew1|refine below_set ?_ GE207.out|refine below_set ?_ GE209.out|refine below_set ?_ GE210.out)|exact HB.out))));(case aL => have := LMc30.out;omega);intro v223 w40 ho hb hg hat;rw [← Ny222.out] at ho;have n0_ := Aside0.mk (Kd.R_over' (by (with_reducible repeat (first|apply Kd.R_alloc|apply Kd.R_drewN|apply Kd.R_drew));exact HO_211000.out) (Kd.S_typed (by (with_reducible repeat (first|apply Kd.S_alloc|apply Kd.S_drewN|apply Kd.S_drew));exact HO_6.out)) (by decide) hg);have n1_ := Aside0.mk (blk_grown (g := gb207) (o := .cells #[.slice A1 l1.length c1] 84 (0,0)) (by (with_reducible repeat (first|refine blk_drewN ?_ _|refine blk_drew ?_|refine blk_alloc ?_ _));exact BK207.out) hg (Kd.S_ne HO_6.out BK207.out (by decide)));have n2_ := Aside0.mk (blk_grown (g := gb209) (o := .cells #[.slice A208_0 ((rd_T97 l0 x18_1).f0).length c208_0] 97 (0,0)) (by (with_reducible repeat (first|refine blk_drewN ?_ _|refine blk_drew ?_|refine blk_alloc ?_ _));exact BK209.out) hg (Kd.S_away HO_6.out (fun _ hk => hk.1.1.2.1)));have n3_ := Aside0.mk (blk_grown (g := gb210) (o := .cells #[.slice Ao34 x211000_2.length co34] 97 (0,0)) (by (with_reducible repeat (first|refine blk_drewN ?_ _|refine blk_drew ?_|refine blk_alloc ?_ _));exact BK210.out) hg (Kd.S_away HO_6.out (fun _ hk => hk.1.1.2.2)));have n4_ := Aside0.mk (Kd.R_over' (by (with_reducible repeat (first|apply Kd.R_alloc|apply Kd.R_drewN|apply Kd.R_drew));exact HO218.out) (Kd.S_typed (by (with_reducible repeat (first|apply Kd.S_alloc|apply Kd.S_drewN|apply Kd.S_drew));exact HO_6.out)) (by decide) hg);have n5_ := Aside0.mk (hb);have n6_ := Aside0.mk (ho);clear HO_211000;clear BK207;clear BK209;clear BK210;clear HO218;clear HB;clear HO_6;clear HO221;have HO_211000 := n0_;have BK207 := n1_;have BK209 := n2_;have BK210 := n3_;have HO218 := n4_;have HB := n5_;have HO224 := n6_;clear n0_ n1_ n2_ n3_ n4_ n5_ n6_;clear ho hb hg hat))
            go_roundg k2
            case measure => have := HK1.out;have := HK2.out;omega
            case rel => exact ⟨(y222),(y216),(wrap64 (x18_1 + 1)),(by first|rfl|(simp;done)|(simp [*];done)),H',⟨by have := HK1.out;have := HK2.out;omega⟩,⟨by (with_reducible repeat (first|apply Kd.S_alloc|apply Kd.S_drewN|apply Kd.S_drew));exact Kd.S_mono HO224.out (fun _ hk => hk.2.1)⟩,⟨by (with_reducible repeat (first|apply Kd.R_alloc|apply Kd.R_drewN|apply Kd.R_drew));exact Kd.R_mono HO218.out (fun _ hk => trivial)⟩,⟨by (with_reducible repeat (first|refine blk_drewN ?_ _|refine blk_drew ?_|refine blk_alloc ?_ _));exact BK207.out⟩,⟨by repeat (first|(with_reducible first|exact HB.out|apply below_alloc|apply pw_below_drewN|apply below_drew1|refine below_set ?_ GE207.out|refine below_set ?_ GE209.out|refine below_set ?_ GE210.out)|exact HB.out)⟩⟩
           ·rw [if_neg c30] at H
            exact absurd H (by simp)
          ·rw [if_neg c28] at H
           exact absurd H (by simp)
         ·rw [if_neg c27] at H
          have c27b0 : ((x211000_2.length : Int) == 0) = false := beq_eq_false_iff_ne.mpr c27
          have c27b1 : ((x211000_2.length : Int) != 0) = true := bne_iff_ne.mpr c27
          have c27b2 : ¬ (x211000_2 = []) := fun h_ => c27 (by rw [h_];rfl)
          replace H := Option.bind_eq_some_iff.mp H
          obtain ⟨t225,A410,H⟩ := H
          replace H : (impl_remap.l2 k2 x6_1 x7_1 l0 (l0.length : Int) x18_1 t225 0 l1 x211000_2) = some (r1,r2) := H
          have A41 := Aside0.mk A410
          clear A410
          have H' := Aside0.mk H
          clear H
          have hnb42 := NB210_207.out
          have hnc42 := NB207_210.out
          have hnb43 := NB210_209.out
          have hnc43 := NB209_210.out
          have hcz44_0 : wr.cell? ⟨gb210,0,none⟩ = some (u211000) := (blk_cell BK210.out 0).trans rfl
          have hfz44_0 := blk_frozen BK210.out 0
          obtain ⟨Ao45,co45,eo45⟩ := Kd.R_slice HO_211000.out
          subst eo45
          have hnb46 := NB207_209.out
          have hnc46 := NB209_207.out
          have hcz47_0 : wr.cell? ⟨gb207,0,none⟩ = some (.slice A1 l1.length c1) := (blk_cell BK207.out 0).trans rfl
          have hfz47_0 := blk_frozen BK207.out 0
          go_wp2_with (first|((with_reducible refine gcal_ (f := 139) rfl ?_);refine goesL_ (some 56) rfl rfl Try.func139 (by kernel_rfl) rfl #[.slice A1 l1.length c1] rfl (by (try simp only [List.map_toArray,List.map_cons,List.map_nil]);first|done|rfl|(simp only [List.length_drop,List.length_take];rfl)) ?_;(with_reducible refine (impl_size_bool.calls _ _ l1 t225 _ ?side1 ?side2 A41.out).mono ?_);(case side1 => repeat (first|exact (Kd.C_below HR1.out HB.out)|(with_reducible refine Kd.C_alloc ?_ _)|(with_reducible refine Kd.C_drewN ?_ _)|(with_reducible refine Kd.C_drew ?_)));(case side2 => exact HC1.out);rintro e w' ⟨rfl,⟨nd,rfl⟩⟩;refine ⟨_,rfl,?_⟩))
          go_loopg [57] k2 (fun kq v57 w' => ∃ (x57_3 : Int) (x211000_3 : List Int) (u211000 : Value),v57 = .int .i64 x57_3 ∧ Aside0 (impl_remap.l2 kq x6_1 x7_1 l0 (l0.length : Int) x18_1 t225 x57_3 l1 x211000_3 = some (r1,r2)) ∧ Aside0 (kq ≤ k2) ∧ Aside0 (Kd.S k97 97 w' w.heap.size (fun k_ => some k_ ≠ (u7 : Value).ownBlock ∧ some k_ ≠ (u211000 : Value).ownBlock ∧ k_ ≠ gb209 ∧ k_ ≠ gb210) u6 x6_1) ∧ Aside0 (Kd.R (Kd.int .i64) 2 w' w.heap.size (fun k_ => some k_ ≠ (u211000 : Value).ownBlock) u7 x7_1) ∧ Aside0 (Kd.R (Kd.int .i64) 2 w' w.heap.size (fun k_ => some k_ ≠ (u7 : Value).ownBlock) u211000 x211000_3) ∧ Aside0 (w'.heap[gb207]? = some (.cells #[(.slice A1 l1.length c1)] 84 (0,0))) ∧ Aside0 (w'.heap[gb209]? = some (.cells #[(.slice A208_0 ((rd_T97 l0 x18_1).f0).length c208_0)] 97 (0,0))) ∧ Aside0 (w'.heap[gb210]? = some (.cells #[u211000] 97 (0,0))) ∧ Aside0 (Below w.heap.size w w'))
          case atStart => exact ⟨(0),(x211000_2),(.slice Ao45 x211000_2.length co45),(by first|rfl|(simp;done)|(simp [*];done)),H',⟨Nat.le_refl _⟩,⟨by (with_reducible repeat (first|apply Kd.S_alloc|apply Kd.S_drewN|apply Kd.S_drew));exact HO_6.out⟩,⟨by (with_reducible repeat (first|apply Kd.R_alloc|apply Kd.R_drewN|apply Kd.R_drew));exact HO_7.out⟩,⟨by (with_reducible repeat (first|apply Kd.R_alloc|apply Kd.R_drewN|apply Kd.R_drew));exact HO_211000.out⟩,⟨by (with_reducible repeat (first|refine blk_drewN ?_ _|refine blk_drew ?_|refine blk_alloc ?_ _));exact BK207.out⟩,⟨by (with_reducible repeat (first|refine blk_drewN ?_ _|refine blk_drew ?_|refine blk_alloc ?_ _));exact BK209.out⟩,⟨by (with_reducible repeat (first|refine blk_drewN ?_ _|refine blk_drew ?_|refine blk_alloc ?_ _));exact BK210.out⟩,⟨by repeat (first|(with_reducible first|exact HB.out|apply below_alloc|apply pw_below_drewN|apply below_drew1|refine below_set ?_ GE207.out|refine below_set ?_ GE209.out|refine below_set ?_ GE210.out)|exact HB.out)⟩⟩
          case round =>
           clear H'
           try clear c1
           try clear c2
           try clear p2
           try clear q2
           try clear hx2
           try clear c3
           try clear c4
           try clear c4b0
           try clear c5
           try clear c5b0
           try clear c6
           try clear c6b0
           try clear p6
           try clear c8
           try clear c10
           try clear c11
           try clear c12
           try clear c13
           try clear c13b0
           try clear c14
           try clear c14b0
           try clear c15
           try clear c15b0
           try clear c17
           try clear c18
           try clear c20
           try clear p20
           try clear q20
           try clear hx20
           try clear c21
           try clear p21
           try clear q21
           try clear hx21
           try clear c27
           try clear c27b0
           try clear c27b1
           try clear c27b2
           try clear c28
           try clear c30
           try clear c31
           try clear c32
           try clear c36
           try clear c42
           try clear c43
           try clear c46
           try clear hcz12_0
           try clear hcz22_0
           try clear hcz25_0
           try clear hcz33_0
           try clear hcz37_0
           try clear hcz44_0
           try clear hcz47_0
           try clear hcz9_0
           try clear hfz12_0
           try clear hfz22_0
           try clear hfz25_0
           try clear hfz33_0
           try clear hfz37_0
           try clear hfz44_0
           try clear hfz47_0
           try clear hfz9_0
           try clear hx208_0
           try clear hx211_0
           try clear p2
           try clear p208
           try clear p211
           try clear q2
           try clear q208
           try clear q211
           obtain ⟨x57_3,x211000_3,u211000,rfl,HA,HK3,HO_6,HO_7,HO_211000,BK207,BK209,BK210,HB⟩ := hrel
           cases gk with
           | zero => exact absurd HA.out (by simp [impl_remap.l2])
           | succ k3 =>
            have H := HA.out
            clear HA
            simp only [impl_remap.l2] at H
            by_cases c48 : x57_3 < t225
            ·rw [if_pos c48] at H
             have c48b0 : decide (x57_3 < t225) = true := decide_eq_true c48
             clear c48
             by_cases c49 : 0 ≤ x57_3
             ·rw [if_pos c49] at H
              have c49b0 : decide (0 ≤ x57_3) = true := decide_eq_true c49
              clear c49
              by_cases c50 : x57_3 < (l1.length : Int)
              ·rw [if_pos c50] at H
               have c50b0 : decide (x57_3 < (l1.length : Int)) = true := decide_eq_true c50
               clear c50
               obtain ⟨bq51,hbq51⟩ : ∃ b_ : Bool,b_ = (rdOf false l1 x57_3) := ⟨_,rfl⟩
               replace H : (if bq51 = true then (if (x211000_3.length : Int) < 3 then ((slices_Contains_int64_int64.f k3 x211000_3 x57_3).bind fun t227 => (if t227 = true then (impl_remap.l2 k3 x6_1 x7_1 l0 (l0.length : Int) x18_1 t225 (wrap64 (x57_3 + 1)) l1 x211000_3) else (if x211000_3.length < 17592186044416 then (impl_remap.l2 k3 x6_1 x7_1 l0 (l0.length : Int) x18_1 t225 (wrap64 (x57_3 + 1)) l1 (x211000_3 ++ [x57_3])) else (none)))) else (impl_remap.l2 k3 x6_1 x7_1 l0 (l0.length : Int) x18_1 t225 (wrap64 (x57_3 + 1)) l1 x211000_3)) else (impl_remap.l2 k3 x6_1 x7_1 l0 (l0.length : Int) x18_1 t225 (wrap64 (x57_3 + 1)) l1 x211000_3)) = some (r1,r2) := by rw [← hbq51] at H;exact H
               have Nbq51 := Aside0.mk hbq51
               clear hbq51
               by_cases c52 : bq51 = true
               ·subst c52
                have H1 : (if (x211000_3.length : Int) < 3 then ((slices_Contains_int64_int64.f k3 x211000_3 x57_3).bind fun t227 => (if t227 = true then (impl_remap.l2 k3 x6_1 x7_1 l0 (l0.length : Int) x18_1 t225 (wrap64 (x57_3 + 1)) l1 x211000_3) else (if x211000_3.length < 17592186044416 then (impl_remap.l2 k3 x6_1 x7_1 l0 (l0.length : Int) x18_1 t225 (wrap64 (x57_3 + 1)) l1 (x211000_3 ++ [x57_3])) else (none)))) else (impl_remap.l2 k3 x6_1 x7_1 l0 (l0.length : Int) x18_1 t225 (wrap64 (x57_3 + 1)) l1 x211000_3)) = some (r1,r2) := by rw [if_pos rfl] at H;exact H
                clear H
                have H := H1
                clear H1
                by_cases c53 : (x211000_3.length : Int) < 3
                ·rw [if_pos c53] at H
                 have c53b0 : decide ((x211000_3.length : Int) < 3) = true := decide_eq_true c53
                 have c53b1 : decide (x211000_3.length < 3) = true := decide_eq_true (by omega)
                 clear c53
                 replace H := Option.bind_eq_some_iff.mp H
                 obtain ⟨t227,A540,H⟩ := H
                 replace H : (if t227 = true then (impl_remap.l2 k3 x6_1 x7_1 l0 (l0.length : Int) x18_1 t225 (wrap64 (x57_3 + 1)) l1 x211000_3) else (if x211000_3.length < 17592186044416 then (impl_remap.l2 k3 x6_1 x7_1 l0 (l0.length : Int) x18_1 t225 (wrap64 (x57_3 + 1)) l1 (x211000_3 ++ [x57_3])) else (none))) = some (r1,r2) := H
                 have A54 := Aside0.mk A540
                 clear A540
                 by_cases c55 : t227 = true
                 ·subst c55
                  have H1 : (impl_remap.l2 k3 x6_1 x7_1 l0 (l0.length : Int) x18_1 t225 (wrap64 (x57_3 + 1)) l1 x211000_3) = some (r1,r2) := by rw [if_pos rfl] at H;exact H
                  clear H
                  have H := H1
                  clear H1
                  have H' := Aside0.mk H
                  clear H
                  have hnb56 := NB207_209.out
                  have hnc56 := NB209_207.out
                  have hnb57 := NB207_210.out
                  have hnc57 := NB210_207.out
                  have hcz58_0 : wr.cell? ⟨gb207,0,none⟩ = some (.slice A1 l1.length c1) := (blk_cell BK207.out 0).trans rfl
                  have hfz58_0 := blk_frozen BK207.out 0
                  have p226 : 0 ≤ (x57_3 : Int) := of_decide_eq_true (by first|(with_reducible assumption)|assumption)
                  have q226 : x57_3 < (l1.length : Int) := of_decide_eq_true (by first|(with_reducible assumption)|assumption)
                  obtain ⟨ad226,e226,hx226_0⟩ := Kd.at_bool HR1.out x57_3 p226 q226
                  (try rw [← Nbq51.out] at hx226_0)
                  cases e226
                  replace hx226_0 := (HB.out.cell (World.block_lt_of_cell? w _ hx226_0)).trans hx226_0
                  replace p226 := eq_true p226
                  replace q226 := eq_true q226
                  have hnb59 := NB210_209.out
                  have hnc59 := NB209_210.out
                  have hcz60_0 : wr.cell? ⟨gb210,0,none⟩ = some (u211000) := (blk_cell BK210.out 0).trans rfl
                  have hfz60_0 := blk_frozen BK210.out 0
                  obtain ⟨Ao61,co61,eo61⟩ := Kd.R_slice HO_211000.out
                  subst eo61
                  go_wp2_with (first|(go_at_call 127;(with_reducible refine (slices_Contains_int64_int64.calls k3 _ _ x211000_3 x57_3 true _ ?side1 ?side2 A54.out).mono ?_);(case side1 => repeat (first|exact (Kd.R_reads' HO_211000.out).2.2|(with_reducible refine Kd.C_alloc ?_ _)|(with_reducible refine Kd.C_drewN ?_ _)|(with_reducible refine Kd.C_drew ?_)));(case side2 => exact (Kd.R_reads' HO_211000.out).2.1);rintro e w' ⟨rfl,⟨nd,rfl⟩⟩))
                  go_roundg k3
                  case measure => have := HK1.out;have := HK2.out;have := HK3.out;omega
                  case rel => exact ⟨(wrap64 (x57_3 + 1)),(x211000_3),(.slice Ao61 x211000_3.length co61),(by first|rfl|(simp;done)|(simp [*];done)),H',⟨by have := HK1.out;have := HK2.out;have := HK3.out;omega⟩,⟨by (with_reducible repeat (first|apply Kd.S_alloc|apply Kd.S_drewN|apply Kd.S_drew));exact HO_6.out⟩,⟨by (with_reducible repeat (first|apply Kd.R_alloc|apply Kd.R_drewN|apply Kd.R_drew));exact HO_7.out⟩,⟨by (with_reducible repeat (first|apply Kd.R_alloc|apply Kd.R_drewN|apply Kd.R_drew));exact HO_211000.out⟩,⟨by (with_reducible repeat (first|refine blk_drewN ?_ _|refine blk_drew ?_|refine blk_alloc ?_ _));exact BK207.out⟩,⟨by (with_reducible repeat (first|refine blk_drewN ?_ _|refine blk_drew ?_|refine blk_alloc ?_ _));exact BK209.out⟩,⟨by (with_reducible repeat (first|refine blk_drewN ?_ _|refine blk_drew ?_|refine blk_alloc ?_ _));exact BK210.out⟩,⟨by repeat (first|(with_reducible first|exact HB.out|apply below_alloc|apply pw_below_drewN|apply below_drew1|refine below_set ?_ GE207.out|refine below_set ?_ GE209.out|refine below_set ?_ GE210.out)|exact HB.out)⟩⟩
                 ·replace c55 := Bool.eq_false_iff.mpr c55
                  subst c55
                  have H1 : (if x211000_3.length < 17592186044416 then (impl_remap.l2 k3 x6_1 x7_1 l0 (l0.length : Int) x18_1 t225 (wrap64 (x57_3 + 1)) l1 (x211000_3 ++ [x57_3])) else (none)) = some (r1,r2) := by rw [if_neg (show ¬ (false = true) by decide)] at H;exact H
                  clear H
                  have H := H1
                  clear H1
                  by_cases c62 : x211000_3.length < 17592186044416
                  ·rw [if_pos c62] at H
                   have LMc62 := Aside0.mk c62
                   clear c62
                   obtain ⟨y228,hy228⟩ : ∃ y_ : List Int,y_ = (x211000_3 ++ [x57_3]) := ⟨_,rfl⟩
                   replace H : (impl_remap.l2 k3 x6_1 x7_1 l0 (l0.length : Int) x18_1 t225 (wrap64 (x57_3 + 1)) l1 y228) = some (r1,r2) := by first|(rw [hy228];with_reducible exact H)|(have H2_ := (Option.bind_some _ _).symm.trans H;rw [hy228];with_reducible exact H2_)|(have H2_ := (Option.bind_some _ _).symm.trans H;with_reducible exact H2_)|with_reducible exact H|(rw [hy228];exact H)|exact H
                   have Ny228 := Aside0.mk hy228
                   clear hy228
                   have H' := Aside0.mk H
                   clear H
                   have hnb63 := NB207_209.out
                   have hnc63 := NB209_207.out
                   have hnb64 := NB207_210.out
                   have hnc64 := NB210_207.out
                   have hcz65_0 : wr.cell? ⟨gb207,0,none⟩ = some (.slice A1 l1.length c1) := (blk_cell BK207.out 0).trans rfl
                   have hfz65_0 := blk_frozen BK207.out 0
                   have p226 : 0 ≤ (x57_3 : Int) := of_decide_eq_true (by first|(with_reducible assumption)|assumption)
                   have q226 : x57_3 < (l1.length : Int) := of_decide_eq_true (by first|(with_reducible assumption)|assumption)
                   obtain ⟨ad226,e226,hx226_0⟩ := Kd.at_bool HR1.out x57_3 p226 q226
                   (try rw [← Nbq51.out] at hx226_0)
                   cases e226
                   replace hx226_0 := (HB.out.cell (World.block_lt_of_cell? w _ hx226_0)).trans hx226_0
                   replace p226 := eq_true p226
                   replace q226 := eq_true q226
                   have hnb66 := NB210_209.out
                   have hnc66 := NB209_210.out
                   have hcz67_0 : wr.cell? ⟨gb210,0,none⟩ = some (u211000) := (blk_cell BK210.out 0).trans rfl
                   have hfz67_0 := blk_frozen BK210.out 0
                   obtain ⟨Ao68,co68,eo68⟩ := Kd.R_slice HO_211000.out
                   subst eo68
                   go_wp2_with (first|(go_at_call 127;(with_reducible refine (slices_Contains_int64_int64.calls k3 _ _ x211000_3 x57_3 false _ ?side1 ?side2 A54.out).mono ?_);(case side1 => repeat (first|exact (Kd.R_reads' HO_211000.out).2.2|(with_reducible refine Kd.C_alloc ?_ _)|(with_reducible refine Kd.C_drewN ?_ _)|(with_reducible refine Kd.C_drew ?_)));(case side2 => exact (Kd.R_reads' HO_211000.out).2.1);rintro e w' ⟨rfl,⟨nd,rfl⟩⟩;(try (rw [drewN_self wr];generalize hq_ : World.drewN wr _ = wr;have n0_ : Aside0 (Kd.R (Kd.int .i64) 2 wr w.heap.size (fun k_ => some k_ ≠ (u7 : Value).ownBlock) (.slice Ao68 x211000_3.length co68) x211000_3) := ⟨by rw [← hq_];exact (by (with_reducible repeat (first|apply Kd.R_alloc|apply Kd.R_drewN|apply Kd.R_drew));exact HO_211000.out)⟩;have n1_ : Aside0 (Kd.S k97 97 wr w.heap.size (fun k_ => some k_ ≠ (.slice Ao68 x211000_3.length co68 : Value).ownBlock ∧ some k_ ≠ (u7 : Value).ownBlock ∧ k_ ≠ gb209 ∧ k_ ≠ gb210) u6 x6_1) := ⟨by rw [← hq_];exact (by (with_reducible repeat (first|apply Kd.S_alloc|apply Kd.S_drewN|apply Kd.S_drew));exact Kd.S_mono HO_6.out (fun _ hk => ⟨hk.2.1,⟨hk.1,⟨hk.2.2.1,hk.2.2.2⟩⟩⟩))⟩;have n2_ : Aside0 (Kd.R (Kd.int .i64) 2 wr w.heap.size (fun k_ => some k_ ≠ (.slice Ao68 x211000_3.length co68 : Value).ownBlock) u7 x7_1) := ⟨by rw [← hq_];exact (by (with_reducible repeat (first|apply Kd.R_alloc|apply Kd.R_drewN|apply Kd.R_drew));exact HO_7.out)⟩;have n3_ : Aside0 (wr.heap[gb207]? = some (.cells #[.slice (some ad226) l1.length c1] 84 (0,0))) := ⟨by rw [← hq_];exact (by (with_reducible repeat (first|refine blk_drewN ?_ _|refine blk_drew ?_|refine blk_alloc ?_ _));exact BK207.out)⟩;have n4_ : Aside0 (wr.heap[gb209]? = some (.cells #[.slice A208_0 ((rd_T97 l0 x18_1).f0).length c208_0] 97 (0,0))) := ⟨by rw [← hq_];exact (by (with_reducible repeat (first|refine blk_drewN ?_ _|refine blk_drew ?_|refine blk_alloc ?_ _));exact BK209.out)⟩;have n5_ : Aside0 (wr.heap[gb210]? = some (.cells #[.slice Ao68 x211000_3.length co68] 97 (0,0))) := ⟨by rw [← hq_];exact (by (with_reducible repeat (first|refine blk_drewN ?_ _|refine blk_drew ?_|refine blk_alloc ?_ _));exact BK210.out)⟩;have n6_ : Aside0 (Below w.heap.size w wr) := ⟨by rw [← hq_];exact (by repeat (first|(with_reducible first|exact HB.out|apply below_alloc|apply pw_below_drewN|apply below_drew1|refine below_set ?_ GE207.out|refine below_set ?_ GE209.out|refine below_set ?_ GE210.out)|exact HB.out))⟩;clear HO_211000 HO_6 HO_7 BK207 BK209 BK210 HB hq_;have HO_211000 := n0_;have HO_6 := n1_;have HO_7 := n2_;have BK207 := n3_;have BK209 := n4_;have BK210 := n5_;have HB := n6_;clear n0_ n1_ n2_ n3_ n4_ n5_ n6_));(try (have hcy5_0 : wr.cell? ⟨gb207,0,none⟩ = some (.slice (some ad226) l1.length c1) := (blk_cell BK207.out 0).trans rfl));(try (have hfy5_0 := blk_frozen BK207.out 0));(try (have hcy6_0 : wr.cell? ⟨gb209,0,none⟩ = some (.slice A208_0 ((rd_T97 l0 x18_1).f0).length c208_0) := (blk_cell BK209.out 0).trans rfl));(try (have hfy6_0 := blk_frozen BK209.out 0));(try (have hcy7_0 : wr.cell? ⟨gb210,0,none⟩ = some (.slice Ao68 x211000_3.length co68) := (blk_cell BK210.out 0).trans rfl));(try (have hfy7_0 := blk_frozen BK210.out 0)))|((with_reducible refine gblt_ (b := .append) (xs := #[.tmp 78,.tmp 80]) rfl ?_);(try (refine gate_guard (by rfl) ?_;dsimp only));at_builtin;refine Kd.R_append (Kd.int .i64) (w0 := w) w.heap.size rfl (.tmp 78) (.tmp 80) 64 2 (.int .i64 0) 8 rfl Try.underlying64 info2 rfl (by decide) (by omega) (.slice Ao68 x211000_3.length co68) x211000_3 x57_3 [.int .i64 x57_3] (fun k_ => some k_ ≠ (u7 : Value).ownBlock) (fun _ => False) rfl rfl ?aP (fun _ hk => hk.elim) ?aF ?aO ?aB ?aS ?aL ?_;(case aP => exact rfl);(case aB => exact (by repeat (first|(with_reducible first|exact HB.out|apply below_alloc|apply pw_below_drewN|apply below_drew1|refine below_set ?_ GE207.out|refine below_set ?_ GE209.out|refine below_set ?_ GE210.out)|exact HB.out)));(case aF => exact (fun k_ hk => Kd.fresh' (Kd.R_lt (by (with_reducible repeat (first|apply Kd.R_alloc|apply Kd.R_drewN|apply Kd.R_drew));exact HO_7.out)) k_ hk));(case aO => exact (by (with_reducible repeat (first|apply Kd.R_alloc|apply Kd.R_drewN|apply Kd.R_drew));exact HO_211000.out));(case aS => exact (below_size (by repeat (first|(with_reducible first|exact HB.out|apply below_alloc|apply pw_below_drewN|apply below_drew1|refine below_set ?_ GE207.out|refine below_set ?_ GE209.out|refine below_set ?_ GE210.out)|exact HB.out))));(case aL => have := LMc62.out;omega);intro v229 w69 ho hb hg hat;rw [← Ny228.out] at ho;have n0_ := Aside0.mk (Kd.S_after (ok := (fun k_ => some k_ ≠ (u7 : Value).ownBlock ∧ k_ ≠ gb209 ∧ k_ ≠ gb210)) (by (with_reducible repeat (first|apply Kd.S_alloc|apply Kd.S_drewN|apply Kd.S_drew));exact Kd.S_mono HO_6.out (fun _ hk => ⟨⟨hk.2.1,⟨hk.2.2.1,hk.2.2.2⟩⟩,hk.1⟩)) hg hat);have n1_ := Aside0.mk (Kd.R_after (ok := (fun _ => True)) (by (with_reducible repeat (first|apply Kd.R_alloc|apply Kd.R_drewN|apply Kd.R_drew));exact Kd.R_mono HO_7.out (fun _ hk => ⟨trivial,hk⟩)) hg hat);have n2_ := Aside0.mk (blk_grown (g := gb207) (o := .cells #[.slice (some ad226) l1.length c1] 84 (0,0)) (by (with_reducible repeat (first|refine blk_drewN ?_ _|refine blk_drew ?_|refine blk_alloc ?_ _));exact BK207.out) hg (Kd.R_ne HO_211000.out BK207.out (by decide)));have n3_ := Aside0.mk (blk_grown (g := gb209) (o := .cells #[.slice A208_0 ((rd_T97 l0 x18_1).f0).length c208_0] 97 (0,0)) (by (with_reducible repeat (first|refine blk_drewN ?_ _|refine blk_drew ?_|refine blk_alloc ?_ _));exact BK209.out) hg (Kd.R_ne HO_211000.out BK209.out (by decide)));have n4_ := Aside0.mk (blk_grown (g := gb210) (o := .cells #[.slice Ao68 x211000_3.length co68] 97 (0,0)) (by (with_reducible repeat (first|refine blk_drewN ?_ _|refine blk_drew ?_|refine blk_alloc ?_ _));exact BK210.out) hg (Kd.R_ne HO_211000.out BK210.out (by decide)));have n5_ := Aside0.mk (hb);have n6_ := Aside0.mk (ho);clear HO_6;clear HO_7;clear BK207;clear BK209;clear BK210;clear HB;clear HO_211000;have HO_6 := n0_;have HO_7 := n1_;have BK207 := n2_;have BK209 := n3_;have BK210 := n4_;have HB := n5_;have HO230 := n6_;clear n0_ n1_ n2_ n3_ n4_ n5_ n6_;clear ho hb hg hat;obtain ⟨Ao70,co70,eo70⟩ := Kd.R_slice HO230.out;subst eo70;have hcz71_0 : w69.cell? ⟨gb210,0,none⟩ = some (.slice Ao68 x211000_3.length co68) := (blk_cell BK210.out 0).trans rfl;have hfz71_0 := blk_frozen BK210.out 0))
                   go_roundg k3
                   case measure => have := HK1.out;have := HK2.out;have := HK3.out;omega
                   case rel => exact ⟨(wrap64 (x57_3 + 1)),(y228),(.slice Ao70 y228.length co70),(by first|rfl|(simp;done)|(simp [*];done)),H',⟨by have := HK1.out;have := HK2.out;have := HK3.out;omega⟩,⟨by (with_reducible repeat (first|apply Kd.S_alloc|apply Kd.S_drewN|apply Kd.S_drew));exact Kd.S_mono (Kd.S_far (p := ⟨gb210,0,none⟩) (Kd.S_mono HO_6.out (fun k_ hk => (⟨hk,hk.1.2.2⟩ : _ ∧ k_ ≠ gb210))) (fun _ hk => hk.2) (.slice Ao70 y228.length co70)) (fun _ hk => ⟨hk.1.1.1,⟨hk.1.2,⟨hk.1.1.2.1,hk.1.1.2.2⟩⟩⟩)⟩,⟨by (with_reducible repeat (first|apply Kd.R_alloc|apply Kd.R_drewN|apply Kd.R_drew));exact Kd.R_mono (Kd.R_far (p := ⟨gb210,0,none⟩) (Kd.R_types HO_7.out BK210.out (by decide)) (fun _ hk => hk.2) (.slice Ao70 y228.length co70)) (fun _ hk => hk.1.2)⟩,⟨by (with_reducible repeat (first|apply Kd.R_alloc|apply Kd.R_drewN|apply Kd.R_drew));exact Kd.R_mono (Kd.R_far (p := ⟨gb210,0,none⟩) (Kd.R_types HO230.out BK210.out (by decide)) (fun _ hk => hk.2) (.slice Ao70 y228.length co70)) (fun _ hk => hk.1)⟩,⟨by (with_reducible repeat (first|refine blk_drewN ?_ _|refine blk_drew ?_|refine blk_alloc ?_ _));refine blk_far ?_ NB207_210.out _;(with_reducible repeat (first|refine blk_drewN ?_ _|refine blk_drew ?_|refine blk_alloc ?_ _));exact BK207.out⟩,⟨by (with_reducible repeat (first|refine blk_drewN ?_ _|refine blk_drew ?_|refine blk_alloc ?_ _));refine blk_far ?_ NB209_210.out _;(with_reducible repeat (first|refine blk_drewN ?_ _|refine blk_drew ?_|refine blk_alloc ?_ _));exact BK209.out⟩,⟨by (with_reducible repeat (first|refine blk_drewN ?_ _|refine blk_drew ?_|refine blk_alloc ?_ _));refine blk_put (cs := #[.slice Ao68 x211000_3.length co68]) ?_ 0 _ rfl;(with_reducible repeat (first|refine blk_drewN ?_ _|refine blk_drew ?_|refine blk_alloc ?_ _));exact BK210.out⟩,⟨by repeat (first|(with_reducible first|exact HB.out|apply below_alloc|apply pw_below_drewN|apply below_drew1|refine below_set ?_ GE207.out|refine below_set ?_ GE209.out|refine below_set ?_ GE210.out)|exact HB.out)⟩⟩
                  ·rw [if_neg c62] at H
                   exact absurd H (by simp)
                ·rw [if_neg c53] at H
                 have c53b0 : decide ((x211000_3.length : Int) < 3) = false := decide_eq_false c53
                 have c53b1 : decide (x211000_3.length < 3) = false := decide_eq_false (by omega)
                 clear c53
                 have H' := Aside0.mk H
                 clear H
                 have hnb72 := NB207_209.out
                 have hnc72 := NB209_207.out
                 have hnb73 := NB207_210.out
                 have hnc73 := NB210_207.out
                 have hcz74_0 : wr.cell? ⟨gb207,0,none⟩ = some (.slice A1 l1.length c1) := (blk_cell BK207.out 0).trans rfl
                 have hfz74_0 := blk_frozen BK207.out 0
                 have p226 : 0 ≤ (x57_3 : Int) := of_decide_eq_true (by first|(with_reducible assumption)|assumption)
                 have q226 : x57_3 < (l1.length : Int) := of_decide_eq_true (by first|(with_reducible assumption)|assumption)
                 obtain ⟨ad226,e226,hx226_0⟩ := Kd.at_bool HR1.out x57_3 p226 q226
                 (try rw [← Nbq51.out] at hx226_0)
                 cases e226
                 replace hx226_0 := (HB.out.cell (World.block_lt_of_cell? w _ hx226_0)).trans hx226_0
                 replace p226 := eq_true p226
                 replace q226 := eq_true q226
                 have hnb75 := NB210_209.out
                 have hnc75 := NB209_210.out
                 have hcz76_0 : wr.cell? ⟨gb210,0,none⟩ = some (u211000) := (blk_cell BK210.out 0).trans rfl
                 have hfz76_0 := blk_frozen BK210.out 0
                 obtain ⟨Ao77,co77,eo77⟩ := Kd.R_slice HO_211000.out
                 subst eo77
                 go_wp2
                 go_roundg k3
                 case measure => have := HK1.out;have := HK2.out;have := HK3.out;omega
                 case rel => exact ⟨(wrap64 (x57_3 + 1)),(x211000_3),(.slice Ao77 x211000_3.length co77),(by first|rfl|(simp;done)|(simp [*];done)),H',⟨by have := HK1.out;have := HK2.out;have := HK3.out;omega⟩,⟨by (with_reducible repeat (first|apply Kd.S_alloc|apply Kd.S_drewN|apply Kd.S_drew));exact HO_6.out⟩,⟨by (with_reducible repeat (first|apply Kd.R_alloc|apply Kd.R_drewN|apply Kd.R_drew));exact HO_7.out⟩,⟨by (with_reducible repeat (first|apply Kd.R_alloc|apply Kd.R_drewN|apply Kd.R_drew));exact HO_211000.out⟩,⟨by (with_reducible repeat (first|refine blk_drewN ?_ _|refine blk_drew ?_|refine blk_alloc ?_ _));exact BK207.out⟩,⟨by (with_reducible repeat (first|refine blk_drewN ?_ _|refine blk_drew ?_|refine blk_alloc ?_ _));exact BK209.out⟩,⟨by (with_reducible repeat (first|refine blk_drewN ?_ _|refine blk_drew ?_|refine blk_alloc ?_ _));exact BK210.out⟩,⟨by repeat (first|(with_reducible first|exact HB.out|apply below_alloc|apply pw_below_drewN|apply below_drew1|refine below_set ?_ GE207.out|refine below_set ?_ GE209.out|refine below_set ?_ GE210.out)|exact HB.out)⟩⟩
               ·replace c52 := Bool.eq_false_iff.mpr c52
                subst c52
                have H1 : (impl_remap.l2 k3 x6_1 x7_1 l0 (l0.length : Int) x18_1 t225 (wrap64 (x57_3 + 1)) l1 x211000_3) = some (r1,r2) := by rw [if_neg (show ¬ (false = true) by decide)] at H;exact H
                clear H
                have H := H1
                clear H1
                have H' := Aside0.mk H
                clear H
                have hnb78 := NB207_209.out
                have hnc78 := NB209_207.out
                have hnb79 := NB207_210.out
                have hnc79 := NB210_207.out
                have hcz80_0 : wr.cell? ⟨gb207,0,none⟩ = some (.slice A1 l1.length c1) := (blk_cell BK207.out 0).trans rfl
                have hfz80_0 := blk_frozen BK207.out 0
                have p226 : 0 ≤ (x57_3 : Int) := of_decide_eq_true (by first|(with_reducible assumption)|assumption)
                have q226 : x57_3 < (l1.length : Int) := of_decide_eq_true (by first|(with_reducible assumption)|assumption)
                obtain ⟨ad226,e226,hx226_0⟩ := Kd.at_bool HR1.out x57_3 p226 q226
                (try rw [← Nbq51.out] at hx226_0)
                cases e226
                replace hx226_0 := (HB.out.cell (World.block_lt_of_cell? w _ hx226_0)).trans hx226_0
                replace p226 := eq_true p226
                replace q226 := eq_true q226
                go_wp2
                go_roundg k3
                case measure => have := HK1.out;have := HK2.out;have := HK3.out;omega
                case rel => exact ⟨(wrap64 (x57_3 + 1)),(x211000_3),(u211000),(by first|rfl|(simp;done)|(simp [*];done)),H',⟨by have := HK1.out;have := HK2.out;have := HK3.out;omega⟩,⟨by (with_reducible repeat (first|apply Kd.S_alloc|apply Kd.S_drewN|apply Kd.S_drew));exact HO_6.out⟩,⟨by (with_reducible repeat (first|apply Kd.R_alloc|apply Kd.R_drewN|apply Kd.R_drew));exact HO_7.out⟩,⟨by (with_reducible repeat (first|apply Kd.R_alloc|apply Kd.R_drewN|apply Kd.R_drew));exact HO_211000.out⟩,⟨by (with_reducible repeat (first|refine blk_drewN ?_ _|refine blk_drew ?_|refine blk_alloc ?_ _));exact BK207.out⟩,⟨by (with_reducible repeat (first|refine blk_drewN ?_ _|refine blk_drew ?_|refine blk_alloc ?_ _));exact BK209.out⟩,⟨by (with_reducible repeat (first|refine blk_drewN ?_ _|refine blk_drew ?_|refine blk_alloc ?_ _));exact BK210.out⟩,⟨by repeat (first|(with_reducible first|exact HB.out|apply below_alloc|apply pw_below_drewN|apply below_drew1|refine below_set ?_ GE207.out|refine below_set ?_ GE209.out|refine below_set ?_ GE210.out)|exact HB.out)⟩⟩
              ·rw [if_neg c50] at H
               exact absurd H (by simp)
             ·rw [if_neg c49] at H
              exact absurd H (by simp)
            ·rw [if_neg c48] at H
             have c48b0 : decide (x57_3 < t225) = false := decide_eq_false c48
             clear c48
             by_cases c81 : x6_1.length < 5864062014805
             ·rw [if_pos c81] at H
              have LMc81 := Aside0.mk c81
              clear c81
              obtain ⟨y231,hy231⟩ : ∃ y_ : List (S97),y_ = (x6_1 ++ [(⟨x211000_3⟩ : S97)]) := ⟨_,rfl⟩
              replace H : (impl_remap.l0 k3 y231 x7_1 l0 (l0.length : Int) (wrap64 (x18_1 + 1)) l1) = some (r1,r2) := by first|(rw [hy231];with_reducible exact H)|(have H2_ := (Option.bind_some _ _).symm.trans H;rw [hy231];with_reducible exact H2_)|(have H2_ := (Option.bind_some _ _).symm.trans H;with_reducible exact H2_)|with_reducible exact H|(rw [hy231];exact H)|exact H
              have Ny231 := Aside0.mk hy231
              clear hy231
              have H' := Aside0.mk H
              clear H
              have hnb82 := NB210_207.out
              have hnc82 := NB207_210.out
              have hnb83 := NB210_209.out
              have hnc83 := NB209_210.out
              have hcz84_0 : wr.cell? ⟨gb210,0,none⟩ = some (u211000) := (blk_cell BK210.out 0).trans rfl
              have hfz84_0 := blk_frozen BK210.out 0
              obtain ⟨Ao86,co86,eo86⟩ := Kd.R_slice HO_211000.out
              subst eo86
              go_wp2_with (first|((with_reducible refine gblt_ (b := .append) (xs := #[.tmp 84,.tmp 86]) rfl ?_);(try (refine gate_guard (by rfl) ?_;dsimp only));at_builtin;refine Kd.S_append k97 (w0 := w) w.heap.size rfl (.tmp 84) (.tmp 86) 34 97 (.agg #[(.slice none 0 0)]) 24 rfl Try.underlying34 info97 rfl (by decide) (by omega) u6 x6_1 (⟨x211000_3⟩ : S97) [.slice Ao86 x211000_3.length co86] (fun k_ => some k_ ≠ (u7 : Value).ownBlock ∧ k_ ≠ gb209 ∧ k_ ≠ gb210) (fun k_ => some k_ = (.slice Ao86 x211000_3.length co86 : Value).ownBlock) rfl rfl ?aP (fun k_ hk_ => ((Kd.R_mono (ok' := fun k_ => ((fun k_ => some k_ ≠ (u7 : Value).ownBlock ∧ k_ ≠ gb209 ∧ k_ ≠ gb210)) k_ ∧ some k_ ≠ (u6 : Value).ownBlock) (Kd.R_types (Kd.R_types (Kd.R_apart' (HO_211000.out) (Kd.S_typed HO_6.out) (by decide)) BK209.out (by decide)) BK210.out (by decide)) (fun k_ hk => ⟨⟨hk.1.1.1,⟨hk.1.2,hk.2⟩⟩,hk.1.1.2⟩))).1 k_ hk_.symm) ?aF ?aO ?aB ?aS ?aL ?_;(case aP => exact k97_mkM _ _ _ (⟨x211000_3⟩ : S97) (Kd.R_mono (Kd.R_tight rfl (Kd.R_mono (ok' := fun k_ => ((fun k_ => some k_ ≠ (u7 : Value).ownBlock ∧ k_ ≠ gb209 ∧ k_ ≠ gb210)) k_ ∧ some k_ ≠ (u6 : Value).ownBlock) (Kd.R_types (Kd.R_types (Kd.R_apart' (HO_211000.out) (Kd.S_typed HO_6.out) (by decide)) BK209.out (by decide)) BK210.out (by decide)) (fun k_ hk => ⟨⟨hk.1.1.1,⟨hk.1.2,hk.2⟩⟩,hk.1.1.2⟩))) (fun _ h_ => h_)));(case aB => exact (by repeat (first|(with_reducible first|exact HB.out|apply below_alloc|apply pw_below_drewN|apply below_drew1|refine below_set ?_ GE207.out|refine below_set ?_ GE209.out|refine below_set ?_ GE210.out)|exact HB.out)));(case aF => exact (fun k_ hk => ⟨Kd.fresh' (Kd.R_lt (by (with_reducible repeat (first|apply Kd.R_alloc|apply Kd.R_drewN|apply Kd.R_drew));exact HO_7.out)) k_ hk,Kd.freshB (g := gb209) (o := .cells #[.slice A208_0 ((rd_T97 l0 x18_1).f0).length c208_0] 97 (0,0)) (by (with_reducible repeat (first|refine blk_drewN ?_ _|refine blk_drew ?_|refine blk_alloc ?_ _));exact BK209.out) k_ hk,Kd.freshB (g := gb210) (o := .cells #[.slice Ao86 x211000_3.length co86] 97 (0,0)) (by (with_reducible repeat (first|refine blk_drewN ?_ _|refine blk_drew ?_|refine blk_alloc ?_ _));exact BK210.out) k_ hk⟩));(case aO => exact (by (with_reducible repeat (first|apply Kd.S_alloc|apply Kd.S_drewN|apply Kd.S_drew));exact Kd.S_mono HO_6.out (fun k_ hk => ⟨⟨hk.1,⟨hk.2.2.1,hk.2.2.2⟩⟩,fun e_ => hk.2.1 e_⟩)));(case aS => exact (below_size (by repeat (first|(with_reducible first|exact HB.out|apply below_alloc|apply pw_below_drewN|apply below_drew1|refine below_set ?_ GE207.out|refine below_set ?_ GE209.out|refine below_set ?_ GE210.out)|exact HB.out))));(case aL => have := LMc81.out;omega);intro v232 w85 ho hb hg hat;rw [← Ny231.out] at ho;have n0_ := Aside0.mk (Kd.R_over' (by (with_reducible repeat (first|apply Kd.R_alloc|apply Kd.R_drewN|apply Kd.R_drew));exact HO_7.out) (Kd.S_typed (by (with_reducible repeat (first|apply Kd.S_alloc|apply Kd.S_drewN|apply Kd.S_drew));exact HO_6.out)) (by decide) hg);have n1_ := Aside0.mk (blk_grown (g := gb207) (o := .cells #[.slice A1 l1.length c1] 84 (0,0)) (by (with_reducible repeat (first|refine blk_drewN ?_ _|refine blk_drew ?_|refine blk_alloc ?_ _));exact BK207.out) hg (Kd.S_ne HO_6.out BK207.out (by decide)));have n2_ := Aside0.mk (blk_grown (g := gb209) (o := .cells #[.slice A208_0 ((rd_T97 l0 x18_1).f0).length c208_0] 97 (0,0)) (by (with_reducible repeat (first|refine blk_drewN ?_ _|refine blk_drew ?_|refine blk_alloc ?_ _));exact BK209.out) hg (Kd.S_away HO_6.out (fun _ hk => hk.2.2.1)));have n3_ := Aside0.mk (blk_grown (g := gb210) (o := .cells #[.slice Ao86 x211000_3.length co86] 97 (0,0)) (by (with_reducible repeat (first|refine blk_drewN ?_ _|refine blk_drew ?_|refine blk_alloc ?_ _));exact BK210.out) hg (Kd.S_away HO_6.out (fun _ hk => hk.2.2.2)));have n4_ := Aside0.mk (hb);have n5_ := Aside0.mk (ho);clear HO_7;clear BK207;clear BK209;clear BK210;clear HB;clear HO_6;clear HO_211000;have HO_7 := n0_;have BK207 := n1_;have BK209 := n2_;have BK210 := n3_;have HB := n4_;have HO233 := n5_;clear n0_ n1_ n2_ n3_ n4_ n5_;clear ho hb hg hat))
              go_roundg k3
              case measure => have := HK1.out;have := HK2.out;have := HK3.out;omega
              case rel => exact ⟨(y231),(x7_1),(wrap64 (x18_1 + 1)),(by first|rfl|(simp;done)|(simp [*];done)),H',⟨by have := HK1.out;have := HK2.out;have := HK3.out;omega⟩,⟨by (with_reducible repeat (first|apply Kd.S_alloc|apply Kd.S_drewN|apply Kd.S_drew));exact Kd.S_mono HO233.out (fun _ hk => hk.1)⟩,⟨by (with_reducible repeat (first|apply Kd.R_alloc|apply Kd.R_drewN|apply Kd.R_drew));exact Kd.R_mono HO_7.out (fun _ hk => trivial)⟩,⟨by (with_reducible repeat (first|refine blk_drewN ?_ _|refine blk_drew ?_|refine blk_alloc ?_ _));exact BK207.out⟩,⟨by repeat (first|(with_reducible first|exact HB.out|apply below_alloc|apply pw_below_drewN|apply below_drew1|refine below_set ?_ GE207.out|refine below_set ?_ GE209.out|refine below_set ?_ GE210.out)|exact HB.out)⟩⟩
             ·rw [if_neg c81] at H
              exact absurd H (by simp)
     ·rw [if_neg c6] at H
      exact absurd H (by simp)
    ·rw [if_neg c5] at H
     exact absurd H (by simp)
   ·rw [if_neg c4] at H
    have c4b0 : decide (x18_1 < (l0.length : Int)) = false := decide_eq_false c4
    clear c4
    simp only [Option.some.injEq,Prod.mk.injEq] at H
    obtain ⟨rfl,rfl⟩ := H
    go_wp2
    go_ret2
    exact ⟨_,_,by first|rfl|(simp [errW_none,errW_some] <;> rfl)|(simp [*,errW_none,errW_some] <;> rfl),by (with_reducible repeat (first|apply Kd.S_alloc|apply Kd.S_drewN|apply Kd.S_drew));exact HO_6.out,by (with_reducible repeat (first|apply Kd.R_alloc|apply Kd.R_drewN|apply Kd.R_drew));exact HO_7.out,by repeat (first|(with_reducible first|exact HB.out|apply below_alloc|apply pw_below_drewN|apply below_drew1|refine below_set ?_ GE207.out)|exact HB.out)⟩

/-! ### impl_Remap: function 70 -/
def impl_Remap.f (k : Nat) (l0 : List (S97)) (l1 : List Bool) : Option ((List (S97)) × List Int) := (impl_arePlaces.f k l0).bind fun t234 => (if t234 = true then (if (l1.length : Int) > 8 then (some (([] : List (S97)), ([] : List Int))) else ((impl_remap.f k l0 l1).bind fun bt235 => (some (bt235.1, bt235.2)))) else (some (([] : List (S97)), ([] : List Int))))

set_option maxHeartbeats 8000000 in
set_option maxRecDepth 100000 in
theorem impl_Remap.calls (k : Nat) (A0 : Option Addr) (c0 : Nat) (l0 : List (S97)) (A1 : Option Addr) (c1 : Nat) (l1 : List Bool) (r1 : List (S97)) (r2 : List Int) (w : World) (hr0 : Kd.C k97 w A0 l0.length l0) (hc0 : l0.length ≤ c0) (hr1 : Kd.C Kd.bool w A1 l1.length l1) (hc1 : l1.length ≤ c1) (h : impl_Remap.f k l0 l1 = some (r1, r2)) :
    Calls Try.prog 70 #[.slice A0 l0.length c0, .slice A1 l1.length c1] w fun e w' => ∃ v0_ v1_ : Value, e = .returned (.tuple #[v0_, v1_]) ∧ Kd.S k97 97 w' w.heap.size (fun k_ => some k_ ≠ (v1_ : Value).ownBlock) v0_ r1 ∧ Kd.R (Kd.int .i64) 2 w' w.heap.size (fun _ => True) v1_ r2 ∧ Below w.heap.size w w' := by
 have HR0 := Aside0.mk hr0
 have HC0 := Aside0.mk hc0
 clear hr0 hc0
 have HR1 := Aside0.mk hr1
 have HC1 := Aside0.mk hc1
 clear hr1 hc1
 have HB := Aside0.mk (Below.refl w.heap.size w)
 have H : ((impl_arePlaces.f k l0).bind fun t234 => (if t234 = true then (if (l1.length : Int) > 8 then (some (([] : List (S97)),([] : List Int))) else ((impl_remap.f k l0 l1).bind fun bt235 => (some (bt235.1,bt235.2)))) else (some (([] : List (S97)),([] : List Int))))) = some (r1,r2) := h
 clear h
 replace H := Option.bind_eq_some_iff.mp H
 obtain ⟨t234,A30,H⟩ := H
 replace H : (if t234 = true then (if (l1.length : Int) > 8 then (some (([] : List (S97)),([] : List Int))) else ((impl_remap.f k l0 l1).bind fun bt235 => (some (bt235.1,bt235.2)))) else (some (([] : List (S97)),([] : List Int)))) = some (r1,r2) := H
 have A3 := Aside0.mk A30
 clear A30
 by_cases c4 : t234 = true
 ·subst c4
  have H1 : (if (l1.length : Int) > 8 then (some (([] : List (S97)),([] : List Int))) else ((impl_remap.f k l0 l1).bind fun bt235 => (some (bt235.1,bt235.2)))) = some (r1,r2) := by rw [if_pos rfl] at H;exact H
  clear H
  have H := H1
  clear H1
  by_cases c5 : (l1.length : Int) > 8
  ·rw [if_pos c5] at H
   have c5b0 : decide (8 < (l1.length : Int)) = true := decide_eq_true c5
   have c5b1 : decide (8 < l1.length) = true := decide_eq_true (by omega)
   clear c5
   simp only [Option.some.injEq,Prod.mk.injEq] at H
   obtain ⟨rfl,rfl⟩ := H
   go_enter Try.func70,Try.ntmps70
   go_wp2_with (first|((with_reducible refine gcal_ (f := 98) rfl ?_);refine goesL_ (some 7) rfl rfl Try.func98 (by kernel_rfl) rfl #[.slice A0 l0.length c0] rfl (by (try simp only [List.map_toArray,List.map_cons,List.map_nil]);first|done|rfl|(simp only [List.length_drop,List.length_take];rfl)) ?_;(with_reducible refine (impl_arePlaces.calls k _ _ l0 true _ ?side1 ?side2 A3.out).mono ?_);(case side1 => repeat (first|exact HR0.out|(with_reducible refine Kd.C_alloc ?_ _)|(with_reducible refine Kd.C_drewN ?_ _)|(with_reducible refine Kd.C_drew ?_)));(case side2 => exact HC0.out);rintro e w6 ⟨rfl,hb⟩;refine ⟨_,rfl,?_⟩;have n0_ := Aside0.mk (below_step (by repeat (first|(with_reducible first|exact HB.out|apply below_alloc|apply pw_below_drewN|apply below_drew1)|exact HB.out)) hb);clear HB;have HB := n0_;clear n0_;(try clear hb);(try clear hb2);(try clear hk);(try clear hi)))
   go_ret2
   exact ⟨_,_,by first|rfl|(simp [errW_none,errW_some] <;> rfl)|(simp [*,errW_none,errW_some] <;> rfl),by first|exact Kd.S_nil _ _ _ _ _|exact Kd.N_nil _ _ _ _ _|exact Kd.V_nil _ _ _ _ _|exact Kd.Q_nil _ _ _ _ _|exact Kd.R_nil _ _ _ _ _,by first|exact Kd.R_nil _ _ _ _ _|exact Kd.N_nil _ _ _ _ _|exact Kd.V_nil _ _ _ _ _|exact Kd.Q_nil _ _ _ _ _|exact Kd.S_nil _ _ _ _ _,by repeat (first|(with_reducible first|exact HB.out|apply below_alloc|apply pw_below_drewN|apply below_drew1)|exact HB.out)⟩
  ·rw [if_neg c5] at H
   have c5b0 : decide (8 < (l1.length : Int)) = false := decide_eq_false c5
   have c5b1 : decide (8 < l1.length) = false := decide_eq_false (by omega)
   clear c5
   replace H := Option.bind_eq_some_iff.mp H
   obtain ⟨⟨t235,t236⟩,A70,H⟩ := H
   replace H : (some (t235,t236)) = some (r1,r2) := H
   have A7 := Aside0.mk A70
   clear A70
   simp only [Option.some.injEq,Prod.mk.injEq] at H
   obtain ⟨rfl,rfl⟩ := H
   go_enter Try.func70,Try.ntmps70
   go_wp2_with (first|((with_reducible refine gcal_ (f := 98) rfl ?_);refine goesL_ (some 7) rfl rfl Try.func98 (by kernel_rfl) rfl #[.slice A0 l0.length c0] rfl (by (try simp only [List.map_toArray,List.map_cons,List.map_nil]);first|done|rfl|(simp only [List.length_drop,List.length_take];rfl)) ?_;(with_reducible refine (impl_arePlaces.calls k _ _ l0 true _ ?side1 ?side2 A3.out).mono ?_);(case side1 => repeat (first|exact HR0.out|(with_reducible refine Kd.C_alloc ?_ _)|(with_reducible refine Kd.C_drewN ?_ _)|(with_reducible refine Kd.C_drew ?_)));(case side2 => exact HC0.out);rintro e w8 ⟨rfl,hb⟩;refine ⟨_,rfl,?_⟩;have n0_ := Aside0.mk (below_step (by repeat (first|(with_reducible first|exact HB.out|apply below_alloc|apply pw_below_drewN|apply below_drew1)|exact HB.out)) hb);clear HB;have HB := n0_;clear n0_;(try clear hb);(try clear hb2);(try clear hk);(try clear hi))|((with_reducible refine gcal_ (f := 120) rfl ?_);refine goesL_ (some 16) rfl rfl Try.func120 (by kernel_rfl) rfl #[.slice A0 l0.length c0,.slice A1 l1.length c1] rfl (by (try simp only [List.map_toArray,List.map_cons,List.map_nil]);first|done|rfl|(simp only [List.length_drop,List.length_take];rfl)) ?_;(with_reducible refine (impl_remap.calls k _ _ l0 _ _ l1 t235 t236 _ ?side1 ?side2 ?side3 ?side4 A7.out).mono ?_);(case side1 => repeat (first|exact (Kd.C_below HR0.out HB.out)|(with_reducible refine Kd.C_alloc ?_ _)|(with_reducible refine Kd.C_drewN ?_ _)|(with_reducible refine Kd.C_drew ?_)));(case side2 => exact HC0.out);(case side3 => repeat (first|exact (Kd.C_below HR1.out HB.out)|(with_reducible refine Kd.C_alloc ?_ _)|(with_reducible refine Kd.C_drewN ?_ _)|(with_reducible refine Kd.C_drew ?_)));(case side4 => exact HC1.out);rintro e w9 ⟨v237,v239,rfl,ho0,ho1,hb⟩;refine ⟨_,rfl,?_⟩;have n0_ := Aside0.mk (Kd.S_lower ho0 (below_size (by repeat (first|(with_reducible first|exact HB.out|apply below_alloc|apply pw_below_drewN|apply below_drew1)|exact HB.out))));have n1_ := Aside0.mk (Kd.R_lower ho1 (below_size (by repeat (first|(with_reducible first|exact HB.out|apply below_alloc|apply pw_below_drewN|apply below_drew1)|exact HB.out))));have n2_ := Aside0.mk (below_step (by repeat (first|(with_reducible first|exact HB.out|apply below_alloc|apply pw_below_drewN|apply below_drew1)|exact HB.out)) hb);clear HB;have HO238 := n0_;have HO240 := n1_;have HB := n2_;clear n0_ n1_ n2_;(try clear hb);(try clear hb2);(try clear hk);(try clear hi);(try clear ho0);(try clear ho1)))
   go_ret2
   exact ⟨_,_,by first|rfl|(simp [errW_none,errW_some] <;> rfl)|(simp [*,errW_none,errW_some] <;> rfl),by (with_reducible repeat (first|apply Kd.S_alloc|apply Kd.S_drewN|apply Kd.S_drew));exact HO238.out,by (with_reducible repeat (first|apply Kd.R_alloc|apply Kd.R_drewN|apply Kd.R_drew));exact HO240.out,by repeat (first|(with_reducible first|exact HB.out|apply below_alloc|apply pw_below_drewN|apply below_drew1)|exact HB.out)⟩
 ·replace c4 := Bool.eq_false_iff.mpr c4
  subst c4
  have H1 : (some (([] : List (S97)),([] : List Int))) = some (r1,r2) := by rw [if_neg (show ¬ (false = true) by decide)] at H;exact H
  clear H
  have H := H1
  clear H1
  simp only [Option.some.injEq,Prod.mk.injEq] at H
  obtain ⟨rfl,rfl⟩ := H
  go_enter Try.func70,Try.ntmps70
  go_wp2_with (first|((with_reducible refine gcal_ (f := 98) rfl ?_);refine goesL_ (some 7) rfl rfl Try.func98 (by kernel_rfl) rfl #[.slice A0 l0.length c0] rfl (by (try simp only [List.map_toArray,List.map_cons,List.map_nil]);first|done|rfl|(simp only [List.length_drop,List.length_take];rfl)) ?_;(with_reducible refine (impl_arePlaces.calls k _ _ l0 false _ ?side1 ?side2 A3.out).mono ?_);(case side1 => repeat (first|exact HR0.out|(with_reducible refine Kd.C_alloc ?_ _)|(with_reducible refine Kd.C_drewN ?_ _)|(with_reducible refine Kd.C_drew ?_)));(case side2 => exact HC0.out);rintro e w10 ⟨rfl,hb⟩;refine ⟨_,rfl,?_⟩;have n0_ := Aside0.mk (below_step (by repeat (first|(with_reducible first|exact HB.out|apply below_alloc|apply pw_below_drewN|apply below_drew1)|exact HB.out)) hb);clear HB;have HB := n0_;clear n0_;(try clear hb);(try clear hb2);(try clear hk);(try clear hi)))
  go_ret2
  exact ⟨_,_,by first|rfl|(simp [errW_none,errW_some] <;> rfl)|(simp [*,errW_none,errW_some] <;> rfl),by first|exact Kd.S_nil _ _ _ _ _|exact Kd.N_nil _ _ _ _ _|exact Kd.V_nil _ _ _ _ _|exact Kd.Q_nil _ _ _ _ _|exact Kd.R_nil _ _ _ _ _,by first|exact Kd.R_nil _ _ _ _ _|exact Kd.N_nil _ _ _ _ _|exact Kd.V_nil _ _ _ _ _|exact Kd.Q_nil _ _ _ _ _|exact Kd.S_nil _ _ _ _ _,by repeat (first|(with_reducible first|exact HB.out|apply below_alloc|apply pw_below_drewN|apply below_drew1)|exact HB.out)⟩

/-! ### laws_eqBoolS: function 71 -/
def laws_eqBoolS.l0 : Nat → List Bool → List Bool → Int → Option (Bool)
  | 0, _, _, _ => none
  | k + 1, x0, x1, x5 => if x5 < (x0.length : Int) then (if 0 ≤ x5 then (if x5 < (x1.length : Int) then (if ((rdOf false x0 x5) != (rdOf false x1 x5)) = true then (some false) else (laws_eqBoolS.l0 k x0 x1 (wrap64 (x5 + 1)))) else (none)) else (none)) else (some true)
def laws_eqBoolS.f (k : Nat) (l0 : List Bool) (l1 : List Bool) : Option (Bool) := if (l0.length : Int) = (l1.length : Int) then (laws_eqBoolS.l0 k l0 l1 0) else (some false)

set_option maxHeartbeats 8000000 in
set_option maxRecDepth 100000 in
theorem laws_eqBoolS.calls (k : Nat) (A0 : Option Addr) (c0 : Nat) (l0 : List Bool) (A1 : Option Addr) (c1 : Nat) (l1 : List Bool) (r : Bool) (w : World) (hr0 : Kd.C Kd.bool w A0 l0.length l0) (hc0 : l0.length ≤ c0) (hr1 : Kd.C Kd.bool w A1 l1.length l1) (hc1 : l1.length ≤ c1) (h : laws_eqBoolS.f k l0 l1 = some r) :
    Calls Try.prog 71 #[.slice A0 l0.length c0, .slice A1 l1.length c1] w fun e w' => e = .returned (.bool r) ∧ Drawn0 w w' := by
 have HR0 := Aside0.mk hr0
 have HC0 := Aside0.mk hc0
 clear hr0 hc0
 have HR1 := Aside0.mk hr1
 have HC1 := Aside0.mk hc1
 clear hr1 hc1
 have H : (if (l0.length : Int) = (l1.length : Int) then (laws_eqBoolS.l0 k l0 l1 0) else (some false)) = some r := h
 clear h
 by_cases c3 : (l0.length : Int) = (l1.length : Int)
 ·rw [if_pos c3] at H
  have c3b0 : ((l0.length : Int) == (l1.length : Int)) = true := beq_iff_eq.mpr c3
  have c3b1 : ((l0.length : Int) != (l1.length : Int)) = false := bne_eq_false_iff_eq.mpr c3
  have c3b2 : (l0.length == l1.length) = true := by first|simpa using c3|(simp at c3 ⊢;omega)
  clear c3
  have H' := Aside0.mk H
  clear H
  go_enter Try.func71,Try.ntmps71
  go_wp2
  repeat (go_quiet (fail);try go_wp2)
  go_loopg [5] k (fun kq v5 w' => ∃ (x5_1 : Int),v5 = .int .i64 x5_1 ∧ Aside0 (laws_eqBoolS.l0 kq l0 l1 x5_1 = some r) ∧ Aside0 (kq ≤ k) ∧ Drawn0 w w')
  case atStart => exact ⟨(0),(by first|rfl|(simp;done)|(simp [*];done)),H',⟨Nat.le_refl _⟩,by repeat (first|exact Drawn0.refl _|apply Drawn0.step)⟩
  case round =>
   clear H'
   try clear c1
   try clear p2
   try clear c3
   try clear c3b0
   try clear c3b1
   try clear c3b2
   obtain ⟨x5_1,rfl,HA,HK1,⟨m1,rfl⟩⟩ := hrel
   cases gk with
   | zero => exact absurd HA.out (by simp [laws_eqBoolS.l0])
   | succ k1 =>
    have H := HA.out
    clear HA
    simp only [laws_eqBoolS.l0] at H
    by_cases c4 : x5_1 < (l0.length : Int)
    ·rw [if_pos c4] at H
     have c4b0 : decide (x5_1 < (l0.length : Int)) = true := decide_eq_true c4
     clear c4
     by_cases c5 : 0 ≤ x5_1
     ·rw [if_pos c5] at H
      have c5b0 : decide (0 ≤ x5_1) = true := decide_eq_true c5
      clear c5
      by_cases c6 : x5_1 < (l1.length : Int)
      ·rw [if_pos c6] at H
       have c6b0 : decide (x5_1 < (l1.length : Int)) = true := decide_eq_true c6
       clear c6
       by_cases c7 : ((rdOf false l0 x5_1) != (rdOf false l1 x5_1)) = true
       ·rw [if_pos c7] at H
        have c7b0 : ((rdOf false l0 x5_1) != (rdOf false l1 x5_1)) = true := c7
        (try (have c7b1 : decide ((rdOf false l0 x5_1) = (rdOf false l1 x5_1)) = false := by simpa using c7))
        (try (have c7b2 : ((rdOf false l0 x5_1) == (rdOf false l1 x5_1)) = false := by simpa using c7))
        (try (have c7b3 : ¬ ((rdOf false l0 x5_1) = (rdOf false l1 x5_1)) := by simpa using c7))
        clear c7
        obtain rfl := Option.some.inj H
        have p241 : 0 ≤ (x5_1 : Int) := of_decide_eq_true (by first|(with_reducible assumption)|assumption)
        have q241 : x5_1 < (l0.length : Int) := of_decide_eq_true (by first|(with_reducible assumption)|assumption)
        obtain ⟨ad241,e241,hx241_0⟩ := Kd.at_bool HR0.out x5_1 p241 q241
        cases e241
        replace p241 := eq_true p241
        replace q241 := eq_true q241
        have p242 : 0 ≤ (x5_1 : Int) := of_decide_eq_true (by first|(with_reducible assumption)|assumption)
        have q242 : x5_1 < (l1.length : Int) := of_decide_eq_true (by first|(with_reducible assumption)|assumption)
        obtain ⟨ad242,e242,hx242_0⟩ := Kd.at_bool HR1.out x5_1 p242 q242
        cases e242
        replace p242 := eq_true p242
        replace q242 := eq_true q242
        go_wp2
        repeat (go_quiet (fail);try go_wp2)
        go_ret
        exact ⟨by first|rfl|(simp;done)|(simp [*];done),by repeat (first|exact Drawn0.refl _|apply Drawn0.step)⟩
       ·rw [if_neg c7] at H
        have c7b0 : ((rdOf false l0 x5_1) != (rdOf false l1 x5_1)) = false := by simpa using c7
        (try (have c7b1 : decide ((rdOf false l0 x5_1) = (rdOf false l1 x5_1)) = true := by simpa using c7))
        (try (have c7b2 : ((rdOf false l0 x5_1) == (rdOf false l1 x5_1)) = true := by simpa using c7))
        clear c7
        have H' := Aside0.mk H
        clear H
        have p241 : 0 ≤ (x5_1 : Int) := of_decide_eq_true (by first|(with_reducible assumption)|assumption)
        have q241 : x5_1 < (l0.length : Int) := of_decide_eq_true (by first|(with_reducible assumption)|assumption)
        obtain ⟨ad241,e241,hx241_0⟩ := Kd.at_bool HR0.out x5_1 p241 q241
        cases e241
        replace p241 := eq_true p241
        replace q241 := eq_true q241
        have p242 : 0 ≤ (x5_1 : Int) := of_decide_eq_true (by first|(with_reducible assumption)|assumption)
        have q242 : x5_1 < (l1.length : Int) := of_decide_eq_true (by first|(with_reducible assumption)|assumption)
        obtain ⟨ad242,e242,hx242_0⟩ := Kd.at_bool HR1.out x5_1 p242 q242
        cases e242
        replace p242 := eq_true p242
        replace q242 := eq_true q242
        go_wp2
        repeat (go_quiet (fail);try go_wp2)
        go_roundg k1
        case measure => have := HK1.out;omega
        case rel => exact ⟨(wrap64 (x5_1 + 1)),(by first|rfl|(simp;done)|(simp [*];done)),H',⟨by have := HK1.out;omega⟩,by repeat (first|exact Drawn0.refl _|apply Drawn0.step)⟩
      ·rw [if_neg c6] at H
       exact absurd H (by simp)
     ·rw [if_neg c5] at H
      exact absurd H (by simp)
    ·rw [if_neg c4] at H
     have c4b0 : decide (x5_1 < (l0.length : Int)) = false := decide_eq_false c4
     clear c4
     obtain rfl := Option.some.inj H
     go_wp2
     repeat (go_quiet (fail);try go_wp2)
     go_ret
     exact ⟨by first|rfl|(simp;done)|(simp [*];done),by repeat (first|exact Drawn0.refl _|apply Drawn0.step)⟩
 ·rw [if_neg c3] at H
  have c3b0 : ((l0.length : Int) == (l1.length : Int)) = false := beq_eq_false_iff_ne.mpr c3
  have c3b1 : ((l0.length : Int) != (l1.length : Int)) = true := bne_iff_ne.mpr c3
  have c3b2 : (l0.length == l1.length) = false := by first|simpa using c3|(simp at c3 ⊢;omega)
  obtain rfl := Option.some.inj H
  go_enter Try.func71,Try.ntmps71
  go_wp2
  repeat (go_quiet (fail);try go_wp2)
  go_ret
  exact ⟨by first|rfl|(simp;done)|(simp [*];done),by repeat (first|exact Drawn0.refl _|apply Drawn0.step)⟩

/-! ### laws_markBoolS: function 72 -/
def laws_markBoolS.l0 : Nat → List Bool → Int → Int → Option (Int × List Bool)
  | 0, _, _, _ => none
  | k + 1, x0, x1, x5 => if x5 < (x0.length : Int) then (if 0 ≤ x5 then (laws_markBoolS.l0 k (x0.set (x5 : Int).toNat ((Int.tmod x1 3) == 0)) (wrap64 (x1 + 1)) (wrap64 (x5 + 1))) else (none)) else (some (x1, x0))
def laws_markBoolS.f (k : Nat) (l0 : List Bool) (a1 : Int) : Option (Int × List Bool) := laws_markBoolS.l0 k l0 a1 0

set_option maxHeartbeats 8000000 in
set_option maxRecDepth 100000 in
theorem laws_markBoolS.calls (k : Nat) (P0_ : Nat → Prop) (u9000_ : Value) (l0 : List Bool) (a1 : Int) (r1 : Int) (r2 : List Bool) (w0 w : World) (hB : Below w0.heap.size w0 w) (ho0 : Kd.R Kd.bool 4 w w0.heap.size P0_ u9000_ l0) (h : laws_markBoolS.f k l0 a1 = some (r1, r2)) :
    Calls Try.prog 72 #[u9000_, .int .i64 a1] w fun e w' => e = .returned (.int .i64 r1) ∧ Kd.R Kd.bool 4 w' w0.heap.size (fun k_ => (P0_ k_ ∨ w.heap.size ≤ k_)) u9000_ r2 ∧ Below w0.heap.size w0 w' ∧ Kept w w' (fun k_ => P0_ k_) := by
 have HO0 := Aside0.mk (show Kd.R Kd.bool 4 w w0.heap.size (fun k_ => (P0_ k_ ∨ w.heap.size ≤ k_)) u9000_ l0 from Kd.R_mono ho0 (fun k_ hk => (.inl hk)))
 have HK := Aside0.mk (Kept.refl w (fun k_ => P0_ k_))
 have HW0 := Aside0.mk hB.size
 have HB := Aside0.mk hB
 clear hB
 have H : (laws_markBoolS.l0 k l0 a1 0) = some (r1,r2) := h
 clear h
 have H' := Aside0.mk H
 clear H
 go_enter Try.func72,Try.ntmps72
 go_wp2
 go_loopg [1,5] k (fun kq v1 v5 w' => ∃ (x0_1 : List Bool) (x1_1 : Int) (x5_1 : Int),v1 = .int .i64 x1_1 ∧ v5 = .int .i64 x5_1 ∧ Aside0 (laws_markBoolS.l0 kq x0_1 x1_1 x5_1 = some (r1,r2)) ∧ Aside0 (kq ≤ k) ∧ Aside0 (Kd.R Kd.bool 4 w' w0.heap.size (fun k_ => (P0_ k_ ∨ w.heap.size ≤ k_)) u9000_ x0_1) ∧ Aside0 (Kept w w' (fun k_ => P0_ k_)) ∧ Aside0 (Below w0.heap.size w0 w'))
 case atStart => exact ⟨(l0),(a1),(0),(by first|rfl|(simp;done)|(simp [*];done)),(by first|rfl|(simp;done)|(simp [*];done)),H',⟨Nat.le_refl _⟩,⟨by (with_reducible repeat (first|apply Kd.R_alloc|apply Kd.R_drewN|apply Kd.R_drew));exact HO0.out⟩,⟨by repeat (first|(with_reducible first|exact HK.out|apply Kept.alloc|apply Kept.drewN|apply Kept.drew)|exact HK.out)⟩,⟨by repeat (first|(with_reducible first|exact HB.out|apply below_alloc|apply pw_below_drewN|apply below_drew1)|exact HB.out)⟩⟩
 case round =>
  clear H'
  try clear p2
  obtain ⟨x0_1,x1_1,x5_1,rfl,rfl,HA,HK1,HO_0,HK,HB⟩ := hrel
  cases gk with
    | zero => exact absurd HA.out (by simp [laws_markBoolS.l0])
    | succ k1 =>
   have H := HA.out
   clear HA
   simp only [laws_markBoolS.l0] at H
   by_cases c3 : x5_1 < (x0_1.length : Int)
   ·rw [if_pos c3] at H
    have c3b0 : decide (x5_1 < (x0_1.length : Int)) = true := decide_eq_true c3
    clear c3
    by_cases c4 : 0 ≤ x5_1
    ·rw [if_pos c4] at H
     have c4b0 : decide (0 ≤ x5_1) = true := decide_eq_true c4
     clear c4
     obtain ⟨y243,hy243⟩ : ∃ y_ : List Bool,y_ = (x0_1.set (x5_1 : Int).toNat ((Int.tmod x1_1 3) == 0)) := ⟨_,rfl⟩
     replace H : (laws_markBoolS.l0 k1 y243 (wrap64 (x1_1 + 1)) (wrap64 (x5_1 + 1))) = some (r1,r2) := by first|(rw [hy243];with_reducible exact H)|(have H2_ := (Option.bind_some _ _).symm.trans H;rw [hy243];with_reducible exact H2_)|(have H2_ := (Option.bind_some _ _).symm.trans H;with_reducible exact H2_)|with_reducible exact H|(rw [hy243];exact H)|exact H
     have Ny243 := Aside0.mk hy243
     clear hy243
     have H' := Aside0.mk H
     clear H
     obtain ⟨Ao6,co6,eo6⟩ := Kd.R_slice HO_0.out
     subst eo6
     have p5 : 0 ≤ (x5_1 : Int) := of_decide_eq_true (by first|(with_reducible assumption)|assumption)
     have q5 : (x5_1 : Int) < ((x0_1.length : Int) : Int) := of_decide_eq_true (by first|(with_reducible assumption)|assumption)
     obtain ⟨go5,co5,eo5,gb5,gl5,cl5,HG5⟩ := Kd.R_form HO_0.out (by omega)
     (first|cases eo5|(injection eo5 with ea_ en_ ec_;(first|subst ea_|(injection ea_ with ea_;subst ea_));subst ec_;clear en_))
     have GB5 := Aside0.mk gb5
     have GG5 := Aside0.mk HG5
     clear gb5 gl5 HG5
     have HMgo5 := Aside0.mk (show (P0_ go5 ∨ w.heap.size ≤ go5) from (HO_0.out.1 _ rfl))
     obtain ⟨hx5_0,hf5_0⟩ := Kd.R_celln false HO_0.out (x5_1 : Int) p5 q5
     replace p5 := eq_true p5
     replace q5 := eq_true q5
     have HP7 := Kd.R_putg HO_0.out (x5_1 : Int) ((Int.tmod x1_1 3) == 0)
     go_wp2_with (first|((with_reducible refine gate_store (t := 4) (p := 17) rfl ?_);refine store_event (t := 4) (p := 17) (v := ?vo_w8) (w1 := (wr.setCell ⟨go5,(x5_1 : Int).toNat,none⟩ (.bool ((Int.tmod x1_1 3) == 0)))) ?hg ?ho ?hn ?hr ?_;(case ho => rfl);(case hg => rfl);(case hn => rfl);(case hr => first|(go_simp;done)|(go_simp;rfl)|(obtain ⟨_,_,e_⟩ := Kd.R_slice HO_0.out;subst e_;first|(go_simp;done)|(go_simp;rfl)));intro w8 hw;have hg : wr.grownBy w8 (some go5) := (by rw [hw];exact HP7.2);have hp_ : Kd.R Kd.bool 4 w8 w0.heap.size (fun k_ => (P0_ k_ ∨ w.heap.size ≤ k_)) (.slice (some ⟨go5,0,none⟩) x0_1.length co6) y243 := (by rw [hw,Ny243.out];exact HP7.1);clear HP7;have n0_ := Aside0.mk (hp_);have n1_ := Aside0.mk ((by rw [hw];exact below_set (HB.out) GB5.out : Below w0.heap.size w0 w8));have n2_ := Aside0.mk (Kept.of_grown (S := (fun k_ => P0_ k_)) hg (by repeat (first|(with_reducible first|exact HK.out|apply Kept.alloc|apply Kept.drewN|apply Kept.drew)|exact HK.out)) (fun k_ e_ => (HO_0.out.1 k_ e_)));clear HO_0;clear HB;clear HK;have HO_0 := n0_;have HB := n1_;have HK := n2_;clear n0_ n1_ n2_;clear hg hw hp_))
     go_roundg k1
     case measure => have := HK1.out;omega
     case rel => exact ⟨(y243),(wrap64 (x1_1 + 1)),(wrap64 (x5_1 + 1)),(by first|rfl|(simp;done)|(simp [*];done)),(by first|rfl|(simp;done)|(simp [*];done)),H',⟨by have := HK1.out;omega⟩,⟨by (with_reducible repeat (first|apply Kd.R_alloc|apply Kd.R_drewN|apply Kd.R_drew));exact HO_0.out⟩,⟨by repeat (first|(with_reducible first|exact HK.out|apply Kept.alloc|apply Kept.drewN|apply Kept.drew)|exact HK.out)⟩,⟨by repeat (first|(with_reducible first|exact HB.out|apply below_alloc|apply pw_below_drewN|apply below_drew1)|exact HB.out)⟩⟩
    ·rw [if_neg c4] at H
     exact absurd H (by simp)
   ·rw [if_neg c3] at H
    have c3b0 : decide (x5_1 < (x0_1.length : Int)) = false := decide_eq_false c3
    clear c3
    simp only [Option.some.injEq,Prod.mk.injEq] at H
    obtain ⟨rfl,rfl⟩ := H
    obtain ⟨Ao9,co9,eo9⟩ := Kd.R_slice HO_0.out
    subst eo9
    go_wp2
    go_ret
    exact ⟨by first|rfl|(simp [errW_none,errW_some] <;> rfl)|(simp [*,errW_none,errW_some] <;> rfl),by (with_reducible repeat (first|apply Kd.R_alloc|apply Kd.R_drewN|apply Kd.R_drew));exact HO_0.out,by repeat (first|(with_reducible first|exact HB.out|apply below_alloc|apply pw_below_drewN|apply below_drew1)|exact HB.out),by repeat (first|(with_reducible first|exact HK.out|apply Kept.alloc|apply Kept.drewN|apply Kept.drew)|exact HK.out)⟩

end Go.Proofs.Ytodgacnioeoogaa.XRm
