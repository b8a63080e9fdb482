/- Proved: of each Go function here that a call comes to what the Lean function of its name tells. Written by a program of this session over the translation. No conditions beyond each theorem's own. -/
import Derived.Test.YtgdfbjmjgegicaaXPs0
import Derived.Test.YtgdfbjmjgegicaaXPs3
namespace Go.Proofs.Ytgdfbjmjgegicaa.XPs
open Go.RowKit Go.Proofs.Ytgdfbjmjgegicaa.Aid Go.Proofs.YtgdfbjmjgegicaaW.PrintWords Go.Proofs.YtgdfbjmjgegicaaW.PrintLast Go.Proofs.YtgdfbjmjgegicaaW.PrintMore
set_option linter.unusedVariables false
set_option linter.unusedSimpArgs false

/-! ### impl_remap: function 96 -/
mutual
def impl_remap.l0 : Nat → List (S84) → List Int → List (S84) → Int → Int → List Bool → Option ((List (S84)) × List Int)
  | 0, _, _, _, _, _, _ => none
  | k + 1, x6, x7, x16, x17, x18, x193000 => if x18 < x17 then (if 0 ≤ x18 then (if x18 < (x16.length : Int) then (impl_remap.l1 k x6 x7 x18 x16 x17 x18 ((rd_T84 x16 x18).f0) (((rd_T84 x16 x18).f0).length : Int) 0 x193000 ((rd_T84 x16 x18).f0) ([] : List Int)) else (none)) else (none)) else (some (x6, x7))
def impl_remap.l1 : Nat → List (S84) → List Int → Int → List (S84) → Int → Int → List Int → Int → Int → List Bool → List Int → List Int → Option ((List (S84)) × List Int)
  | 0, _, _, _, _, _, _, _, _, _, _, _, _ => none
  | k + 1, x6, x7, x9, x16, x17, x18, x24, x25, x26, x193000, x195000, x196000 => if x26 < x25 then (if 0 ≤ x26 then (if x26 < (x24.length : Int) then ((impl_remap_1.f (rd x24 x26) x193000).bind fun t197 => (if t197 = true then (if x196000.length < 17592186044416 then (impl_remap.l1 k x6 x7 x9 x16 x17 x18 x24 x25 (wrap64 (x26 + 1)) x193000 x195000 (x196000 ++ [rd x24 x26])) else (none)) else (impl_remap.l1 k x6 x7 x9 x16 x17 x18 x24 x25 (wrap64 (x26 + 1)) x193000 x195000 x196000))) else (none)) else (none)) else (if (x196000.length : Int) = 0 then (if x7.length < 17592186044416 then ((slices_Clone_int64_int64.f x195000).bind fun t204 => (if x6.length < 5864062014805 then (impl_remap.l0 k (x6 ++ [(⟨t204⟩ : S84)]) (x7 ++ [x9]) x16 x17 (wrap64 (x18 + 1)) x193000) else (none))) else (none)) else ((impl_size_bool.f x193000).bind fun t210 => (impl_remap.l2 k x6 x7 x16 x17 x18 t210 0 x193000 x196000)))
def impl_remap.l2 : Nat → List (S84) → List Int → List (S84) → Int → Int → Int → Int → List Bool → List Int → Option ((List (S84)) × List Int)
  | 0, _, _, _, _, _, _, _, _, _ => none
  | k + 1, x6, x7, x16, x17, x18, x56, x57, x193000, x196000 => if x57 < x56 then (if 0 ≤ x57 then (if x57 < (x193000.length : Int) then (if rdOf false x193000 x57 = true then (if (x196000.length : Int) < 3 then ((slices_Contains_int64_int64.f k x196000 x57).bind fun t212 => (if t212 = true then (impl_remap.l2 k x6 x7 x16 x17 x18 x56 (wrap64 (x57 + 1)) x193000 x196000) else (if x196000.length < 17592186044416 then (impl_remap.l2 k x6 x7 x16 x17 x18 x56 (wrap64 (x57 + 1)) x193000 (x196000 ++ [x57])) else (none)))) else (impl_remap.l2 k x6 x7 x16 x17 x18 x56 (wrap64 (x57 + 1)) x193000 x196000)) else (impl_remap.l2 k x6 x7 x16 x17 x18 x56 (wrap64 (x57 + 1)) x193000 x196000)) else (none)) else (none)) else (if x6.length < 5864062014805 then (impl_remap.l0 k (x6 ++ [(⟨x196000⟩ : S84)]) x7 x16 x17 (wrap64 (x18 + 1)) x193000) else (none))
end
def impl_remap.f (k : Nat) (l0 : List (S84)) (l1 : List Bool) : Option ((List (S84)) × List Int) := impl_remap.l0 k ([] : List (S84)) ([] : List Int) l0 (l0.length : Int) 0 l1

set_option maxHeartbeats 8000000 in
set_option maxRecDepth 100000 in
theorem impl_remap.calls (k : Nat) (A0 : Option Addr) (c0 : Nat) (l0 : List (S84)) (A1 : Option Addr) (c1 : Nat) (l1 : List Bool) (r1 : List (S84)) (r2 : List Int) (w : World) (hr0 : Kd.C k84 w A0 l0.length l0) (hc0 : l0.length ≤ c0) (hr1 : Kd.C Kd.bool w A1 l1.length l1) (hc1 : l1.length ≤ c1) (h : impl_remap.f k l0 l1 = some (r1, r2)) :
    Calls Try.prog 96 #[.slice A0 l0.length c0, .slice A1 l1.length c1] w fun e w' => ∃ v0_ v1_ : Value, e = .returned (.tuple #[v0_, v1_]) ∧ Kd.S k84 84 w' w.heap.size (fun k_ => some k_ ≠ (v1_ : Value).ownBlock) v0_ r1 ∧ Kd.R (Kd.int .i64) 2 w' w.heap.size (fun _ => True) v1_ r2 ∧ Below w.heap.size w w' := by
 have hu84 := Try.underlying84
 have HR0 := Aside0.mk hr0
 have HC0 := Aside0.mk hc0
 clear hr0 hc0
 have HR1 := Aside0.mk hr1
 have HC1 := Aside0.mk hc1
 clear hr1 hc1
 have HB := Aside0.mk (Below.refl w.heap.size w)
 have H : (impl_remap.l0 k ([] : List (S84)) ([] : List Int) l0 (l0.length : Int) 0 l1) = some (r1,r2) := h
 clear h
 have H' := Aside0.mk H
 clear H
 go_enter Try.func96,Try.ntmps96
 go_wp2_with (first|((with_reducible refine gate_dst (N := 3) rfl ?_);(try (refine gate_guard (by rfl) ?_;dsimp only));refine bx_ 3 #[.slice A1 l1.length c1] 71 ?_;intro gb192 hg w3 hbox hb;replace HB := nb_ hg hbox hb;obtain ⟨BK192,GW192,GE192,HB⟩ := HB;clear hb hbox hg))
 go_loopg [6,7,18] k (fun kq v6 v7 v18 w' => ∃ (x6_1 : List (S84)) (x7_1 : List Int) (x18_1 : Int),v18 = .int .i64 x18_1 ∧ Aside0 (impl_remap.l0 kq x6_1 x7_1 l0 (l0.length : Int) x18_1 l1 = some (r1,r2)) ∧ Aside0 (kq ≤ k) ∧ Aside0 (Kd.S k84 84 w' w.heap.size (fun k_ => some k_ ≠ (v7 : Value).ownBlock) v6 x6_1) ∧ Aside0 (Kd.R (Kd.int .i64) 2 w' w.heap.size (fun _ => True) v7 x7_1) ∧ Aside0 (w'.heap[gb192]? = some (.cells #[(.slice A1 l1.length c1)] 71 (0,0))) ∧ Aside0 (Below w.heap.size w w'))
 case atStart => exact ⟨(([] : List (S84))),(([] : List Int)),(0),rs_,H',⟨Nat.le_refl _⟩,⟨by first|exact Kd.S_nil _ _ _ _ _|exact Kd.N_nil _ _ _ _ _|exact Kd.V_nil _ _ _ _ _|exact Kd.Q_nil _ _ _ _ _|exact Kd.R_nil _ _ _ _ _⟩,⟨by first|exact Kd.R_nil _ _ _ _ _|exact Kd.N_nil _ _ _ _ _|exact Kd.V_nil _ _ _ _ _|exact Kd.Q_nil _ _ _ _ _|exact Kd.S_nil _ _ _ _ _⟩,⟨kb_ BK192⟩,⟨b_⟩⟩
 case round =>
  clear H'
  try clear c1
  try clear p2
  obtain ⟨x6_1,x7_1,x18_1,rfl,HA,HK1,HO_6,HO_7,BK192,HB⟩ := hrel
  cases gk with
    | zero => exact absurd HA.out (by simp [impl_remap.l0])
    | succ k1 =>
   have H := HA.out
   clear HA
   simp only [impl_remap.l0] at H
   by_cases c4 : x18_1 < (l0.length : Int)
   ·rw [if_pos c4] at H
    have c4b0 : decide (x18_1 < (l0.length : Int)) = true := decide_eq_true c4
    clear c4
    by_cases c5 : 0 ≤ x18_1
    ·rw [if_pos c5] at H
     have c5b0 : decide (0 ≤ x18_1) = true := decide_eq_true c5
     clear c5
     by_cases c6 : x18_1 < (l0.length : Int)
     ·rw [if_pos c6] at H
      have c6b0 : decide (x18_1 < (l0.length : Int)) = true := decide_eq_true c6
      clear c6
      have H' := Aside0.mk H
      clear H
      have p193 : 0 ≤ (x18_1 : Int) := od_
      have q193 : x18_1 < (l0.length : Int) := od_
      obtain ⟨ad193,A193_0,c193_0,e193,hx193_0,hl193_0,hi193_0⟩ := at_T84 HR0.out x18_1 p193 q193
      cases e193
      replace hx193_0 := hx_ HB hx193_0
      have HR193_0 := Aside0.mk hi193_0
      have HC193_0 := Aside0.mk hl193_0
      clear hi193_0 hl193_0
      replace p193 := eq_true p193
      replace q193 := eq_true q193
      go_wp2_with (first|((with_reducible refine gate_dst (N := 10) rfl ?_);(try (refine gate_guard (by rfl) ?_;dsimp only));refine bx_ 10 #[.slice none 0 0] 84 ?_;intro gb194 hg w7 hbox hb;replace HO_6 := Aside0.mk (Kd.S_below (Kd.S_elderB (by (with_reducible repeat (first|apply Kd.S_alloc|apply Kd.S_drewN|apply Kd.S_drew));exact HO_6.out) gb194 (Nat.le_of_eq hg.symm)) hb);replace HO_7 := Aside0.mk (Kd.R_below (by (with_reducible repeat (first|apply Kd.R_alloc|apply Kd.R_drewN|apply Kd.R_drew));exact HO_7.out) hb);replace HB := nb_ hg hbox hb;obtain ⟨BK194,GW194,GE194,HB⟩ := HB;have NB192_194 := Aside0.mk ((nl_ BK192 hg));have NB194_192 := Aside0.mk ((ng_ BK192 hg));replace BK192 := Aside0.mk (blk_below (kb_ BK192) hb);clear hb hbox hg;have hnb8 := NB194_192.out;have hnc8 := NB192_194.out;have hcz9_0 : w7.cell? ⟨gb194,0,none⟩ = some (.slice none 0 0) := (blk_cell BK194.out 0).trans rfl;have hfz9_0 := blk_frozen BK194.out 0)|((with_reducible refine gate_dst (N := 11) rfl ?_);(try (refine gate_guard (by rfl) ?_;dsimp only));refine bx_ 11 #[.slice none 0 0] 84 ?_;intro gb195 hg w10 hbox hb;replace HO_6 := Aside0.mk (Kd.S_below (Kd.S_elderB (by (with_reducible repeat (first|apply Kd.S_alloc|apply Kd.S_drewN|apply Kd.S_drew));exact (Kd.S_mono (Kd.S_far (p := ⟨gb194,0,none⟩) (Kd.S_mono HO_6.out (fun k_ hk => (⟨hk,hk.2⟩ : _ ∧ k_ ≠ gb194))) (fun _ hk => hk.2) (.slice A193_0 ((rd_T84 l0 x18_1).f0).length c193_0)) (fun _ h_ => h_.1))) gb195 (Nat.le_of_eq hg.symm)) hb);replace HO_7 := Aside0.mk (Kd.R_below (by (with_reducible repeat (first|apply Kd.R_alloc|apply Kd.R_drewN|apply Kd.R_drew));exact (Kd.R_mono (Kd.R_far (p := ⟨gb194,0,none⟩) (Kd.R_types HO_7.out BK194.out (by decide)) (fun _ hk => hk.2) (.slice A193_0 ((rd_T84 l0 x18_1).f0).length c193_0)) (fun _ h_ => h_.1))) hb);replace HB := nb_ hg hbox hb;obtain ⟨BK195,GW195,GE195,HB⟩ := HB;have NB192_195 := Aside0.mk ((by rw [hg];exact Nat.ne_of_lt (blk_lt (kf_ BK192)) : gb192 ≠ gb195));have NB195_192 := Aside0.mk ((by rw [hg];exact Nat.ne_of_gt (blk_lt (kf_ BK192)) : gb195 ≠ gb192));replace BK192 := Aside0.mk (blk_below (kf_ BK192) hb);have NB194_195 := Aside0.mk ((by rw [hg];exact Nat.ne_of_lt (blk_lt (g := gb194) (o := .cells #[.slice A193_0 ((rd_T84 l0 x18_1).f0).length c193_0] 84 (0,0)) (by (with_reducible repeat (first|refine blk_drewN ?_ _|refine blk_drew ?_|refine blk_alloc ?_ _));refine blk_put (cs := #[.slice none 0 0]) ?_ 0 _ rfl;(with_reducible repeat (first|refine blk_drewN ?_ _|refine blk_drew ?_|refine blk_alloc ?_ _));exact BK194.out)) : gb194 ≠ gb195));have NB195_194 := Aside0.mk ((by rw [hg];exact Nat.ne_of_gt (blk_lt (g := gb194) (o := .cells #[.slice A193_0 ((rd_T84 l0 x18_1).f0).length c193_0] 84 (0,0)) (by (with_reducible repeat (first|refine blk_drewN ?_ _|refine blk_drew ?_|refine blk_alloc ?_ _));refine blk_put (cs := #[.slice none 0 0]) ?_ 0 _ rfl;(with_reducible repeat (first|refine blk_drewN ?_ _|refine blk_drew ?_|refine blk_alloc ?_ _));exact BK194.out)) : gb195 ≠ gb194));replace BK194 := Aside0.mk (blk_below (g := gb194) (o := .cells #[.slice A193_0 ((rd_T84 l0 x18_1).f0).length c193_0] 84 (0,0)) (by (with_reducible repeat (first|refine blk_drewN ?_ _|refine blk_drew ?_|refine blk_alloc ?_ _));refine blk_put (cs := #[.slice none 0 0]) ?_ 0 _ rfl;(with_reducible repeat (first|refine blk_drewN ?_ _|refine blk_drew ?_|refine blk_alloc ?_ _));exact BK194.out) hb);clear hb hbox hg;have hnb11 := NB194_195.out;have hnc11 := NB195_194.out;have hcz12_0 : w10.cell? ⟨gb194,0,none⟩ = some (.slice A193_0 ((rd_T84 l0 x18_1).f0).length c193_0) := (blk_cell BK194.out 0).trans rfl;have hfz12_0 := blk_frozen BK194.out 0))
      go_loopg [26] k1 (fun kq v26 w' => ∃ (x26_2 : Int) (x196000_2 : List Int) (u196000 : Value),v26 = .int .i64 x26_2 ∧ Aside0 (impl_remap.l1 kq x6_1 x7_1 x18_1 l0 (l0.length : Int) x18_1 ((rd_T84 l0 x18_1).f0) (((rd_T84 l0 x18_1).f0).length : Int) x26_2 l1 ((rd_T84 l0 x18_1).f0) x196000_2 = some (r1,r2)) ∧ Aside0 (kq ≤ k1) ∧ Aside0 (Kd.S k84 84 w' w.heap.size (fun k_ => some k_ ≠ (u7 : Value).ownBlock ∧ some k_ ≠ (u196000 : Value).ownBlock ∧ k_ ≠ gb194 ∧ k_ ≠ gb195) u6 x6_1) ∧ Aside0 (Kd.R (Kd.int .i64) 2 w' w.heap.size (fun k_ => some k_ ≠ (u196000 : Value).ownBlock) u7 x7_1) ∧ Aside0 (Kd.R (Kd.int .i64) 2 w' w.heap.size (fun k_ => some k_ ≠ (u7 : Value).ownBlock) u196000 x196000_2) ∧ Aside0 (w'.heap[gb192]? = some (.cells #[(.slice A1 l1.length c1)] 71 (0,0))) ∧ Aside0 (w'.heap[gb194]? = some (.cells #[(.slice A193_0 ((rd_T84 l0 x18_1).f0).length c193_0)] 84 (0,0))) ∧ Aside0 (w'.heap[gb195]? = some (.cells #[u196000] 84 (0,0))) ∧ Aside0 (Below w.heap.size w w'))
      case atStart => exact ⟨(0),(([] : List Int)),(.slice none 0 0),rs_,H',⟨Nat.le_refl _⟩,⟨by (with_reducible repeat (first|apply Kd.S_alloc|apply Kd.S_drewN|apply Kd.S_drew));exact Kd.S_mono HO_6.out (fun _ hk => ⟨hk.1.1,⟨(by simp [Value.ownBlock]),⟨hk.1.2,hk.2⟩⟩⟩)⟩,⟨by (with_reducible repeat (first|apply Kd.R_alloc|apply Kd.R_drewN|apply Kd.R_drew));exact Kd.R_mono HO_7.out (fun _ hk => (by simp [Value.ownBlock]))⟩,⟨by first|exact Kd.R_nil _ _ _ _ _|exact Kd.N_nil _ _ _ _ _|exact Kd.V_nil _ _ _ _ _|exact Kd.Q_nil _ _ _ _ _|exact Kd.S_nil _ _ _ _ _⟩,⟨kb_ BK192⟩,⟨kb_ BK194⟩,⟨kb_ BK195⟩,⟨b_⟩⟩
      case round =>
       clear H'
       try clear c1
       try clear p1
       try clear q1
       try clear hx1
       try clear p2
       try clear c4
       try clear c4b0
       try clear c5
       try clear c5b0
       try clear c6
       try clear c6b0
       try clear c8
       try clear c9
       try clear c11
       try clear hcz12_0
       try clear hcz9_0
       try clear hfz12_0
       try clear hfz9_0
       try clear hx193_0
       try clear p193
       try clear p2
       try clear q193
       obtain ⟨x26_2,x196000_2,u196000,rfl,HA,HK2,HO_6,HO_7,HO_196000,BK192,BK194,BK195,HB⟩ := hrel
       cases gk with
       | zero => exact absurd HA.out (by simp [impl_remap.l1])
       | succ k2 =>
        have H := HA.out
        clear HA
        simp only [impl_remap.l1] at H
        by_cases c13 : x26_2 < (((rd_T84 l0 x18_1).f0).length : Int)
        ·rw [if_pos c13] at H
         have c13b0 : decide (x26_2 < (((rd_T84 l0 x18_1).f0).length : Int)) = true := decide_eq_true c13
         clear c13
         by_cases c14 : 0 ≤ x26_2
         ·rw [if_pos c14] at H
          have c14b0 : decide (0 ≤ x26_2) = true := decide_eq_true c14
          clear c14
          by_cases c15 : x26_2 < (((rd_T84 l0 x18_1).f0).length : Int)
          ·rw [if_pos c15] at H
           have c15b0 : decide (x26_2 < (((rd_T84 l0 x18_1).f0).length : Int)) = true := decide_eq_true c15
           clear c15
           replace H := bs_ H
           obtain ⟨t197,A16,H⟩ := H
           by_cases c17 : t197 = true
           ·subst c17
            replace H := it_ H
            by_cases c18 : x196000_2.length < 17592186044416
            ·rw [if_pos c18] at H
             have LMc18 := Aside0.mk c18
             clear c18
             obtain ⟨y198,hy198⟩ : ∃ y_ : List Int,y_ = (x196000_2 ++ [rd ((rd_T84 l0 x18_1).f0) x26_2]) := ⟨_,rfl⟩
             replace H : (impl_remap.l1 k2 x6_1 x7_1 x18_1 l0 (l0.length : Int) x18_1 ((rd_T84 l0 x18_1).f0) (((rd_T84 l0 x18_1).f0).length : Int) (wrap64 (x26_2 + 1)) l1 ((rd_T84 l0 x18_1).f0) y198) = some (r1,r2) := by first|(rw [hy198];with_reducible exact H)|(have H2_ := (Option.bind_some _ _).symm.trans H;rw [hy198];with_reducible exact H2_)|(have H2_ := (Option.bind_some _ _).symm.trans H;with_reducible exact H2_)|with_reducible exact H|(rw [hy198];exact H)|exact H
             have Ny198 := Aside0.mk hy198
             clear hy198
             have H' := Aside0.mk H
             clear H
             have p196 : 0 ≤ (x26_2 : Int) := od_
             have q196 : x26_2 < (((rd_T84 l0 x18_1).f0).length : Int) := od_
             obtain ⟨ad196,e196,hx196_0⟩ := Kd.at_int HR193_0.out x26_2 p196 q196
             cases e196
             replace hx196_0 := hx_ HB hx196_0
             replace p196 := eq_true p196
             replace q196 := eq_true q196
             go_wp2_with (first|(go_at_call 124;(with_reducible refine (impl_remap_1.calls (rd ((rd_T84 l0 x18_1).f0) x26_2) gb192 A1 c1 l1 true _ ?side1 ?side2 ?side3 A16.out).mono ?_);(case side1 => exact (blk_cell kk_ 0).trans rfl);(case side2 => exact cb_ HR1);(case side3 => exact HC1.out);rintro e w19 ⟨rfl,hb⟩;replace HO_6 := Aside0.mk (Kd.S_below (by (with_reducible repeat (first|apply Kd.S_alloc|apply Kd.S_drewN|apply Kd.S_drew));exact HO_6.out) hb);replace HO_7 := Aside0.mk (Kd.R_below (by (with_reducible repeat (first|apply Kd.R_alloc|apply Kd.R_drewN|apply Kd.R_drew));exact HO_7.out) hb);replace HO_196000 := Aside0.mk (Kd.R_below (by (with_reducible repeat (first|apply Kd.R_alloc|apply Kd.R_drewN|apply Kd.R_drew));exact HO_196000.out) hb);replace BK192 := Aside0.mk (blk_below (kb_ BK192) hb);replace BK194 := Aside0.mk (blk_below (kb_ BK194) hb);replace BK195 := Aside0.mk (blk_below (kb_ BK195) hb);replace HB := Aside0.mk (below_step b_ hb);(try clear hb);(try clear hb2);(try clear hk);(try clear hi);have hnb20 := NB195_192.out;have hnc20 := NB192_195.out;have hnb21 := NB195_194.out;have hnc21 := NB194_195.out;have hcz22_0 : w19.cell? ⟨gb195,0,none⟩ = some (u196000) := (blk_cell BK195.out 0).trans rfl;have hfz22_0 := blk_frozen BK195.out 0)|((with_reducible refine gblt_ (b := .append) (xs := #[.tmp 34,.tmp 36]) rfl ?_);(try (refine gate_guard (by rfl) ?_;dsimp only));at_builtin;refine Kd.R_append (Kd.int .i64) (w0 := w) w.heap.size rfl (.tmp 34) (.tmp 36) 35 2 (.int .i64 0) 8 rfl Try.underlying35 info2 rfl (by decide) (by omega) u196000 x196000_2 (rd ((rd_T84 l0 x18_1).f0) x26_2) [.int .i64 (rd ((rd_T84 l0 x18_1).f0) x26_2)] (fun k_ => some k_ ≠ (u7 : Value).ownBlock) (fun _ => False) rfl rfl ?aP (fun _ hk => hk.elim) ?aF ?aO ?aB ?aS ?aL ?_;(case aP => exact rfl);(case aB => exact b_);(case aF => exact (fun k_ hk => Kd.fresh' (Kd.R_lt (by (with_reducible repeat (first|apply Kd.R_alloc|apply Kd.R_drewN|apply Kd.R_drew));exact HO_7.out)) k_ hk));(case aO => exact (by (with_reducible repeat (first|apply Kd.R_alloc|apply Kd.R_drewN|apply Kd.R_drew));exact HO_196000.out));(case aS => exact (below_size b_));(case aL => have := LMc18.out;omega);intro v199 w23 ho hb hg hat;rw [← Ny198.out] at ho;replace HO_6 := Aside0.mk (Kd.S_after (ok := (fun k_ => some k_ ≠ (u7 : Value).ownBlock ∧ k_ ≠ gb194 ∧ k_ ≠ gb195)) (by (with_reducible repeat (first|apply Kd.S_alloc|apply Kd.S_drewN|apply Kd.S_drew));exact Kd.S_mono HO_6.out (fun _ hk => ⟨⟨hk.1,⟨hk.2.2.1,hk.2.2.2⟩⟩,hk.2.1⟩)) hg hat);replace HO_7 := Aside0.mk (Kd.R_after (ok := (fun _ => True)) (by (with_reducible repeat (first|apply Kd.R_alloc|apply Kd.R_drewN|apply Kd.R_drew));exact Kd.R_mono HO_7.out (fun _ hk => ⟨trivial,hk⟩)) hg hat);replace BK192 := Aside0.mk (blk_grown (kb_ BK192) hg (Kd.R_ne HO_196000.out BK192.out (by decide)));replace BK194 := Aside0.mk (blk_grown (kb_ BK194) hg (Kd.R_ne HO_196000.out BK194.out (by decide)));replace BK195 := Aside0.mk (blk_grown (kb_ BK195) hg (Kd.R_ne HO_196000.out BK195.out (by decide)));replace HB := Aside0.mk (hb);have HO200 := Aside0.mk (ho);clear HO_196000;clear ho hb hg hat;obtain ⟨Ao24,co24,eo24⟩ := Kd.R_slice HO200.out;subst eo24;have hcz25_0 : w23.cell? ⟨gb195,0,none⟩ = some (u196000) := (blk_cell BK195.out 0).trans rfl;have hfz25_0 := blk_frozen BK195.out 0))
             go_roundg k2
             case measure => have := HK1.out;have := HK2.out;omega
             case rel => exact ⟨(wrap64 (x26_2 + 1)),(y198),(.slice Ao24 y198.length co24),rs_,H',⟨by have := HK1.out;have := HK2.out;omega⟩,⟨by (with_reducible repeat (first|apply Kd.S_alloc|apply Kd.S_drewN|apply Kd.S_drew));exact Kd.S_mono (Kd.S_far (p := ⟨gb195,0,none⟩) (Kd.S_mono HO_6.out (fun k_ hk => (⟨hk,hk.1.2.2⟩ : _ ∧ k_ ≠ gb195))) (fun _ hk => hk.2) (.slice Ao24 y198.length co24)) (fun _ hk => ⟨hk.1.1.1,⟨hk.1.2,⟨hk.1.1.2.1,hk.1.1.2.2⟩⟩⟩)⟩,⟨by (with_reducible repeat (first|apply Kd.R_alloc|apply Kd.R_drewN|apply Kd.R_drew));exact Kd.R_mono (Kd.R_far (p := ⟨gb195,0,none⟩) (Kd.R_types HO_7.out BK195.out (by decide)) (fun _ hk => hk.2) (.slice Ao24 y198.length co24)) (fun _ hk => hk.1.2)⟩,⟨by (with_reducible repeat (first|apply Kd.R_alloc|apply Kd.R_drewN|apply Kd.R_drew));exact Kd.R_mono (Kd.R_far (p := ⟨gb195,0,none⟩) (Kd.R_types HO200.out BK195.out (by decide)) (fun _ hk => hk.2) (.slice Ao24 y198.length co24)) (fun _ hk => hk.1)⟩,⟨kf_ BK192⟩,⟨kf_ BK194⟩,⟨by (with_reducible repeat (first|refine blk_drewN ?_ _|refine blk_drew ?_|refine blk_alloc ?_ _));refine blk_put (cs := #[u196000]) ?_ 0 _ rfl;(with_reducible repeat (first|refine blk_drewN ?_ _|refine blk_drew ?_|refine blk_alloc ?_ _));exact BK195.out⟩,⟨b_⟩⟩
            ·rw [if_neg c18] at H
             exact absurd H (by simp)
           ·replace c17 := Bool.eq_false_iff.mpr c17
            subst c17
            replace H := ie_ H
            have H' := Aside0.mk H
            clear H
            have p196 : 0 ≤ (x26_2 : Int) := od_
            have q196 : x26_2 < (((rd_T84 l0 x18_1).f0).length : Int) := od_
            obtain ⟨ad196,e196,hx196_0⟩ := Kd.at_int HR193_0.out x26_2 p196 q196
            cases e196
            replace hx196_0 := hx_ HB hx196_0
            replace p196 := eq_true p196
            replace q196 := eq_true q196
            go_wp2_with (first|(go_at_call 124;(with_reducible refine (impl_remap_1.calls (rd ((rd_T84 l0 x18_1).f0) x26_2) gb192 A1 c1 l1 false _ ?side1 ?side2 ?side3 A16.out).mono ?_);(case side1 => exact (blk_cell kk_ 0).trans rfl);(case side2 => exact cb_ HR1);(case side3 => exact HC1.out);rintro e w26 ⟨rfl,hb⟩;replace HO_6 := Aside0.mk (Kd.S_below (by (with_reducible repeat (first|apply Kd.S_alloc|apply Kd.S_drewN|apply Kd.S_drew));exact HO_6.out) hb);replace HO_7 := Aside0.mk (Kd.R_below (by (with_reducible repeat (first|apply Kd.R_alloc|apply Kd.R_drewN|apply Kd.R_drew));exact HO_7.out) hb);replace HO_196000 := Aside0.mk (Kd.R_below (by (with_reducible repeat (first|apply Kd.R_alloc|apply Kd.R_drewN|apply Kd.R_drew));exact HO_196000.out) hb);replace BK192 := Aside0.mk (blk_below (kb_ BK192) hb);replace BK194 := Aside0.mk (blk_below (kb_ BK194) hb);replace BK195 := Aside0.mk (blk_below (kb_ BK195) hb);replace HB := Aside0.mk (below_step b_ hb);(try clear hb);(try clear hb2);(try clear hk);(try clear hi)))
            go_roundg k2
            case measure => have := HK1.out;have := HK2.out;omega
            case rel => exact ⟨(wrap64 (x26_2 + 1)),(x196000_2),(u196000),rs_,H',⟨by have := HK1.out;have := HK2.out;omega⟩,⟨by (with_reducible repeat (first|apply Kd.S_alloc|apply Kd.S_drewN|apply Kd.S_drew));exact HO_6.out⟩,⟨by (with_reducible repeat (first|apply Kd.R_alloc|apply Kd.R_drewN|apply Kd.R_drew));exact HO_7.out⟩,⟨by (with_reducible repeat (first|apply Kd.R_alloc|apply Kd.R_drewN|apply Kd.R_drew));exact HO_196000.out⟩,⟨kb_ BK192⟩,⟨kb_ BK194⟩,⟨kb_ BK195⟩,⟨b_⟩⟩
          ·rw [if_neg c15] at H
           exact absurd H (by simp)
         ·rw [if_neg c14] at H
          exact absurd H (by simp)
        ·rw [if_neg c13] at H
         have c13b0 : decide (x26_2 < (((rd_T84 l0 x18_1).f0).length : Int)) = false := decide_eq_false c13
         clear c13
         by_cases c27 : (x196000_2.length : Int) = 0
         ·rw [if_pos c27] at H
          have c27b0 : ((x196000_2.length : Int) == 0) = true := beq_iff_eq.mpr c27
          have c27b1 : ((x196000_2.length : Int) != 0) = false := bne_eq_false_iff_eq.mpr c27
          clear c27
          by_cases c28 : x7_1.length < 17592186044416
          ·rw [if_pos c28] at H
           have LMc28 := Aside0.mk c28
           clear c28
           obtain ⟨y201,hy201⟩ : ∃ y_ : List Int,y_ = (x7_1 ++ [x18_1]) := ⟨_,rfl⟩
           replace H : ((slices_Clone_int64_int64.f ((rd_T84 l0 x18_1).f0)).bind fun t204 => (if x6_1.length < 5864062014805 then (impl_remap.l0 k2 (x6_1 ++ [(⟨t204⟩ : S84)]) y201 l0 (l0.length : Int) (wrap64 (x18_1 + 1)) l1) else (none))) = some (r1,r2) := by first|(rw [hy201];with_reducible exact H)|(have H2_ := (Option.bind_some _ _).symm.trans H;rw [hy201];with_reducible exact H2_)|(have H2_ := (Option.bind_some _ _).symm.trans H;with_reducible exact H2_)|with_reducible exact H|(rw [hy201];exact H)|exact H
           have Ny201 := Aside0.mk hy201
           clear hy201
           replace H := bs_ H
           obtain ⟨t204,A29,H⟩ := H
           by_cases c30 : x6_1.length < 5864062014805
           ·rw [if_pos c30] at H
            have LMc30 := Aside0.mk c30
            clear c30
            obtain ⟨y207,hy207⟩ : ∃ y_ : List (S84),y_ = (x6_1 ++ [(⟨t204⟩ : S84)]) := ⟨_,rfl⟩
            replace H : (impl_remap.l0 k2 y207 y201 l0 (l0.length : Int) (wrap64 (x18_1 + 1)) l1) = some (r1,r2) := by first|(rw [hy207];with_reducible exact H)|(have H2_ := (Option.bind_some _ _).symm.trans H;rw [hy207];with_reducible exact H2_)|(have H2_ := (Option.bind_some _ _).symm.trans H;with_reducible exact H2_)|with_reducible exact H|(rw [hy207];exact H)|exact H
            have Ny207 := Aside0.mk hy207
            clear hy207
            have H' := Aside0.mk H
            clear H
            have hnb31 := NB195_192.out
            have hnc31 := NB192_195.out
            have hnb32 := NB195_194.out
            have hnc32 := NB194_195.out
            have hcz33_0 : wr.cell? ⟨gb195,0,none⟩ = some (u196000) := (blk_cell BK195.out 0).trans rfl
            have hfz33_0 := blk_frozen BK195.out 0
            obtain ⟨Ao34,co34,eo34⟩ := Kd.R_slice HO_196000.out
            subst eo34
            go_wp2_with (first|((with_reducible refine gblt_ (b := .append) (xs := #[.tmp 44,.tmp 46]) rfl ?_);(try (refine gate_guard (by rfl) ?_;dsimp only));at_builtin;refine Kd.R_append (Kd.int .i64) (w0 := w) w.heap.size rfl (.tmp 44) (.tmp 46) 35 2 (.int .i64 0) 8 rfl Try.underlying35 info2 rfl (by decide) (by omega) u7 x7_1 x18_1 [.int .i64 x18_1] (fun k_ => some k_ ≠ (.slice Ao34 x196000_2.length co34 : Value).ownBlock) (fun _ => False) rfl rfl ?aP (fun _ hk => hk.elim) ?aF ?aO ?aB ?aS ?aL ?_;(case aP => exact rfl);(case aB => exact b_);(case aF => exact (fun k_ hk => Kd.fresh' (Kd.R_lt (by (with_reducible repeat (first|apply Kd.R_alloc|apply Kd.R_drewN|apply Kd.R_drew));exact HO_196000.out)) k_ hk));(case aO => exact (by (with_reducible repeat (first|apply Kd.R_alloc|apply Kd.R_drewN|apply Kd.R_drew));exact HO_7.out));(case aS => exact (below_size b_));(case aL => have := LMc28.out;omega);intro v202 w35 ho hb hg hat;rw [← Ny201.out] at ho;replace HO_6 := Aside0.mk (Kd.S_after (ok := (fun k_ => some k_ ≠ (.slice Ao34 x196000_2.length co34 : Value).ownBlock ∧ k_ ≠ gb194 ∧ k_ ≠ gb195)) (by (with_reducible repeat (first|apply Kd.S_alloc|apply Kd.S_drewN|apply Kd.S_drew));exact Kd.S_mono HO_6.out (fun _ hk => ⟨⟨hk.2.1,⟨hk.2.2.1,hk.2.2.2⟩⟩,hk.1⟩)) hg hat);replace HO_196000 := Aside0.mk (Kd.R_after (ok := (fun _ => True)) (by (with_reducible repeat (first|apply Kd.R_alloc|apply Kd.R_drewN|apply Kd.R_drew));exact Kd.R_mono HO_196000.out (fun _ hk => ⟨trivial,hk⟩)) hg hat);replace BK192 := Aside0.mk (blk_grown (kb_ BK192) hg (Kd.R_ne HO_7.out BK192.out (by decide)));replace BK194 := Aside0.mk (blk_grown (kb_ BK194) hg (Kd.R_ne HO_7.out BK194.out (by decide)));replace BK195 := Aside0.mk (blk_grown (kb_ BK195) hg (Kd.R_ne HO_7.out BK195.out (by decide)));replace HB := Aside0.mk (hb);have HO203 := Aside0.mk (ho);clear HO_7;clear ho hb hg hat;have hnb36 := NB194_192.out;have hnc36 := NB192_194.out;have hcz37_0 : w35.cell? ⟨gb194,0,none⟩ = some (.slice A193_0 ((rd_T84 l0 x18_1).f0).length c193_0) := (blk_cell BK194.out 0).trans rfl;have hfz37_0 := blk_frozen BK194.out 0)|((with_reducible refine gcal_ (f := 104) rfl ?_);refine gl_ (some 51) Try.func104 #[.slice A193_0 ((rd_T84 l0 x18_1).f0).length c193_0] ?_;(with_reducible refine (slices_Clone_int64_int64.calls _ _ ((rd_T84 l0 x18_1).f0) t204 _ ?side1 ?side2 A29.out).mono ?_);(case side1 => exact cb_ HR193_0);(case side2 => exact HC193_0.out);rintro e w38 ⟨v205,rfl,ho0,hb⟩;refine ⟨_,rfl,?_⟩;replace HO_6 := Aside0.mk (Kd.S_elder' (by (with_reducible repeat (first|apply Kd.S_alloc|apply Kd.S_drewN|apply Kd.S_drew));exact HO_6.out) (Kd.R_base ho0) hb);replace BK192 := Aside0.mk (blk_below (kb_ BK192) hb);replace BK194 := Aside0.mk (blk_below (kb_ BK194) hb);replace BK195 := Aside0.mk (blk_below (kb_ BK195) hb);have HO206 := Aside0.mk (Kd.R_lower (Kd.R_new' (Kd.R_new' ho0 (Kd.R_lt (by (with_reducible repeat (first|apply Kd.R_alloc|apply Kd.R_drewN|apply Kd.R_drew));exact HO_196000.out))) (Kd.R_lt (by (with_reducible repeat (first|apply Kd.R_alloc|apply Kd.R_drewN|apply Kd.R_drew));exact HO203.out))) (below_size b_));replace HO_196000 := Aside0.mk (Kd.R_elder' (by (with_reducible repeat (first|apply Kd.R_alloc|apply Kd.R_drewN|apply Kd.R_drew));exact HO_196000.out) (Kd.R_base ho0) hb);replace HO203 := Aside0.mk (Kd.R_elder' (by (with_reducible repeat (first|apply Kd.R_alloc|apply Kd.R_drewN|apply Kd.R_drew));exact HO203.out) (Kd.R_base ho0) hb);replace HB := Aside0.mk (below_step b_ hb);(try clear hb);(try clear hb2);(try clear hk);(try clear hi);(try clear ho0);obtain ⟨Ao39,co39,eo39⟩ := Kd.R_slice HO206.out;subst eo39)|((with_reducible refine gblt_ (b := .append) (xs := #[.tmp 48,.tmp 53]) rfl ?_);(try (refine gate_guard (by rfl) ?_;dsimp only));at_builtin;refine Kd.S_append k84 (w0 := w) w.heap.size rfl (.tmp 48) (.tmp 53) 70 84 (.agg #[(.slice none 0 0)]) 24 rfl Try.underlying70 info84 rfl (by decide) (by omega) u6 x6_1 (⟨t204⟩ : S84) [.slice Ao39 t204.length co39] (fun k_ => some k_ ≠ (.slice Ao34 x196000_2.length co34 : Value).ownBlock ∧ some k_ ≠ (v202 : Value).ownBlock ∧ k_ ≠ gb194 ∧ k_ ≠ gb195) (fun k_ => some k_ = (.slice Ao39 t204.length co39 : Value).ownBlock) rfl rfl ?aP (fun k_ hk_ => ((Kd.R_mono (ok' := fun k_ => ((fun k_ => some k_ ≠ (.slice Ao34 x196000_2.length co34 : Value).ownBlock ∧ some k_ ≠ (v202 : Value).ownBlock ∧ k_ ≠ gb194 ∧ k_ ≠ gb195)) k_ ∧ some k_ ≠ (u6 : Value).ownBlock) (Kd.R_types (Kd.R_types (Kd.R_apart' (HO206.out) (Kd.S_typed HO_6.out) (by decide)) BK194.out (by decide)) BK195.out (by decide)) (fun k_ hk => ⟨⟨hk.1.1.1.1.2,⟨hk.1.1.1.2,⟨hk.1.2,hk.2⟩⟩⟩,hk.1.1.2⟩))).1 k_ hk_.symm) ?aF ?aO ?aB ?aS ?aL ?_;(case aP => exact k84_mkM _ _ _ (⟨t204⟩ : S84) (Kd.R_mono (Kd.R_tight rfl (Kd.R_mono (ok' := fun k_ => ((fun k_ => some k_ ≠ (.slice Ao34 x196000_2.length co34 : Value).ownBlock ∧ some k_ ≠ (v202 : Value).ownBlock ∧ k_ ≠ gb194 ∧ k_ ≠ gb195)) k_ ∧ some k_ ≠ (u6 : Value).ownBlock) (Kd.R_types (Kd.R_types (Kd.R_apart' (HO206.out) (Kd.S_typed HO_6.out) (by decide)) BK194.out (by decide)) BK195.out (by decide)) (fun k_ hk => ⟨⟨hk.1.1.1.1.2,⟨hk.1.1.1.2,⟨hk.1.2,hk.2⟩⟩⟩,hk.1.1.2⟩))) (fun _ h_ => h_)));(case aB => exact b_);(case aF => exact (fun k_ hk => ⟨Kd.fresh' (Kd.R_lt (by (with_reducible repeat (first|apply Kd.R_alloc|apply Kd.R_drewN|apply Kd.R_drew));exact HO_196000.out)) k_ hk,Kd.fresh' (Kd.R_lt (by (with_reducible repeat (first|apply Kd.R_alloc|apply Kd.R_drewN|apply Kd.R_drew));exact HO203.out)) k_ hk,Kd.freshB (kb_ BK194) k_ hk,Kd.freshB (kb_ BK195) k_ hk⟩));(case aO => exact (by (with_reducible repeat (first|apply Kd.S_alloc|apply Kd.S_drewN|apply Kd.S_drew));exact Kd.S_mono HO_6.out (fun k_ hk => ⟨⟨hk.1.1.1,⟨hk.1.2,⟨hk.1.1.2.1,hk.1.1.2.2⟩⟩⟩,fun e_ => hk.2 e_⟩)));(case aS => exact (below_size b_));(case aL => have := LMc30.out;omega);intro v208 w40 ho hb hg hat;rw [← Ny207.out] at ho;replace HO_196000 := Aside0.mk (Kd.R_over' (by (with_reducible repeat (first|apply Kd.R_alloc|apply Kd.R_drewN|apply Kd.R_drew));exact HO_196000.out) (Kd.S_typed (by (with_reducible repeat (first|apply Kd.S_alloc|apply Kd.S_drewN|apply Kd.S_drew));exact HO_6.out)) (by decide) hg);replace BK192 := Aside0.mk (blk_grown (kb_ BK192) hg (Kd.S_ne HO_6.out BK192.out (by decide)));replace BK194 := Aside0.mk (blk_grown (kb_ BK194) hg (Kd.S_away HO_6.out (fun _ hk => hk.1.1.2.1)));replace BK195 := Aside0.mk (blk_grown (kb_ BK195) hg (Kd.S_away HO_6.out (fun _ hk => hk.1.1.2.2)));replace HO203 := Aside0.mk (Kd.R_over' (by (with_reducible repeat (first|apply Kd.R_alloc|apply Kd.R_drewN|apply Kd.R_drew));exact HO203.out) (Kd.S_typed (by (with_reducible repeat (first|apply Kd.S_alloc|apply Kd.S_drewN|apply Kd.S_drew));exact HO_6.out)) (by decide) hg);replace HB := Aside0.mk (hb);have HO209 := Aside0.mk (ho);clear HO_6 HO206;clear ho hb hg hat))
            go_roundg k2
            case measure => have := HK1.out;have := HK2.out;omega
            case rel => exact ⟨(y207),(y201),(wrap64 (x18_1 + 1)),rs_,H',⟨by have := HK1.out;have := HK2.out;omega⟩,⟨by (with_reducible repeat (first|apply Kd.S_alloc|apply Kd.S_drewN|apply Kd.S_drew));exact Kd.S_mono HO209.out (fun _ hk => hk.2.1)⟩,⟨by (with_reducible repeat (first|apply Kd.R_alloc|apply Kd.R_drewN|apply Kd.R_drew));exact Kd.R_mono HO203.out (fun _ hk => trivial)⟩,⟨kb_ BK192⟩,⟨b_⟩⟩
           ·rw [if_neg c30] at H
            exact absurd H (by simp)
          ·rw [if_neg c28] at H
           exact absurd H (by simp)
         ·rw [if_neg c27] at H
          have c27b0 : ((x196000_2.length : Int) == 0) = false := beq_eq_false_iff_ne.mpr c27
          have c27b1 : ((x196000_2.length : Int) != 0) = true := bne_iff_ne.mpr c27
          have c27b2 : ¬ (x196000_2 = []) := fun h_ => c27 (by rw [h_];rfl)
          replace H := bs_ H
          obtain ⟨t210,A41,H⟩ := H
          have H' := Aside0.mk H
          clear H
          have hnb42 := NB195_192.out
          have hnc42 := NB192_195.out
          have hnb43 := NB195_194.out
          have hnc43 := NB194_195.out
          have hcz44_0 : wr.cell? ⟨gb195,0,none⟩ = some (u196000) := (blk_cell BK195.out 0).trans rfl
          have hfz44_0 := blk_frozen BK195.out 0
          obtain ⟨Ao45,co45,eo45⟩ := Kd.R_slice HO_196000.out
          subst eo45
          have hnb46 := NB192_194.out
          have hnc46 := NB194_192.out
          have hcz47_0 : wr.cell? ⟨gb192,0,none⟩ = some (.slice A1 l1.length c1) := (blk_cell BK192.out 0).trans rfl
          have hfz47_0 := blk_frozen BK192.out 0
          go_wp2_with (first|((with_reducible refine gcal_ (f := 125) rfl ?_);refine gl_ (some 56) Try.func125 #[.slice A1 l1.length c1] ?_;(with_reducible refine (impl_size_bool.calls _ _ l1 t210 _ ?side1 ?side2 A41.out).mono ?_);(case side1 => exact cb_ HR1);(case side2 => exact HC1.out);rintro e w' ⟨rfl,⟨nd,rfl⟩⟩;refine ⟨_,rfl,?_⟩))
          go_loopg [57] k2 (fun kq v57 w' => ∃ (x57_3 : Int) (x196000_3 : List Int) (u196000 : Value),v57 = .int .i64 x57_3 ∧ Aside0 (impl_remap.l2 kq x6_1 x7_1 l0 (l0.length : Int) x18_1 t210 x57_3 l1 x196000_3 = some (r1,r2)) ∧ Aside0 (kq ≤ k2) ∧ Aside0 (Kd.S k84 84 w' w.heap.size (fun k_ => some k_ ≠ (u7 : Value).ownBlock ∧ some k_ ≠ (u196000 : Value).ownBlock ∧ k_ ≠ gb194 ∧ k_ ≠ gb195) u6 x6_1) ∧ Aside0 (Kd.R (Kd.int .i64) 2 w' w.heap.size (fun k_ => some k_ ≠ (u196000 : Value).ownBlock) u7 x7_1) ∧ Aside0 (Kd.R (Kd.int .i64) 2 w' w.heap.size (fun k_ => some k_ ≠ (u7 : Value).ownBlock) u196000 x196000_3) ∧ Aside0 (w'.heap[gb192]? = some (.cells #[(.slice A1 l1.length c1)] 71 (0,0))) ∧ Aside0 (w'.heap[gb194]? = some (.cells #[(.slice A193_0 ((rd_T84 l0 x18_1).f0).length c193_0)] 84 (0,0))) ∧ Aside0 (w'.heap[gb195]? = some (.cells #[u196000] 84 (0,0))) ∧ Aside0 (Below w.heap.size w w'))
          case atStart => exact ⟨(0),(x196000_2),(.slice Ao45 x196000_2.length co45),rs_,H',⟨Nat.le_refl _⟩,⟨by (with_reducible repeat (first|apply Kd.S_alloc|apply Kd.S_drewN|apply Kd.S_drew));exact HO_6.out⟩,⟨by (with_reducible repeat (first|apply Kd.R_alloc|apply Kd.R_drewN|apply Kd.R_drew));exact HO_7.out⟩,⟨by (with_reducible repeat (first|apply Kd.R_alloc|apply Kd.R_drewN|apply Kd.R_drew));exact HO_196000.out⟩,⟨kb_ BK192⟩,⟨kb_ BK194⟩,⟨kb_ BK195⟩,⟨b_⟩⟩
          case round =>
           clear H'
           try clear c1
           try clear p1
           try clear q1
           try clear hx1
           try clear c2
           try clear p2
           try clear c3
           try clear c4
           try clear c4b0
           try clear c5
           try clear c5b0
           try clear c6
           try clear c6b0
           try clear p6
           try clear c8
           try clear c9
           try clear c10
           try clear c11
           try clear c12
           try clear c13
           try clear c13b0
           try clear c14
           try clear c14b0
           try clear c15
           try clear c15b0
           try clear c17
           try clear c18
           try clear c19
           try clear p19
           try clear q19
           try clear hx19
           try clear c20
           try clear c21
           try clear c27
           try clear c27b0
           try clear c27b1
           try clear c27b2
           try clear c28
           try clear c30
           try clear c31
           try clear c32
           try clear c36
           try clear c42
           try clear c43
           try clear c46
           try clear hcz12_0
           try clear hcz22_0
           try clear hcz25_0
           try clear hcz33_0
           try clear hcz37_0
           try clear hcz44_0
           try clear hcz47_0
           try clear hcz9_0
           try clear hfz12_0
           try clear hfz22_0
           try clear hfz25_0
           try clear hfz33_0
           try clear hfz37_0
           try clear hfz44_0
           try clear hfz47_0
           try clear hfz9_0
           try clear hx193_0
           try clear hx196_0
           try clear p1
           try clear p193
           try clear p196
           try clear p2
           try clear q1
           try clear q193
           try clear q196
           obtain ⟨x57_3,x196000_3,u196000,rfl,HA,HK3,HO_6,HO_7,HO_196000,BK192,BK194,BK195,HB⟩ := hrel
           cases gk with
           | zero => exact absurd HA.out (by simp [impl_remap.l2])
           | succ k3 =>
            have H := HA.out
            clear HA
            simp only [impl_remap.l2] at H
            by_cases c48 : x57_3 < t210
            ·rw [if_pos c48] at H
             have c48b0 : decide (x57_3 < t210) = true := decide_eq_true c48
             clear c48
             by_cases c49 : 0 ≤ x57_3
             ·rw [if_pos c49] at H
              have c49b0 : decide (0 ≤ x57_3) = true := decide_eq_true c49
              clear c49
              by_cases c50 : x57_3 < (l1.length : Int)
              ·rw [if_pos c50] at H
               have c50b0 : decide (x57_3 < (l1.length : Int)) = true := decide_eq_true c50
               clear c50
               obtain ⟨bq51,hbq51⟩ : ∃ b_ : Bool,b_ = (rdOf false l1 x57_3) := ⟨_,rfl⟩
               replace H : (if bq51 = true then (if (x196000_3.length : Int) < 3 then ((slices_Contains_int64_int64.f k3 x196000_3 x57_3).bind fun t212 => (if t212 = true then (impl_remap.l2 k3 x6_1 x7_1 l0 (l0.length : Int) x18_1 t210 (wrap64 (x57_3 + 1)) l1 x196000_3) else (if x196000_3.length < 17592186044416 then (impl_remap.l2 k3 x6_1 x7_1 l0 (l0.length : Int) x18_1 t210 (wrap64 (x57_3 + 1)) l1 (x196000_3 ++ [x57_3])) else (none)))) else (impl_remap.l2 k3 x6_1 x7_1 l0 (l0.length : Int) x18_1 t210 (wrap64 (x57_3 + 1)) l1 x196000_3)) else (impl_remap.l2 k3 x6_1 x7_1 l0 (l0.length : Int) x18_1 t210 (wrap64 (x57_3 + 1)) l1 x196000_3)) = some (r1,r2) := by rw [← hbq51] at H;exact H
               have Nbq51 := Aside0.mk hbq51
               clear hbq51
               by_cases c52 : bq51 = true
               ·subst c52
                replace H := it_ H
                by_cases c53 : (x196000_3.length : Int) < 3
                ·rw [if_pos c53] at H
                 have c53b0 : decide ((x196000_3.length : Int) < 3) = true := decide_eq_true c53
                 have c53b1 : decide (x196000_3.length < 3) = true := decide_eq_true (by omega)
                 clear c53
                 replace H := bs_ H
                 obtain ⟨t212,A54,H⟩ := H
                 by_cases c55 : t212 = true
                 ·subst c55
                  replace H := it_ H
                  have H' := Aside0.mk H
                  clear H
                  have hnb56 := NB192_194.out
                  have hnc56 := NB194_192.out
                  have hnb57 := NB192_195.out
                  have hnc57 := NB195_192.out
                  have hcz58_0 : wr.cell? ⟨gb192,0,none⟩ = some (.slice A1 l1.length c1) := (blk_cell BK192.out 0).trans rfl
                  have hfz58_0 := blk_frozen BK192.out 0
                  have p211 : 0 ≤ (x57_3 : Int) := od_
                  have q211 : x57_3 < (l1.length : Int) := od_
                  obtain ⟨ad211,e211,hx211_0⟩ := Kd.at_bool HR1.out x57_3 p211 q211
                  (try rw [← Nbq51.out] at hx211_0)
                  cases e211
                  replace hx211_0 := hx_ HB hx211_0
                  replace p211 := eq_true p211
                  replace q211 := eq_true q211
                  have hnb59 := NB195_194.out
                  have hnc59 := NB194_195.out
                  have hcz60_0 : wr.cell? ⟨gb195,0,none⟩ = some (u196000) := (blk_cell BK195.out 0).trans rfl
                  have hfz60_0 := blk_frozen BK195.out 0
                  obtain ⟨Ao61,co61,eo61⟩ := Kd.R_slice HO_196000.out
                  subst eo61
                  go_wp2_with (first|(go_at_call 108;(with_reducible refine (slices_Contains_int64_int64.calls k3 _ _ x196000_3 x57_3 true _ ?side1 ?side2 A54.out).mono ?_);(case side1 => repeat (first|exact (Kd.R_reads' HO_196000.out).2.2|(with_reducible refine Kd.C_alloc ?_ _)|(with_reducible refine Kd.C_drewN ?_ _)|(with_reducible refine Kd.C_drew ?_)));(case side2 => exact (Kd.R_reads' HO_196000.out).2.1);rintro e w' ⟨rfl,⟨nd,rfl⟩⟩))
                  go_roundg k3
                  case measure => have := HK1.out;have := HK2.out;have := HK3.out;omega
                  case rel => exact ⟨(wrap64 (x57_3 + 1)),(x196000_3),(.slice Ao61 x196000_3.length co61),rs_,H',⟨by have := HK1.out;have := HK2.out;have := HK3.out;omega⟩,⟨by (with_reducible repeat (first|apply Kd.S_alloc|apply Kd.S_drewN|apply Kd.S_drew));exact HO_6.out⟩,⟨by (with_reducible repeat (first|apply Kd.R_alloc|apply Kd.R_drewN|apply Kd.R_drew));exact HO_7.out⟩,⟨by (with_reducible repeat (first|apply Kd.R_alloc|apply Kd.R_drewN|apply Kd.R_drew));exact HO_196000.out⟩,⟨kb_ BK192⟩,⟨kb_ BK194⟩,⟨kb_ BK195⟩,⟨b_⟩⟩
                 ·replace c55 := Bool.eq_false_iff.mpr c55
                  subst c55
                  replace H := ie_ H
                  by_cases c62 : x196000_3.length < 17592186044416
                  ·rw [if_pos c62] at H
                   have LMc62 := Aside0.mk c62
                   clear c62
                   obtain ⟨y213,hy213⟩ : ∃ y_ : List Int,y_ = (x196000_3 ++ [x57_3]) := ⟨_,rfl⟩
                   replace H : (impl_remap.l2 k3 x6_1 x7_1 l0 (l0.length : Int) x18_1 t210 (wrap64 (x57_3 + 1)) l1 y213) = some (r1,r2) := by first|(rw [hy213];with_reducible exact H)|(have H2_ := (Option.bind_some _ _).symm.trans H;rw [hy213];with_reducible exact H2_)|(have H2_ := (Option.bind_some _ _).symm.trans H;with_reducible exact H2_)|with_reducible exact H|(rw [hy213];exact H)|exact H
                   have Ny213 := Aside0.mk hy213
                   clear hy213
                   have H' := Aside0.mk H
                   clear H
                   have hnb63 := NB192_194.out
                   have hnc63 := NB194_192.out
                   have hnb64 := NB192_195.out
                   have hnc64 := NB195_192.out
                   have hcz65_0 : wr.cell? ⟨gb192,0,none⟩ = some (.slice A1 l1.length c1) := (blk_cell BK192.out 0).trans rfl
                   have hfz65_0 := blk_frozen BK192.out 0
                   have p211 : 0 ≤ (x57_3 : Int) := od_
                   have q211 : x57_3 < (l1.length : Int) := od_
                   obtain ⟨ad211,e211,hx211_0⟩ := Kd.at_bool HR1.out x57_3 p211 q211
                   (try rw [← Nbq51.out] at hx211_0)
                   cases e211
                   replace hx211_0 := hx_ HB hx211_0
                   replace p211 := eq_true p211
                   replace q211 := eq_true q211
                   have hnb66 := NB195_194.out
                   have hnc66 := NB194_195.out
                   have hcz67_0 : wr.cell? ⟨gb195,0,none⟩ = some (u196000) := (blk_cell BK195.out 0).trans rfl
                   have hfz67_0 := blk_frozen BK195.out 0
                   obtain ⟨Ao68,co68,eo68⟩ := Kd.R_slice HO_196000.out
                   subst eo68
                   go_wp2_with (first|(go_at_call 108;(with_reducible refine (slices_Contains_int64_int64.calls k3 _ _ x196000_3 x57_3 false _ ?side1 ?side2 A54.out).mono ?_);(case side1 => repeat (first|exact (Kd.R_reads' HO_196000.out).2.2|(with_reducible refine Kd.C_alloc ?_ _)|(with_reducible refine Kd.C_drewN ?_ _)|(with_reducible refine Kd.C_drew ?_)));(case side2 => exact (Kd.R_reads' HO_196000.out).2.1);rintro e w' ⟨rfl,⟨nd,rfl⟩⟩;(try (rw [drewN_self wr];generalize hq_ : World.drewN wr _ = wr;have n0_ : Aside0 (Kd.R (Kd.int .i64) 2 wr w.heap.size (fun k_ => some k_ ≠ (u7 : Value).ownBlock) (.slice Ao68 x196000_3.length co68) x196000_3) := ⟨by rw [← hq_];exact (by (with_reducible repeat (first|apply Kd.R_alloc|apply Kd.R_drewN|apply Kd.R_drew));exact HO_196000.out)⟩;have n1_ : Aside0 (Kd.S k84 84 wr w.heap.size (fun k_ => some k_ ≠ (.slice Ao68 x196000_3.length co68 : Value).ownBlock ∧ some k_ ≠ (u7 : Value).ownBlock ∧ k_ ≠ gb194 ∧ k_ ≠ gb195) u6 x6_1) := ⟨by rw [← hq_];exact (by (with_reducible repeat (first|apply Kd.S_alloc|apply Kd.S_drewN|apply Kd.S_drew));exact Kd.S_mono HO_6.out (fun _ hk => ⟨hk.2.1,⟨hk.1,⟨hk.2.2.1,hk.2.2.2⟩⟩⟩))⟩;have n2_ : Aside0 (Kd.R (Kd.int .i64) 2 wr w.heap.size (fun k_ => some k_ ≠ (.slice Ao68 x196000_3.length co68 : Value).ownBlock) u7 x7_1) := ⟨by rw [← hq_];exact (by (with_reducible repeat (first|apply Kd.R_alloc|apply Kd.R_drewN|apply Kd.R_drew));exact HO_7.out)⟩;have n3_ : Aside0 (wr.heap[gb192]? = some (.cells #[.slice (some ad211) l1.length c1] 71 (0,0))) := ⟨by rw [← hq_];exact kk_⟩;have n4_ : Aside0 (wr.heap[gb194]? = some (.cells #[.slice A193_0 ((rd_T84 l0 x18_1).f0).length c193_0] 84 (0,0))) := ⟨by rw [← hq_];exact kk_⟩;have n5_ : Aside0 (wr.heap[gb195]? = some (.cells #[.slice Ao68 x196000_3.length co68] 84 (0,0))) := ⟨by rw [← hq_];exact kk_⟩;have n6_ : Aside0 (Below w.heap.size w wr) := ⟨by rw [← hq_];exact b_⟩;clear HO_196000 HO_6 HO_7 BK192 BK194 BK195 HB hq_;have HO_196000 := n0_;have HO_6 := n1_;have HO_7 := n2_;have BK192 := n3_;have BK194 := n4_;have BK195 := n5_;have HB := n6_;clear n0_ n1_ n2_ n3_ n4_ n5_ n6_));(try (have hcy4_0 : wr.cell? ⟨gb192,0,none⟩ = some (.slice (some ad211) l1.length c1) := (blk_cell BK192.out 0).trans rfl));(try (have hfy4_0 := blk_frozen BK192.out 0));(try (have hcy5_0 : wr.cell? ⟨gb194,0,none⟩ = some (.slice A193_0 ((rd_T84 l0 x18_1).f0).length c193_0) := (blk_cell BK194.out 0).trans rfl));(try (have hfy5_0 := blk_frozen BK194.out 0));(try (have hcy6_0 : wr.cell? ⟨gb195,0,none⟩ = some (.slice Ao68 x196000_3.length co68) := (blk_cell BK195.out 0).trans rfl));(try (have hfy6_0 := blk_frozen BK195.out 0)))|((with_reducible refine gblt_ (b := .append) (xs := #[.tmp 78,.tmp 80]) rfl ?_);(try (refine gate_guard (by rfl) ?_;dsimp only));at_builtin;refine Kd.R_append (Kd.int .i64) (w0 := w) w.heap.size rfl (.tmp 78) (.tmp 80) 35 2 (.int .i64 0) 8 rfl Try.underlying35 info2 rfl (by decide) (by omega) (.slice Ao68 x196000_3.length co68) x196000_3 x57_3 [.int .i64 x57_3] (fun k_ => some k_ ≠ (u7 : Value).ownBlock) (fun _ => False) rfl rfl ?aP (fun _ hk => hk.elim) ?aF ?aO ?aB ?aS ?aL ?_;(case aP => exact rfl);(case aB => exact b_);(case aF => exact (fun k_ hk => Kd.fresh' (Kd.R_lt (by (with_reducible repeat (first|apply Kd.R_alloc|apply Kd.R_drewN|apply Kd.R_drew));exact HO_7.out)) k_ hk));(case aO => exact (by (with_reducible repeat (first|apply Kd.R_alloc|apply Kd.R_drewN|apply Kd.R_drew));exact HO_196000.out));(case aS => exact (below_size b_));(case aL => have := LMc62.out;omega);intro v214 w69 ho hb hg hat;rw [← Ny213.out] at ho;replace HO_6 := Aside0.mk (Kd.S_after (ok := (fun k_ => some k_ ≠ (u7 : Value).ownBlock ∧ k_ ≠ gb194 ∧ k_ ≠ gb195)) (by (with_reducible repeat (first|apply Kd.S_alloc|apply Kd.S_drewN|apply Kd.S_drew));exact Kd.S_mono HO_6.out (fun _ hk => ⟨⟨hk.2.1,⟨hk.2.2.1,hk.2.2.2⟩⟩,hk.1⟩)) hg hat);replace HO_7 := Aside0.mk (Kd.R_after (ok := (fun _ => True)) (by (with_reducible repeat (first|apply Kd.R_alloc|apply Kd.R_drewN|apply Kd.R_drew));exact Kd.R_mono HO_7.out (fun _ hk => ⟨trivial,hk⟩)) hg hat);replace BK192 := Aside0.mk (blk_grown (kb_ BK192) hg (Kd.R_ne HO_196000.out BK192.out (by decide)));replace BK194 := Aside0.mk (blk_grown (kb_ BK194) hg (Kd.R_ne HO_196000.out BK194.out (by decide)));replace BK195 := Aside0.mk (blk_grown (kb_ BK195) hg (Kd.R_ne HO_196000.out BK195.out (by decide)));replace HB := Aside0.mk (hb);have HO215 := Aside0.mk (ho);clear HO_196000;clear ho hb hg hat;obtain ⟨Ao70,co70,eo70⟩ := Kd.R_slice HO215.out;subst eo70;have hcz71_0 : w69.cell? ⟨gb195,0,none⟩ = some (.slice Ao68 x196000_3.length co68) := (blk_cell BK195.out 0).trans rfl;have hfz71_0 := blk_frozen BK195.out 0))
                   go_roundg k3
                   case measure => have := HK1.out;have := HK2.out;have := HK3.out;omega
                   case rel => exact ⟨(wrap64 (x57_3 + 1)),(y213),(.slice Ao70 y213.length co70),rs_,H',⟨by have := HK1.out;have := HK2.out;have := HK3.out;omega⟩,⟨by (with_reducible repeat (first|apply Kd.S_alloc|apply Kd.S_drewN|apply Kd.S_drew));exact Kd.S_mono (Kd.S_far (p := ⟨gb195,0,none⟩) (Kd.S_mono HO_6.out (fun k_ hk => (⟨hk,hk.1.2.2⟩ : _ ∧ k_ ≠ gb195))) (fun _ hk => hk.2) (.slice Ao70 y213.length co70)) (fun _ hk => ⟨hk.1.1.1,⟨hk.1.2,⟨hk.1.1.2.1,hk.1.1.2.2⟩⟩⟩)⟩,⟨by (with_reducible repeat (first|apply Kd.R_alloc|apply Kd.R_drewN|apply Kd.R_drew));exact Kd.R_mono (Kd.R_far (p := ⟨gb195,0,none⟩) (Kd.R_types HO_7.out BK195.out (by decide)) (fun _ hk => hk.2) (.slice Ao70 y213.length co70)) (fun _ hk => hk.1.2)⟩,⟨by (with_reducible repeat (first|apply Kd.R_alloc|apply Kd.R_drewN|apply Kd.R_drew));exact Kd.R_mono (Kd.R_far (p := ⟨gb195,0,none⟩) (Kd.R_types HO215.out BK195.out (by decide)) (fun _ hk => hk.2) (.slice Ao70 y213.length co70)) (fun _ hk => hk.1)⟩,⟨kf_ BK192⟩,⟨kf_ BK194⟩,⟨by (with_reducible repeat (first|refine blk_drewN ?_ _|refine blk_drew ?_|refine blk_alloc ?_ _));refine blk_put (cs := #[.slice Ao68 x196000_3.length co68]) ?_ 0 _ rfl;(with_reducible repeat (first|refine blk_drewN ?_ _|refine blk_drew ?_|refine blk_alloc ?_ _));exact BK195.out⟩,⟨b_⟩⟩
                  ·rw [if_neg c62] at H
                   exact absurd H (by simp)
                ·rw [if_neg c53] at H
                 have c53b0 : decide ((x196000_3.length : Int) < 3) = false := decide_eq_false c53
                 have c53b1 : decide (x196000_3.length < 3) = false := decide_eq_false (by omega)
                 clear c53
                 have H' := Aside0.mk H
                 clear H
                 have hnb72 := NB192_194.out
                 have hnc72 := NB194_192.out
                 have hnb73 := NB192_195.out
                 have hnc73 := NB195_192.out
                 have hcz74_0 : wr.cell? ⟨gb192,0,none⟩ = some (.slice A1 l1.length c1) := (blk_cell BK192.out 0).trans rfl
                 have hfz74_0 := blk_frozen BK192.out 0
                 have p211 : 0 ≤ (x57_3 : Int) := od_
                 have q211 : x57_3 < (l1.length : Int) := od_
                 obtain ⟨ad211,e211,hx211_0⟩ := Kd.at_bool HR1.out x57_3 p211 q211
                 (try rw [← Nbq51.out] at hx211_0)
                 cases e211
                 replace hx211_0 := hx_ HB hx211_0
                 replace p211 := eq_true p211
                 replace q211 := eq_true q211
                 have hnb75 := NB195_194.out
                 have hnc75 := NB194_195.out
                 have hcz76_0 : wr.cell? ⟨gb195,0,none⟩ = some (u196000) := (blk_cell BK195.out 0).trans rfl
                 have hfz76_0 := blk_frozen BK195.out 0
                 obtain ⟨Ao77,co77,eo77⟩ := Kd.R_slice HO_196000.out
                 subst eo77
                 go_wp2
                 go_roundg k3
                 case measure => have := HK1.out;have := HK2.out;have := HK3.out;omega
                 case rel => exact ⟨(wrap64 (x57_3 + 1)),(x196000_3),(.slice Ao77 x196000_3.length co77),rs_,H',⟨by have := HK1.out;have := HK2.out;have := HK3.out;omega⟩,⟨by (with_reducible repeat (first|apply Kd.S_alloc|apply Kd.S_drewN|apply Kd.S_drew));exact HO_6.out⟩,⟨by (with_reducible repeat (first|apply Kd.R_alloc|apply Kd.R_drewN|apply Kd.R_drew));exact HO_7.out⟩,⟨by (with_reducible repeat (first|apply Kd.R_alloc|apply Kd.R_drewN|apply Kd.R_drew));exact HO_196000.out⟩,⟨kb_ BK192⟩,⟨kb_ BK194⟩,⟨kb_ BK195⟩,⟨b_⟩⟩
               ·replace c52 := Bool.eq_false_iff.mpr c52
                subst c52
                replace H := ie_ H
                have H' := Aside0.mk H
                clear H
                have hnb78 := NB192_194.out
                have hnc78 := NB194_192.out
                have hnb79 := NB192_195.out
                have hnc79 := NB195_192.out
                have hcz80_0 : wr.cell? ⟨gb192,0,none⟩ = some (.slice A1 l1.length c1) := (blk_cell BK192.out 0).trans rfl
                have hfz80_0 := blk_frozen BK192.out 0
                have p211 : 0 ≤ (x57_3 : Int) := od_
                have q211 : x57_3 < (l1.length : Int) := od_
                obtain ⟨ad211,e211,hx211_0⟩ := Kd.at_bool HR1.out x57_3 p211 q211
                (try rw [← Nbq51.out] at hx211_0)
                cases e211
                replace hx211_0 := hx_ HB hx211_0
                replace p211 := eq_true p211
                replace q211 := eq_true q211
                go_wp2
                go_roundg k3
                case measure => have := HK1.out;have := HK2.out;have := HK3.out;omega
                case rel => exact ⟨(wrap64 (x57_3 + 1)),(x196000_3),(u196000),rs_,H',⟨by have := HK1.out;have := HK2.out;have := HK3.out;omega⟩,⟨by (with_reducible repeat (first|apply Kd.S_alloc|apply Kd.S_drewN|apply Kd.S_drew));exact HO_6.out⟩,⟨by (with_reducible repeat (first|apply Kd.R_alloc|apply Kd.R_drewN|apply Kd.R_drew));exact HO_7.out⟩,⟨by (with_reducible repeat (first|apply Kd.R_alloc|apply Kd.R_drewN|apply Kd.R_drew));exact HO_196000.out⟩,⟨kb_ BK192⟩,⟨kb_ BK194⟩,⟨kb_ BK195⟩,⟨b_⟩⟩
              ·rw [if_neg c50] at H
               exact absurd H (by simp)
             ·rw [if_neg c49] at H
              exact absurd H (by simp)
            ·rw [if_neg c48] at H
             have c48b0 : decide (x57_3 < t210) = false := decide_eq_false c48
             clear c48
             by_cases c81 : x6_1.length < 5864062014805
             ·rw [if_pos c81] at H
              have LMc81 := Aside0.mk c81
              clear c81
              obtain ⟨y216,hy216⟩ : ∃ y_ : List (S84),y_ = (x6_1 ++ [(⟨x196000_3⟩ : S84)]) := ⟨_,rfl⟩
              replace H : (impl_remap.l0 k3 y216 x7_1 l0 (l0.length : Int) (wrap64 (x18_1 + 1)) l1) = some (r1,r2) := by first|(rw [hy216];with_reducible exact H)|(have H2_ := (Option.bind_some _ _).symm.trans H;rw [hy216];with_reducible exact H2_)|(have H2_ := (Option.bind_some _ _).symm.trans H;with_reducible exact H2_)|with_reducible exact H|(rw [hy216];exact H)|exact H
              have Ny216 := Aside0.mk hy216
              clear hy216
              have H' := Aside0.mk H
              clear H
              have hnb82 := NB195_192.out
              have hnc82 := NB192_195.out
              have hnb83 := NB195_194.out
              have hnc83 := NB194_195.out
              have hcz84_0 : wr.cell? ⟨gb195,0,none⟩ = some (u196000) := (blk_cell BK195.out 0).trans rfl
              have hfz84_0 := blk_frozen BK195.out 0
              obtain ⟨Ao86,co86,eo86⟩ := Kd.R_slice HO_196000.out
              subst eo86
              go_wp2_with (first|((with_reducible refine gblt_ (b := .append) (xs := #[.tmp 84,.tmp 86]) rfl ?_);(try (refine gate_guard (by rfl) ?_;dsimp only));at_builtin;refine Kd.S_append k84 (w0 := w) w.heap.size rfl (.tmp 84) (.tmp 86) 70 84 (.agg #[(.slice none 0 0)]) 24 rfl Try.underlying70 info84 rfl (by decide) (by omega) u6 x6_1 (⟨x196000_3⟩ : S84) [.slice Ao86 x196000_3.length co86] (fun k_ => some k_ ≠ (u7 : Value).ownBlock ∧ k_ ≠ gb194 ∧ k_ ≠ gb195) (fun k_ => some k_ = (.slice Ao86 x196000_3.length co86 : Value).ownBlock) rfl rfl ?aP (fun k_ hk_ => ((Kd.R_mono (ok' := fun k_ => ((fun k_ => some k_ ≠ (u7 : Value).ownBlock ∧ k_ ≠ gb194 ∧ k_ ≠ gb195)) k_ ∧ some k_ ≠ (u6 : Value).ownBlock) (Kd.R_types (Kd.R_types (Kd.R_apart' (HO_196000.out) (Kd.S_typed HO_6.out) (by decide)) BK194.out (by decide)) BK195.out (by decide)) (fun k_ hk => ⟨⟨hk.1.1.1,⟨hk.1.2,hk.2⟩⟩,hk.1.1.2⟩))).1 k_ hk_.symm) ?aF ?aO ?aB ?aS ?aL ?_;(case aP => exact k84_mkM _ _ _ (⟨x196000_3⟩ : S84) (Kd.R_mono (Kd.R_tight rfl (Kd.R_mono (ok' := fun k_ => ((fun k_ => some k_ ≠ (u7 : Value).ownBlock ∧ k_ ≠ gb194 ∧ k_ ≠ gb195)) k_ ∧ some k_ ≠ (u6 : Value).ownBlock) (Kd.R_types (Kd.R_types (Kd.R_apart' (HO_196000.out) (Kd.S_typed HO_6.out) (by decide)) BK194.out (by decide)) BK195.out (by decide)) (fun k_ hk => ⟨⟨hk.1.1.1,⟨hk.1.2,hk.2⟩⟩,hk.1.1.2⟩))) (fun _ h_ => h_)));(case aB => exact b_);(case aF => exact (fun k_ hk => ⟨Kd.fresh' (Kd.R_lt (by (with_reducible repeat (first|apply Kd.R_alloc|apply Kd.R_drewN|apply Kd.R_drew));exact HO_7.out)) k_ hk,Kd.freshB (kb_ BK194) k_ hk,Kd.freshB (kb_ BK195) k_ hk⟩));(case aO => exact (by (with_reducible repeat (first|apply Kd.S_alloc|apply Kd.S_drewN|apply Kd.S_drew));exact Kd.S_mono HO_6.out (fun k_ hk => ⟨⟨hk.1,⟨hk.2.2.1,hk.2.2.2⟩⟩,fun e_ => hk.2.1 e_⟩)));(case aS => exact (below_size b_));(case aL => have := LMc81.out;omega);intro v217 w85 ho hb hg hat;rw [← Ny216.out] at ho;replace HO_7 := Aside0.mk (Kd.R_over' (by (with_reducible repeat (first|apply Kd.R_alloc|apply Kd.R_drewN|apply Kd.R_drew));exact HO_7.out) (Kd.S_typed (by (with_reducible repeat (first|apply Kd.S_alloc|apply Kd.S_drewN|apply Kd.S_drew));exact HO_6.out)) (by decide) hg);replace BK192 := Aside0.mk (blk_grown (kb_ BK192) hg (Kd.S_ne HO_6.out BK192.out (by decide)));replace BK194 := Aside0.mk (blk_grown (kb_ BK194) hg (Kd.S_away HO_6.out (fun _ hk => hk.2.2.1)));replace BK195 := Aside0.mk (blk_grown (kb_ BK195) hg (Kd.S_away HO_6.out (fun _ hk => hk.2.2.2)));replace HB := Aside0.mk (hb);have HO218 := Aside0.mk (ho);clear HO_6 HO_196000;clear ho hb hg hat))
              go_roundg k3
              case measure => have := HK1.out;have := HK2.out;have := HK3.out;omega
              case rel => exact ⟨(y216),(x7_1),(wrap64 (x18_1 + 1)),rs_,H',⟨by have := HK1.out;have := HK2.out;have := HK3.out;omega⟩,⟨by (with_reducible repeat (first|apply Kd.S_alloc|apply Kd.S_drewN|apply Kd.S_drew));exact Kd.S_mono HO218.out (fun _ hk => hk.1)⟩,⟨by (with_reducible repeat (first|apply Kd.R_alloc|apply Kd.R_drewN|apply Kd.R_drew));exact Kd.R_mono HO_7.out (fun _ hk => trivial)⟩,⟨kb_ BK192⟩,⟨b_⟩⟩
             ·rw [if_neg c81] at H
              exact absurd H (by simp)
     ·rw [if_neg c6] at H
      exact absurd H (by simp)
    ·rw [if_neg c5] at H
     exact absurd H (by simp)
   ·rw [if_neg c4] at H
    have c4b0 : decide (x18_1 < (l0.length : Int)) = false := decide_eq_false c4
    clear c4
    simp only [Option.some.injEq,Prod.mk.injEq] at H
    obtain ⟨rfl,rfl⟩ := H
    go_wp2
    go_ret2
    exact ⟨_,_,rf_,by (with_reducible repeat (first|apply Kd.S_alloc|apply Kd.S_drewN|apply Kd.S_drew));exact HO_6.out,by (with_reducible repeat (first|apply Kd.R_alloc|apply Kd.R_drewN|apply Kd.R_drew));exact HO_7.out,b_⟩

/-! ### impl_Remap: function 52 -/
def impl_Remap.f (k : Nat) (l0 : List (S84)) (l1 : List Bool) : Option ((List (S84)) × List Int) := (impl_arePlaces.f k l0).bind fun t219 => (if t219 = true then (if (l1.length : Int) > 8 then (some (([] : List (S84)), ([] : List Int))) else ((impl_remap.f k l0 l1).bind fun bt220 => (some (bt220.1, bt220.2)))) else (some (([] : List (S84)), ([] : List Int))))

set_option maxHeartbeats 8000000 in
set_option maxRecDepth 100000 in
theorem impl_Remap.calls (k : Nat) (A0 : Option Addr) (c0 : Nat) (l0 : List (S84)) (A1 : Option Addr) (c1 : Nat) (l1 : List Bool) (r1 : List (S84)) (r2 : List Int) (w : World) (hr0 : Kd.C k84 w A0 l0.length l0) (hc0 : l0.length ≤ c0) (hr1 : Kd.C Kd.bool w A1 l1.length l1) (hc1 : l1.length ≤ c1) (h : impl_Remap.f k l0 l1 = some (r1, r2)) :
    Calls Try.prog 52 #[.slice A0 l0.length c0, .slice A1 l1.length c1] w fun e w' => ∃ v0_ v1_ : Value, e = .returned (.tuple #[v0_, v1_]) ∧ Kd.S k84 84 w' w.heap.size (fun k_ => some k_ ≠ (v1_ : Value).ownBlock) v0_ r1 ∧ Kd.R (Kd.int .i64) 2 w' w.heap.size (fun _ => True) v1_ r2 ∧ Below w.heap.size w w' := by
 have HR0 := Aside0.mk hr0
 have HC0 := Aside0.mk hc0
 clear hr0 hc0
 have HR1 := Aside0.mk hr1
 have HC1 := Aside0.mk hc1
 clear hr1 hc1
 have HB := Aside0.mk (Below.refl w.heap.size w)
 have H : ((impl_arePlaces.f k l0).bind fun t219 => (if t219 = true then (if (l1.length : Int) > 8 then (some (([] : List (S84)),([] : List Int))) else ((impl_remap.f k l0 l1).bind fun bt220 => (some (bt220.1,bt220.2)))) else (some (([] : List (S84)),([] : List Int))))) = some (r1,r2) := h
 clear h
 replace H := bs_ H
 obtain ⟨t219,A3,H⟩ := H
 by_cases c4 : t219 = true
 ·subst c4
  replace H := it_ H
  by_cases c5 : (l1.length : Int) > 8
  ·rw [if_pos c5] at H
   have c5b0 : decide (8 < (l1.length : Int)) = true := decide_eq_true c5
   have c5b1 : decide (8 < l1.length) = true := decide_eq_true (by omega)
   clear c5
   simp only [Option.some.injEq,Prod.mk.injEq] at H
   obtain ⟨rfl,rfl⟩ := H
   go_enter Try.func52,Try.ntmps52
   go_wp2_with (first|((with_reducible refine gcal_ (f := 95) rfl ?_);refine gl_ (some 7) Try.func95 #[.slice A0 l0.length c0] ?_;(with_reducible refine (impl_arePlaces.calls k _ _ l0 true _ ?side1 ?side2 A3.out).mono ?_);(case side1 => repeat (first|exact HR0.out|(with_reducible refine Kd.C_alloc ?_ _)|(with_reducible refine Kd.C_drewN ?_ _)|(with_reducible refine Kd.C_drew ?_)));(case side2 => exact HC0.out);rintro e w6 ⟨rfl,hb⟩;refine ⟨_,rfl,?_⟩;replace HB := Aside0.mk (below_step b_ hb);(try clear hb);(try clear hb2);(try clear hk);(try clear hi)))
   go_ret2
   exact ⟨_,_,rf_,by first|exact Kd.S_nil _ _ _ _ _|exact Kd.N_nil _ _ _ _ _|exact Kd.V_nil _ _ _ _ _|exact Kd.Q_nil _ _ _ _ _|exact Kd.R_nil _ _ _ _ _,by first|exact Kd.R_nil _ _ _ _ _|exact Kd.N_nil _ _ _ _ _|exact Kd.V_nil _ _ _ _ _|exact Kd.Q_nil _ _ _ _ _|exact Kd.S_nil _ _ _ _ _,b_⟩
  ·rw [if_neg c5] at H
   have c5b0 : decide (8 < (l1.length : Int)) = false := decide_eq_false c5
   have c5b1 : decide (8 < l1.length) = false := decide_eq_false (by omega)
   clear c5
   replace H := Option.bind_eq_some_iff.mp H
   obtain ⟨⟨t220,t221⟩,A70,H⟩ := H
   replace H : (some (t220,t221)) = some (r1,r2) := H
   have A7 := Aside0.mk A70
   clear A70
   simp only [Option.some.injEq,Prod.mk.injEq] at H
   obtain ⟨rfl,rfl⟩ := H
   go_enter Try.func52,Try.ntmps52
   go_wp2_with (first|((with_reducible refine gcal_ (f := 95) rfl ?_);refine gl_ (some 7) Try.func95 #[.slice A0 l0.length c0] ?_;(with_reducible refine (impl_arePlaces.calls k _ _ l0 true _ ?side1 ?side2 A3.out).mono ?_);(case side1 => repeat (first|exact HR0.out|(with_reducible refine Kd.C_alloc ?_ _)|(with_reducible refine Kd.C_drewN ?_ _)|(with_reducible refine Kd.C_drew ?_)));(case side2 => exact HC0.out);rintro e w8 ⟨rfl,hb⟩;refine ⟨_,rfl,?_⟩;replace HB := Aside0.mk (below_step b_ hb);(try clear hb);(try clear hb2);(try clear hk);(try clear hi))|((with_reducible refine gcal_ (f := 96) rfl ?_);refine gl_ (some 16) Try.func96 #[.slice A0 l0.length c0,.slice A1 l1.length c1] ?_;(with_reducible refine (impl_remap.calls k _ _ l0 _ _ l1 t220 t221 _ ?side1 ?side2 ?side3 ?side4 A7.out).mono ?_);(case side1 => exact cb_ HR0);(case side2 => exact HC0.out);(case side3 => exact cb_ HR1);(case side4 => exact HC1.out);rintro e w9 ⟨v222,v224,rfl,ho0,ho1,hb⟩;refine ⟨_,rfl,?_⟩;have HO223 := Aside0.mk (Kd.S_lower ho0 (below_size b_));have HO225 := Aside0.mk (Kd.R_lower ho1 (below_size b_));replace HB := Aside0.mk (below_step b_ hb);(try clear hb);(try clear hb2);(try clear hk);(try clear hi);(try clear ho0);(try clear ho1)))
   go_ret2
   exact ⟨_,_,rf_,by (with_reducible repeat (first|apply Kd.S_alloc|apply Kd.S_drewN|apply Kd.S_drew));exact HO223.out,by (with_reducible repeat (first|apply Kd.R_alloc|apply Kd.R_drewN|apply Kd.R_drew));exact HO225.out,b_⟩
 ·replace c4 := Bool.eq_false_iff.mpr c4
  subst c4
  replace H := ie_ H
  simp only [Option.some.injEq,Prod.mk.injEq] at H
  obtain ⟨rfl,rfl⟩ := H
  go_enter Try.func52,Try.ntmps52
  go_wp2_with (first|((with_reducible refine gcal_ (f := 95) rfl ?_);refine gl_ (some 7) Try.func95 #[.slice A0 l0.length c0] ?_;(with_reducible refine (impl_arePlaces.calls k _ _ l0 false _ ?side1 ?side2 A3.out).mono ?_);(case side1 => repeat (first|exact HR0.out|(with_reducible refine Kd.C_alloc ?_ _)|(with_reducible refine Kd.C_drewN ?_ _)|(with_reducible refine Kd.C_drew ?_)));(case side2 => exact HC0.out);rintro e w10 ⟨rfl,hb⟩;refine ⟨_,rfl,?_⟩;replace HB := Aside0.mk (below_step b_ hb);(try clear hb);(try clear hb2);(try clear hk);(try clear hi)))
  go_ret2
  exact ⟨_,_,rf_,by first|exact Kd.S_nil _ _ _ _ _|exact Kd.N_nil _ _ _ _ _|exact Kd.V_nil _ _ _ _ _|exact Kd.Q_nil _ _ _ _ _|exact Kd.R_nil _ _ _ _ _,by first|exact Kd.R_nil _ _ _ _ _|exact Kd.N_nil _ _ _ _ _|exact Kd.V_nil _ _ _ _ _|exact Kd.Q_nil _ _ _ _ _|exact Kd.S_nil _ _ _ _ _,b_⟩

/-! ### spec_l1In: function 90 -/
def spec_l1In.f (a0 : Int) (a1 : Int) (a2 : Int) : Option (Bool) := if a0 ≥ a1 then (some (decide (a0 ≤ a2))) else (some false)
set_option maxHeartbeats 8000000 in
set_option maxRecDepth 100000 in
theorem spec_l1In.calls (a0 : Int) (a1 : Int) (a2 : Int) (r : Bool) (w : World) (h : spec_l1In.f a0 a1 a2 = some r) :
    Calls Try.prog 90 #[.int .i64 a0, .int .i64 a1, .int .i64 a2] w fun e w' => e = .returned (.bool r) ∧ Drawn0 w w' := by
 have H : (if a0 ≥ a1 then (some (decide (a0 ≤ a2))) else (some false)) = some r := h
 clear h
 by_cases c4 : a0 ≥ a1
 ·rw [if_pos c4] at H
  have c4b0 : decide (a1 ≤ a0) = true := decide_eq_true c4
  clear c4
  obtain rfl := Option.some.inj H
  go_enter Try.func90,Try.ntmps90
  go_wp2
  go_ret
  exact ⟨rs_,by repeat (first|exact Drawn0.refl _|apply Drawn0.step)⟩
 ·rw [if_neg c4] at H
  have c4b0 : decide (a1 ≤ a0) = false := decide_eq_false c4
  clear c4
  obtain rfl := Option.some.inj H
  go_enter Try.func90,Try.ntmps90
  go_wp2
  go_ret
  exact ⟨rs_,by repeat (first|exact Drawn0.refl _|apply Drawn0.step)⟩

/-! ### spec_l1Machine: function 126 -/
def spec_l1Machine.f (a0 : Int) : Option (Bool) := (spec_l1In.f a0 0 7).bind fun t226 => (some t226)
set_option maxHeartbeats 8000000 in
set_option maxRecDepth 100000 in
theorem spec_l1Machine.calls (a0 : Int) (r : Bool) (w : World) (h : spec_l1Machine.f a0 = some r) :
    Calls Try.prog 126 #[.int .i64 a0] w fun e w' => e = .returned (.bool r) ∧ Drawn0 w w' := by
 have H : ((spec_l1In.f a0 0 7).bind fun t226 => (some t226)) = some r := h
 clear h
 replace H := bs_ H
 obtain ⟨t226,A2,H⟩ := H
 obtain rfl := Option.some.inj H
 go_enter Try.func126,Try.ntmps126
 go_wp2_with (first|((with_reducible refine gcal_ (f := 90) rfl ?_);refine gl_ (some 4) Try.func90 #[.int .i64 a0,.int .i64 0,.int .i64 7] ?_;(with_reducible refine (spec_l1In.calls a0 0 7 t226 _ A2.out).mono ?_);rintro e w' ⟨rfl,⟨nd,rfl⟩⟩;refine ⟨_,rfl,?_⟩))
 go_ret
 exact ⟨rs_,by repeat (first|exact Drawn0.refl _|apply Drawn0.step)⟩

end Go.Proofs.Ytgdfbjmjgegicaa.XPs
