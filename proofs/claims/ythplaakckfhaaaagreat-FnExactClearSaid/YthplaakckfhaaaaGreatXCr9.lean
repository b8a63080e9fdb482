/- Proved: of each Go function here that a call comes to what the Lean function of its name tells. Written by a program of this session over the translation. No conditions beyond each theorem's own. -/
import Derived.Test.YthplaakckfhaaaaGreatXCr0
import Derived.Test.YthplaakckfhaaaaGreatXCr1
import Derived.Test.YthplaakckfhaaaaGreatXCr5
import Derived.Test.YthplaakckfhaaaaGreatXCr6
import Derived.Test.YthplaakckfhaaaaGreatXCr7
import Derived.Test.YthplaakckfhaaaaGreatXCr8
namespace Go.Proofs.YthplaakckfhaaaaGreat.XCr
open Go.RowKit Go.Proofs.YthplaakckfhaaaaGreat.Aid Go.Proofs.YthplaakckfhaaaaGreatW.PrintWords Go.Proofs.YthplaakckfhaaaaGreatW.PrintLast Go.Proofs.YthplaakckfhaaaaGreatW.PrintMore
attribute [local go_sem] max2_int min2_int max_two min_two max_three min_three max_four min_four   -- for this text's walks alone
set_option linter.unusedVariables false
set_option linter.unusedSimpArgs false

/-! ### slices_DeleteFunc_Record: function 83 -/
def hits (q1 q2 : Int) (x : S50) : Bool := (x.f1 == q1) && (x.f2 == q2)
theorem hold_83 {p : Prop} (h : Aside0 p) : p := h.out
theorem row_cells_ {d : Kd S50} {w : World} {base : Nat} {ok : Nat → Prop} {x : S50} {c : List Value} (h : k50.M w base ok x c) : ∃ A c3, c = [.int .i64 x.f0, .int .i64 x.f1, .int .i64 x.f2, .slice A x.f3.length c3] := by
 obtain ⟨v3,rfl,h3⟩ := k50_openM h
 obtain ⟨A,c3,rfl⟩ := Kd.R_slice h3
 exact ⟨A,c3,rfl⟩
/-- The cells of element i of a row of cells. -/
theorem raw_at_ {w : World} {base g n cap : Nat} {rows : List (List Value)} (h : (Kd.raw 4).R 50 w base (fun _ => True) (.slice (some ⟨g, 0, none⟩) n cap) rows) (i : Nat) (hi : i < rows.length) :
  (∀ j u,(rows.getD i [])[j]? = some u → w.cell? ⟨g,i * 4 + j,none⟩ = some u) ∧ (rows.getD i []).length = 4 ∧ ∀ j,w.frozen? ⟨g,i * 4 + j,none⟩ = false := by
 have hn := (Kd.R_reads' h).1
 obtain ⟨c,hcl,hM,hcc,hfr⟩ := Kd.R_elem h [] (i : Int) (by omega) (by omega)
 rw [Int.toNat_natCast] at hM hcc hfr
 have hc : c = rows.getD i [] := hM.1
 subst hc
 exact ⟨hcc,hcl,hfr⟩
/-- Element i is written whole. -/
theorem raw_put_ {w : World} {base g n cap : Nat} {rows : List (List Value)} (h : (Kd.raw 4).R 50 w base (fun _ => True) (.slice (some ⟨g, 0, none⟩) n cap) rows) (i : Nat) (hi : i < rows.length) (c' : List Value) (hl : c'.length = 4) (h1 : ∀ u ∈ c', u.oneCell' = true) :
  (Kd.raw 4).R 50 (w.setCells g (i * 4) c') base (fun _ => True) (.slice (some ⟨g,0,none⟩) n cap) (rows.set i c') ∧ w.grownBy (w.setCells g (i * 4) c') (some g) := by
 have hn := (Kd.R_reads' h).1
 obtain ⟨c,hcl,hM,hcc,hfr⟩ := Kd.R_elem h [] (i : Int) (by omega) (by omega)
 have hcl' : c.length = 4 := hcl
 have e : c.take 0 ++ c' ++ c.drop (0 + c'.length) = c' := by rw [List.take_zero,List.nil_append,List.drop_of_length_le (by omega),List.append_nil]
 have hp := Kd.R_seg h (i : Int) (by omega) (by omega) (c := c) (seg := c') (j := 0) (x' := c') (okp := fun _ => False) hcl hcc (by show 0 + c'.length ≤ 4;omega) ⟨e,by rw [e];exact hl,by rw [e];exact h1⟩ (fun _ hk => hk.elim)
 rw [Int.toNat_natCast] at hp
 exact hp
theorem setCells_append_ (b : Nat) : ∀ (a c : List Value) (o : Nat) (w : World), w.setCells b o (a ++ c) = (w.setCells b o a).setCells b (o + a.length) c
  | [], c, o, w => by simp [World.setCells]
  | v :: a, c, o, w => by
    rw [List.cons_append,World.setCells,World.setCells,setCells_append_ b a c (o + 1),List.length_cons]
    congr 1
    omega
/-- d elements from i on are written whole, one behind the other. -/
theorem raw_fill_ (zs : List Value) (hz : zs.length = 4) (h1 : ∀ u ∈ zs, u.oneCell' = true) {base g n cap : Nat} : ∀ (d i : Nat) (w : World) (rows : List (List Value)), (Kd.raw 4).R 50 w base (fun _ => True) (.slice (some ⟨g, 0, none⟩) n cap) rows → i + d = rows.length →
  ∃ rows',(Kd.raw 4).R 50 (w.setCells g (i * 4) ((List.replicate d zs).flatten)) base (fun _ => True) (.slice (some ⟨g,0,none⟩) n cap) rows' ∧ rows'.take i = rows.take i ∧ rows'.length = rows.length ∧ KeepBut w (w.setCells g (i * 4) ((List.replicate d zs).flatten)) g none ∧ (∀ w0 : World,∀ B,Below B w0 w → B ≤ g → Below B w0 (w.setCells g (i * 4) ((List.replicate d zs).flatten)))
  | 0, i, w, rows, h, hd => ⟨rows, by simpa [World.setCells] using h, rfl, rfl, by simpa [World.setCells] using KeepBut.refl w g none, fun w0 B hb _ => by simpa [World.setCells] using hb⟩
  | d + 1, i, w, rows, h, hd => by
    obtain ⟨hr,hg⟩ := raw_put_ h i (by omega) zs hz h1
    obtain ⟨rows',h2,h3,h4,h5,h6⟩ := raw_fill_ zs hz h1 d (i + 1) _ _ hr (by rw [List.length_set];omega)
    have e : (List.replicate (d + 1) zs).flatten = zs ++ (List.replicate d zs).flatten := by rw [List.replicate_succ,List.flatten_cons]
    rw [e,setCells_append_,hz,show i * 4 + 4 = (i + 1) * 4 from by omega]
    refine ⟨rows',h2,?_,by rw [h4,List.length_set],?_,fun w0 B hb hBg => h6 w0 B (hb.grown hg (Nat.le_trans hBg (Nat.le_of_lt (Kd.R_lt h g (by simp [Value.ownBlock])))) (fun k hk => by injection hk with hk;omega)) hBg⟩
    ·have := congrArg (List.take i) h3
     rw [List.take_take,List.take_take,Nat.min_eq_left (by omega),List.take_set_of_le (Nat.le_refl _)] at this
     exact this
    ·exact ⟨Nat.le_trans hg.size h5.1,fun k hk hkg hn => (h5.2 k (Nat.lt_of_lt_of_le hk hg.size) hkg hn).trans (hg.block k hk (fun he => hkg (by injection he)))⟩
theorem raw_take_ {w : World} {base g n cap : Nat} {rows : List (List Value)} (h : (Kd.raw 4).R 50 w base (fun _ => True) (.slice (some ⟨g, 0, none⟩) n cap) rows) (m : Nat) (hm : m ≤ rows.length) : (Kd.raw 4).R 50 w base (fun _ => True) (.slice (some ⟨g, 0, none⟩) m cap) (rows.take m) := by
 obtain ⟨h0,inner,ho,hr⟩ := h
 have hn : n = rows.length := by
  rcases ho.2 with ⟨hv,_⟩ | ⟨_,_,_,hv,_⟩
  ·cases hv
  ·injection hv
 refine ⟨fun _ _ => trivial,inner.take (m * 4),⟨?_,?_⟩,?_,fun j p hj => ?_⟩
 ·have := ho.1
  have h4 : (Kd.raw 4).sz = 4 := rfl
  rw [List.length_take,List.length_take,this,h4]
  have : m * 4 ≤ rows.length * 4 := Nat.mul_le_mul_right _ hm
  rw [Nat.min_eq_left hm];omega
 ·rcases ho.2 with ⟨hv,_⟩ | ⟨g',cap',cur,hv,hb,hh,hc1,hc2,hc3,hc4⟩
  ·cases hv
  ·injection hv with hv1 hv2 hv3
   injection hv1 with hv1
   injection hv1 with hv1
   subst hv1
   subst hv3
   refine .inr ⟨g,cap,cur,by rw [List.length_take,Nat.min_eq_left hm],hb,hh,by rw [List.length_take];omega,hc2,hc3,?_⟩
   rw [← hc4,List.take_take,List.length_take,Nat.min_eq_left hm]
   congr 1
   show m * 4 = min (m * 4) (rows.length * 4)
   have : m * 4 ≤ rows.length * 4 := Nat.mul_le_mul_right _ hm
   omega
 ·have := hr.1
  have h4 : (Kd.raw 4).sz = 4 := rfl
  rw [h4] at this
  rw [List.length_take,List.length_take,this,h4]
  have : m * 4 ≤ rows.length * 4 := Nat.mul_le_mul_right _ hm
  rw [Nat.min_eq_left hm];omega
 ·have hjl := (List.getElem?_eq_some_iff.1 hj).1
  rw [List.length_take] at hjl
  rw [List.getElem?_take_of_lt (by omega)] at hj
  have h2 := hr.2 j p hj
  have e : ((inner.take (m * 4)).drop (j * 4)).take 4 = (inner.drop (j * 4)).take 4 := by
   rw [List.drop_take,List.take_take,Nat.min_eq_left (by omega)]
  show _ = p ∧ _
  have h3 : (inner.drop (j * 4)).take 4 = p ∧ ((inner.drop (j * 4)).take 4).length = 4 ∧ ∀ u ∈ (inner.drop (j * 4)).take 4,u.oneCell' = true := h2
  rw [← e] at h3
  exact h3
theorem four_ {l : List Value} (h : l.length = 4) : ∃ a b c d, l = [a, b, c, d] := by
 match l,h with
  | [a, b, c, d], _ => exact ⟨a, b, c, d, rfl⟩
theorem del_start_ {p : S50 → Bool} {l0 : List S50} {rows0 : List (List Value)} (hl : rows0.length = l0.length) {j0 : Nat} (hj : j0 < l0.length) (h1 : p l0[j0] = true) (h2 : ∀ s (hs : s < j0), p l0[s] = false) : Del p z50 l0 rows0 rows0 j0 (j0 + 1) := by
 have hz : ∀ s (hs : s < l0.length),l0.getD s z50 = l0[s] := fun s hs => by rw [List.getD_eq_getElem?_getD,List.getElem?_eq_getElem hs];rfl
 have e1 : stays p z50 l0 (j0 + 1) = List.range j0 := by
  rw [stays_succ,if_pos (by rw [hz j0 hj];exact h1),List.append_nil,stays_all p z50 l0 j0 (fun t ht => by rw [hz t (by omega)];exact h2 t ht)]
 refine ⟨by rw [e1,List.length_range],rfl,?_,rfl⟩
 rw [e1]
 apply List.ext_getElem
 ·simp;omega
 ·intro i h3 h4
  have : i < rows0.length := by simp at h3;omega
  simp only [List.getElem_take,List.getElem_map,List.getElem_range]
  rw [List.getD_eq_getElem?_getD,List.getElem?_eq_getElem this];rfl
set_option maxHeartbeats 8000000 in
set_option maxRecDepth 100000 in
theorem slices_DeleteFunc_Record.calls (P0_ : Nat → Prop) (A0 : Option Addr) (c0 : Nat) (l0 : List (S50)) (g1 g2 : Nat) (q1 q2 : Int) (w0 w : World) (hB : Below w0.heap.size w0 w) (hP1 : ¬ P0_ g1) (hP2 : ¬ P0_ g2) (h1 : w.cell? ⟨g1, 0, none⟩ = some (.int .i64 q1)) (h2 : w.cell? ⟨g2, 0, none⟩ = some (.int .i64 q2)) (ho : Kd.S k50 50 w w0.heap.size P0_ (.slice A0 l0.length c0) l0) :
    Calls Tryz.prog 83 #[.slice A0 l0.length c0, .func (.func 84) #[] #[.pointer (some ⟨g1, 0, none⟩), .pointer (some ⟨g2, 0, none⟩)]] w fun e w' => ∃ A' c', e = .returned (.slice A' (l0.filter fun x => !hits q1 q2 x).length c') ∧ Kd.S k50 50 w' w0.heap.size P0_ (.slice A' (l0.filter fun x => !hits q1 q2 x).length c') (l0.filter fun x => !hits q1 q2 x) ∧ Below w0.heap.size w0 w' ∧ Kept w w' P0_ := by
 have hu := Tryz.underlying50
 have hlen := (Kd.S_reads' ho).2.2.2.1
 have HO := Aside0.mk ho
 have HB := Aside0.mk hB
 have X1 := Aside0.mk h1
 have X2 := Aside0.mk h2
 have HC := Aside0.mk (Kd.S_reads' ho).2.1
 have HR := Aside0.mk (Kd.S_reads' ho).2.2
 clear ho hB h1 h2
 obtain ⟨t,T1,T2⟩ : ∃ t,Aside0 (idxFrom (fun x : S50 => some (hits q1 q2 x)) l0 0 = some t) ∧ Aside0 ((t = -1 ∧ ∀ x ∈ l0,hits q1 q2 x = false) ∨ ∃ j,∃ h : j < l0.length,t = (j : Int) ∧ hits q1 q2 l0[j] = true ∧ ∀ s (hs : s < j),hits q1 q2 l0[s] = false) := by
  rcases idx_first (hits q1 q2) l0 0 with ⟨e1,e2⟩ | ⟨j,hj,e1,e2,e3⟩
  ·exact ⟨_,⟨e1⟩,⟨.inl ⟨rfl,e2⟩⟩⟩
  ·exact ⟨_,⟨e1⟩,⟨.inr ⟨j,hj,by omega,e2,e3⟩⟩⟩
 have hi := impl_Record_116.idx (fun x : S50 => some (hits q1 q2 x)) 84 #[.pointer (some ⟨g1,0,none⟩),.pointer (some ⟨g2,0,none⟩)] (enters_of Tryz.func84 (by kernel_rfl) rfl) A0 c0 l0 w (fun x A3 c3 b W hb_ hB_ hL_ hC_ => by
  obtain rfl := Option.some.inj hb_
  exact (impl_Machine_clear_1.calls x.f0 x.f1 x.f2 A3 c3 x.f3 g1 g2 q1 q2 W ((hB_.cell (World.block_lt_of_cell? w _ X1.out)).trans X1.out) ((hB_.cell (World.block_lt_of_cell? w _ X2.out)).trans X2.out)).mono fun e w' hh => ⟨hh.1,below_step hB_ hh.2⟩) HR.out HC.out t T1.out
 go_enter Tryz.func83,Tryz.ntmps83
 rcases T2.out with ⟨e1,e2⟩ | ⟨j0,hj0,e1,e2,e3⟩
 ·subst e1
  have hf : (l0.filter fun x => !hits q1 q2 x) = l0 := List.filter_eq_self.2 (fun x hx => by rw [e2 x hx];rfl)
  rw [hf]
  clear T1 T2 e2
  go_wp2_with (go_at_call 116;refine hi.mono ?_;rintro e w1 ⟨rfl,hb⟩)
  go_ret
  exact ⟨A0,c0,rfl,Kd.S_below HO.out hb,below_step HB.out hb,⟨hb.size,fun k hk _ => hb.block k hk⟩⟩
 ·subst e1
  have hjb : ((j0 : Int) == -1) = false := beq_eq_false_iff_ne.mpr (by omega)
  obtain ⟨go,co,eo,gbo,glo,_⟩ := Kd.S_form HO.out (by omega)
  obtain rfl : A0 = some ⟨go,0,none⟩ := (by injection eo)
  obtain rfl : c0 = co := (by injection eo)
  clear eo
  have GB : Aside0 (w0.heap.size ≤ go) := ⟨gbo⟩
  go_wp2_with (go_at_call 116;refine hi.mono ?_;rintro e w1 ⟨rfl,hb⟩;replace HO := Aside0.mk (Kd.S_below HO.out hb);replace HB := Aside0.mk (below_step HB.out hb);have K1 := Aside0.mk hb)
  obtain ⟨f,rows0,hl0,hg,hraw,hM⟩ := S_rows_ HO.out
  have LR := Aside0.mk hl0
  have HG := Aside0.mk hg
  have HM := Aside0.mk hM
  have HC0 := Aside0.mk (Kd.R_reads' hraw).2.1
  have HA := Aside0.mk hraw
  have HD : Aside0 (Del (hits q1 q2) z50 l0 rows0 rows0 j0 (j0 + 1)) := ⟨del_start_ hl0 hj0 e2 e3⟩
  have XA : Aside0 (w1.cell? ⟨g1,0,none⟩ = some (.int .i64 q1)) := ⟨(K1.out.cell (World.block_lt_of_cell? w _ X1.out)).trans X1.out⟩
  have XB : Aside0 (w1.cell? ⟨g2,0,none⟩ = some (.int .i64 q2)) := ⟨(K1.out.cell (World.block_lt_of_cell? w _ X2.out)).trans X2.out⟩
  have N1 : Aside0 (g1 ≠ go) := ⟨fun e_ => hP1 (e_ ▸ hg)⟩
  have N2 : Aside0 (g2 ≠ go) := ⟨fun e_ => hP2 (e_ ▸ hg)⟩
  have HN : Aside0 (j0 < l0.length) := ⟨hj0⟩
  clear hl0 hg hraw hM T1 T2 e2 e3 hi gbo glo hjb hP1 hP2 HR
  go_loopg [5,6] l0.length (fun gg v5 v6 wr => ∃ (m j : Nat) (rows : List (List Value)),v5 = .int .i64 m ∧ v6 = .int .i64 j ∧ m < j ∧ j ≤ l0.length ∧ l0.length - j ≤ gg ∧ Aside0 (Del (hits q1 q2) z50 l0 rows0 rows m j) ∧ Aside0 ((Kd.raw 4).R 50 wr w0.heap.size (fun _ => True) (.slice (some ⟨go,0,none⟩) l0.length c0) rows) ∧ Aside0 (KeepBut w1 wr go none) ∧ Aside0 (Below w0.heap.size w0 wr))
  case atStart => exact ⟨j0,j0 + 1,rows0,rfl,by go_num,by omega,by omega,by omega,HD,HA,⟨KeepBut.refl _ _ _⟩,HB⟩
  case round =>
   clear HD HA HB
   obtain ⟨m,j,rows,rfl,rfl,hmj,hjl,hgg,HD,HA,HK,HB⟩ := hrel
   have hrl : rows.length = l0.length := HD.out.2.1.trans LR.out
   by_cases hlt : j < l0.length
   ·have hltz : (j : Int) < (l0.length : Int) := by omega
    have hx : l0[j]? = some l0[j] := List.getElem?_eq_getElem hlt
    have hr0 : rows0[j]? = some (rows0.getD j []) := by rw [List.getD_eq_getElem?_getD,List.getElem?_eq_getElem (by rw [LR.out];exact hlt)];rfl
    obtain ⟨Ae,ce,er⟩ := row_cells_ (d := k50) (HM.out j _ _ hx hr0)
    have ER := Aside0.mk er
    have ej := del_at HD.out (by rw [LR.out];exact hlt)
    have hz : l0.getD j z50 = l0[j] := by rw [List.getD_eq_getElem?_getD,hx];rfl
    obtain ⟨hca,_,_⟩ := raw_at_ HA.out j (by omega)
    rw [ej,er] at hca
    have hx0 := hca 0 _ rfl
    have hx1 := hca 1 _ rfl
    have hx2 := hca 2 _ rfl
    have hx3 := hca 3 _ rfl
    rw [Nat.add_zero] at hx0
    generalize l0[j] = x at *
    have HZ := Aside0.mk hz
    clear hx hr0 er ej hca hz
    go_wp2_with ((with_reducible refine gate_dst (N := 7) rfl ?_);refine bx_ 7 #[.int .i64 0,.int .i64 0,.int .i64 0,.slice none 0 0] 50 ?_;intro gv hg w2 hbox hb;have hge := Aside0.mk (Nat.le_of_eq hg.symm);clear hg;refine hold_83 ?_)
    refine ⟨?_⟩
    have BZ := Aside0.mk hbox
    have Q0 := Aside0.mk hb
    have HGE := hge
    clear hbox hb hge
    have hcy_0 : w2.cell? ⟨gv,0,none⟩ = some (.int .i64 0) := (blk_cell BZ.out 0).trans rfl
    have hcy_1 : w2.cell? ⟨gv,1,none⟩ = some (.int .i64 0) := (blk_cell BZ.out 1).trans rfl
    have hcy_2 : w2.cell? ⟨gv,2,none⟩ = some (.int .i64 0) := (blk_cell BZ.out 2).trans rfl
    have hcy_3 : w2.cell? ⟨gv,3,none⟩ = some (.slice none 0 0) := (blk_cell BZ.out 3).trans rfl
    have hfy_0 := blk_frozen BZ.out 0
    have hfy_1 := blk_frozen BZ.out 1
    have hfy_2 := blk_frozen BZ.out 2
    have hfy_3 := blk_frozen BZ.out 3
    go_upto_region 8 with (fail)
    have n0_ : Aside0 (Below wr.heap.size wr ((((w2.setCell ⟨gv,0,none⟩ (.int .i64 x.f0)).setCell ⟨gv,1,none⟩ (.int .i64 x.f1)).setCell ⟨gv,2,none⟩ (.int .i64 x.f2)).setCell ⟨gv,3,none⟩ (.slice Ae x.f3.length ce))) := ⟨below_set (below_set (below_set (below_set Q0.out HGE.out) HGE.out) HGE.out) HGE.out⟩
    have n1_ : Aside0 (((((w2.setCell ⟨gv,0,none⟩ (.int .i64 x.f0)).setCell ⟨gv,1,none⟩ (.int .i64 x.f1)).setCell ⟨gv,2,none⟩ (.int .i64 x.f2)).setCell ⟨gv,3,none⟩ (.slice Ae x.f3.length ce)).heap[gv]? = some (.cells #[.int .i64 x.f0,.int .i64 x.f1,.int .i64 x.f2,.slice Ae x.f3.length ce] 50 (0,0))) := ⟨by refine blk_put (cs := #[.int .i64 x.f0,.int .i64 x.f1,.int .i64 x.f2,.slice none 0 0]) ?_ 3 _ rfl;refine blk_put (cs := #[.int .i64 x.f0,.int .i64 x.f1,.int .i64 0,.slice none 0 0]) ?_ 2 _ rfl;refine blk_put (cs := #[.int .i64 x.f0,.int .i64 0,.int .i64 0,.slice none 0 0]) ?_ 1 _ rfl;refine blk_put (cs := #[.int .i64 0,.int .i64 0,.int .i64 0,.slice none 0 0]) ?_ 0 _ rfl;exact BZ.out⟩
    clear BZ Q0 hcy_0 hcy_1 hcy_2 hcy_3 hfy_0 hfy_1 hfy_2 hfy_3 hx0 hx1 hx2 hx3
    generalize ((((w2.setCell ⟨gv,0,none⟩ (.int .i64 x.f0)).setCell ⟨gv,1,none⟩ (.int .i64 x.f1)).setCell ⟨gv,2,none⟩ (.int .i64 x.f2)).setCell ⟨gv,3,none⟩ (.slice Ae x.f3.length ce)) = w3 at n0_ n1_ ⊢
    have hb3 := n0_.out
    have BV := n1_
    replace HA := Aside0.mk (Kd.R_below HA.out hb3)
    replace HK := Aside0.mk (KeepBut.trans HK.out (KeepBut.of_below hb3 go none) (.inl rfl))
    replace HB := Aside0.mk (below_step HB.out hb3)
    clear n0_ n1_ hb3 HGE
    have hc0_ : w3.cell? ⟨gv,0,none⟩ = some (.int .i64 x.f0) := (blk_cell BV.out 0).trans rfl
    have hc1_ : w3.cell? ⟨gv,1,none⟩ = some (.int .i64 x.f1) := (blk_cell BV.out 1).trans rfl
    have hc2_ : w3.cell? ⟨gv,2,none⟩ = some (.int .i64 x.f2) := (blk_cell BV.out 2).trans rfl
    have hc3_ : w3.cell? ⟨gv,3,none⟩ = some (.slice Ae x.f3.length ce) := (blk_cell BV.out 3).trans rfl
    have ya : w3.cell? ⟨g1,0,none⟩ = some (.int .i64 q1) := (World.cell?_of_block (a := ⟨g1,0,none⟩) (HK.out.2 g1 (World.block_lt_of_cell? _ _ XA.out) N1.out (by simp))).trans XA.out
    have yb : w3.cell? ⟨g2,0,none⟩ = some (.int .i64 q2) := (World.cell?_of_block (a := ⟨g2,0,none⟩) (HK.out.2 g2 (World.block_lt_of_cell? _ _ XB.out) N2.out (by simp))).trans XB.out
    have hcall : Calls Tryz.prog 84 #[.agg #[.int .i64 x.f0,.int .i64 x.f1,.int .i64 x.f2,.slice Ae x.f3.length ce],.pointer (some ⟨g1,0,none⟩),.pointer (some ⟨g2,0,none⟩)] w3 fun e w' => e = .returned (.bool ((x.f1 == q1) && (x.f2 == q2))) ∧ Below w3.heap.size w3 w' := impl_Machine_clear_1.calls x.f0 x.f1 x.f2 Ae ce x.f3 g1 g2 q1 q2 w3 ya yb
    rw [show ((x.f1 == q1) && (x.f2 == q2)) = hits q1 q2 x from rfl] at hcall
    clear ya yb
    cases hv : hits q1 q2 x with
    | true =>
     rw [hv] at hcall
     have HV : Aside0 (hits q1 q2 (l0.getD j z50) = true) := ⟨by rw [HZ.out];exact hv⟩
     clear hv
     go_wp2_with (go_at_call 84;refine hcall.mono ?_;rintro e w4 ⟨rfl,hb4⟩;have B4 := Aside0.mk hb4;clear hb4)
     go_roundg (l0.length - (j + 1))
     case measure => omega
     case rel => exact ⟨m,j + 1,rows,rfl,by go_num,by omega,by omega,by omega,⟨del_skip HD.out HV.out⟩,⟨Kd.R_below HA.out B4.out⟩,⟨KeepBut.trans HK.out (KeepBut.of_below B4.out go none) (.inl rfl)⟩,⟨below_step HB.out B4.out⟩⟩
    | false =>
     rw [hv] at hcall
     have HV : Aside0 (hits q1 q2 (l0.getD j z50) = false) := ⟨by rw [HZ.out];exact hv⟩
     clear hv
     have hmz : (m : Int) < (l0.length : Int) := by omega
     go_wp2_with (go_at_call 84;refine hcall.mono ?_;rintro e w4 ⟨rfl,hb4⟩;replace HA := Aside0.mk (Kd.R_below HA.out hb4);replace HK := Aside0.mk (KeepBut.trans HK.out (KeepBut.of_below hb4 go none) (.inl rfl));replace HB := Aside0.mk (below_step HB.out hb4);replace BV := Aside0.mk (blk_below BV.out hb4);clear hb4 hc0_ hc1_ hc2_ hc3_;have hc0_ : w4.cell? ⟨gv,0,none⟩ = some (.int .i64 x.f0) := (blk_cell BV.out 0).trans rfl;have hc1_ : w4.cell? ⟨gv,1,none⟩ = some (.int .i64 x.f1) := (blk_cell BV.out 1).trans rfl;have hc2_ : w4.cell? ⟨gv,2,none⟩ = some (.int .i64 x.f2) := (blk_cell BV.out 2).trans rfl;have hc3_ : w4.cell? ⟨gv,3,none⟩ = some (.slice Ae x.f3.length ce) := (blk_cell BV.out 3).trans rfl;obtain ⟨hs,hsl,hsf⟩ := raw_at_ HA.out m (by omega);obtain ⟨s0,s1,s2,s3,es⟩ := four_ hsl;rw [es] at hs;have hs0 := hs 0 _ rfl;have hs1 := hs 1 _ rfl;have hs2 := hs 2 _ rfl;have hs3 := hs 3 _ rfl;rw [Nat.add_zero] at hs0;have hf0 := hsf 0;have hf1 := hsf 1;have hf2 := hsf 2;have hf3 := hsf 3;rw [Nat.add_zero] at hf0;clear hs hsl hsf es)
     go_roundg (l0.length - (j + 1))
     case measure => omega
     case rel =>
      have hp := raw_put_ HA.out m (by omega) (rows0.getD j []) (by rw [ER.out];rfl) (by rw [ER.out];intro u hu;simp at hu;rcases hu with rfl|rfl|rfl|rfl <;> rfl)
      have hd := del_move HD.out HV.out (by omega) (by rw [LR.out];exact hlt)
      have hG : go < w4.heap.size := Kd.R_lt HA.out go (by simp [Value.ownBlock])
      rw [show w4.setCells go (m * 4) (rows0.getD j []) = (((w4.setCell ⟨go,m * 4,none⟩ (.int .i64 x.f0)).setCell ⟨go,m * 4 + 1,none⟩ (.int .i64 x.f1)).setCell ⟨go,m * 4 + 2,none⟩ (.int .i64 x.f2)).setCell ⟨go,m * 4 + 3,none⟩ (.slice Ae x.f3.length ce) from by rw [ER.out];rfl] at hp
      exact ⟨m + 1,j + 1,_,by go_num,by go_num,by omega,by omega,by omega,⟨hd⟩,⟨hp.1⟩,⟨keep_set_ (keep_set_ (keep_set_ (keep_set_ HK.out _ _) _ _) _ _) _ _⟩,⟨below_set (below_set (below_set (below_set HB.out GB.out) GB.out) GB.out) GB.out⟩⟩
   ·have hj : j = l0.length := by omega
    subst hj
    have hltz : ¬ (l0.length : Int) < (l0.length : Int) := by omega
    have hmz : (m : Int) ≤ (l0.length : Int) := by omega
    have hcl : ∀ ty,(Builtin.clear_ #[29] ty #[.slice (some ⟨go,m * 4,none⟩) (l0.length - m) (c0 - m)]).run Tryz.prog wr = .ok (.tuple #[]) (wr.setCells go (m * 4) ((List.replicate (l0.length - m) [.int .i64 0,.int .i64 0,.int .i64 0,.slice none 0 0]).flatten)) := fun ty => by
     have hz := zero_cells4_ (.int .i64 0) (.int .i64 0) (.int .i64 0) (.slice none 0 0) (l0.length - m)
     rw [← hz]
     refine run_clear_row wr 29 50 ty (.agg #[.int .i64 0,.int .i64 0,.int .i64 0,.slice none 0 0]) Tryz.underlying29 (fun w => by rfl) (by intro v hv;simp [Value.cells] at hv;rcases hv with rfl|rfl|rfl|rfl <;> rfl) (by decide) go (m * 4) (l0.length - m) (c0 - m) (by omega) (fun t ht => ?_) (fun t ht => ?_)
     ·have ht' : t < (l0.length - m) * 4 := ht
      obtain ⟨hs,hsl,_⟩ := raw_at_ HA.out (m + t / 4) (by omega)
      have h4 : t % 4 < (rows.getD (m + t / 4) []).length := by rw [hsl];omega
      have := hs (t % 4) _ (List.getElem?_eq_getElem h4)
      rw [show (m + t / 4) * 4 + t % 4 = m * 4 + t from by omega] at this
      rw [this];rfl
     ·have ht' : t < (l0.length - m) * 4 := ht
      obtain ⟨_,_,hf⟩ := raw_at_ HA.out (m + t / 4) (by omega)
      have := hf (t % 4)
      rwa [show (m + t / 4) * 4 + t % 4 = m * 4 + t from by omega] at this
    obtain ⟨rows',z1,z2,z3,z4,z5⟩ := raw_fill_ [.int .i64 0,.int .i64 0,.int .i64 0,.slice none 0 0] rfl (by intro u hu;simp at hu;rcases hu with rfl|rfl|rfl|rfl <;> rfl) (l0.length - m) m wr rows HA.out (by omega)
    have Z1 := Aside0.mk z1
    have Z2 := Aside0.mk z2
    have Z3 := Aside0.mk z3
    have Z4 := Aside0.mk z4
    have Z5 := Aside0.mk (z5 w0 w0.heap.size HB.out GB.out)
    have hcn : m < l0.length := hmj
    have hcc := HC0.out
    have hq1 : ¬ c0 = m := by omega
    have hq2 : (m : Int) ≤ (c0 : Int) := by omega
    clear z1 z2 z3 z4 z5
    go_wp2
    go_ret
    have hm : m = (l0.filter fun x => !hits q1 q2 x).length := by
     have e1 := stays_map (hits q1 q2) z50 l0 l0.length (Nat.le_refl _)
     rw [List.take_length] at e1
     rw [← e1,List.length_map]
     exact HD.out.1
    have ht : rows'.take m = (stays (hits q1 q2) z50 l0 l0.length).map (rows0.getD · []) := Z2.out.trans HD.out.2.2.1
    have hS : Kd.S k50 50 (wr.setCells go (m * 4) ((List.replicate (l0.length - m) [.int .i64 0,.int .i64 0,.int .i64 0,.slice none 0 0]).flatten)) w0.heap.size P0_ (.slice (some ⟨go,0,none⟩) m c0) (l0.filter fun x => !hits q1 q2 x) :=
     S_kept_ HG.out LR.out HM.out (fun k hk1 hk2 => (Z4.out.2 k (Nat.lt_of_lt_of_le hk2 HK.out.1) hk1 (by simp)).trans (HK.out.2 k hk2 hk1 (by simp))) (by rw [← ht];exact raw_take_ Z1.out m (by rw [Z3.out];omega))
    rw [← hm]
    exact ⟨some ⟨go,0,none⟩,c0,rfl,hS,Z5.out,⟨Nat.le_trans K1.out.size (Nat.le_trans HK.out.1 Z4.out.1),fun k hk1 hk2 => by
     have hne : k ≠ go := fun e_ => hk2 (e_ ▸ HG.out)
     exact (Z4.out.2 k (Nat.lt_of_lt_of_le hk1 (Nat.le_trans K1.out.size HK.out.1)) hne (by simp)).trans ((HK.out.2 k (Nat.lt_of_lt_of_le hk1 K1.out.size) hne (by simp)).trans (K1.out.block k hk1))⟩⟩

/-! ### spec_l6Clear: function 32 -/
theorem hold_32 {p : Prop} (h : Aside0 p) : p := h.out
/-- A row's elements, told apart: each one's cells and blocks. -/
theorem elems_ {w : World} {base : Nat} {ok : Nat → Prop} {A : Option Addr} {n cap : Nat} {xs : List S50} (h : Kd.S k50 50 w base ok (.slice A n cap) xs) :
  ∃ (f : Nat → Nat),∀ (j : Nat) (x : S50),xs[j]? = some x → ∃ (g : Nat) (c : List Value),A = some ⟨g,0,none⟩ ∧ (∀ i v,c[i]? = some v → w.cell? ⟨g,j * 4 + i,none⟩ = some v) ∧ k50.M w base (fun k => ok k ∧ f k = j) x c := by
 by_cases hx : xs = []
 ·subst hx
  exact ⟨fun _ => 0,fun j x hj => by simp at hj⟩
 ·have hn := (Kd.S_reads' h).1
  obtain ⟨g,c0,e1,_⟩ := Kd.S_form h (by have := hn;have := List.length_pos_iff.2 hx;omega)
  obtain rfl : A = some ⟨g,0,none⟩ := (by injection e1)
  obtain ⟨f,rows,h1,h2,h3,h4⟩ := S_rows_ h
  refine ⟨f,fun j x hj => ?_⟩
  have hjl := (List.getElem?_eq_some_iff.1 hj).1
  have hc : rows[j]? = some rows[j] := List.getElem?_eq_getElem (by omega)
  obtain ⟨hs,_,_⟩ := raw_at_ h3 j (by omega)
  have er : rows.getD j [] = rows[j] := by rw [List.getD_eq_getElem?_getD,hc];rfl
  rw [er] at hs
  exact ⟨g,rows[j],rfl,hs,k50.M_mono (fun k hk => ⟨hk.1.1,hk.2⟩) (h4 j x _ hj hc)⟩
theorem kept_cell0_ {w W : World} (h : Kept w W (fun _ => False)) {a : Addr} {v : Value} (hc : w.cell? a = some v) : W.cell? a = some v := by
 have := h.2 a.block (World.block_lt_of_cell? w a hc) (fun h => h)
 simpa [World.cell?,this] using hc
theorem S_empty_ {W : World} {g base : Nat} {ok : Nat → Prop} (h : W.heap[g]? = some (.cells #[] 50 (0, 0))) (hb : base ≤ g) (hg : ok g) : Kd.S k50 50 W base ok (.slice (some ⟨g, 0, none⟩) 0 0) [] :=
 ⟨fun _ => 0,fun k hk => by
  have : g = k := by simpa [Value.ownBlock] using hk
  subst this;exact hg,[],⟨rfl,.inr ⟨g,0,#[],rfl,hb,h,Nat.le_refl _,by decide,rfl,rfl⟩⟩,rfl,fun j p hj => by simp at hj⟩
def spec_l6Clear.f (k : Nat) (p2 : List S50) (p3 : List Int) (a1 a2 : Int) (d : Bool) : Option (List S50 × List Int) := if p2.length < 2932031007402 then (if d = true then (spec_l6Put.f k p3 a1).bind fun q => some ((p2.filter fun x => !hits a1 a2 x), q) else some ((p2.filter fun x => !hits a1 a2 x), p3)) else none
set_option maxHeartbeats 8000000 in
set_option maxRecDepth 100000 in
theorem spec_l6Clear.calls (k : Nat) (P2_ P3_ : Nat → Prop) (gb : Nat) (b : Bool) (s1 : Value) (A2 : Option Addr) (c2 : Nat) (p2 : List S50) (A3 : Option Addr) (c3 : Nat) (p3 : List Int) (a1 a2 : Int) (d : Bool) (r2 : List S50) (r3 : List Int) (w0 w : World) (hB : Below w0.heap.size w0 w) (hg0 : w0.heap.size ≤ gb) (hx : w.heap[gb]? = some (.cells #[.bool b, s1, .slice A2 p2.length c2, .slice A3 p3.length c3] 31 (0, 0))) (hP2 : ¬ P2_ gb) (hP3 : ¬ P3_ gb) (h23 : ∀ k, P2_ k → P3_ k → False) (ho2 : Kd.S k50 50 w w0.heap.size P2_ (.slice A2 p2.length c2) p2) (ho3 : (Kd.int .i64).R 2 w w0.heap.size P3_ (.slice A3 p3.length c3) p3) (h : spec_l6Clear.f k p2 p3 a1 a2 d = some (r2, r3)) :
    Calls Tryz.prog 32 #[.pointer (some ⟨gb, 0, none⟩), .int .i64 a1, .int .i64 a2, .bool d] w fun e w' => e = .returned (.tuple #[]) ∧ ∃ (A4 : Option Addr) (c4 : Nat) (A5 : Option Addr) (c5 : Nat), w'.heap[gb]? = some (.cells #[.bool b, s1, .slice A4 r2.length c4, .slice A5 r3.length c5] 31 (0, 0)) ∧ Kd.S k50 50 w' w0.heap.size (fun k_ => P2_ k_ ∨ w.heap.size ≤ k_) (.slice A4 r2.length c4) r2 ∧ (Kd.int .i64).R 2 w' w0.heap.size (fun k_ => P3_ k_ ∨ w.heap.size ≤ k_) (.slice A5 r3.length c5) r3 ∧ Below w0.heap.size w0 w' ∧ Kept w w' (fun k_ => P3_ k_ ∨ k_ = gb) := by
 have hu := Tryz.underlying31
 have hu2 := Tryz.underlying50
 unfold spec_l6Clear.f at h
 by_cases hL : p2.length < 2932031007402
 rotate_left
 ·rw [if_neg hL] at h;cases h
 rw [if_pos hL] at h
 have H1 := Aside0.mk h
 have HLL := Aside0.mk hL
 have BG0 := Aside0.mk hx
 have GG := Aside0.mk hg0
 have LG := Aside0.mk (blk_lt hx)
 have HB := Aside0.mk hB
 have P2 := Aside0.mk hP2
 have P3 := Aside0.mk hP3
 have PD := Aside0.mk h23
 have T3 := Aside0.mk (Kd.R_mono (ok' := fun k_ => P3_ k_ ∧ k_ < w.heap.size) (Kd.R_bound ho3) (fun _ h_ => ⟨h_.1,h_.2.2.1⟩))
 have T2 := Kd.S_mono (ok' := fun k_ => P2_ k_ ∧ k_ < w.heap.size) (Kd.S_bound ho2) (fun _ h_ => ⟨h_.1,h_.2.2.1⟩)
 have hc2 := Aside0.mk (Kd.S_reads' T2).2.1
 obtain ⟨f,hf⟩ := elems_ T2
 have HF := Aside0.mk hf
 clear h hx hg0 hB hP2 hP3 h23 ho2 ho3 T2 hf
 have W0 := Aside0.mk HB.out.size
 go_enter Tryz.func32,Tryz.ntmps32
 go_wp2
 have hS0 : Kd.S k50 50 (w.alloc (.cells #[] 50)) w0.heap.size (fun k_ => ((P2_ k_ ∧ k_ < w.heap.size) ∧ f k_ < 0) ∨ w.heap.size ≤ k_) (.slice (some ⟨w.heap.size,0,none⟩) 0 0) [] := S_empty_ (blk_new _ _) W0.out (.inr (Nat.le_refl _))
 have HS0 := Aside0.mk hS0
 clear hS0
 go_loopg [8,9] p2.length (fun gg v8 v9 wr => ∃ (j : Nat),v9 = .int .i64 j ∧ j ≤ p2.length ∧ p2.length - j ≤ gg ∧ Aside0 (Kd.S k50 50 wr w0.heap.size (fun k_ => ((P2_ k_ ∧ k_ < w.heap.size) ∧ f k_ < j) ∨ w.heap.size ≤ k_) v8 ((p2.take j).filter fun x => !hits a1 a2 x)) ∧ Aside0 (∀ k,v8.ownBlock = some k → w.heap.size ≤ k) ∧ Aside0 (Kept w wr (fun _ => False)) ∧ Aside0 (Below w0.heap.size w0 wr))
 case atStart => exact ⟨0,rfl,by omega,by omega,HS0,⟨fun k hk => by injection hk with hk;exact Nat.le_of_eq hk⟩,⟨(Kept.refl _ _).alloc _⟩,⟨below_alloc HB.out _⟩⟩
 case round =>
  clear HS0 HB
  obtain ⟨j,rfl,hjl,hgg,HS,HV,HK,HB⟩ := hrel
  have hcz_2 : wr.cell? ⟨gb,2,none⟩ = some (.slice A2 p2.length c2) := (blk_cell (blk_kept BG0.out HK.out (fun h => h)) 2).trans rfl
  by_cases hlt : j < p2.length
  ·have hltz : (j : Int) < (p2.length : Int) := by omega
   have hx : p2[j]? = some p2[j] := List.getElem?_eq_getElem hlt
   obtain ⟨g,c,rfl,hcc,hM⟩ := HF.out j _ hx
   obtain ⟨Ae,ce,rfl⟩ := row_cells_ (d := k50) hM
   have hx0 := (kept_cell0_ HK.out (hcc 0 _ rfl))
   have hx1 := (kept_cell0_ HK.out (hcc 1 _ rfl))
   have hx2 := (kept_cell0_ HK.out (hcc 2 _ rfl))
   have hx3 := (kept_cell0_ HK.out (hcc 3 _ rfl))
   rw [Nat.add_zero] at hx0
   have hM2 := Aside0.mk (Kd.M_step hM (fun k_ hk_ hlt_ => HK.out.2 k_ hlt_ (fun h => h)))
   have htk : p2.take (j + 1) = p2.take j ++ [p2[j]] := List.take_succ_eq_append_getElem hlt
   have HTK := Aside0.mk htk
   generalize p2[j] = x at *
   clear hx hcc hM htk
   have hci : (j : Int) < (p2.length : Int) := hltz
   have hj0 : (0 : Int) ≤ (j : Int) := by omega
   cases hv : hits a1 a2 x with
   | true =>
    have e1 : (x.f1 != a1) = false := by unfold hits at hv;rw [Bool.and_eq_true] at hv;simpa using hv.1
    have e2 : (x.f2 != a2) = false := by unfold hits at hv;rw [Bool.and_eq_true] at hv;simpa using hv.2
    have HH := Aside0.mk hv
    clear hv
    go_wp2
    go_roundg (p2.length - (j + 1))
    case measure => omega
    case rel => exact ⟨j + 1,by go_num,by omega,by omega,⟨by rw [HTK.out,List.filter_append];simp only [List.filter_cons,HH.out,List.filter_nil];simp;exact Kd.S_mono HS.out (fun k_ h_ => h_.elim (fun h1 => .inl ⟨h1.1,by omega⟩) .inr)⟩,HV,HK,HB⟩
   | false =>
    have hone : ([x] : List S50).filter (fun x => !hits a1 a2 x) = [x] := by simp [hv]
    by_cases q1 : x.f1 = a1
    ·have e1 : (x.f1 != a1) = false := by simpa using q1
     have e2 : (x.f2 != a2) = true := by unfold hits at hv;rw [beq_iff_eq.2 q1,Bool.true_and] at hv;simpa using hv
     clear hv q1
     go_wp2_with (first|((with_reducible refine gblt_ (b := .append) (xs := #[.tmp 42,.tmp 50]) rfl ?_);at_builtin;refine Kd.S_append k50 (w0 := w0) w0.heap.size rfl (.tmp 42) (.tmp 50) 29 50 (.agg #[.int .i64 0,.int .i64 0,.int .i64 0,.slice none 0 0]) 48 rfl Tryz.underlying29 info50 rfl (by decide) (by omega) u8 ((p2.take j).filter fun x => !hits a1 a2 x) x [.int .i64 x.f0,.int .i64 x.f1,.int .i64 x.f2,.slice Ae x.f3.length ce] (fun k_ => ((P2_ k_ ∧ k_ < w.heap.size) ∧ f k_ < j + 1) ∨ w.heap.size ≤ k_) (fun k_ => (P2_ k_ ∧ k_ < w.heap.size) ∧ f k_ = j) rfl rfl hM2.out ?ap ?aF ?aO HB.out (Nat.le_trans W0.out HK.out.1) ?aL ?_;(case ap => exact fun k_ h_ => ⟨.inl ⟨h_.1,by have := h_.2;omega⟩,fun e_ => absurd (HV.out k_ e_.symm) (Nat.not_le.2 h_.1.2)⟩);(case aF => exact fun k_ h_ => .inr (Nat.le_trans HK.out.1 h_));(case aO => exact Kd.S_mono HS.out (fun k_ h_ => h_.elim (fun h1 => ⟨.inl ⟨h1.1,Nat.lt_succ_of_lt h1.2⟩,fun h2 => absurd h2.2 (Nat.ne_of_lt h1.2)⟩) (fun h1 => ⟨.inr h1,fun h2 => absurd h2.1.2 (Nat.not_lt.2 h1)⟩)));(case aL => have h1 := List.length_filter_le (fun x => !hits a1 a2 x) (p2.take j);have h2 := List.length_take_le j p2;have := HLL.out;omega);intro v1 w1 ho hb hg hat))
     go_roundg (p2.length - (j + 1))
     case measure => omega
     case rel => exact ⟨j + 1,by go_num,by omega,by omega,⟨by rw [HTK.out,List.filter_append,hone];exact ho⟩,⟨fun k_ hk_ => hat.elim (fun h1 => HV.out k_ (h1 ▸ hk_)) (fun ⟨b_,h1,h2⟩ => by rw [h1] at hk_;injection hk_ with hk_;subst hk_;exact Nat.le_trans HK.out.1 h2)⟩,⟨Kept.of_grown hg HK.out (fun k_ e_ => .inr (HV.out k_ e_))⟩,⟨hb⟩⟩
    ·have e1 : (x.f1 != a1) = true := by simpa using q1
     clear hv q1
     go_wp2_with (first|((with_reducible refine gblt_ (b := .append) (xs := #[.tmp 42,.tmp 50]) rfl ?_);at_builtin;refine Kd.S_append k50 (w0 := w0) w0.heap.size rfl (.tmp 42) (.tmp 50) 29 50 (.agg #[.int .i64 0,.int .i64 0,.int .i64 0,.slice none 0 0]) 48 rfl Tryz.underlying29 info50 rfl (by decide) (by omega) u8 ((p2.take j).filter fun x => !hits a1 a2 x) x [.int .i64 x.f0,.int .i64 x.f1,.int .i64 x.f2,.slice Ae x.f3.length ce] (fun k_ => ((P2_ k_ ∧ k_ < w.heap.size) ∧ f k_ < j + 1) ∨ w.heap.size ≤ k_) (fun k_ => (P2_ k_ ∧ k_ < w.heap.size) ∧ f k_ = j) rfl rfl hM2.out ?ap ?aF ?aO HB.out (Nat.le_trans W0.out HK.out.1) ?aL ?_;(case ap => exact fun k_ h_ => ⟨.inl ⟨h_.1,by have := h_.2;omega⟩,fun e_ => absurd (HV.out k_ e_.symm) (Nat.not_le.2 h_.1.2)⟩);(case aF => exact fun k_ h_ => .inr (Nat.le_trans HK.out.1 h_));(case aO => exact Kd.S_mono HS.out (fun k_ h_ => h_.elim (fun h1 => ⟨.inl ⟨h1.1,Nat.lt_succ_of_lt h1.2⟩,fun h2 => absurd h2.2 (Nat.ne_of_lt h1.2)⟩) (fun h1 => ⟨.inr h1,fun h2 => absurd h2.1.2 (Nat.not_lt.2 h1)⟩)));(case aL => have h1 := List.length_filter_le (fun x => !hits a1 a2 x) (p2.take j);have h2 := List.length_take_le j p2;have := HLL.out;omega);intro v1 w1 ho hb hg hat))
     go_roundg (p2.length - (j + 1))
     case measure => omega
     case rel => exact ⟨j + 1,by go_num,by omega,by omega,⟨by rw [HTK.out,List.filter_append,hone];exact ho⟩,⟨fun k_ hk_ => hat.elim (fun h1 => HV.out k_ (h1 ▸ hk_)) (fun ⟨b_,h1,h2⟩ => by rw [h1] at hk_;injection hk_ with hk_;subst hk_;exact Nat.le_trans HK.out.1 h2)⟩,⟨Kept.of_grown hg HK.out (fun k_ e_ => .inr (HV.out k_ e_))⟩,⟨hb⟩⟩
  ·have hj : j = p2.length := by omega
   subst hj
   have hltz : ¬ (p2.length : Int) < (p2.length : Int) := by omega
   rw [List.take_length] at HS
   obtain ⟨A8,c8,e8⟩ := Kd.S_slice HS.out
   subst e8
   have BG := Aside0.mk (blk_kept BG0.out HK.out (fun h => h))
   have T3 := Aside0.mk (Kd.R_kept T3.out HK.out (fun _ _ h => h))
   clear hjl hgg hlt HF hcz_2 HV
   have hcgb3_0 : wr.cell? ⟨gb,0,none⟩ = some (.bool b) := (blk_cell BG.out 0).trans rfl
   have hcgb3_1 : wr.cell? ⟨gb,1,none⟩ = some (s1) := (blk_cell BG.out 1).trans rfl
   have hcgb3_2 : wr.cell? ⟨gb,2,none⟩ = some (.slice A2 p2.length c2) := (blk_cell BG.out 2).trans rfl
   have hcgb3_3 : wr.cell? ⟨gb,3,none⟩ = some (.slice A3 p3.length c3) := (blk_cell BG.out 3).trans rfl
   have hfgb3_2 := blk_frozen BG.out 2
   go_upto_region 7 with (fail)
   have n0_ : Aside0 ((wr.setCell ⟨gb,2,none⟩ (.slice A8 (p2.filter fun x => !hits a1 a2 x).length c8)).heap[gb]? = some (.cells #[.bool b,s1,.slice A8 (p2.filter fun x => !hits a1 a2 x).length c8,.slice A3 p3.length c3] 31 (0,0))) := ⟨by refine blk_put (cs := #[.bool b,s1,.slice A2 p2.length c2,.slice A3 p3.length c3]) ?_ 2 _ rfl;exact BG.out⟩
   have n1_ := Aside0.mk (Kd.S_far (p := ⟨gb,2,none⟩) (Kd.S_mono (ok' := fun k_ => (P2_ k_ ∨ w.heap.size ≤ k_) ∧ k_ ≠ gb) HS.out (fun k_ h_ => h_.elim (fun h1 => ⟨.inl h1.1.1,fun e_ => P2.out (e_ ▸ h1.1.1)⟩) (fun h1 => ⟨.inr h1,fun e_ => absurd LG.out (Nat.not_lt.2 (e_ ▸ h1))⟩))) (fun _ h_ => h_.2) (.slice A8 (p2.filter fun x => !hits a1 a2 x).length c8))
   have n2_ := Aside0.mk (Kd.R_far (p := ⟨gb,2,none⟩) T3.out (fun k_ h_ e_ => P3.out (show P3_ gb from (show k_ = gb from e_) ▸ h_.1)) (.slice A8 (p2.filter fun x => !hits a1 a2 x).length c8))
   have n3_ : Aside0 (Below w0.heap.size w0 (wr.setCell ⟨gb,2,none⟩ (.slice A8 (p2.filter fun x => !hits a1 a2 x).length c8))) := ⟨below_set HB.out GG.out⟩
   have n4_ : Aside0 (Kept w (wr.setCell ⟨gb,2,none⟩ (.slice A8 (p2.filter fun x => !hits a1 a2 x).length c8)) (fun k_ => P3_ k_ ∨ k_ = gb)) := ⟨(HK.out.mono (fun _ h_ => h_.elim)).setCell (p := ⟨gb,2,none⟩) (.inl (.inr rfl)) _⟩
   clear BG T3 HS HB HK hcgb3_0 hcgb3_1 hcgb3_2 hcgb3_3 hfgb3_2
   generalize (wr.setCell ⟨gb,2,none⟩ (.slice A8 (p2.filter fun x => !hits a1 a2 x).length c8)) = w4 at n0_ n1_ n2_ n3_ n4_ ⊢
   have BG := n0_
   have T2 := n1_
   have T3 := n2_
   have HB := n3_
   have HK := n4_
   clear n0_ n1_ n2_ n3_ n4_
   cases d with
   | false =>
    have h1 := H1.out
    simp only [Bool.false_eq_true,if_false,Option.some.injEq,Prod.mk.injEq] at h1
    obtain ⟨rfl,rfl⟩ := h1
    go_wp2
    go_end0
    exact ⟨rfl,A8,c8,A3,c3,BG.out,Kd.S_mono T2.out (fun _ h_ => h_.1),Kd.R_mono T3.out (fun _ h_ => .inl h_.1),HB.out,HK.out⟩
   | true =>
   have h1 := H1.out
   rw [if_pos rfl] at h1
   clear H1
   obtain ⟨q,E0,h2⟩ := Option.bind_eq_some_iff.1 h1
   clear h1
   simp only [Option.some.injEq,Prod.mk.injEq] at h2
   obtain ⟨rfl,rfl⟩ := h2
   have F0 := Aside0.mk E0
   clear E0
   have hcgb4_0 : w4.cell? ⟨gb,0,none⟩ = some (.bool b) := (blk_cell BG.out 0).trans rfl
   have hcgb4_1 : w4.cell? ⟨gb,1,none⟩ = some (s1) := (blk_cell BG.out 1).trans rfl
   have hcgb4_2 : w4.cell? ⟨gb,2,none⟩ = some (.slice A8 (p2.filter fun x => !hits a1 a2 x).length c8) := (blk_cell BG.out 2).trans rfl
   have hcgb4_3 : w4.cell? ⟨gb,3,none⟩ = some (.slice A3 p3.length c3) := (blk_cell BG.out 3).trans rfl
   go_wp2_with ((with_reducible refine gcal_ (f := 75) rfl ?_);refine goesL_ (some 63) rfl rfl Tryz.func75 (by kernel_rfl) rfl #[.slice A3 p3.length c3,.int .i64 a1] rfl (by (try simp only [List.map_toArray,List.map_cons,List.map_nil]);first|done|rfl) ?_;refine (spec_l6Put.calls k (fun k_ => P3_ k_ ∧ k_ < w.heap.size) (.slice A3 p3.length c3) p3 a1 q w0 _ HB.out T3.out F0.out).mono ?_;rintro e w5 ⟨v5,rfl,S,B,K⟩;refine ⟨_,rfl,?_⟩;refine hold_32 ?_)
   refine ⟨?_⟩
   have T2 := Aside0.mk (Kd.S_kept T2.out K (fun k_ hk_ hs_ => hk_.1.elim (fun h1 => PD.out k_ h1 hs_.1) (fun h1 => absurd hs_.2 (Nat.not_lt.2 h1))))
   have BG := Aside0.mk (blk_kept BG.out K (fun h_ => P3.out h_.1))
   obtain ⟨A5,c5,e5⟩ := Kd.R_slice S
   subst e5
   have T3 := Aside0.mk (Kd.R_mono (ok' := fun k_ => (P3_ k_ ∨ w.heap.size ≤ k_) ∧ k_ ≠ gb) S (fun k_ h_ => h_.elim (fun h1_ => ⟨.inl h1_.1,fun e_ => P3.out (e_ ▸ h1_.1)⟩) (fun h1_ => ⟨.inr (Nat.le_trans HK.out.1 h1_),fun e_ => absurd LG.out (Nat.not_lt.2 (e_ ▸ Nat.le_trans HK.out.1 h1_))⟩)))
   have HB := Aside0.mk B
   have HK := Aside0.mk (HK.out.then_ K (fun _ h_ => .inl (.inl h_.1)))
   clear S B K hcgb4_0 hcgb4_1 hcgb4_2 hcgb4_3
   have hcgb5_0 : w5.cell? ⟨gb,0,none⟩ = some (.bool b) := (blk_cell BG.out 0).trans rfl
   have hcgb5_1 : w5.cell? ⟨gb,1,none⟩ = some (s1) := (blk_cell BG.out 1).trans rfl
   have hcgb5_2 : w5.cell? ⟨gb,2,none⟩ = some (.slice A8 (p2.filter fun x => !hits a1 a2 x).length c8) := (blk_cell BG.out 2).trans rfl
   have hcgb5_3 : w5.cell? ⟨gb,3,none⟩ = some (.slice A3 p3.length c3) := (blk_cell BG.out 3).trans rfl
   have hfgb5_3 := blk_frozen BG.out 3
   go_wp2
   go_end0
   exact ⟨rfl,A8,c8,A5,c5,(by refine blk_put (cs := #[.bool b,s1,.slice A8 (p2.filter fun x => !hits a1 a2 x).length c8,.slice A3 p3.length c3]) ?_ 3 _ rfl;exact BG.out),Kd.S_mono (Kd.S_far (p := ⟨gb,3,none⟩) T2.out (fun _ h_ => h_.2) _) (fun _ h_ => h_.1),Kd.R_mono (Kd.R_far (p := ⟨gb,3,none⟩) T3.out (fun _ h_ => h_.2) _) (fun _ h_ => h_.1),below_set HB.out GG.out,HK.out.setCell (p := ⟨gb,3,none⟩) (.inl (.inr rfl)) _⟩

/-! ### spec_Clear: function 6 -/
theorem hold_6 {p : Prop} (h : Aside0 p) : p := h.out
theorem ty_6 {w : World} {k : Nat} {a b : List Nat} (h1 : ∃ q, q ∈ a ∧ ∃ cs, w.heap[k]? = some (.cells cs q (0, 0))) (h2 : ∃ q, q ∈ b ∧ ∃ cs, w.heap[k]? = some (.cells cs q (0, 0))) (hd : ∀ q, q ∈ a → ¬ q ∈ b) : False := by
 obtain ⟨q,hq,cs,h1⟩ := h1
 obtain ⟨q2,hq2,cs2,h2⟩ := h2
 rw [h1] at h2
 injection h2 with h2
 injection h2 with _ h2
 exact hd q hq (h2 ▸ hq2)
def spec_Clear.f (k : Nat) (a0_0 : Bool) (l0_1 : List (S83)) (l0_2 : List (S50)) (l0_3 : List Int) (a1 a2 : Int) (d : Bool) : Option (Bool × (List (S83)) × (List (S50)) × List Int × Bool) := (spec_MachineOk.f k a0_0 l0_1 l0_2 l0_3).bind fun t => if t = true then ((spec_l1Id.f a1).bind fun t2 => if t2 = true then ((if d = true then ((spec_l3Has.f k l0_3 a1).bind fun v => some (v || !decide ((l0_3.length : Int) = 60))) else some true).bind fun t3 => if t3 = true then ((spec_l6Copy.f k a0_0 l0_1 l0_2 l0_3).bind fun c => (spec_l6Clear.f k c.2.2.1 c.2.2.2 a1 a2 d).bind fun q => some (c.1, c.2.1, q.1, q.2, true)) else some (false, [], [], [], false)) else some (false, [], [], [], false)) else some (false, [], [], [], false)
set_option maxHeartbeats 8000000 in
set_option maxRecDepth 100000 in
theorem spec_Clear.calls (k : Nat) (a0_0 : Bool) (A0_1 : Option Addr) (c0_1 : Nat) (l0_1 : List (S83)) (A0_2 : Option Addr) (c0_2 : Nat) (l0_2 : List (S50)) (A0_3 : Option Addr) (c0_3 : Nat) (l0_3 : List Int) (a1 a2 : Int) (d : Bool) (r1 : Bool) (r2 : List (S83)) (r3 : List (S50)) (r4 : List Int) (r5 : Bool) (w : World) (hr0_1 : Kd.C k83 w A0_1 l0_1.length l0_1) (hc0_1 : l0_1.length ≤ c0_1) (hr0_2 : Kd.C k50 w A0_2 l0_2.length l0_2) (hc0_2 : l0_2.length ≤ c0_2) (hr0_3 : Kd.C (Kd.int .i64) w A0_3 l0_3.length l0_3) (hc0_3 : l0_3.length ≤ c0_3) (h : spec_Clear.f k a0_0 l0_1 l0_2 l0_3 a1 a2 d = some (r1, r2, r3, r4, r5)) :
    Calls Tryz.prog 6 #[.agg #[.bool a0_0, .slice A0_1 l0_1.length c0_1, .slice A0_2 l0_2.length c0_2, .slice A0_3 l0_3.length c0_3], .int .i64 a1, .int .i64 a2, .bool d] w fun e w' => ∃ v1_ v2_ v3_ : Value, e = .returned (.tuple #[.agg #[.bool r1, v1_, v2_, v3_], .bool r5]) ∧ Kd.S k83 83 w' w.heap.size (fun _ => True) v1_ r2 ∧ Kd.S k50 50 w' w.heap.size (fun _ => True) v2_ r3 ∧ Kd.R (Kd.int .i64) 2 w' w.heap.size (fun _ => True) v3_ r4 ∧ Below w.heap.size w w' := by
 have hu := Tryz.underlying31
 have HR1 := Aside0.mk hr0_1
 have HC1 := Aside0.mk hc0_1
 clear hr0_1 hc0_1
 have HR2 := Aside0.mk hr0_2
 have HC2 := Aside0.mk hc0_2
 clear hr0_2 hc0_2
 have HR3 := Aside0.mk hr0_3
 have HC3 := Aside0.mk hc0_3
 clear hr0_3 hc0_3
 obtain ⟨t,E0,h1⟩ := Option.bind_eq_some_iff.1 h
 clear h
 have H1 := Aside0.mk h1
 have F0 := Aside0.mk E0
 clear h1 E0
 go_enter Tryz.func6,Tryz.ntmps6
 go_wp2_with ((with_reducible refine gate_dst (N := 4) rfl ?_);refine bx_ 4 #[.bool a0_0,.slice A0_1 l0_1.length c0_1,.slice A0_2 l0_2.length c0_2,.slice A0_3 l0_3.length c0_3] 31 ?_;intro ga hg w1 hbox hb;have hge := Aside0.mk (Nat.le_of_eq hg.symm);clear hg;refine hold_6 ?_)
 refine ⟨?_⟩
 have D1 := Aside0.mk hb
 have BM := Aside0.mk hbox
 clear hb hbox hge
 go_wp2_with ((with_reducible refine gate_dst (N := 8) rfl ?_);refine bx_ 8 #[.bool false,.slice none 0 0,.slice none 0 0,.slice none 0 0] 31 ?_;intro gr hg w2 hbox hb;have hge := Aside0.mk (Nat.le_of_eq hg.symm);clear hg;refine hold_6 ?_)
 refine ⟨?_⟩
 have GR : Aside0 (w.heap.size ≤ gr) := ⟨Nat.le_trans D1.out.size hge.out⟩
 have D2 := Aside0.mk (below_step D1.out hb)
 have BM := Aside0.mk (blk_below BM.out hb)
 have BR := Aside0.mk hbox
 clear hb hbox hge
 have hcga2_0 : w2.cell? ⟨ga,0,none⟩ = some (.bool a0_0) := (blk_cell BM.out 0).trans rfl
 have hcga2_1 : w2.cell? ⟨ga,1,none⟩ = some (.slice A0_1 l0_1.length c0_1) := (blk_cell BM.out 1).trans rfl
 have hcga2_2 : w2.cell? ⟨ga,2,none⟩ = some (.slice A0_2 l0_2.length c0_2) := (blk_cell BM.out 2).trans rfl
 have hcga2_3 : w2.cell? ⟨ga,3,none⟩ = some (.slice A0_3 l0_3.length c0_3) := (blk_cell BM.out 3).trans rfl
 go_wp2_with ((with_reducible refine gcal_ (f := 28) rfl ?_);refine goesL_ (some 12) rfl rfl Tryz.func28 (by kernel_rfl) rfl #[.agg #[.bool a0_0,.slice A0_1 l0_1.length c0_1,.slice A0_2 l0_2.length c0_2,.slice A0_3 l0_3.length c0_3]] rfl (by (try simp only [List.map_toArray,List.map_cons,List.map_nil]);first|done|rfl) ?_;refine (spec_MachineOk.calls k a0_0 A0_1 c0_1 l0_1 A0_2 c0_2 l0_2 A0_3 c0_3 l0_3 t _ (Kd.C_below HR1.out D2.out) HC1.out (Kd.C_below HR2.out D2.out) HC2.out (Kd.C_below HR3.out D2.out) HC3.out F0.out).mono ?_;rintro e w2b ⟨rfl,B⟩;refine ⟨_,rfl,?_⟩;refine hold_6 ?_)
 refine ⟨?_⟩
 have D3 := Aside0.mk (below_step D2.out B)
 have BM := Aside0.mk (blk_below BM.out B)
 have BR := Aside0.mk (blk_below BR.out B)
 clear B
 have hcgr3_0 : w2b.cell? ⟨gr,0,none⟩ = some (.bool false) := (blk_cell BR.out 0).trans rfl
 have hcgr3_1 : w2b.cell? ⟨gr,1,none⟩ = some (.slice none 0 0) := (blk_cell BR.out 1).trans rfl
 have hcgr3_2 : w2b.cell? ⟨gr,2,none⟩ = some (.slice none 0 0) := (blk_cell BR.out 2).trans rfl
 have hcgr3_3 : w2b.cell? ⟨gr,3,none⟩ = some (.slice none 0 0) := (blk_cell BR.out 3).trans rfl
 have hfr3_0 := blk_frozen BR.out 0
 have hfr3_1 := blk_frozen BR.out 1
 have hfr3_2 := blk_frozen BR.out 2
 have hfr3_3 := blk_frozen BR.out 3
 cases t with
  | false =>
  have h1 := H1.out
  rw [if_neg (by simp)] at h1
  clear H1
  simp only [Option.some.injEq,Prod.mk.injEq] at h1
  obtain ⟨rfl,rfl,rfl,rfl,rfl⟩ := h1
  go_wp2
  refine bodyPost_ret (results_ct rfl _ _ gr 31 #[.bool false,.slice none 0 0,.slice none 0 0,.slice none 0 0] (0,0) _ rfl (by refine blk_put (cs := #[.bool false,.slice none 0 0,.slice none 0 0,.slice none 0 0]) ?_ 3 _ rfl;refine blk_put (cs := #[.bool false,.slice none 0 0,.slice none 0 0,.slice none 0 0]) ?_ 2 _ rfl;refine blk_put (cs := #[.bool false,.slice none 0 0,.slice none 0 0,.slice none 0 0]) ?_ 1 _ rfl;refine blk_put (cs := #[.bool false,.slice none 0 0,.slice none 0 0,.slice none 0 0]) ?_ 0 _ rfl;exact BR.out) Tryz.underlying31 rfl (by kernel_rfl)) rfl ?_
  exact ⟨.slice none 0 0,.slice none 0 0,.slice none 0 0,by first|rfl|(simp;done),Kd.S_nil _ _ _ _ _,Kd.S_nil _ _ _ _ _,Kd.R_nil _ _ _ _ _,below_set (below_set (below_set (below_set D3.out GR.out) GR.out) GR.out) GR.out⟩
  | true =>
 have h1 := H1.out
 rw [if_pos rfl] at h1
 clear H1
 obtain ⟨t2,E9,h2⟩ := Option.bind_eq_some_iff.1 h1
 clear h1
 have H1 := Aside0.mk h2
 have F9 := Aside0.mk E9
 clear h2 E9
 go_wp2_with (go_at_call 29;refine (spec_l1Id.calls a1 t2 _ F9.out).mono ?_;rintro e w3a ⟨rfl,B0⟩;(try dsimp only);refine hold_6 ?_)
 refine ⟨?_⟩
 have B := B0.below
 have D3 := Aside0.mk (below_step D3.out B)
 have BM := Aside0.mk (blk_below BM.out B)
 have BR := Aside0.mk (blk_below BR.out B)
 clear B B0
 clear hcgr3_0 hfr3_0 hcgr3_1 hfr3_1 hcgr3_2 hfr3_2 hcgr3_3 hfr3_3
 have hcgr4_0 : w3a.cell? ⟨gr,0,none⟩ = some (.bool false) := (blk_cell BR.out 0).trans rfl
 have hcgr4_1 : w3a.cell? ⟨gr,1,none⟩ = some (.slice none 0 0) := (blk_cell BR.out 1).trans rfl
 have hcgr4_2 : w3a.cell? ⟨gr,2,none⟩ = some (.slice none 0 0) := (blk_cell BR.out 2).trans rfl
 have hcgr4_3 : w3a.cell? ⟨gr,3,none⟩ = some (.slice none 0 0) := (blk_cell BR.out 3).trans rfl
 have hfr4_0 := blk_frozen BR.out 0
 have hfr4_1 := blk_frozen BR.out 1
 have hfr4_2 := blk_frozen BR.out 2
 have hfr4_3 := blk_frozen BR.out 3
 have hcga4_0 : w3a.cell? ⟨ga,0,none⟩ = some (.bool a0_0) := (blk_cell BM.out 0).trans rfl
 have hcga4_1 : w3a.cell? ⟨ga,1,none⟩ = some (.slice A0_1 l0_1.length c0_1) := (blk_cell BM.out 1).trans rfl
 have hcga4_2 : w3a.cell? ⟨ga,2,none⟩ = some (.slice A0_2 l0_2.length c0_2) := (blk_cell BM.out 2).trans rfl
 have hcga4_3 : w3a.cell? ⟨ga,3,none⟩ = some (.slice A0_3 l0_3.length c0_3) := (blk_cell BM.out 3).trans rfl
 cases t2 with
  | false =>
  have h1 := H1.out
  rw [if_neg (by simp)] at h1
  clear H1
  simp only [Option.some.injEq,Prod.mk.injEq] at h1
  obtain ⟨rfl,rfl,rfl,rfl,rfl⟩ := h1
  go_wp2
  refine bodyPost_ret (results_ct rfl _ _ gr 31 #[.bool false,.slice none 0 0,.slice none 0 0,.slice none 0 0] (0,0) _ rfl (by refine blk_put (cs := #[.bool false,.slice none 0 0,.slice none 0 0,.slice none 0 0]) ?_ 3 _ rfl;refine blk_put (cs := #[.bool false,.slice none 0 0,.slice none 0 0,.slice none 0 0]) ?_ 2 _ rfl;refine blk_put (cs := #[.bool false,.slice none 0 0,.slice none 0 0,.slice none 0 0]) ?_ 1 _ rfl;refine blk_put (cs := #[.bool false,.slice none 0 0,.slice none 0 0,.slice none 0 0]) ?_ 0 _ rfl;exact BR.out) Tryz.underlying31 rfl (by kernel_rfl)) rfl ?_
  exact ⟨.slice none 0 0,.slice none 0 0,.slice none 0 0,by first|rfl|(simp;done),Kd.S_nil _ _ _ _ _,Kd.S_nil _ _ _ _ _,Kd.R_nil _ _ _ _ _,below_set (below_set (below_set (below_set D3.out GR.out) GR.out) GR.out) GR.out⟩
  | true =>
 have h1 := H1.out
 rw [if_pos rfl] at h1
 clear H1
 obtain ⟨t3,E9,h2⟩ := Option.bind_eq_some_iff.1 h1
 clear h1
 have H1 := Aside0.mk h2
 clear h2
 cases d with
  | false =>
  obtain rfl := Option.some.inj E9
  clear E9
  have h1 := H1.out
  rw [if_pos rfl] at h1
  clear H1
  obtain ⟨⟨b,p1,p2,p3⟩,E1,h2⟩ := Option.bind_eq_some_iff.1 h1
  clear h1
  obtain ⟨⟨q2,q3⟩,E2,h3⟩ := Option.bind_eq_some_iff.1 h2
  clear h2
  simp only [Option.some.injEq,Prod.mk.injEq] at h3
  obtain ⟨rfl,rfl,rfl,rfl,rfl⟩ := h3
  have F1 := Aside0.mk E1
  have F2 := Aside0.mk E2
  clear E1 E2
  go_wp2_with ((with_reducible refine gcal_ (f := 31) rfl ?_);refine goesL_ (some 37) rfl rfl Tryz.func31 (by kernel_rfl) rfl #[.agg #[.bool a0_0,.slice A0_1 l0_1.length c0_1,.slice A0_2 l0_2.length c0_2,.slice A0_3 l0_3.length c0_3]] rfl (by (try simp only [List.map_toArray,List.map_cons,List.map_nil]);first|done|rfl) ?_;refine (spec_l6Copy.calls k a0_0 A0_1 c0_1 l0_1 A0_2 c0_2 l0_2 A0_3 c0_3 l0_3 b p1 p2 p3 _ (Kd.C_below HR1.out D3.out) HC1.out (Kd.C_below HR2.out D3.out) HC2.out (Kd.C_below HR3.out D3.out) HC3.out F1.out).mono ?_;rintro e w4 ⟨v1,v2,v3,rfl,S1,S2,S3,B⟩;refine ⟨_,rfl,?_⟩;refine hold_6 ?_)
  refine ⟨?_⟩
  clear hcgr4_0 hfr4_0 hcga4_0 hcgr4_1 hfr4_1 hcga4_1 hcgr4_2 hfr4_2 hcga4_2 hcgr4_3 hfr4_3 hcga4_3
  have T1 := Aside0.mk S1
  have T2 := Aside0.mk S2
  have T3 := Aside0.mk S3
  have LG := Aside0.mk (blk_lt BR.out)
  have G := Aside0.mk B
  have D4 := Aside0.mk (below_step D3.out B)
  have BR := Aside0.mk (blk_below BR.out B)
  clear S1 S2 S3 B BM
  obtain ⟨A1,c1,e1_⟩ := Kd.S_slice T1.out
  subst e1_
  obtain ⟨A2,c2,e2_⟩ := Kd.S_slice T2.out
  subst e2_
  obtain ⟨A3,c3,e3_⟩ := Kd.R_slice T3.out
  subst e3_
  go_wp2_with ((with_reducible refine gate_dst (N := 10) rfl ?_);refine bx_ 10 #[.bool false,.slice none 0 0,.slice none 0 0,.slice none 0 0] 31 ?_;intro go hg w5 hbox hb;have hge := Aside0.mk (Nat.le_of_eq hg.symm);clear hg;refine hold_6 ?_)
  refine ⟨?_⟩
  have BZ := Aside0.mk hbox
  have Q0 := Aside0.mk hb
  have HGE := hge
  clear hbox hb hge
  have hcgoy_0 : w5.cell? ⟨go,0,none⟩ = some (.bool false) := (blk_cell BZ.out 0).trans rfl
  have hcgoy_1 : w5.cell? ⟨go,1,none⟩ = some (.slice none 0 0) := (blk_cell BZ.out 1).trans rfl
  have hcgoy_2 : w5.cell? ⟨go,2,none⟩ = some (.slice none 0 0) := (blk_cell BZ.out 2).trans rfl
  have hcgoy_3 : w5.cell? ⟨go,3,none⟩ = some (.slice none 0 0) := (blk_cell BZ.out 3).trans rfl
  have hfy_0 := blk_frozen BZ.out 0
  have hfy_1 := blk_frozen BZ.out 1
  have hfy_2 := blk_frozen BZ.out 2
  have hfy_3 := blk_frozen BZ.out 3
  go_upto_region 4 with (fail)
  have n0_ : Aside0 (Below w4.heap.size w4 ((((w5.setCell ⟨go,0,none⟩ (.bool b)).setCell ⟨go,1,none⟩ (.slice A1 p1.length c1)).setCell ⟨go,2,none⟩ (.slice A2 p2.length c2)).setCell ⟨go,3,none⟩ (.slice A3 p3.length c3))) := ⟨below_set (below_set (below_set (below_set Q0.out HGE.out) HGE.out) HGE.out) HGE.out⟩
  have n1_ : Aside0 (((((w5.setCell ⟨go,0,none⟩ (.bool b)).setCell ⟨go,1,none⟩ (.slice A1 p1.length c1)).setCell ⟨go,2,none⟩ (.slice A2 p2.length c2)).setCell ⟨go,3,none⟩ (.slice A3 p3.length c3)).heap[go]? = some (.cells #[.bool b,.slice A1 p1.length c1,.slice A2 p2.length c2,.slice A3 p3.length c3] 31 (0,0))) := ⟨by refine blk_put (cs := #[.bool b,.slice A1 p1.length c1,.slice A2 p2.length c2,.slice none 0 0]) ?_ 3 _ rfl;refine blk_put (cs := #[.bool b,.slice A1 p1.length c1,.slice none 0 0,.slice none 0 0]) ?_ 2 _ rfl;refine blk_put (cs := #[.bool b,.slice none 0 0,.slice none 0 0,.slice none 0 0]) ?_ 1 _ rfl;refine blk_put (cs := #[.bool false,.slice none 0 0,.slice none 0 0,.slice none 0 0]) ?_ 0 _ rfl;exact BZ.out⟩
  clear BZ Q0
  clear hcgoy_0 hfy_0 hcgoy_1 hfy_1 hcgoy_2 hfy_2 hcgoy_3 hfy_3
  generalize ((((w5.setCell ⟨go,0,none⟩ (.bool b)).setCell ⟨go,1,none⟩ (.slice A1 p1.length c1)).setCell ⟨go,2,none⟩ (.slice A2 p2.length c2)).setCell ⟨go,3,none⟩ (.slice A3 p3.length c3)) = w6 at n0_ n1_ ⊢
  have B := n0_.out
  have BG := n1_
  clear n0_ n1_
  have T1 := Aside0.mk (Kd.S_bound (Kd.S_below T1.out B))
  have T2 := Aside0.mk (Kd.S_bound (Kd.S_below T2.out B))
  have T3 := Aside0.mk (Kd.R_bound (Kd.R_below T3.out B))
  have GO : Aside0 (w3a.heap.size ≤ go) := ⟨Nat.le_trans G.out.size HGE.out⟩
  have G := Aside0.mk (below_step G.out B)
  have D6 := Aside0.mk (below_step D4.out B)
  have BR := Aside0.mk (blk_below BR.out B)
  clear B D4
  have NG : Aside0 (gr ≠ go) := ⟨Nat.ne_of_lt (Nat.lt_of_lt_of_le LG.out GO.out)⟩
  go_wp2_with ((with_reducible refine gcal_ (f := 32) rfl ?_);refine goesL_ (some 41) rfl rfl Tryz.func32 (by kernel_rfl) rfl #[.pointer (some ⟨go,0,none⟩),.int .i64 a1,.int .i64 a2,.bool false] rfl (by (try simp only [List.map_toArray,List.map_cons,List.map_nil]);first|done|rfl) ?_;refine (spec_l6Clear.calls k (fun k_ => True ∧ w3a.heap.size ≤ k_ ∧ k_ < w6.heap.size ∧ ∃ q,q ∈ 50 :: (k50).E ∧ ∃ cells,w6.heap[k_]? = some (.cells cells q (0,0))) (fun k_ => True ∧ w3a.heap.size ≤ k_ ∧ k_ < w6.heap.size ∧ ∃ q,q ∈ 2 :: ((Kd.int .i64)).E ∧ ∃ cells,w6.heap[k_]? = some (.cells cells q (0,0))) go b (.slice A1 p1.length c1) A2 c2 p2 A3 c3 p3 a1 a2 false q2 q3 w3a _ G.out GO.out BG.out (fun hs_ => ty_6 ⟨31,List.mem_singleton.2 rfl,_,BG.out⟩ hs_.2.2.2 (by decide)) (fun hs_ => ty_6 ⟨31,List.mem_singleton.2 rfl,_,BG.out⟩ hs_.2.2.2 (by decide)) (fun k_ h1_ h2_ => ty_6 h1_.2.2.2 h2_.2.2.2 (by decide)) T2.out T3.out F2.out).mono ?_;rintro e w7 ⟨rfl,A4,c4,A5,c5,BG2,S2,S3,B,K⟩;refine ⟨_,rfl,?_⟩;refine hold_6 ?_)
  refine ⟨?_⟩
  have T1 := Aside0.mk (Kd.S_kept T1.out K (fun k_ hk_ hs_ => hs_.elim (fun h_ => ty_6 hk_.2.2.2 h_.2.2.2 (by decide)) (fun e_ => ty_6 (e_ ▸ hk_.2.2.2) ⟨31,List.mem_singleton.2 rfl,_,BG.out⟩ (by decide))))
  have T2 := Aside0.mk S2
  have T3 := Aside0.mk S3
  have BR2 := Aside0.mk (blk_kept BR.out K (fun hs_ => hs_.elim (fun h_ => (fun hs_ => ty_6 ⟨31,List.mem_singleton.2 rfl,_,BR.out⟩ hs_.2.2.2 (by decide)) h_) NG.out))
  have BG := Aside0.mk BG2
  have D7 := Aside0.mk (below_step D3.out B)
  clear S2 S3 B K BG2 BR
  have BR := BR2
  clear BR2
  have hcgo7_0 : w7.cell? ⟨go,0,none⟩ = some (.bool b) := (blk_cell BG.out 0).trans rfl
  have hcgo7_1 : w7.cell? ⟨go,1,none⟩ = some (.slice A1 p1.length c1) := (blk_cell BG.out 1).trans rfl
  have hcgo7_2 : w7.cell? ⟨go,2,none⟩ = some (.slice A4 q2.length c4) := (blk_cell BG.out 2).trans rfl
  have hcgo7_3 : w7.cell? ⟨go,3,none⟩ = some (.slice A5 q3.length c5) := (blk_cell BG.out 3).trans rfl
  have hcgr7_0 : w7.cell? ⟨gr,0,none⟩ = some (.bool false) := (blk_cell BR.out 0).trans rfl
  have hcgr7_1 : w7.cell? ⟨gr,1,none⟩ = some (.slice none 0 0) := (blk_cell BR.out 1).trans rfl
  have hcgr7_2 : w7.cell? ⟨gr,2,none⟩ = some (.slice none 0 0) := (blk_cell BR.out 2).trans rfl
  have hcgr7_3 : w7.cell? ⟨gr,3,none⟩ = some (.slice none 0 0) := (blk_cell BR.out 3).trans rfl
  have hfr7_0 := blk_frozen BR.out 0
  have hfr7_1 := blk_frozen BR.out 1
  have hfr7_2 := blk_frozen BR.out 2
  have hfr7_3 := blk_frozen BR.out 3
  go_wp2
  refine bodyPost_ret (results_ct rfl _ _ gr 31 #[.bool b,.slice A1 p1.length c1,.slice A4 q2.length c4,.slice A5 q3.length c5] (0,0) _ rfl (by refine blk_put (cs := #[.bool b,.slice A1 p1.length c1,.slice A4 q2.length c4,.slice none 0 0]) ?_ 3 _ rfl;refine blk_put (cs := #[.bool b,.slice A1 p1.length c1,.slice none 0 0,.slice none 0 0]) ?_ 2 _ rfl;refine blk_put (cs := #[.bool b,.slice none 0 0,.slice none 0 0,.slice none 0 0]) ?_ 1 _ rfl;refine blk_put (cs := #[.bool false,.slice none 0 0,.slice none 0 0,.slice none 0 0]) ?_ 0 _ rfl;exact BR.out) Tryz.underlying31 rfl (by kernel_rfl)) rfl ?_
  exact ⟨.slice A1 p1.length c1,.slice A4 q2.length c4,.slice A5 q3.length c5,by first|rfl|(simp;done),Kd.S_mono (Kd.S_far (p := ⟨gr,3,none⟩) (Kd.S_far (p := ⟨gr,2,none⟩) (Kd.S_far (p := ⟨gr,1,none⟩) (Kd.S_far (p := ⟨gr,0,none⟩) (Kd.S_types (Kd.S_lower T1.out D3.out.size) BR.out (by decide)) (fun _ h_ => h_.2) (.bool b)) (fun _ h_ => h_.2) (.slice A1 p1.length c1)) (fun _ h_ => h_.2) (.slice A4 q2.length c4)) (fun _ h_ => h_.2) (.slice A5 q3.length c5)) (fun _ _ => trivial),Kd.S_mono (Kd.S_far (p := ⟨gr,3,none⟩) (Kd.S_far (p := ⟨gr,2,none⟩) (Kd.S_far (p := ⟨gr,1,none⟩) (Kd.S_far (p := ⟨gr,0,none⟩) (Kd.S_types (Kd.S_lower T2.out D3.out.size) BR.out (by decide)) (fun _ h_ => h_.2) (.bool b)) (fun _ h_ => h_.2) (.slice A1 p1.length c1)) (fun _ h_ => h_.2) (.slice A4 q2.length c4)) (fun _ h_ => h_.2) (.slice A5 q3.length c5)) (fun _ _ => trivial),Kd.R_mono (Kd.R_far (p := ⟨gr,3,none⟩) (Kd.R_far (p := ⟨gr,2,none⟩) (Kd.R_far (p := ⟨gr,1,none⟩) (Kd.R_far (p := ⟨gr,0,none⟩) (Kd.R_types (Kd.R_lower T3.out D3.out.size) BR.out (by decide)) (fun _ h_ => h_.2) (.bool b)) (fun _ h_ => h_.2) (.slice A1 p1.length c1)) (fun _ h_ => h_.2) (.slice A4 q2.length c4)) (fun _ h_ => h_.2) (.slice A5 q3.length c5)) (fun _ _ => trivial),below_set (below_set (below_set (below_set D7.out GR.out) GR.out) GR.out) GR.out⟩
  | true =>
 obtain ⟨v,E8,h2⟩ := Option.bind_eq_some_iff.1 (show ((spec_l3Has.f k l0_3 a1).bind fun v => some (v || !decide ((l0_3.length : Int) = 60))) = some t3 from E9)
 clear E9
 have F8 := Aside0.mk E8
 have H2 := Aside0.mk h2
 clear E8 h2
 go_wp2_with (go_at_call 30;refine (spec_l3Has.calls k A0_3 c0_3 l0_3 a1 v _ (Kd.C_below HR3.out D3.out) HC3.out F8.out).mono ?_;rintro e w3b ⟨rfl,B0⟩;(try dsimp only);refine hold_6 ?_)
 refine ⟨?_⟩
 have B := B0.below
 have D3 := Aside0.mk (below_step D3.out B)
 have BM := Aside0.mk (blk_below BM.out B)
 have BR := Aside0.mk (blk_below BR.out B)
 clear B B0
 clear hcgr4_0 hfr4_0 hcga4_0 hcgr4_1 hfr4_1 hcga4_1 hcgr4_2 hfr4_2 hcga4_2 hcgr4_3 hfr4_3 hcga4_3
 have hcgr5_0 : w3b.cell? ⟨gr,0,none⟩ = some (.bool false) := (blk_cell BR.out 0).trans rfl
 have hcgr5_1 : w3b.cell? ⟨gr,1,none⟩ = some (.slice none 0 0) := (blk_cell BR.out 1).trans rfl
 have hcgr5_2 : w3b.cell? ⟨gr,2,none⟩ = some (.slice none 0 0) := (blk_cell BR.out 2).trans rfl
 have hcgr5_3 : w3b.cell? ⟨gr,3,none⟩ = some (.slice none 0 0) := (blk_cell BR.out 3).trans rfl
 have hfr5_0 := blk_frozen BR.out 0
 have hfr5_1 := blk_frozen BR.out 1
 have hfr5_2 := blk_frozen BR.out 2
 have hfr5_3 := blk_frozen BR.out 3
 have hcga5_0 : w3b.cell? ⟨ga,0,none⟩ = some (.bool a0_0) := (blk_cell BM.out 0).trans rfl
 have hcga5_1 : w3b.cell? ⟨ga,1,none⟩ = some (.slice A0_1 l0_1.length c0_1) := (blk_cell BM.out 1).trans rfl
 have hcga5_2 : w3b.cell? ⟨ga,2,none⟩ = some (.slice A0_2 l0_2.length c0_2) := (blk_cell BM.out 2).trans rfl
 have hcga5_3 : w3b.cell? ⟨ga,3,none⟩ = some (.slice A0_3 l0_3.length c0_3) := (blk_cell BM.out 3).trans rfl
 cases v with
  | true =>
  have h2 := H2.out
  rw [Bool.true_or] at h2
  obtain rfl := Option.some.inj h2
  clear h2 H2
  have h1 := H1.out
  rw [if_pos rfl] at h1
  clear H1
  obtain ⟨⟨b,p1,p2,p3⟩,E1,h2⟩ := Option.bind_eq_some_iff.1 h1
  clear h1
  obtain ⟨⟨q2,q3⟩,E2,h3⟩ := Option.bind_eq_some_iff.1 h2
  clear h2
  simp only [Option.some.injEq,Prod.mk.injEq] at h3
  obtain ⟨rfl,rfl,rfl,rfl,rfl⟩ := h3
  have F1 := Aside0.mk E1
  have F2 := Aside0.mk E2
  clear E1 E2
  go_wp2_with ((with_reducible refine gcal_ (f := 31) rfl ?_);refine goesL_ (some 37) rfl rfl Tryz.func31 (by kernel_rfl) rfl #[.agg #[.bool a0_0,.slice A0_1 l0_1.length c0_1,.slice A0_2 l0_2.length c0_2,.slice A0_3 l0_3.length c0_3]] rfl (by (try simp only [List.map_toArray,List.map_cons,List.map_nil]);first|done|rfl) ?_;refine (spec_l6Copy.calls k a0_0 A0_1 c0_1 l0_1 A0_2 c0_2 l0_2 A0_3 c0_3 l0_3 b p1 p2 p3 _ (Kd.C_below HR1.out D3.out) HC1.out (Kd.C_below HR2.out D3.out) HC2.out (Kd.C_below HR3.out D3.out) HC3.out F1.out).mono ?_;rintro e w4 ⟨v1,v2,v3,rfl,S1,S2,S3,B⟩;refine ⟨_,rfl,?_⟩;refine hold_6 ?_)
  refine ⟨?_⟩
  clear hcgr5_0 hfr5_0 hcga5_0 hcgr5_1 hfr5_1 hcga5_1 hcgr5_2 hfr5_2 hcga5_2 hcgr5_3 hfr5_3 hcga5_3
  have T1 := Aside0.mk S1
  have T2 := Aside0.mk S2
  have T3 := Aside0.mk S3
  have LG := Aside0.mk (blk_lt BR.out)
  have G := Aside0.mk B
  have D4 := Aside0.mk (below_step D3.out B)
  have BR := Aside0.mk (blk_below BR.out B)
  clear S1 S2 S3 B BM
  obtain ⟨A1,c1,e1_⟩ := Kd.S_slice T1.out
  subst e1_
  obtain ⟨A2,c2,e2_⟩ := Kd.S_slice T2.out
  subst e2_
  obtain ⟨A3,c3,e3_⟩ := Kd.R_slice T3.out
  subst e3_
  go_wp2_with ((with_reducible refine gate_dst (N := 10) rfl ?_);refine bx_ 10 #[.bool false,.slice none 0 0,.slice none 0 0,.slice none 0 0] 31 ?_;intro go hg w5 hbox hb;have hge := Aside0.mk (Nat.le_of_eq hg.symm);clear hg;refine hold_6 ?_)
  refine ⟨?_⟩
  have BZ := Aside0.mk hbox
  have Q0 := Aside0.mk hb
  have HGE := hge
  clear hbox hb hge
  have hcgoy_0 : w5.cell? ⟨go,0,none⟩ = some (.bool false) := (blk_cell BZ.out 0).trans rfl
  have hcgoy_1 : w5.cell? ⟨go,1,none⟩ = some (.slice none 0 0) := (blk_cell BZ.out 1).trans rfl
  have hcgoy_2 : w5.cell? ⟨go,2,none⟩ = some (.slice none 0 0) := (blk_cell BZ.out 2).trans rfl
  have hcgoy_3 : w5.cell? ⟨go,3,none⟩ = some (.slice none 0 0) := (blk_cell BZ.out 3).trans rfl
  have hfy_0 := blk_frozen BZ.out 0
  have hfy_1 := blk_frozen BZ.out 1
  have hfy_2 := blk_frozen BZ.out 2
  have hfy_3 := blk_frozen BZ.out 3
  go_upto_region 4 with (fail)
  have n0_ : Aside0 (Below w4.heap.size w4 ((((w5.setCell ⟨go,0,none⟩ (.bool b)).setCell ⟨go,1,none⟩ (.slice A1 p1.length c1)).setCell ⟨go,2,none⟩ (.slice A2 p2.length c2)).setCell ⟨go,3,none⟩ (.slice A3 p3.length c3))) := ⟨below_set (below_set (below_set (below_set Q0.out HGE.out) HGE.out) HGE.out) HGE.out⟩
  have n1_ : Aside0 (((((w5.setCell ⟨go,0,none⟩ (.bool b)).setCell ⟨go,1,none⟩ (.slice A1 p1.length c1)).setCell ⟨go,2,none⟩ (.slice A2 p2.length c2)).setCell ⟨go,3,none⟩ (.slice A3 p3.length c3)).heap[go]? = some (.cells #[.bool b,.slice A1 p1.length c1,.slice A2 p2.length c2,.slice A3 p3.length c3] 31 (0,0))) := ⟨by refine blk_put (cs := #[.bool b,.slice A1 p1.length c1,.slice A2 p2.length c2,.slice none 0 0]) ?_ 3 _ rfl;refine blk_put (cs := #[.bool b,.slice A1 p1.length c1,.slice none 0 0,.slice none 0 0]) ?_ 2 _ rfl;refine blk_put (cs := #[.bool b,.slice none 0 0,.slice none 0 0,.slice none 0 0]) ?_ 1 _ rfl;refine blk_put (cs := #[.bool false,.slice none 0 0,.slice none 0 0,.slice none 0 0]) ?_ 0 _ rfl;exact BZ.out⟩
  clear BZ Q0
  clear hcgoy_0 hfy_0 hcgoy_1 hfy_1 hcgoy_2 hfy_2 hcgoy_3 hfy_3
  generalize ((((w5.setCell ⟨go,0,none⟩ (.bool b)).setCell ⟨go,1,none⟩ (.slice A1 p1.length c1)).setCell ⟨go,2,none⟩ (.slice A2 p2.length c2)).setCell ⟨go,3,none⟩ (.slice A3 p3.length c3)) = w6 at n0_ n1_ ⊢
  have B := n0_.out
  have BG := n1_
  clear n0_ n1_
  have T1 := Aside0.mk (Kd.S_bound (Kd.S_below T1.out B))
  have T2 := Aside0.mk (Kd.S_bound (Kd.S_below T2.out B))
  have T3 := Aside0.mk (Kd.R_bound (Kd.R_below T3.out B))
  have GO : Aside0 (w3b.heap.size ≤ go) := ⟨Nat.le_trans G.out.size HGE.out⟩
  have G := Aside0.mk (below_step G.out B)
  have D6 := Aside0.mk (below_step D4.out B)
  have BR := Aside0.mk (blk_below BR.out B)
  clear B D4
  have NG : Aside0 (gr ≠ go) := ⟨Nat.ne_of_lt (Nat.lt_of_lt_of_le LG.out GO.out)⟩
  go_wp2_with ((with_reducible refine gcal_ (f := 32) rfl ?_);refine goesL_ (some 41) rfl rfl Tryz.func32 (by kernel_rfl) rfl #[.pointer (some ⟨go,0,none⟩),.int .i64 a1,.int .i64 a2,.bool true] rfl (by (try simp only [List.map_toArray,List.map_cons,List.map_nil]);first|done|rfl) ?_;refine (spec_l6Clear.calls k (fun k_ => True ∧ w3b.heap.size ≤ k_ ∧ k_ < w6.heap.size ∧ ∃ q,q ∈ 50 :: (k50).E ∧ ∃ cells,w6.heap[k_]? = some (.cells cells q (0,0))) (fun k_ => True ∧ w3b.heap.size ≤ k_ ∧ k_ < w6.heap.size ∧ ∃ q,q ∈ 2 :: ((Kd.int .i64)).E ∧ ∃ cells,w6.heap[k_]? = some (.cells cells q (0,0))) go b (.slice A1 p1.length c1) A2 c2 p2 A3 c3 p3 a1 a2 true q2 q3 w3b _ G.out GO.out BG.out (fun hs_ => ty_6 ⟨31,List.mem_singleton.2 rfl,_,BG.out⟩ hs_.2.2.2 (by decide)) (fun hs_ => ty_6 ⟨31,List.mem_singleton.2 rfl,_,BG.out⟩ hs_.2.2.2 (by decide)) (fun k_ h1_ h2_ => ty_6 h1_.2.2.2 h2_.2.2.2 (by decide)) T2.out T3.out F2.out).mono ?_;rintro e w7 ⟨rfl,A4,c4,A5,c5,BG2,S2,S3,B,K⟩;refine ⟨_,rfl,?_⟩;refine hold_6 ?_)
  refine ⟨?_⟩
  have T1 := Aside0.mk (Kd.S_kept T1.out K (fun k_ hk_ hs_ => hs_.elim (fun h_ => ty_6 hk_.2.2.2 h_.2.2.2 (by decide)) (fun e_ => ty_6 (e_ ▸ hk_.2.2.2) ⟨31,List.mem_singleton.2 rfl,_,BG.out⟩ (by decide))))
  have T2 := Aside0.mk S2
  have T3 := Aside0.mk S3
  have BR2 := Aside0.mk (blk_kept BR.out K (fun hs_ => hs_.elim (fun h_ => (fun hs_ => ty_6 ⟨31,List.mem_singleton.2 rfl,_,BR.out⟩ hs_.2.2.2 (by decide)) h_) NG.out))
  have BG := Aside0.mk BG2
  have D7 := Aside0.mk (below_step D3.out B)
  clear S2 S3 B K BG2 BR
  have BR := BR2
  clear BR2
  have hcgo7_0 : w7.cell? ⟨go,0,none⟩ = some (.bool b) := (blk_cell BG.out 0).trans rfl
  have hcgo7_1 : w7.cell? ⟨go,1,none⟩ = some (.slice A1 p1.length c1) := (blk_cell BG.out 1).trans rfl
  have hcgo7_2 : w7.cell? ⟨go,2,none⟩ = some (.slice A4 q2.length c4) := (blk_cell BG.out 2).trans rfl
  have hcgo7_3 : w7.cell? ⟨go,3,none⟩ = some (.slice A5 q3.length c5) := (blk_cell BG.out 3).trans rfl
  have hcgr7_0 : w7.cell? ⟨gr,0,none⟩ = some (.bool false) := (blk_cell BR.out 0).trans rfl
  have hcgr7_1 : w7.cell? ⟨gr,1,none⟩ = some (.slice none 0 0) := (blk_cell BR.out 1).trans rfl
  have hcgr7_2 : w7.cell? ⟨gr,2,none⟩ = some (.slice none 0 0) := (blk_cell BR.out 2).trans rfl
  have hcgr7_3 : w7.cell? ⟨gr,3,none⟩ = some (.slice none 0 0) := (blk_cell BR.out 3).trans rfl
  have hfr7_0 := blk_frozen BR.out 0
  have hfr7_1 := blk_frozen BR.out 1
  have hfr7_2 := blk_frozen BR.out 2
  have hfr7_3 := blk_frozen BR.out 3
  go_wp2
  refine bodyPost_ret (results_ct rfl _ _ gr 31 #[.bool b,.slice A1 p1.length c1,.slice A4 q2.length c4,.slice A5 q3.length c5] (0,0) _ rfl (by refine blk_put (cs := #[.bool b,.slice A1 p1.length c1,.slice A4 q2.length c4,.slice none 0 0]) ?_ 3 _ rfl;refine blk_put (cs := #[.bool b,.slice A1 p1.length c1,.slice none 0 0,.slice none 0 0]) ?_ 2 _ rfl;refine blk_put (cs := #[.bool b,.slice none 0 0,.slice none 0 0,.slice none 0 0]) ?_ 1 _ rfl;refine blk_put (cs := #[.bool false,.slice none 0 0,.slice none 0 0,.slice none 0 0]) ?_ 0 _ rfl;exact BR.out) Tryz.underlying31 rfl (by kernel_rfl)) rfl ?_
  exact ⟨.slice A1 p1.length c1,.slice A4 q2.length c4,.slice A5 q3.length c5,by first|rfl|(simp;done),Kd.S_mono (Kd.S_far (p := ⟨gr,3,none⟩) (Kd.S_far (p := ⟨gr,2,none⟩) (Kd.S_far (p := ⟨gr,1,none⟩) (Kd.S_far (p := ⟨gr,0,none⟩) (Kd.S_types (Kd.S_lower T1.out D3.out.size) BR.out (by decide)) (fun _ h_ => h_.2) (.bool b)) (fun _ h_ => h_.2) (.slice A1 p1.length c1)) (fun _ h_ => h_.2) (.slice A4 q2.length c4)) (fun _ h_ => h_.2) (.slice A5 q3.length c5)) (fun _ _ => trivial),Kd.S_mono (Kd.S_far (p := ⟨gr,3,none⟩) (Kd.S_far (p := ⟨gr,2,none⟩) (Kd.S_far (p := ⟨gr,1,none⟩) (Kd.S_far (p := ⟨gr,0,none⟩) (Kd.S_types (Kd.S_lower T2.out D3.out.size) BR.out (by decide)) (fun _ h_ => h_.2) (.bool b)) (fun _ h_ => h_.2) (.slice A1 p1.length c1)) (fun _ h_ => h_.2) (.slice A4 q2.length c4)) (fun _ h_ => h_.2) (.slice A5 q3.length c5)) (fun _ _ => trivial),Kd.R_mono (Kd.R_far (p := ⟨gr,3,none⟩) (Kd.R_far (p := ⟨gr,2,none⟩) (Kd.R_far (p := ⟨gr,1,none⟩) (Kd.R_far (p := ⟨gr,0,none⟩) (Kd.R_types (Kd.R_lower T3.out D3.out.size) BR.out (by decide)) (fun _ h_ => h_.2) (.bool b)) (fun _ h_ => h_.2) (.slice A1 p1.length c1)) (fun _ h_ => h_.2) (.slice A4 q2.length c4)) (fun _ h_ => h_.2) (.slice A5 q3.length c5)) (fun _ _ => trivial),below_set (below_set (below_set (below_set D7.out GR.out) GR.out) GR.out) GR.out⟩
  | false =>
 have h2 := H2.out
 rw [Bool.false_or] at h2
 clear H2
 by_cases lk : (l0_3.length : Int) = 60
 ·have lkb : ((l0_3.length : Int) == 60) = true := beq_iff_eq.mpr lk
  have lkd : decide ((l0_3.length : Int) = 60) = true := decide_eq_true lk
  rw [lkd] at h2
  obtain rfl := Option.some.inj h2
  clear lk h2
  have h1 := H1.out
  rw [if_neg (by simp)] at h1
  clear H1
  simp only [Option.some.injEq,Prod.mk.injEq] at h1
  obtain ⟨rfl,rfl,rfl,rfl,rfl⟩ := h1
  go_wp2
  refine bodyPost_ret (results_ct rfl _ _ gr 31 #[.bool false,.slice none 0 0,.slice none 0 0,.slice none 0 0] (0,0) _ rfl (by refine blk_put (cs := #[.bool false,.slice none 0 0,.slice none 0 0,.slice none 0 0]) ?_ 3 _ rfl;refine blk_put (cs := #[.bool false,.slice none 0 0,.slice none 0 0,.slice none 0 0]) ?_ 2 _ rfl;refine blk_put (cs := #[.bool false,.slice none 0 0,.slice none 0 0,.slice none 0 0]) ?_ 1 _ rfl;refine blk_put (cs := #[.bool false,.slice none 0 0,.slice none 0 0,.slice none 0 0]) ?_ 0 _ rfl;exact BR.out) Tryz.underlying31 rfl (by kernel_rfl)) rfl ?_
  exact ⟨.slice none 0 0,.slice none 0 0,.slice none 0 0,by first|rfl|(simp;done),Kd.S_nil _ _ _ _ _,Kd.S_nil _ _ _ _ _,Kd.R_nil _ _ _ _ _,below_set (below_set (below_set (below_set D3.out GR.out) GR.out) GR.out) GR.out⟩
 ·have lkb : ((l0_3.length : Int) == 60) = false := beq_eq_false_iff_ne.mpr lk
  have lkd : decide ((l0_3.length : Int) = 60) = false := decide_eq_false lk
  have h2 : some true = some t3 := by rw [lkd] at h2;exact h2
  obtain rfl := Option.some.inj h2
  clear lk h2
  have h1 := H1.out
  rw [if_pos rfl] at h1
  clear H1
  obtain ⟨⟨b,p1,p2,p3⟩,E1,h2⟩ := Option.bind_eq_some_iff.1 h1
  clear h1
  obtain ⟨⟨q2,q3⟩,E2,h3⟩ := Option.bind_eq_some_iff.1 h2
  clear h2
  simp only [Option.some.injEq,Prod.mk.injEq] at h3
  obtain ⟨rfl,rfl,rfl,rfl,rfl⟩ := h3
  have F1 := Aside0.mk E1
  have F2 := Aside0.mk E2
  clear E1 E2
  go_wp2_with ((with_reducible refine gcal_ (f := 31) rfl ?_);refine goesL_ (some 37) rfl rfl Tryz.func31 (by kernel_rfl) rfl #[.agg #[.bool a0_0,.slice A0_1 l0_1.length c0_1,.slice A0_2 l0_2.length c0_2,.slice A0_3 l0_3.length c0_3]] rfl (by (try simp only [List.map_toArray,List.map_cons,List.map_nil]);first|done|rfl) ?_;refine (spec_l6Copy.calls k a0_0 A0_1 c0_1 l0_1 A0_2 c0_2 l0_2 A0_3 c0_3 l0_3 b p1 p2 p3 _ (Kd.C_below HR1.out D3.out) HC1.out (Kd.C_below HR2.out D3.out) HC2.out (Kd.C_below HR3.out D3.out) HC3.out F1.out).mono ?_;rintro e w4 ⟨v1,v2,v3,rfl,S1,S2,S3,B⟩;refine ⟨_,rfl,?_⟩;refine hold_6 ?_)
  refine ⟨?_⟩
  clear hcgr5_0 hfr5_0 hcga5_0 hcgr5_1 hfr5_1 hcga5_1 hcgr5_2 hfr5_2 hcga5_2 hcgr5_3 hfr5_3 hcga5_3 lkb lkd
  have T1 := Aside0.mk S1
  have T2 := Aside0.mk S2
  have T3 := Aside0.mk S3
  have LG := Aside0.mk (blk_lt BR.out)
  have G := Aside0.mk B
  have D4 := Aside0.mk (below_step D3.out B)
  have BR := Aside0.mk (blk_below BR.out B)
  clear S1 S2 S3 B BM
  obtain ⟨A1,c1,e1_⟩ := Kd.S_slice T1.out
  subst e1_
  obtain ⟨A2,c2,e2_⟩ := Kd.S_slice T2.out
  subst e2_
  obtain ⟨A3,c3,e3_⟩ := Kd.R_slice T3.out
  subst e3_
  go_wp2_with ((with_reducible refine gate_dst (N := 10) rfl ?_);refine bx_ 10 #[.bool false,.slice none 0 0,.slice none 0 0,.slice none 0 0] 31 ?_;intro go hg w5 hbox hb;have hge := Aside0.mk (Nat.le_of_eq hg.symm);clear hg;refine hold_6 ?_)
  refine ⟨?_⟩
  have BZ := Aside0.mk hbox
  have Q0 := Aside0.mk hb
  have HGE := hge
  clear hbox hb hge
  have hcgoy_0 : w5.cell? ⟨go,0,none⟩ = some (.bool false) := (blk_cell BZ.out 0).trans rfl
  have hcgoy_1 : w5.cell? ⟨go,1,none⟩ = some (.slice none 0 0) := (blk_cell BZ.out 1).trans rfl
  have hcgoy_2 : w5.cell? ⟨go,2,none⟩ = some (.slice none 0 0) := (blk_cell BZ.out 2).trans rfl
  have hcgoy_3 : w5.cell? ⟨go,3,none⟩ = some (.slice none 0 0) := (blk_cell BZ.out 3).trans rfl
  have hfy_0 := blk_frozen BZ.out 0
  have hfy_1 := blk_frozen BZ.out 1
  have hfy_2 := blk_frozen BZ.out 2
  have hfy_3 := blk_frozen BZ.out 3
  go_upto_region 4 with (fail)
  have n0_ : Aside0 (Below w4.heap.size w4 ((((w5.setCell ⟨go,0,none⟩ (.bool b)).setCell ⟨go,1,none⟩ (.slice A1 p1.length c1)).setCell ⟨go,2,none⟩ (.slice A2 p2.length c2)).setCell ⟨go,3,none⟩ (.slice A3 p3.length c3))) := ⟨below_set (below_set (below_set (below_set Q0.out HGE.out) HGE.out) HGE.out) HGE.out⟩
  have n1_ : Aside0 (((((w5.setCell ⟨go,0,none⟩ (.bool b)).setCell ⟨go,1,none⟩ (.slice A1 p1.length c1)).setCell ⟨go,2,none⟩ (.slice A2 p2.length c2)).setCell ⟨go,3,none⟩ (.slice A3 p3.length c3)).heap[go]? = some (.cells #[.bool b,.slice A1 p1.length c1,.slice A2 p2.length c2,.slice A3 p3.length c3] 31 (0,0))) := ⟨by refine blk_put (cs := #[.bool b,.slice A1 p1.length c1,.slice A2 p2.length c2,.slice none 0 0]) ?_ 3 _ rfl;refine blk_put (cs := #[.bool b,.slice A1 p1.length c1,.slice none 0 0,.slice none 0 0]) ?_ 2 _ rfl;refine blk_put (cs := #[.bool b,.slice none 0 0,.slice none 0 0,.slice none 0 0]) ?_ 1 _ rfl;refine blk_put (cs := #[.bool false,.slice none 0 0,.slice none 0 0,.slice none 0 0]) ?_ 0 _ rfl;exact BZ.out⟩
  clear BZ Q0
  clear hcgoy_0 hfy_0 hcgoy_1 hfy_1 hcgoy_2 hfy_2 hcgoy_3 hfy_3
  generalize ((((w5.setCell ⟨go,0,none⟩ (.bool b)).setCell ⟨go,1,none⟩ (.slice A1 p1.length c1)).setCell ⟨go,2,none⟩ (.slice A2 p2.length c2)).setCell ⟨go,3,none⟩ (.slice A3 p3.length c3)) = w6 at n0_ n1_ ⊢
  have B := n0_.out
  have BG := n1_
  clear n0_ n1_
  have T1 := Aside0.mk (Kd.S_bound (Kd.S_below T1.out B))
  have T2 := Aside0.mk (Kd.S_bound (Kd.S_below T2.out B))
  have T3 := Aside0.mk (Kd.R_bound (Kd.R_below T3.out B))
  have GO : Aside0 (w3b.heap.size ≤ go) := ⟨Nat.le_trans G.out.size HGE.out⟩
  have G := Aside0.mk (below_step G.out B)
  have D6 := Aside0.mk (below_step D4.out B)
  have BR := Aside0.mk (blk_below BR.out B)
  clear B D4
  have NG : Aside0 (gr ≠ go) := ⟨Nat.ne_of_lt (Nat.lt_of_lt_of_le LG.out GO.out)⟩
  go_wp2_with ((with_reducible refine gcal_ (f := 32) rfl ?_);refine goesL_ (some 41) rfl rfl Tryz.func32 (by kernel_rfl) rfl #[.pointer (some ⟨go,0,none⟩),.int .i64 a1,.int .i64 a2,.bool true] rfl (by (try simp only [List.map_toArray,List.map_cons,List.map_nil]);first|done|rfl) ?_;refine (spec_l6Clear.calls k (fun k_ => True ∧ w3b.heap.size ≤ k_ ∧ k_ < w6.heap.size ∧ ∃ q,q ∈ 50 :: (k50).E ∧ ∃ cells,w6.heap[k_]? = some (.cells cells q (0,0))) (fun k_ => True ∧ w3b.heap.size ≤ k_ ∧ k_ < w6.heap.size ∧ ∃ q,q ∈ 2 :: ((Kd.int .i64)).E ∧ ∃ cells,w6.heap[k_]? = some (.cells cells q (0,0))) go b (.slice A1 p1.length c1) A2 c2 p2 A3 c3 p3 a1 a2 true q2 q3 w3b _ G.out GO.out BG.out (fun hs_ => ty_6 ⟨31,List.mem_singleton.2 rfl,_,BG.out⟩ hs_.2.2.2 (by decide)) (fun hs_ => ty_6 ⟨31,List.mem_singleton.2 rfl,_,BG.out⟩ hs_.2.2.2 (by decide)) (fun k_ h1_ h2_ => ty_6 h1_.2.2.2 h2_.2.2.2 (by decide)) T2.out T3.out F2.out).mono ?_;rintro e w7 ⟨rfl,A4,c4,A5,c5,BG2,S2,S3,B,K⟩;refine ⟨_,rfl,?_⟩;refine hold_6 ?_)
  refine ⟨?_⟩
  have T1 := Aside0.mk (Kd.S_kept T1.out K (fun k_ hk_ hs_ => hs_.elim (fun h_ => ty_6 hk_.2.2.2 h_.2.2.2 (by decide)) (fun e_ => ty_6 (e_ ▸ hk_.2.2.2) ⟨31,List.mem_singleton.2 rfl,_,BG.out⟩ (by decide))))
  have T2 := Aside0.mk S2
  have T3 := Aside0.mk S3
  have BR2 := Aside0.mk (blk_kept BR.out K (fun hs_ => hs_.elim (fun h_ => (fun hs_ => ty_6 ⟨31,List.mem_singleton.2 rfl,_,BR.out⟩ hs_.2.2.2 (by decide)) h_) NG.out))
  have BG := Aside0.mk BG2
  have D7 := Aside0.mk (below_step D3.out B)
  clear S2 S3 B K BG2 BR
  have BR := BR2
  clear BR2
  have hcgo7_0 : w7.cell? ⟨go,0,none⟩ = some (.bool b) := (blk_cell BG.out 0).trans rfl
  have hcgo7_1 : w7.cell? ⟨go,1,none⟩ = some (.slice A1 p1.length c1) := (blk_cell BG.out 1).trans rfl
  have hcgo7_2 : w7.cell? ⟨go,2,none⟩ = some (.slice A4 q2.length c4) := (blk_cell BG.out 2).trans rfl
  have hcgo7_3 : w7.cell? ⟨go,3,none⟩ = some (.slice A5 q3.length c5) := (blk_cell BG.out 3).trans rfl
  have hcgr7_0 : w7.cell? ⟨gr,0,none⟩ = some (.bool false) := (blk_cell BR.out 0).trans rfl
  have hcgr7_1 : w7.cell? ⟨gr,1,none⟩ = some (.slice none 0 0) := (blk_cell BR.out 1).trans rfl
  have hcgr7_2 : w7.cell? ⟨gr,2,none⟩ = some (.slice none 0 0) := (blk_cell BR.out 2).trans rfl
  have hcgr7_3 : w7.cell? ⟨gr,3,none⟩ = some (.slice none 0 0) := (blk_cell BR.out 3).trans rfl
  have hfr7_0 := blk_frozen BR.out 0
  have hfr7_1 := blk_frozen BR.out 1
  have hfr7_2 := blk_frozen BR.out 2
  have hfr7_3 := blk_frozen BR.out 3
  go_wp2
  refine bodyPost_ret (results_ct rfl _ _ gr 31 #[.bool b,.slice A1 p1.length c1,.slice A4 q2.length c4,.slice A5 q3.length c5] (0,0) _ rfl (by refine blk_put (cs := #[.bool b,.slice A1 p1.length c1,.slice A4 q2.length c4,.slice none 0 0]) ?_ 3 _ rfl;refine blk_put (cs := #[.bool b,.slice A1 p1.length c1,.slice none 0 0,.slice none 0 0]) ?_ 2 _ rfl;refine blk_put (cs := #[.bool b,.slice none 0 0,.slice none 0 0,.slice none 0 0]) ?_ 1 _ rfl;refine blk_put (cs := #[.bool false,.slice none 0 0,.slice none 0 0,.slice none 0 0]) ?_ 0 _ rfl;exact BR.out) Tryz.underlying31 rfl (by kernel_rfl)) rfl ?_
  exact ⟨.slice A1 p1.length c1,.slice A4 q2.length c4,.slice A5 q3.length c5,by first|rfl|(simp;done),Kd.S_mono (Kd.S_far (p := ⟨gr,3,none⟩) (Kd.S_far (p := ⟨gr,2,none⟩) (Kd.S_far (p := ⟨gr,1,none⟩) (Kd.S_far (p := ⟨gr,0,none⟩) (Kd.S_types (Kd.S_lower T1.out D3.out.size) BR.out (by decide)) (fun _ h_ => h_.2) (.bool b)) (fun _ h_ => h_.2) (.slice A1 p1.length c1)) (fun _ h_ => h_.2) (.slice A4 q2.length c4)) (fun _ h_ => h_.2) (.slice A5 q3.length c5)) (fun _ _ => trivial),Kd.S_mono (Kd.S_far (p := ⟨gr,3,none⟩) (Kd.S_far (p := ⟨gr,2,none⟩) (Kd.S_far (p := ⟨gr,1,none⟩) (Kd.S_far (p := ⟨gr,0,none⟩) (Kd.S_types (Kd.S_lower T2.out D3.out.size) BR.out (by decide)) (fun _ h_ => h_.2) (.bool b)) (fun _ h_ => h_.2) (.slice A1 p1.length c1)) (fun _ h_ => h_.2) (.slice A4 q2.length c4)) (fun _ h_ => h_.2) (.slice A5 q3.length c5)) (fun _ _ => trivial),Kd.R_mono (Kd.R_far (p := ⟨gr,3,none⟩) (Kd.R_far (p := ⟨gr,2,none⟩) (Kd.R_far (p := ⟨gr,1,none⟩) (Kd.R_far (p := ⟨gr,0,none⟩) (Kd.R_types (Kd.R_lower T3.out D3.out.size) BR.out (by decide)) (fun _ h_ => h_.2) (.bool b)) (fun _ h_ => h_.2) (.slice A1 p1.length c1)) (fun _ h_ => h_.2) (.slice A4 q2.length c4)) (fun _ h_ => h_.2) (.slice A5 q3.length c5)) (fun _ _ => trivial),below_set (below_set (below_set (below_set D7.out GR.out) GR.out) GR.out) GR.out⟩

end Go.Proofs.YthplaakckfhaaaaGreat.XCr
