/- Proved: the law FnLeases answers true at every argument: the program answers as the reference, wherever the law's own guards let the argument in. Conditions: none beyond the given row's. -/
import Derived.Test.YtodgacnioeoogaaSFnLeases
import Derived.Test.YtodgacnioeoogaaGen
namespace Go.Proofs.Ytodgacnioeoogaa.Pure
open Go.RowKit Go.Proofs.Ytodgacnioeoogaa.XLe Go.Proofs.Ytodgacnioeoogaa.Opened Go.Proofs.YtodgacnioeoogaaW.PrintWords Go.Proofs.YtodgacnioeoogaaW.PrintLast Go.Proofs.Ytodgacnioeoogaa.SFnLeases Go.Proofs.Ytodgacnioeoogaa.Gen
set_option linter.unusedSimpArgs false
set_option linter.unusedVariables false
theorem in_ (a b c : Int) : spec_l1In.f a b c = some (decide (b ≤ a ∧ a ≤ c)) := by
  unfold spec_l1In.f
  by_cases h : a ≥ b <;> simp [h]
theorem within_ (a b c : Int) : impl_within.f a b c = some (decide (b ≤ a ∧ a ≤ c)) := by
  unfold impl_within.f
  by_cases h : a ≥ b <;> simp [h]
def okl (a b c : Int) : Prop := (0 ≤ a ∧ a ≤ 7) ∧ (0 ≤ b ∧ b ≤ 1000000000000) ∧ (1 ≤ c ∧ c ≤ 1000000000000)
instance (a b c : Int) : Decidable (okl a b c) := by unfold okl; exact inferInstance
theorem spec_lease (a b c : Int) : spec_LeaseOk.f a b c = some (decide (okl a b c)) := by
  simp only [spec_LeaseOk.f, spec_l1Machine.f, spec_l4Time.f, in_, Option.bind_some, okl]
  by_cases h1 : (0 ≤ a ∧ a ≤ 7) <;> by_cases h2 : (0 ≤ b ∧ b ≤ 1000000000000) <;> simp [h1, h2]
theorem impl_lease (a b c : Int) : impl_isLease.f a b c = some (decide (okl a b c)) := by
  simp only [impl_isLease.f, impl_isMachine.f, within_, Option.bind_some, okl]
  by_cases h1 : (0 ≤ a ∧ a ≤ 7) <;> by_cases h2 : (0 ≤ b ∧ b ≤ 1000000000000) <;> simp [h1, h2]
def told (a b c n d : Int) : Prop := okl a b c ∧ (0 ≤ n ∧ n ≤ 1000000000000) ∧ b ≤ n ∧ (0 ≤ d ∧ d ≤ 100000)
instance (a b c n d : Int) : Decidable (told a b c n d) := by unfold told; exact inferInstance
theorem spec_told (a b c n d : Int) : spec_l4Told.f a b c n d = some (decide (told a b c n d)) := by
  simp only [spec_l4Told.f, spec_lease, spec_l4Time.f, in_, Option.bind_some, told]
  by_cases h1 : okl a b c <;> by_cases h2 : (0 ≤ n ∧ n ≤ 1000000000000) <;> by_cases h3 : b ≤ n <;> simp [h1, h2, h3]
theorem mul_bd {x y X Y : Int} (h0 : -X ≤ x) (h1 : x ≤ X) (h2 : 0 ≤ y) (h3 : y ≤ Y) (hX : 0 ≤ X) : -(X * Y) ≤ x * y ∧ x * y ≤ X * Y := by
  have a1 : x * y ≤ X * y := Int.mul_le_mul_of_nonneg_right h1 h2
  have a2 : X * y ≤ X * Y := Int.mul_le_mul_of_nonneg_left h3 hX
  have a3 : -X * y ≤ x * y := Int.mul_le_mul_of_nonneg_right h0 h2
  rw [Int.neg_mul] at a3
  omega
theorem spec_safe (a b c n d : Int) : spec_Safe.f a b c n d = some (decide (told a b c n d ∧ (n - b) * (1000000 + d) ≤ c * (1000000 - d))) := by
  simp only [spec_Safe.f, spec_told, Option.bind_some]
  by_cases h : told a b c n d
  · obtain ⟨⟨h0, h1, h2⟩, h3, h4, h5⟩ := id h
    have m1 := mul_bd (x := n - b) (y := 1000000 + d) (X := 1000000000000) (Y := 1100000) (by omega) (by omega) (by omega) (by omega) (by omega)
    have m2 := mul_bd (x := c) (y := 1000000 - d) (X := 1000000000000) (Y := 1100000) (by omega) (by omega) (by omega) (by omega) (by omega)
    rw [wrap_of (x := n - b) (by omega) (by omega), wrap_of (x := 1000000 + d) (by omega) (by omega), wrap_of (x := 1000000 - d) (by omega) (by omega), wrap_of (x := (n - b) * (1000000 + d)) (by omega) (by omega), wrap_of (x := c * (1000000 - d)) (by omega) (by omega)]
    simp [h]
  · simp [h]
theorem impl_safe (a b c n d : Int) : impl_Safe.f a b c n d = some (decide (told a b c n d ∧ (n - b) * (1000000 + d) ≤ c * (1000000 - d))) := by
  rw [← spec_safe]
  simp only [spec_Safe.f, impl_Safe.f, spec_told, impl_lease, within_, Option.bind_some]
  by_cases h : told a b c n d
  · obtain ⟨h1, h2, h3, h4⟩ := id h
    have h5 : b ≤ n ∧ n ≤ 1000000000000 := ⟨h3, h2.2⟩
    simp [h, h1, h4, h5]
  · by_cases h1 : okl a b c
    · by_cases h4 : (0 ≤ d ∧ d ≤ 100000)
      · have h5 : ¬ (b ≤ n ∧ n ≤ 1000000000000) := fun h5 => h ⟨h1, ⟨by have := h1.2.1.1; omega, h5.2⟩, h5.1, h4⟩
        simp [h, h1, h4, h5]
      · simp [h, h1, h4]
    · simp [h, h1]
theorem impl_dead (a b c n d : Int) : impl_Dead.f a b c n d = some (decide (told a b c n d ∧ (n - b) * (1000000 - d) > c * (1000000 + d))) := by
  simp only [impl_Dead.f, impl_lease, within_, Option.bind_some]
  by_cases h1 : okl a b c
  · by_cases h4 : (0 ≤ d ∧ d ≤ 100000)
    · by_cases h5 : (0 ≤ n ∧ n ≤ 1000000000000)
      · obtain ⟨_, hb, hc⟩ := id h1
        have m1 := mul_bd (x := n - b) (y := 1000000 - d) (X := 1000000000000) (Y := 1100000) (by omega) (by omega) (by omega) (by omega) (by omega)
        have m2 := mul_bd (x := c) (y := 1000000 + d) (X := 1000000000000) (Y := 1100000) (by omega) (by omega) (by omega) (by omega) (by omega)
        have e4 : wrap64 ((n - b) * (1000000 - d)) = (n - b) * (1000000 - d) := wrap_of (by omega) (by omega)
        have e5 : wrap64 (c * (1000000 + d)) = c * (1000000 + d) := wrap_of (by omega) (by omega)
        rw [wrap_of (x := n - b) (by omega) (by omega), wrap_of (x := 1000000 - d) (by omega) (by omega), wrap_of (x := 1000000 + d) (by omega) (by omega), e4, e5]
        by_cases h6 : b ≤ n
        · have ht : told a b c n d := ⟨h1, h5, h6, h4⟩
          simp [h1, h4, h5, ht]
        · have ht : ¬ told a b c n d := fun ht => h6 ht.2.2.1
          have m3 : (n - b) * (1000000 - d) ≤ 0 := Int.mul_nonpos_of_nonpos_of_nonneg (by omega) (by omega)
          have m4 : 0 ≤ c * (1000000 + d) := Int.mul_nonneg (by omega) (by omega)
          have m5 : ¬ (c * (1000000 + d) < (n - b) * (1000000 - d)) := by omega
          simp [h1, h4, h5, ht, m5]
      · have ht : ¬ told a b c n d := fun ht => h5 ht.2.1
        simp [h1, h4, h5, ht]
    · have ht : ¬ told a b c n d := fun ht => h4 ht.2.2.2
      simp [h1, h4, ht]
  · have ht : ¬ told a b c n d := fun ht => h1 ht.1
    simp [h1, ht]
theorem spec_dead (a b c n d : Int) : spec_Dead.f a b c n d = some (decide (told a b c n d ∧ (n - b) * (1000000 - d) > c * (1000000 + d))) := by
  simp only [spec_Dead.f, spec_told, Option.bind_some]
  by_cases h : told a b c n d
  · obtain ⟨⟨h0, h1, h2⟩, h3, h4, h5⟩ := id h
    have m1 := mul_bd (x := n - b) (y := 1000000 - d) (X := 1000000000000) (Y := 1100000) (by omega) (by omega) (by omega) (by omega) (by omega)
    have m2 := mul_bd (x := c) (y := 1000000 + d) (X := 1000000000000) (Y := 1100000) (by omega) (by omega) (by omega) (by omega) (by omega)
    rw [wrap_of (x := n - b) (by omega) (by omega), wrap_of (x := 1000000 + d) (by omega) (by omega), wrap_of (x := 1000000 - d) (by omega) (by omega), wrap_of (x := (n - b) * (1000000 - d)) (by omega) (by omega), wrap_of (x := c * (1000000 + d)) (by omega) (by omega)]
    simp [h]
  · simp [h]
theorem spec_renew (a b c n : Int) : spec_Renew.f a b c n = some (if okl a b c ∧ (0 ≤ n ∧ n ≤ 1000000000000) ∧ b ≤ n then (a, n, c) else (0, 0, 0)) := by
  simp only [spec_Renew.f, spec_lease, spec_l4Time.f, in_, Option.bind_some]
  by_cases h1 : okl a b c <;> by_cases h2 : (0 ≤ n ∧ n ≤ 1000000000000) <;> by_cases h3 : n < b
  all_goals first | (have h4 : b ≤ n := by omega) | (have h4 : ¬ b ≤ n := by omega)
  all_goals simp [h1, h2, h3, h4]
theorem impl_renew (a b c n : Int) : impl_Renew.f a b c n = spec_Renew.f a b c n := by
  rw [spec_renew]
  simp only [impl_Renew.f, impl_lease, within_, Option.bind_some]
  by_cases h1 : okl a b c
  · have h5 := h1.2.1.1
    by_cases h2 : (b ≤ n ∧ n ≤ 1000000000000)
    · have h3 : (0 ≤ n ∧ n ≤ 1000000000000) ∧ b ≤ n := by omega
      simp [h1, h2, h3]
    · have h3 : ¬ ((0 ≤ n ∧ n ≤ 1000000000000) ∧ b ≤ n) := by omega
      simp only [h1, h2, h3]
      simp
  · simp [h1]
theorem new_ok (l : List Int) (hl : l.length ≤ maxLen) (k : Nat) (hk : l.length < k) : ∃ h, spec_l1New.f k l = some (l, 0, h) := by
  unfold maxLen at hl
  obtain ⟨r, ⟨h, rfl⟩, e⟩ := loop_inv (fun k (s : Int × Int) => spec_l1New.l0 k l s.1 s.2) (fun i s => s.2 = (i : Int)) (fun r => ∃ h, r = (l, 0, h)) l.length 0
    (fun k i s _ hi hP => .inl ⟨(Go.bits .and .i64 (wrap64 ((wrap64 ((wrap64 (s.1 * 137)) + (wrap64 (rd l s.2)))) + 11)) 1073741823, wrap64 (s.2 + 1)), by
      show wrap64 (s.2 + 1) = ((i + 1 : Nat) : Int)
      rw [hP, wrap_of (by omega) (by omega)]; omega, by
      show spec_l1New.l0 (k + 1) l s.1 s.2 = _
      simp only [spec_l1New.l0]
      rw [if_pos (by omega), if_pos (by omega)]⟩)
    (fun k s _ hP => ⟨_, ⟨s.1, rfl⟩, by
      show spec_l1New.l0 (k + 1) l s.1 s.2 = _
      simp only [spec_l1New.l0]
      rw [if_neg (by omega)]⟩) l.length 0 k (wrap64 (101027 + (l.length : Int)), 0) (by omega) (by omega) rfl
  exact ⟨h, e⟩
theorem byte_ok (l : List Int) (hl : l.length ≤ maxLen) (i h : Int) (hi : 0 ≤ i) : Ok (fun r : Int × Int × Int => 0 ≤ r.1 ∧ r.1 ≤ 255 ∧ 0 ≤ r.2.1) (spec_l1Byte.f l i h) := by
  unfold maxLen at hl
  unfold spec_l1Byte.f
  refine Ok.ite (fun h1 => Ok.pos hi (Ok.ret ?_)) (fun _ => Ok.ret ?_)
  · simp only [and255]
    refine ⟨by omega, by omega, ?_⟩
    rw [wrap_of (by omega) (by omega)]; omega
  · simp only [and255]
    exact ⟨by omega, by omega, hi⟩
theorem below_ok (l : List Int) (hl : l.length ≤ maxLen) (i h : Int) (hi : 0 ≤ i) (n : Int) : Ok (fun r : Int × Int × Int => 0 ≤ r.1 ∧ (0 < n → r.1 < n) ∧ (n ≤ 0 → r.1 = 0) ∧ 0 ≤ r.2.1) (spec_l1Below.f l i h n) := by
  unfold spec_l1Below.f
  refine Ok.ite (fun h1 => Ok.ret ⟨by omega, by omega, by omega, hi⟩) (fun h1 => Ok.ite (fun h2 => ?_) (fun h2 => ?_))
  · refine Ok.bind (byte_ok l hl i h hi) fun r hr => Ok.neg (by omega) (Ok.ret ?_)
    obtain ⟨b, i', h'⟩ := r
    obtain ⟨q1, q2, q3⟩ := hr
    dsimp only at *
    rw [Int.tmod_eq_emod_of_nonneg q1]
    exact ⟨Int.emod_nonneg _ (by omega), fun _ => Int.emod_lt_of_pos _ (by omega), by omega, q3⟩
  · refine Ok.bind (byte_ok l hl i h hi) fun r1 h1' => Ok.bind (byte_ok l hl r1.2.1 r1.2.2 h1'.2.2) fun r2 h2' => Ok.bind (byte_ok l hl r2.2.1 r2.2.2 h2'.2.2) fun r3 h3' => Ok.bind (byte_ok l hl r3.2.1 r3.2.2 h3'.2.2) fun r4 h4' => Ok.neg (by omega) (Ok.ret ?_)
    obtain ⟨b1, i1, h1⟩ := r1
    obtain ⟨b2, i2, h2⟩ := r2
    obtain ⟨b3, i3, h3⟩ := r3
    obtain ⟨b4, i4, h4⟩ := r4
    obtain ⟨p1, p2, p3⟩ := h1'
    obtain ⟨q1, q2, q3⟩ := h2'
    obtain ⟨u1, u2, u3⟩ := h3'
    obtain ⟨v1, v2, v3⟩ := h4'
    dsimp only at *
    rw [wrap_of (x := b1 * 16777216) (by omega) (by omega), wrap_of (x := b2 * 65536) (by omega) (by omega), wrap_of (x := b1 * 16777216 + b2 * 65536) (by omega) (by omega), wrap_of (x := b3 * 256) (by omega) (by omega), wrap_of (x := b1 * 16777216 + b2 * 65536 + b3 * 256) (by omega) (by omega), wrap_of (x := b1 * 16777216 + b2 * 65536 + b3 * 256 + b4) (by omega) (by omega), Int.tmod_eq_emod_of_nonneg (by omega)]
    exact ⟨Int.emod_nonneg _ (by omega), fun _ => Int.emod_lt_of_pos _ (by omega), by omega, v3⟩
theorem once_ok (l : List Int) (hl : l.length ≤ maxLen) (i h : Int) (hi : 0 ≤ i) (n : Int) : Ok (fun r : Bool × Int × Int => 0 ≤ r.2.1) (spec_l1Once.f l i h n) := by
  unfold spec_l1Once.f
  exact Ok.bind (below_ok l hl i h hi n) fun r hr => Ok.ret hr.2.2.2
theorem from_ok (l : List Int) (hl : l.length ≤ maxLen) (i h : Int) (hi : 0 ≤ i) (a b : Int) : Ok (fun r : Int × Int × Int => 0 ≤ r.2.1) (spec_l1From.f l i h a b) := by
  unfold spec_l1From.f
  exact Ok.bind (below_ok l hl i h hi _) fun r hr => Ok.ret hr.2.2.2
theorem min_ok (a b : Int) : Ok (fun _ => True) (spec_l1Min.f a b) := by
  unfold spec_l1Min.f
  exact Ok.ite (fun _ => Ok.ret trivial) (fun _ => Ok.ret trivial)
theorem max_ok (a b : Int) : Ok (fun _ => True) (spec_l1Max.f a b) := by
  unfold spec_l1Max.f
  exact Ok.ite (fun _ => Ok.ret trivial) (fun _ => Ok.ret trivial)
theorem drawLease_ok (l : List Int) (hl : l.length ≤ maxLen) (i h : Int) (hi : 0 ≤ i) : Ok (fun r : Int × Int × Int × Int × Int => 0 ≤ r.2.2.2.1) (spec_l4Draw.f l i h) := by
  unfold spec_l4Draw.f
  refine Ok.bind (below_ok l hl i h hi 4) fun r1 h1 => Ok.bind (below_ok l hl _ _ h1.2.2.2 100000) fun r2 h2 => Ok.bind (below_ok l hl _ _ h2.2.2.2 50000) fun r3 h3 => Ok.bind (once_ok l hl _ _ h3.2.2.2 10) fun r4 h4 => Ok.ite (fun _ => ?_) (fun _ => Ok.ret h4)
  refine Ok.bind (below_ok l hl _ _ h4 3) fun r5 h5 => Ok.ite (fun _ => ?_) (fun _ => Ok.ite (fun _ => ?_) (fun _ => Ok.ite (fun _ => ?_) (fun _ => Ok.ret h5.2.2.2)))
  · simp only [Option.bind_some]
    refine Ok.bind (below_ok l hl _ _ h5.2.2.2 3) fun r6 h6 => ?_
    exact Ok.pos h6.1 (Ok.pos (by have := h6.2.1 (by decide); simp; omega) (Ok.ret h6.2.2.2))
  · simp only [Option.bind_some]
    refine Ok.bind (below_ok l hl _ _ h5.2.2.2 4) fun r6 h6 => ?_
    exact Ok.pos h6.1 (Ok.pos (by have := h6.2.1 (by decide); simp; omega) (Ok.ret h6.2.2.2))
  · simp only [Option.bind_some]
    refine Ok.bind (below_ok l hl _ _ h5.2.2.2 4) fun r6 h6 => ?_
    exact Ok.pos h6.1 (Ok.pos (by have := h6.2.1 (by decide); simp; omega) (Ok.ret h6.2.2.2))
theorem drawNow_ok (l : List Int) (hl : l.length ≤ maxLen) (i h : Int) (hi : 0 ≤ i) (a b c : Int) : Ok (fun r : Int × Int × Int => 0 ≤ r.2.1) (spec_l4DrawNow.f l i h a b c) := by
  unfold spec_l4DrawNow.f
  refine Ok.bind (once_ok l hl i h hi 10) fun r1 h1 => Ok.ite (fun _ => ?_) (fun _ => ?_)
  · simp only [Option.bind_some]
    refine Ok.bind (below_ok l hl _ _ h1 5) fun r6 h6 => ?_
    exact Ok.pos h6.1 (Ok.pos (by have := h6.2.1 (by decide); simp; omega) (Ok.ret h6.2.2.2))
  · refine Ok.bind (below_ok l hl _ _ h1 60000) fun r2 h2 => Ok.bind (once_ok l hl _ _ h2.2.2.2 3) fun r3 h3 => Ok.ite (fun _ => ?_) (fun _ => ?_)
    · exact Ok.bind (min_ok _ _) fun _ _ => Ok.bind (from_ok l hl _ _ h3 _ _) fun r4 h4 => Ok.bind (max_ok _ _) fun _ _ => Ok.bind (max_ok _ _) fun _ _ => Ok.bind (min_ok _ _) fun _ _ => Ok.ret h4
    · exact Ok.bind (max_ok _ _) fun _ _ => Ok.bind (min_ok _ _) fun _ _ => Ok.ret h3
theorem drawSafe_ok (l : List Int) (hl : l.length ≤ maxLen) (k : Nat) (hk : l.length < k) : Ok (fun _ => True) (spec_DrawSafe.f k l) := by
  unfold spec_DrawSafe.f
  obtain ⟨h, e⟩ := new_ok l hl k hk
  rw [e]
  simp only [Option.bind_some]
  refine Ok.bind (drawLease_ok l hl 0 h (Int.le_refl 0)) fun r1 h1 => Ok.bind (drawNow_ok l hl _ _ h1 _ _ _) fun r2 h2 => Ok.bind (below_ok l hl _ _ h2 7) fun r6 h6 => ?_
  exact Ok.pos h6.1 (Ok.pos (by have := h6.2.1 (by decide); simp; omega) (Ok.ret trivial))
theorem drawRenew_ok (l : List Int) (hl : l.length ≤ maxLen) (k : Nat) (hk : l.length < k) : Ok (fun _ => True) (spec_DrawRenew.f k l) := by
  unfold spec_DrawRenew.f
  obtain ⟨h, e⟩ := new_ok l hl k hk
  rw [e]
  simp only [Option.bind_some]
  exact Ok.bind (drawLease_ok l hl 0 h (Int.le_refl 0)) fun r1 h1 => Ok.bind (drawNow_ok l hl _ _ h1 _ _ _) fun r2 h2 => Ok.ret trivial
theorem ends (a b c : Int) : impl_Ends.f a b c = some (if okl a b c then b + c else -1) := by
  simp only [impl_Ends.f, impl_lease, Option.bind_some]
  by_cases h : okl a b c
  · obtain ⟨h0, h1, h2⟩ := id h
    rw [if_pos (by simpa using h), if_pos h, wrap_of (by omega) (by omega)]
  · rw [if_neg (by simpa using h), if_neg h]
theorem j0_ok (l : List Int) (hl : l.length ≤ maxLen) (k : Nat) (hk : l.length < k) : laws_FnLeases.j0 (k + 1) l false = some true := by
  obtain ⟨⟨a, b, c, n⟩, e, _⟩ := drawRenew_ok l hl k hk
  simp only [laws_FnLeases.j0, e, Option.bind_some, impl_renew, spec_renew, ends, impl_safe, impl_dead]
  by_cases h : okl a b c ∧ (0 ≤ n ∧ n ≤ 1000000000000) ∧ b ≤ n
  · obtain ⟨h1, h2, h3⟩ := id h
    have h4 : okl a n c := ⟨h1.1, h2, h1.2.2⟩
    have ht : told a n c n 0 := ⟨h4, h2, Int.le_refl n, by omega, by omega⟩
    have hc := h1.2.2
    have e1 : (n - n) * (1000000 + 0) ≤ c * (1000000 - 0) := by omega
    have e2 : ¬ ((n - n) * (1000000 - 0) > c * (1000000 + 0)) := by omega
    rw [if_pos h]
    simp only [h1, h4, if_true]
    by_cases hz : a = 0 ∧ n = 0 ∧ c = 0
    · omega
    · have e3 : b + c ≤ n + c := by omega
      have e4 : (a == 0 && (n == 0 && c == 0)) = false := by
        simp only [Bool.and_eq_false_iff, beq_eq_false_iff_ne]
        omega
      simp only [e4, ge_iff_le, e3, ht, e1, e2]
      simp
  · rw [if_neg h]
    simp
theorem FnLeases : SFnLeases.Pure := by
  intro l hl _
  refine ⟨l.length + 1 + 1, ?_⟩
  unfold laws_FnLeases.f
  simp only [laws_big.f, Option.bind_some]
  by_cases hb : (l.length : Int) > 4096
  · rw [if_pos (by simpa using hb)]
  · rw [if_neg (by simpa using hb)]
    obtain ⟨⟨a, b, c, n, d⟩, e, _⟩ := drawSafe_ok l hl (l.length + 1 + 1) (by omega)
    rw [e]
    simp only [Option.bind_some, impl_safe, spec_safe, impl_dead, spec_dead]
    rw [if_neg (by simp), if_neg (by simp)]
    have hx := j0_ok l hl (l.length + 1) (by omega)
    by_cases hs : told a b c n d ∧ (n - b) * (1000000 + d) ≤ c * (1000000 - d)
    · rw [if_pos (by simpa using hs)]
      have hn : ¬ (told a b c n d ∧ (n - b) * (1000000 - d) > c * (1000000 + d)) := fun hn => by
        obtain ⟨⟨h0, h1, h2⟩, h3, h4, h5⟩ := hs.1
        have m1 : (n - b) * (1000000 - d) ≤ (n - b) * (1000000 + d) := Int.mul_le_mul_of_nonneg_left (by omega) (by omega)
        have m2 : c * (1000000 - d) ≤ c * (1000000 + d) := Int.mul_le_mul_of_nonneg_left (by omega) (by omega)
        have := hs.2
        have := hn.2
        omega
      rw [decide_eq_false hn]
      exact hx
    · rw [if_neg (by simpa using hs)]
      exact hx
end Go.Proofs.Ytodgacnioeoogaa.Pure
