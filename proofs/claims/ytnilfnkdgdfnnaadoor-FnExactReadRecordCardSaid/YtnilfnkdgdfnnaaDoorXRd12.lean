/- Proved: of each Go function here that a call comes to what the Lean function of its name tells. Written by a program of this session over the translation. No conditions beyond each theorem's own. -/
import Derived.Test.YtnilfnkdgdfnnaaDoorXRd0
import Derived.Test.YtnilfnkdgdfnnaaDoorXRd10
namespace Go.Proofs.YtnilfnkdgdfnnaaDoor.XRd
open Go.RowKit Go.Proofs.YtnilfnkdgdfnnaaDoor.Aid Go.Proofs.YtnilfnkdgdfnnaaDoorW.PrintWords Go.Proofs.YtnilfnkdgdfnnaaDoorW.PrintLast Go.Proofs.YtnilfnkdgdfnnaaDoorW.PrintMore
set_option linter.unusedVariables false
set_option linter.unusedSimpArgs false

-- NOT PRINTED: function 77 (stringslite_HasPrefix)

-- NOT PRINTED: function 64 (stringslite_TrimPrefix)

-- NOT PRINTED: function 52 (strings_TrimPrefix)

-- NOT PRINTED: function 93 (strconv_lower)

-- NOT PRINTED: function 94 (strconv_underscoreOK)

-- NOT PRINTED: function 78 (strconv_ParseUint)

-- NOT PRINTED: function 65 (strconv_ParseInt_65)

-- NOT PRINTED: function 95 (stringslite_Clone)

-- NOT PRINTED: function 79 (strconv_syntaxError)

-- NOT PRINTED: function 80 (strconv_rangeError)

-- NOT PRINTED: function 96 (errors_New)

-- NOT PRINTED: function 102 (strconv_Itoa_102)

-- NOT PRINTED: function 97 (strconv_Itoa_97)

-- NOT PRINTED: function 81 (strconv_baseError)

-- NOT PRINTED: function 82 (strconv_bitSizeError)

-- NOT PRINTED: function 66 (strconv_toError)

-- NOT PRINTED: function 53 (strconv_ParseInt_53)

/-! ### impl_number: function 43 -/
def impl_number.f (a0 : ByteArray) : Option (Int × Bool) := if a0.size ≤ 281474976710656 then (if ((Go.Lib.trimPrefix a0.data.toList [45]).length : Int) > 10 then some (0, false) else match Go.Lib.parseIntB 64 a0.data.toList with
  | .ok v => (impl_decimal.f v).bind fun s => some (v, s.toList == a0.toList)
  | .range => some (Go.Lib.intSat 64 a0.data.toList, false)
  | _ => some (0, false)) else none
set_option maxHeartbeats 8000000 in
set_option maxRecDepth 100000 in
theorem impl_number.calls (a0 : ByteArray) (r1 : Int) (r2 : Bool) (w : World) (htb : Aside0 (Tb w)) (h : impl_number.f a0 = some (r1, r2)) :
    Calls Tryd.prog 43 #[.string a0] w fun e w' => e = .returned (.tuple #[.int .i64 r1, .bool r2]) ∧ Below w.heap.size w w' := by
 unfold impl_number.f at h
 by_cases h0 : a0.size ≤ 281474976710656
 ·rw [if_pos h0] at h
  have HT := Aside0.mk (Go.Proofs.YtnilfnkdgdfnnaaDoor.Shelf.strings_TrimPrefix a0 ⟨#[45]⟩ w)
  have hsz : ((⟨(Go.Lib.trimPrefix a0.data.toList [45]).toArray⟩ : ByteArray).size : Int) = ((Go.Lib.trimPrefix a0.data.toList [45]).length : Int) := by simp [ByteArray.size]
  by_cases h1 : ((Go.Lib.trimPrefix a0.data.toList [45]).length : Int) > 10
  ·rw [if_pos h1] at h
   simp only [Option.some.injEq,Prod.mk.injEq] at h
   obtain ⟨rfl,rfl⟩ := h
   have h1b : decide ((10 : Int) < ((⟨(Go.Lib.trimPrefix a0.data.toList [45]).toArray⟩ : ByteArray).size : Int)) = true := by rw [hsz];exact decide_eq_true h1
   have h1c := decide_eq_true h1
   clear hsz
   go_enter Tryd.func43,Tryd.ntmps43
   go_wp2_with (go_at_call 52;refine HT.out.mono ?_;rintro e w1 ⟨rfl,hw1⟩;obtain rfl : w = w1 := hw1.symm)
   all_goals first | (exfalso;omega) | (go_ret2;exact ⟨rfl,Below.refl _ _⟩)
  ·rw [if_neg h1] at h
   have h1b : decide ((10 : Int) < ((⟨(Go.Lib.trimPrefix a0.data.toList [45]).toArray⟩ : ByteArray).size : Int)) = false := by rw [hsz];exact decide_eq_false h1
   have h1c := decide_eq_false h1
   clear hsz
   cases hp : Go.Lib.parseIntB 64 a0.data.toList with
   | ok v =>
    rw [hp] at h
    simp only at h
    obtain ⟨s,hd,h2⟩ := Option.bind_eq_some_iff.1 h
    clear h
    simp only [Option.some.injEq,Prod.mk.injEq] at h2
    obtain ⟨rfl,rfl⟩ := h2
    have HP := Aside0.mk (Go.Proofs.YtnilfnkdgdfnnaaDoor.Shelf.strconv_ParseInt_10_at64_ok a0 (by omega) v hp w)
    have HD := Aside0.mk hd
    have H0 := Aside0.mk h0
    clear hp hd h0
    go_enter Tryd.func43,Tryd.ntmps43
    go_wp2_with (first
     | (go_at_call 52;refine HT.out.mono ?_;rintro e w1 ⟨rfl,hw1⟩;obtain rfl : w = w1 := hw1.symm)
     | (go_at_call 53;refine HP.out.mono ?_;rintro e w2 ⟨rfl,hw⟩;have B : Aside0 (Below w.heap.size w w2) := ⟨by rcases hw with h_ | ⟨t_,h_⟩ <;> rw [h_] <;> first | exact Below.refl _ _ | exact ⟨rfl,rfl,rfl,by rw [Go.Lib.bytesWorld_size];omega,fun k hk => Go.Lib.bytesWorld_at_old w 5 t_ k (by omega)⟩⟩;clear hw)
     | (go_at_call 40;refine (impl_decimal.calls v s _ ⟨tb_on htb.out B.out⟩ HD.out).mono ?_;rintro e w3 ⟨rfl,B3⟩;have B := Aside0.mk (below_step B.out B3);clear B3))
    all_goals (first | (exfalso;omega) | skip);all_goals (go_ret2;first | exact ⟨rfl,B.out⟩ | (refine ⟨?_,B.out⟩;simp))
   | range =>
    rw [hp] at h
    simp only [Option.some.injEq,Prod.mk.injEq] at h
    obtain ⟨rfl,rfl⟩ := h
    obtain ⟨tp,p,hv⟩ := htb.out.ran
    have HP := Aside0.mk (Go.Proofs.YtnilfnkdgdfnnaaDoor.Shelf.strconv_ParseInt_10_at64_range_var a0 h0 hp tp p w (hv w (Below.refl _ _)))
    have H0 := Aside0.mk h0
    clear hp h0 hv
    go_enter Tryd.func43,Tryd.ntmps43
    go_wp2_with (first
     | (go_at_call 52;refine HT.out.mono ?_;rintro e w1 ⟨rfl,hw1⟩;obtain rfl : w = w1 := hw1.symm)
     | (go_at_call 53;refine HP.out.mono ?_;rintro e w2 ⟨M_,rfl,_,_,B_⟩;have B := Aside0.mk B_;clear B_))
    all_goals (first | (exfalso;omega) | skip);all_goals (go_ret2;first | exact ⟨rfl,B.out⟩ | (refine ⟨?_,B.out⟩;simp))
   | _ =>
    rw [hp] at h
    simp only [Option.some.injEq,Prod.mk.injEq] at h
    obtain ⟨rfl,rfl⟩ := h
    obtain ⟨tp,p,hv⟩ := htb.out.syn
    have HP := Aside0.mk (Go.Proofs.YtnilfnkdgdfnnaaDoor.Shelf.strconv_ParseInt_10_at64_syntax_var a0 h0 (fun v e => by rw [hp] at e; cases e) (fun e => by rw [hp] at e; cases e) tp p w (hv w (Below.refl _ _)))
    have H0 := Aside0.mk h0
    clear hp h0 hv
    go_enter Tryd.func43,Tryd.ntmps43
    go_wp2_with (first
     | (go_at_call 52;refine HT.out.mono ?_;rintro e w1 ⟨rfl,hw1⟩;obtain rfl : w = w1 := hw1.symm)
     | (go_at_call 53;refine HP.out.mono ?_;rintro e w2 ⟨M_,rfl,_,_,B_⟩;have B := Aside0.mk B_;clear B_))
    all_goals (first | (exfalso;omega) | skip);all_goals (go_ret2;first | exact ⟨rfl,B.out⟩ | (refine ⟨?_,B.out⟩;simp))
 ·rw [if_neg h0] at h;cases h

end Go.Proofs.YtnilfnkdgdfnnaaDoor.XRd
