/- Digits in plain words. -/
import Derived.Test.YtmmplpflbflekaaStackCore
import Derived.Test.YtmmplpflbflekaaGivG
import Derived.Test.YtmmplpflbflekaaGivF
import Derived.Test.YtmmplpflbflekaaPx13
namespace Go.Proofs.Ytmmplpflbflekaa.Core
open Go.RowKit Go.Proofs.Ytmmplpflbflekaa.P Go.Proofs.YtmmplpflbflekaaW.PrintWords Go.Proofs.YtmmplpflbflekaaW.PrintMore
theorem digB_same (l d : List Int) (h : Bytes d) : digB (fun n => n != 0) l d = digB (fun n => decide (0 < n)) l d := by
  induction d generalizing l with
  | nil => cases l <;> rfl
  | cons n d ih =>
    have hn := h n (by simp)
    have hd : Bytes d := fun x hx => h x (by simp [hx])
    cases l with
    | nil =>
      simp only [digB]
      rw [ih [] hd, show (n != 0) = decide (0 < n) by rw [Bool.eq_iff_iff]; simp; omega]
    | cons b l =>
      simp only [digB]
      rw [ih l hd]
/-- Are the digits valid for the stack? -/
def digOK (l d : List Int) : Bool := validB l && digB (fun n => decide (0 < n)) l d
theorem bytes8 {a0 a1 a2 a3 a4 a5 a6 a7 : Int} (h0 : (Lit.int .u8 a0).wf = true) (h1 : (Lit.int .u8 a1).wf = true) (h2 : (Lit.int .u8 a2).wf = true) (h3 : (Lit.int .u8 a3).wf = true) (h4 : (Lit.int .u8 a4).wf = true) (h5 : (Lit.int .u8 a5).wf = true) (h6 : (Lit.int .u8 a6).wf = true) (h7 : (Lit.int .u8 a7).wf = true) : Bytes [a0, a1, a2, a3, a4, a5, a6, a7] := by
  apply bytes_wf
  intro x hx
  simp only [List.mem_cons, List.not_mem_nil, or_false] at hx
  rcases hx with rfl | rfl | rfl | rfl | rfl | rfl | rfl | rfl <;> assumption
theorem digits_spec (k : Nat) (l : List Int) (hl : l.length ≤ 1048576) (hk : 2 * l.length + 1 < k) (a0 a1 a2 a3 a4 a5 a6 a7 : Int) (h : Bytes [a0, a1, a2, a3, a4, a5, a6, a7]) : spec_ValidDigits.f k l a0 a1 a2 a3 a4 a5 a6 a7 = some (digOK l [a0, a1, a2, a3, a4, a5, a6, a7]) := by
  unfold spec_ValidDigits.f spec_l01Digits.f digOK
  rw [ok_spec k l hl hk, digB_same l _ h]
  simp only [Option.bind_some]
  by_cases hv : validB l = true
  · rw [if_pos hv, hv, Bool.true_and]
  · rw [if_neg hv, Bool.eq_false_iff.mpr hv, Bool.false_and]
theorem digits_impl (l : List Int) (a0 a1 a2 a3 a4 a5 a6 a7 : Int) : impl_ValidDigits.f l a0 a1 a2 a3 a4 a5 a6 a7 = some (digOK l [a0, a1, a2, a3, a4, a5, a6, a7]) := rfl
theorem digOK_valid {l d : List Int} (h : digOK l d = true) : validB l = true := by
  simp only [digOK, Bool.and_eq_true] at h
  exact h.1
end Go.Proofs.Ytmmplpflbflekaa.Core
