/- The contracts of BumpParts in the printed form. -/
import Derived.Test.YtcapjgjjaolofaaBumpN
import Derived.Test.YtcapjgjjaolofaaBumpI
namespace Go.Proofs.Ytcapjgjjaolofaa.P
open Go.RowKit Go.Proofs.YtcapjgjjaolofaaW.PrintWords Go.Proofs.YtcapjgjjaolofaaW.PrintLast Go.Proofs.YtcapjgjjaolofaaW.PrintMore
set_option linter.unusedVariables false
/-- Parts and a code, one by one. -/
def partsT (d : List Int) (c : Int) : Int × Int × Int × Int × Int × Int × Int × Int × Int := (d.getD 0 0, d.getD 1 0, d.getD 2 0, d.getD 3 0, d.getD 4 0, d.getD 5 0, d.getD 6 0, d.getD 7 0, c)
theorem partsT_val (d : List Int) (c : Int) (hd : d.length = 8) {r1 r2 r3 r4 r5 r6 r7 r8 r9 : Int} (h : partsT d c = (r1, r2, r3, r4, r5, r6, r7, r8, r9)) : (Value.tuple #[.agg (i64s d), .int .i64 c]) = .tuple #[.agg #[.int .i64 r1, .int .i64 r2, .int .i64 r3, .int .i64 r4, .int .i64 r5, .int .i64 r6, .int .i64 r7, .int .i64 r8], .int .i64 r9] := by
  obtain ⟨c0, c1, c2, c3, c4, c5, c6, c7, rfl⟩ := list8 hd
  simp only [partsT, Prod.mk.injEq] at h
  obtain ⟨rfl, rfl, rfl, rfl, rfl, rfl, rfl, rfl, rfl⟩ := h
  rfl
def spec_BumpParts.f (k : Nat) (l0_0 : List Int) (l0_1 : List S88) (a1_0 : Int) (a1_1 : Int) (a1_2 : Int) (a1_3 : Int) (a1_4 : Int) (a1_5 : Int) (a1_6 : Int) (a1_7 : Int) (a2 a3 : Int) : Option (Int × Int × Int × Int × Int × Int × Int × Int × Int) := (spec_ValidStack.f k l0_0).bind fun v => if okM v l0_0 l0_1 = true then (if givB zeroS l0_0 [a1_0, a1_1, a1_2, a1_3, a1_4, a1_5, a1_6, a1_7] = true then (if (decide (0 ≤ a2 ∧ a2 ≤ wrap64 ((l0_0.length : Int) - 1)) && decide (-1000 ≤ a3 ∧ a3 ≤ 1000)) = true then (if l0_0.length ≤ 8 then (if wholeZ (rd l0_0 a2) = 0 then none else some (partsT ([a1_0, a1_1, a1_2, a1_3, a1_4, a1_5, a1_6, a1_7].set a2.toNat (bumpS l0_0 [a1_0, a1_1, a1_2, a1_3, a1_4, a1_5, a1_6, a1_7] a2 a3)) 0)) else none) else some (partsT [0, 0, 0, 0, 0, 0, 0, 0] 2)) else some (partsT [0, 0, 0, 0, 0, 0, 0, 0] 1)) else some (partsT [0, 0, 0, 0, 0, 0, 0, 0] 1)
theorem spec_BumpParts.mono : ∀ a b a1_0 a1_1 a1_2 a1_3 a1_4 a1_5 a1_6 a1_7 c d k, LeO (spec_BumpParts.f k a b a1_0 a1_1 a1_2 a1_3 a1_4 a1_5 a1_6 a1_7 c d) (spec_BumpParts.f (k + 1) a b a1_0 a1_1 a1_2 a1_3 a1_4 a1_5 a1_6 a1_7 c d) := by
  intro a b a1_0 a1_1 a1_2 a1_3 a1_4 a1_5 a1_6 a1_7 c d k
  unfold spec_BumpParts.f
  repeat' first
      | (with_reducible exact spec_ValidStack.mono _ _)
      | (with_reducible exact LeO.refl _)
      | (with_reducible refine LeO.bind ?_ (fun _ => ?_))
theorem spec_BumpParts.calls (k : Nat) (A0_0 : Option Addr) (c0_0 : Nat) (l0_0 : List Int) (A0_1 : Option Addr) (c0_1 : Nat) (l0_1 : List S88) (a1_0 : Int) (a1_1 : Int) (a1_2 : Int) (a1_3 : Int) (a1_4 : Int) (a1_5 : Int) (a1_6 : Int) (a1_7 : Int) (a2 a3 : Int) (r1 : Int) (r2 : Int) (r3 : Int) (r4 : Int) (r5 : Int) (r6 : Int) (r7 : Int) (r8 : Int) (r9 : Int) (w : World) (hr0_0 : Kd.C (Kd.int .u8) w A0_0 l0_0.length l0_0) (hc0_0 : l0_0.length ≤ c0_0) (hr0_1 : Kd.C k88 w A0_1 l0_1.length l0_1) (hc0_1 : l0_1.length ≤ c0_1) (h : spec_BumpParts.f k l0_0 l0_1 a1_0 a1_1 a1_2 a1_3 a1_4 a1_5 a1_6 a1_7 a2 a3 = some (r1, r2, r3, r4, r5, r6, r7, r8, r9)) :
    Calls Try.prog 33 #[.agg #[.slice A0_0 l0_0.length c0_0, .slice A0_1 l0_1.length c0_1], .agg #[.int .i64 a1_0, .int .i64 a1_1, .int .i64 a1_2, .int .i64 a1_3, .int .i64 a1_4, .int .i64 a1_5, .int .i64 a1_6, .int .i64 a1_7], .int .i64 a2, .int .i64 a3] w fun e w' => e = .returned (.tuple #[.agg #[.int .i64 r1, .int .i64 r2, .int .i64 r3, .int .i64 r4, .int .i64 r5, .int .i64 r6, .int .i64 r7, .int .i64 r8], .int .i64 r9]) ∧ Below w.heap.size w w' := by
  unfold spec_BumpParts.f at h
  replace h := Option.bind_eq_some_iff.mp h
  obtain ⟨v, hv, h⟩ := h
  by_cases hm : okM v l0_0 l0_1 = true
  · rw [if_pos hm] at h
    by_cases hg : givB zeroS l0_0 [a1_0, a1_1, a1_2, a1_3, a1_4, a1_5, a1_6, a1_7] = true
    · rw [if_pos hg] at h
      by_cases hw : (decide (0 ≤ a2 ∧ a2 ≤ wrap64 ((l0_0.length : Int) - 1)) && decide (-1000 ≤ a3 ∧ a3 ≤ 1000)) = true
      · rw [if_pos hw] at h
        rw [Bool.and_eq_true] at hw
        by_cases h8 : l0_0.length ≤ 8
        · rw [if_pos h8] at h
          by_cases hz : wholeZ (rd l0_0 a2) = 0
          · rw [if_pos hz] at h
            cases h
          · rw [if_neg hz] at h
            have := bumpS_yes k A0_0 c0_0 l0_0 A0_1 c0_1 l0_1 [a1_0, a1_1, a1_2, a1_3, a1_4, a1_5, a1_6, a1_7] rfl h8 a2 a3 v hv hm hg hw.1 hw.2 hz w hr0_0 hc0_0 hr0_1
            rw [partsT_val _ _ (by rw [List.length_set]; rfl) (Option.some.inj h)] at this
            exact this
        · rw [if_neg h8] at h
          cases h
      · rw [if_neg hw] at h
        have := bumpS_c k A0_0 c0_0 l0_0 A0_1 c0_1 l0_1 [a1_0, a1_1, a1_2, a1_3, a1_4, a1_5, a1_6, a1_7] rfl a2 a3 v hv hm hg _ _ rfl rfl (by simpa using hw) w hr0_0 hc0_0 hr0_1
        rw [partsT_val _ _ rfl (Option.some.inj h)] at this
        exact this
    · rw [if_neg hg] at h
      have := bumpS_b k A0_0 c0_0 l0_0 A0_1 c0_1 l0_1 [a1_0, a1_1, a1_2, a1_3, a1_4, a1_5, a1_6, a1_7] rfl a2 a3 v hv hm (by simpa using hg) w hr0_0 hc0_0 hr0_1
      rw [partsT_val _ _ rfl (Option.some.inj h)] at this
      exact this
  · rw [if_neg hm] at h
    have := bumpS_a k A0_0 c0_0 l0_0 A0_1 c0_1 l0_1 [a1_0, a1_1, a1_2, a1_3, a1_4, a1_5, a1_6, a1_7] rfl a2 a3 v hv (by simpa using hm) w hr0_0 hc0_0 hr0_1
    rw [partsT_val _ _ rfl (Option.some.inj h)] at this
    exact this
def impl_BumpParts.f (l0_0 : List Int) (l0_1 : List S88) (a1_0 : Int) (a1_1 : Int) (a1_2 : Int) (a1_3 : Int) (a1_4 : Int) (a1_5 : Int) (a1_6 : Int) (a1_7 : Int) (a2 a3 : Int) : Option (Int × Int × Int × Int × Int × Int × Int × Int × Int) := (impl_ValidMotion.f l0_0 l0_1).bind fun v => if v = true then (if givB zeroI l0_0 [a1_0, a1_1, a1_2, a1_3, a1_4, a1_5, a1_6, a1_7] = true then ((impl_Stack_hasWheel.f l0_0 a2).bind fun b1 => if (b1 && decide (-1000 ≤ a3 ∧ a3 ≤ 1000)) = true then (if l0_0.length ≤ 8 ∧ 0 ≤ a2 ∧ a2 < (l0_0.length : Int) then ((impl_wrapped.f (wrap64 (rd [a1_0, a1_1, a1_2, a1_3, a1_4, a1_5, a1_6, a1_7] a2 + a3)) (wholeZ (rd l0_0 a2))).bind fun q => some (partsT ([a1_0, a1_1, a1_2, a1_3, a1_4, a1_5, a1_6, a1_7].set a2.toNat q.1) 0)) else none) else some (partsT [0, 0, 0, 0, 0, 0, 0, 0] 2)) else some (partsT [0, 0, 0, 0, 0, 0, 0, 0] 1)) else some (partsT [0, 0, 0, 0, 0, 0, 0, 0] 1)
theorem impl_BumpParts.calls (A0_0 : Option Addr) (c0_0 : Nat) (l0_0 : List Int) (A0_1 : Option Addr) (c0_1 : Nat) (l0_1 : List S88) (a1_0 : Int) (a1_1 : Int) (a1_2 : Int) (a1_3 : Int) (a1_4 : Int) (a1_5 : Int) (a1_6 : Int) (a1_7 : Int) (a2 a3 : Int) (r1 : Int) (r2 : Int) (r3 : Int) (r4 : Int) (r5 : Int) (r6 : Int) (r7 : Int) (r8 : Int) (r9 : Int) (w : World) (hr0_0 : Kd.C (Kd.int .u8) w A0_0 l0_0.length l0_0) (hc0_0 : l0_0.length ≤ c0_0) (hr0_1 : Kd.C k88 w A0_1 l0_1.length l0_1) (hc0_1 : l0_1.length ≤ c0_1) (h : impl_BumpParts.f l0_0 l0_1 a1_0 a1_1 a1_2 a1_3 a1_4 a1_5 a1_6 a1_7 a2 a3 = some (r1, r2, r3, r4, r5, r6, r7, r8, r9)) :
    Calls Try.prog 35 #[.agg #[.slice A0_0 l0_0.length c0_0, .slice A0_1 l0_1.length c0_1], .agg #[.int .i64 a1_0, .int .i64 a1_1, .int .i64 a1_2, .int .i64 a1_3, .int .i64 a1_4, .int .i64 a1_5, .int .i64 a1_6, .int .i64 a1_7], .int .i64 a2, .int .i64 a3] w fun e w' => e = .returned (.tuple #[.agg #[.int .i64 r1, .int .i64 r2, .int .i64 r3, .int .i64 r4, .int .i64 r5, .int .i64 r6, .int .i64 r7, .int .i64 r8], .int .i64 r9]) ∧ Below w.heap.size w w' := by
  unfold impl_BumpParts.f at h
  replace h := Option.bind_eq_some_iff.mp h
  obtain ⟨v, hv, h⟩ := h
  cases v with
  | true =>
    rw [if_pos rfl] at h
    by_cases hg : givB zeroI l0_0 [a1_0, a1_1, a1_2, a1_3, a1_4, a1_5, a1_6, a1_7] = true
    · rw [if_pos hg] at h
      replace h := Option.bind_eq_some_iff.mp h
      obtain ⟨b1, hb1, h⟩ := h
      by_cases hw : (b1 && decide (-1000 ≤ a3 ∧ a3 ≤ 1000)) = true
      · rw [if_pos hw] at h
        rw [Bool.and_eq_true] at hw
        obtain ⟨rfl, hw2⟩ := hw
        by_cases h8 : l0_0.length ≤ 8 ∧ 0 ≤ a2 ∧ a2 < (l0_0.length : Int)
        · rw [if_pos h8] at h
          replace h := Option.bind_eq_some_iff.mp h
          obtain ⟨⟨q1, q2⟩, hq, h⟩ := h
          have := bumpI_yes A0_0 c0_0 l0_0 A0_1 c0_1 l0_1 [a1_0, a1_1, a1_2, a1_3, a1_4, a1_5, a1_6, a1_7] rfl h8.1 a2 a3 hv hg hb1 h8.2.1 h8.2.2 hw2 q1 q2 hq w hr0_0 hc0_0 hr0_1 hc0_1
          rw [partsT_val _ _ (by rw [List.length_set]; rfl) (Option.some.inj h)] at this
          exact this
        · rw [if_neg h8] at h
          cases h
      · rw [if_neg hw] at h
        have := bumpI_c A0_0 c0_0 l0_0 A0_1 c0_1 l0_1 [a1_0, a1_1, a1_2, a1_3, a1_4, a1_5, a1_6, a1_7] rfl a2 a3 hv hg _ _ hb1 rfl (by simpa using hw) w hr0_0 hc0_0 hr0_1 hc0_1
        rw [partsT_val _ _ rfl (Option.some.inj h)] at this
        exact this
    · rw [if_neg hg] at h
      have := bumpI_b A0_0 c0_0 l0_0 A0_1 c0_1 l0_1 [a1_0, a1_1, a1_2, a1_3, a1_4, a1_5, a1_6, a1_7] rfl a2 a3 hv (by simpa using hg) w hr0_0 hc0_0 hr0_1 hc0_1
      rw [partsT_val _ _ rfl (Option.some.inj h)] at this
      exact this
  | false =>
    rw [if_neg (by decide)] at h
    have := bumpI_a A0_0 c0_0 l0_0 A0_1 c0_1 l0_1 [a1_0, a1_1, a1_2, a1_3, a1_4, a1_5, a1_6, a1_7] rfl a2 a3 hv w hr0_0 hc0_0 hr0_1 hc0_1
    rw [partsT_val _ _ rfl (Option.some.inj h)] at this
    exact this
end Go.Proofs.Ytcapjgjjaolofaa.P
