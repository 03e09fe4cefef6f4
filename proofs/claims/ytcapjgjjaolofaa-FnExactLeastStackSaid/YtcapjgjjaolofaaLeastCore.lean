/- The least stack: sizes of stacks of one base with a last wheel of its own. -/
import Derived.Test.YtcapjgjjaolofaaStackCore
import Derived.Test.YtcapjgjjaolofaaPx15
import Derived.Test.YtcapjgjjaolofaaPx21
namespace Go.Proofs.Ytcapjgjjaolofaa.Core
open Go.RowKit Go.Proofs.Ytcapjgjjaolofaa.P Go.Proofs.YtcapjgjjaolofaaW.PrintWords Go.Proofs.YtcapjgjjaolofaaW.PrintMore
theorem sizeFrom_snoc (l : List Int) (v : Int) : ∀ o : Int, sizeFrom (l ++ [v]) o = mn (wrap64 (sizeFrom l o * wrap64 v)) 1000000000001 := by
  induction l with
  | nil => intro o; rfl
  | cons b l ih =>
    intro o
    show sizeFrom (l ++ [v]) _ = _
    rw [ih]
    rfl
/-- All wheels but the last. -/
def qZ (b : Int) (n : Nat) : Int := sizeZ (List.replicate (n - 1) b)
theorem qFrom_range (b : Int) (h1 : 2 ≤ b) (h2 : b ≤ 100) (n : Nat) : ∀ o : Int, 1 ≤ o → o ≤ 1000000000001 → 1 ≤ sizeFrom (List.replicate n b) o ∧ sizeFrom (List.replicate n b) o ≤ 1000000000001 := by
  induction n with
  | zero => intro o a c; exact ⟨a, c⟩
  | succ n ih =>
    intro o a c
    have m1 : 1 * 1 ≤ o * b := Int.mul_le_mul a (by omega) (by omega) (by omega)
    have m2 : o * b ≤ 1000000000001 * 100 := Int.mul_le_mul c h2 (by omega) (by omega)
    have hw : wrap64 (o * wrap64 b) = o * b := by rw [wr (show -9223372036854775808 ≤ b ∧ b ≤ 9223372036854775807 by omega), wr (by omega)]
    rw [List.replicate_succ]
    show 1 ≤ sizeFrom (List.replicate n b) (mn (wrap64 (o * wrap64 b)) 1000000000001) ∧ sizeFrom (List.replicate n b) (mn (wrap64 (o * wrap64 b)) 1000000000001) ≤ _
    rw [hw]
    exact ih _ (by unfold mn; split <;> omega) (by unfold mn; split <;> omega)
theorem qZ_range (b : Int) (h1 : 2 ≤ b) (h2 : b ≤ 100) (n : Nat) : 1 ≤ qZ b n ∧ qZ b n ≤ 1000000000001 := qFrom_range b h1 h2 (n - 1) 1 (by omega) (by omega)
theorem set_last (b v : Int) (n : Nat) (hn : 1 ≤ n) : (List.replicate n b).set (n - 1) v = List.replicate (n - 1) b ++ [v] := by
  obtain ⟨m, rfl⟩ : ∃ m, n = m + 1 := ⟨n - 1, by omega⟩
  rw [Nat.add_sub_cancel, List.replicate_succ']
  simp
theorem alike_snoc (b : Int) (n : Nat) (hn : 1 ≤ n) : List.replicate n b = List.replicate (n - 1) b ++ [b] := by
  obtain ⟨m, rfl⟩ : ∃ m, n = m + 1 := ⟨n - 1, by omega⟩
  rw [Nat.add_sub_cancel, List.replicate_succ']
theorem size_last (b v : Int) (n : Nat) (h1 : 2 ≤ b) (h2 : b ≤ 100) (hv0 : 0 ≤ v) (hv1 : v ≤ 255) : sizeZ (List.replicate (n - 1) b ++ [v]) = mn (qZ b n * v) 1000000000001 := by
  obtain ⟨q1, q2⟩ := qZ_range b h1 h2 n
  have m1 : 0 ≤ qZ b n * v := Int.mul_nonneg (by omega) hv0
  have m2 : qZ b n * v ≤ 1000000000001 * 255 := Int.mul_le_mul q2 hv1 (by omega) (by omega)
  unfold sizeZ
  rw [sizeFrom_snoc]
  show mn (wrap64 (qZ b n * wrap64 v)) 1000000000001 = _
  rw [wr (show -9223372036854775808 ≤ v ∧ v ≤ 9223372036854775807 by omega), wr (by omega)]
/-- Shows the stack with this last wheel too few? -/
theorem size_less (b v s : Int) (n : Nat) (h1 : 2 ≤ b) (h2 : b ≤ 100) (hv0 : 0 ≤ v) (hv1 : v ≤ 255) (hs : s ≤ 1000000000000) : sizeZ (List.replicate (n - 1) b ++ [v]) < s ↔ qZ b n * v < s := by
  rw [size_last b v n h1 h2 hv0 hv1]
  unfold mn
  split <;> omega
theorem size_base (b s : Int) (n : Nat) (hn : 1 ≤ n) (h1 : 2 ≤ b) (h2 : b ≤ 100) (hs : s ≤ 1000000000000) : sizeZ (List.replicate n b) < s ↔ qZ b n * b < s := by
  rw [alike_snoc b n hn]
  exact size_less b b s n h1 h2 (by omega) (by omega) hs
theorem take_last (b v : Int) (n : Nat) : (List.replicate (n - 1) b ++ [v]).take (n - 1) = List.replicate (n - 1) b := List.take_left' (by simp)
/-! ### Both texts -/
theorem alike_rounds (b a1 : Int) (ha : a1 ≤ 8) : ∀ (d k : Nat) (x : Int) (o : List Int), 0 ≤ x → x + d = a1 → o.length + d ≤ 8 → d < k → spec_l01Alike.l0 k b a1 o x = some (o ++ List.replicate d (b % 256)) := by
  intro d
  induction d with
  | zero =>
    intro k x o h0 h1 h2 hk
    obtain ⟨k, rfl⟩ : ∃ m, k = m + 1 := ⟨k - 1, by omega⟩
    simp only [spec_l01Alike.l0]
    rw [if_neg (by omega)]
    simp
  | succ d ih =>
    intro k x o h0 h1 h2 hk
    obtain ⟨k, rfl⟩ : ∃ m, k = m + 1 := ⟨k - 1, by omega⟩
    simp only [spec_l01Alike.l0]
    rw [if_pos (by omega), if_pos (by omega), wr (by omega), ih k (x + 1) _ (by omega) (by omega) (by simp; omega) (by omega), List.append_assoc]
    rfl
theorem alike_spec (k : Nat) (b a1 : Int) (hb0 : 0 ≤ b) (hb1 : b ≤ 255) (h1 : 1 ≤ a1) (h8 : a1 ≤ 8) (hk : 9 < k) : spec_l01Alike.f k b a1 = some (List.replicate a1.toNat b) := by
  unfold spec_l01Alike.f
  rw [alike_rounds b a1 h8 a1.toNat k 0 [] (by omega) (by omega) (by simp; omega) (by omega), show b % 256 = b by omega]
  rfl
theorem alike_impl (b a1 : Int) (hb0 : 0 ≤ b) (hb1 : b ≤ 255) (h1 : 1 ≤ a1) (h8 : a1 ≤ 8) : impl_repeated.f b a1 = some (List.replicate a1.toNat b) := by
  unfold impl_repeated.f
  rw [if_pos ⟨h1, h8⟩, show b % 256 = b by omega]
theorem base_both (s a1 : Int) (hs : s ≤ 1000000000000) (h1 : 1 ≤ a1) (h8 : a1 ≤ 8) : ∀ (d : Nat) (x : Int), x + d = 101 → 2 ≤ x →
    ∃ b, x ≤ b ∧ b ≤ 101 ∧ (b ≤ 100 → s ≤ qZ b a1.toNat * b) ∧ ∀ k, 150 + d < k → (∃ kS, 149 < kS ∧ spec_LeastStack.l0 k s a1 x = spec_LeastStack.j2 kS s a1 b) ∧ (∃ kI, 149 < kI ∧ impl_LeastStack.l0 k s a1 x = impl_LeastStack.j2 kI s a1 b) := by
  intro d
  induction d with
  | zero =>
    intro x hx h2
    refine ⟨x, by omega, by omega, fun h => by omega, fun k hk => ?_⟩
    obtain ⟨k, rfl⟩ : ∃ m, k = m + 1 := ⟨k - 1, by omega⟩
    refine ⟨⟨k, by omega, ?_⟩, ⟨k, by omega, ?_⟩⟩
    · rw [spec_LeastStack.l0, if_neg (by omega)]
    · rw [impl_LeastStack.l0, if_neg (by omega)]
  | succ d ih =>
    intro x hx h2
    have hlen : (List.replicate a1.toNat x).length ≤ 8 := by rw [List.length_replicate]; omega
    have step : ∀ k, 150 + (d + 1) < k + 1 → spec_LeastStack.l0 (k + 1) s a1 x = (if sizeZ (List.replicate a1.toNat x) < s then spec_LeastStack.l0 k s a1 (x + 1) else spec_LeastStack.j2 k s a1 x) ∧ impl_LeastStack.l0 (k + 1) s a1 x = (if sizeZ (List.replicate a1.toNat x) < s then impl_LeastStack.l0 k s a1 (x + 1) else impl_LeastStack.j2 k s a1 x) := by
      intro k hk
      rw [spec_LeastStack.l0, if_pos (show x ≤ 100 by omega), alike_spec k x a1 (by omega) (by omega) h1 h8 (by omega), impl_LeastStack.l0, if_pos (show x ≤ 100 by omega), alike_impl x a1 (by omega) (by omega) h1 h8, wr (by omega)]
      simp only [Option.bind_some]
      rw [size_spec k _ (by omega) (by omega), size_eq _ (by omega) k (by omega)]
      exact ⟨rfl, rfl⟩
    by_cases c : sizeZ (List.replicate a1.toNat x) < s
    · obtain ⟨b, b1, b2, b3, b4⟩ := ih (x + 1) (by omega) (by omega)
      refine ⟨b, by omega, b2, b3, fun k hk => ?_⟩
      obtain ⟨k, rfl⟩ : ∃ m, k = m + 1 := ⟨k - 1, by omega⟩
      obtain ⟨e1, e2⟩ := step k hk
      rw [e1, e2, if_pos c, if_pos c]
      exact b4 k (by omega)
    · have hq : s ≤ qZ x a1.toNat * x := by
        have := mt (size_base x s a1.toNat (by omega) h2 (by omega) hs).mpr c
        omega
      refine ⟨x, by omega, by omega, fun _ => hq, fun k hk => ?_⟩
      obtain ⟨k, rfl⟩ : ∃ m, k = m + 1 := ⟨k - 1, by omega⟩
      obtain ⟨e1, e2⟩ := step k hk
      rw [e1, e2, if_neg c, if_neg c]
      exact ⟨⟨k, by omega, rfl⟩, ⟨k, by omega, rfl⟩⟩
/-- What comes of a last wheel. -/
def lastF (b v : Int) (n : Nat) : List Int × Int := if validB (List.replicate (n - 1) b ++ [v]) = true then (List.replicate (n - 1) b ++ [v], 0) else ([], 3)
theorem last_spec (s a1 b : Int) (h1 : 1 ≤ a1) (h8 : a1 ≤ 8) (hb1 : 2 ≤ b) (hb2 : b ≤ 100) : ∀ (d : Nat) (v : Int), v = 2 + d → v ≤ b → s ≤ qZ b a1.toNat * v →
    ∃ v', 2 ≤ v' ∧ v' ≤ v ∧ s ≤ qZ b a1.toNat * v' ∧ (2 < v' → qZ b a1.toNat * (v' - 1) < s) ∧ ∀ k, d + 30 < k → spec_LeastStack.l1 k s a1 (List.replicate a1.toNat b) v = some (lastF b v' a1.toNat) := by
  obtain ⟨q1, q2⟩ := qZ_range b hb1 hb2 a1.toNat
  have hw1 : wrap64 (a1 - 1) = a1 - 1 := wr (by omega)
  have hn : (a1 - 1).toNat = a1.toNat - 1 := by omega
  have hfin : ∀ (k : Nat) (v : Int), 2 ≤ v → v ≤ 100 → 29 < k → ((some ((List.replicate a1.toNat b).set (a1.toNat - 1) (v % 256) : List Int)).bind fun y => ((spec_l01Ok.f k y).bind fun t => (if t = true then (some (y, (0 : Int))) else (some ((([] : List Int)), 3))))) = some (lastF b v a1.toNat) := by
    intro k v hv1 hv2 hk
    have hlen : (List.replicate (a1.toNat - 1) b ++ [v]).length ≤ 8 := by simp; omega
    rw [Option.bind_some, show v % 256 = v by omega, set_last b v a1.toNat (by omega), ok_spec k _ (by omega) (by omega), Option.bind_some]
    unfold lastF
    split <;> rfl
  intro d
  induction d with
  | zero =>
    intro v hv hvb hq
    refine ⟨v, by omega, by omega, hq, fun h => by omega, fun k hk => ?_⟩
    obtain ⟨k, rfl⟩ : ∃ m, k = m + 1 := ⟨k - 1, by omega⟩
    rw [spec_LeastStack.l1, if_neg (by omega), hw1, if_pos (by omega), if_pos (by rw [List.length_replicate]; omega), hn]
    exact hfin k v (by omega) (by omega) (by omega)
  | succ d ih =>
    intro v hv hvb hq
    have hm : 0 ≤ qZ b a1.toNat * (v - 1) := Int.mul_nonneg (by omega) (by omega)
    have hm2 : qZ b a1.toNat * (v - 1) ≤ 1000000000001 * 255 := Int.mul_le_mul q2 (by omega) (by omega) (by omega)
    have step : ∀ k, d + 1 + 30 < k + 1 → spec_LeastStack.l1 (k + 1) s a1 (List.replicate a1.toNat b) v = if qZ b a1.toNat * (v - 1) ≥ s then spec_LeastStack.l1 k s a1 (List.replicate a1.toNat b) (v - 1) else some (lastF b v a1.toNat) := by
      intro k hk
      have ht : (List.replicate a1.toNat b).take (a1.toNat - 1) = List.replicate (a1.toNat - 1) b := by rw [List.take_replicate]; congr 1; omega
      have hlen : (List.replicate (a1.toNat - 1) b).length ≤ 8 := by simp; omega
      rw [spec_LeastStack.l1, if_pos (by omega), hw1, if_pos (by omega), if_pos (by rw [List.length_replicate]; omega), hn, ht, size_spec k _ (by omega) (by omega), Option.bind_some]
      rw [show sizeZ (List.replicate (a1.toNat - 1) b) = qZ b a1.toNat from rfl, wr (show -9223372036854775808 ≤ v - 1 ∧ v - 1 ≤ 9223372036854775807 by omega), wr (show -9223372036854775808 ≤ qZ b a1.toNat * (v - 1) ∧ qZ b a1.toNat * (v - 1) ≤ 9223372036854775807 by omega)]
      rw [if_pos (show a1 - 1 < ((List.replicate a1.toNat b).length : Int) by rw [List.length_replicate]; omega), hfin k v (by omega) (by omega) (by omega)]
    by_cases c : qZ b a1.toNat * (v - 1) ≥ s
    · obtain ⟨v', c1, c2, c3, c4, c5⟩ := ih (v - 1) (by omega) (by omega) c
      refine ⟨v', c1, by omega, c3, c4, fun k hk => ?_⟩
      obtain ⟨k, rfl⟩ : ∃ m, k = m + 1 := ⟨k - 1, by omega⟩
      rw [step k hk, if_pos c]
      exact c5 k (by omega)
    · refine ⟨v, by omega, by omega, hq, fun _ => by omega, fun k hk => ?_⟩
      obtain ⟨k, rfl⟩ : ∃ m, k = m + 1 := ⟨k - 1, by omega⟩
      rw [step k hk, if_neg c]
theorem last_impl (s a1 b v' : Int) (h1 : 1 ≤ a1) (h8 : a1 ≤ 8) (hb1 : 2 ≤ b) (hb2 : b ≤ 100) (hs : s ≤ 1000000000000) (hv' : v' ≤ 100) (hq : s ≤ qZ b a1.toNat * v') (hq' : 2 < v' → qZ b a1.toNat * (v' - 1) < s) : ∀ (d : Nat) (v : Int), v + d = v' → 2 ≤ v → ∀ k, d + 30 < k →
    impl_LeastStack.l1 k s (List.replicate (a1.toNat - 1) b ++ [v]) (a1 - 1) = some (lastF b v' a1.toNat) := by
  obtain ⟨q1, q2⟩ := qZ_range b hb1 hb2 a1.toNat
  intro d
  induction d with
  | zero =>
    intro v hv h2 k hk
    obtain rfl : v = v' := by omega
    obtain ⟨k, rfl⟩ : ∃ m, k = m + 1 := ⟨k - 1, by omega⟩
    have hlen : (List.replicate (a1.toNat - 1) b ++ [v]).length ≤ 8 := by simp; omega
    have hc : ¬ sizeZ (List.replicate (a1.toNat - 1) b ++ [v]) < s := fun h => by
      have := (size_less b v s a1.toNat hb1 hb2 (by omega) (by omega) hs).mp h
      omega
    rw [impl_LeastStack.l1, size_eq _ (by omega) k (by omega), Option.bind_some, if_neg hc]
    unfold impl_ValidStack.f lastF
    rw [Option.bind_some]
    split <;> rfl
  | succ d ih =>
    intro v hv h2 k hk
    obtain ⟨k, rfl⟩ : ∃ m, k = m + 1 := ⟨k - 1, by omega⟩
    have hlen : (List.replicate (a1.toNat - 1) b ++ [v]).length = a1.toNat := by simp; omega
    have hmm : qZ b a1.toNat * v ≤ qZ b a1.toNat * (v' - 1) := Int.mul_le_mul_of_nonneg_left (by omega) (by omega)
    have hc : sizeZ (List.replicate (a1.toNat - 1) b ++ [v]) < s := (size_less b v s a1.toNat hb1 hb2 (by omega) (by omega) hs).mpr (by have := hq' (by omega); omega)
    have hrd : rd (List.replicate (a1.toNat - 1) b ++ [v]) (a1 - 1) = v := by
      unfold rd
      rw [List.getD_eq_getElem?_getD, show (a1 - 1).toNat = (List.replicate (a1.toNat - 1) b).length by simp]
      simp
    have hset : (List.replicate (a1.toNat - 1) b ++ [v]).set (a1 - 1).toNat ((v + 1) % 256) = List.replicate (a1.toNat - 1) b ++ [v + 1] := by
      rw [show (v + 1) % 256 = v + 1 by omega, show (a1 - 1).toNat = (List.replicate (a1.toNat - 1) b).length by simp]
      simp
    rw [impl_LeastStack.l1, size_eq _ (by omega) k (by omega), Option.bind_some, if_pos hc, if_pos (by omega), if_pos (by rw [hlen]; omega), hrd, hset]
    exact ih (v + 1) (by omega) (by omega) k (by omega)
theorem least_both (s a1 : Int) : ∃ r : List Int × Int, r.1.length ≤ 8 ∧ ∀ k, 1000 < k → spec_LeastStack.f k s a1 = some r ∧ impl_LeastStack.f k s a1 = some r := by
  unfold spec_LeastStack.f impl_LeastStack.f
  simp only [in_spec, within_f, Option.bind_some, decide_eq_true_eq]
  have hno : ∀ k, 1000 < k → spec_LeastStack.j0 k s a1 true = some ([], 2) ∧ impl_LeastStack.j0 k s a1 true = some ([], 2) := by
    intro k hk
    obtain ⟨k, rfl⟩ : ∃ m, k = m + 1 := ⟨k - 1, by omega⟩
    exact ⟨rfl, rfl⟩
  by_cases c1 : 1 ≤ s ∧ s ≤ 1000000000000
  · simp only [if_pos c1]
    by_cases c2 : 1 ≤ a1 ∧ a1 ≤ 8
    · rw [decide_eq_true c2]
      obtain ⟨h1, h8⟩ := c2
      obtain ⟨b, b1, b2, b3, b4⟩ := base_both s a1 c1.2 h1 h8 99 2 (by omega) (by omega)
      by_cases hb : b > 100
      · refine ⟨([], 3), by simp, fun k hk => ?_⟩
        obtain ⟨k, rfl⟩ : ∃ m, k = m + 1 := ⟨k - 1, by omega⟩
        obtain ⟨⟨kS, s1, s2⟩, ⟨kI, i1, i2⟩⟩ := b4 k (by omega)
        obtain ⟨kS, rfl⟩ : ∃ m, kS = m + 1 := ⟨kS - 1, by omega⟩
        obtain ⟨kI, rfl⟩ : ∃ m, kI = m + 1 := ⟨kI - 1, by omega⟩
        rw [spec_LeastStack.j0, impl_LeastStack.j0]
        simp only [Bool.not_true, Bool.false_eq_true, if_false]
        rw [s2, i2, spec_LeastStack.j2, impl_LeastStack.j2, if_pos hb, if_pos hb]
        exact ⟨rfl, rfl⟩
      · obtain ⟨v', c1', c2', c3', c4', c5'⟩ := last_spec s a1 b h1 h8 (by omega) (by omega) (b - 2).toNat b (by omega) (by omega) (b3 (by omega))
        have hI := last_impl s a1 b v' h1 h8 (by omega) (by omega) c1.2 (by omega) c3' c4' (v' - 2).toNat 2 (by omega) (by omega)
        refine ⟨lastF b v' a1.toNat, ?_, fun k hk => ?_⟩
        · unfold lastF
          split
          · simp
            omega
          · simp
        · obtain ⟨k, rfl⟩ : ∃ m, k = m + 1 := ⟨k - 1, by omega⟩
          obtain ⟨⟨kS, s1, s2⟩, ⟨kI, i1, i2⟩⟩ := b4 k (by omega)
          obtain ⟨kS, rfl⟩ : ∃ m, kS = m + 1 := ⟨kS - 1, by omega⟩
          obtain ⟨kI, rfl⟩ : ∃ m, kI = m + 1 := ⟨kI - 1, by omega⟩
          rw [spec_LeastStack.j0, impl_LeastStack.j0]
          simp only [Bool.not_true, Bool.false_eq_true, if_false]
          rw [s2, i2, spec_LeastStack.j2, impl_LeastStack.j2, if_neg hb, if_neg hb, alike_spec kS b a1 (by omega) (by omega) h1 h8 (by omega), alike_impl b a1 (by omega) (by omega) h1 h8, Option.bind_some, Option.bind_some]
          rw [wr (show -9223372036854775808 ≤ a1 - 1 ∧ a1 - 1 ≤ 9223372036854775807 by omega), if_pos (by omega), if_pos (by rw [List.length_replicate]; omega)]
          rw [show (a1 - 1).toNat = a1.toNat - 1 by omega, set_last b 2 a1.toNat (by omega)]
          exact ⟨c5' kS (by omega), hI kI (by omega)⟩
    · rw [decide_eq_false c2]
      exact ⟨([], 2), by simp, fun k hk => hno k hk⟩
  · simp only [if_neg c1]
    exact ⟨([], 2), by simp, hno⟩
end Go.Proofs.Ytcapjgjjaolofaa.Core
