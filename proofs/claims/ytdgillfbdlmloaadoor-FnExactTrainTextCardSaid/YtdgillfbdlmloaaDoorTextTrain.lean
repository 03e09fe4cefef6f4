/- The text of a train: both texts. -/
import Derived.Test.YtdgillfbdlmloaaDoorTextCore
import Derived.Test.YtdgillfbdlmloaaDoorTrainT
import Derived.Test.YtdgillfbdlmloaaDoorTrainOk
import Derived.Test.YtdgillfbdlmloaaDoorPx9
namespace Go.Proofs.YtdgillfbdlmloaaDoor.Core
open Go.RowKit Go.Proofs.YtdgillfbdlmloaaDoor.P Go.Proofs.YtdgillfbdlmloaaDoorW.PrintWords Go.Proofs.YtdgillfbdlmloaaDoorW.PrintMore
/-- What has been written when j have come. -/
def preT (l : List SP) (j : Nat) : List (List UInt8) := (l.take j).map fun p => (pairS p).data.toList
theorem preT_len (l : List SP) (j : Nat) (h : j ≤ l.length) : (preT l j).length = j := by
  unfold preT
  rw [List.length_map, List.length_take]
  omega
theorem preT_le (l : List SP) (j : Nat) (h : j ≤ l.length) (h4 : l.length ≤ 4) : (Lib.join (preT l j) [32]).length ≤ 140737488355328 := join_le _ _ rfl (fun y hy => by
  unfold preT at hy
  simp only [List.mem_map] at hy
  obtain ⟨a, _, rfl⟩ := hy
  exact pairS_le a) (by rw [preT_len l j h]; omega)
theorem text_rounds (l : List SP) (hb : ∀ p ∈ l, (8 ≤ p.f0 ∧ p.f0 ≤ 120) ∧ (8 ≤ p.f1 ∧ p.f1 ≤ 120)) (h4 : l.length ≤ 4) : ∀ (d k : Nat) (x : Int), 0 ≤ x → x + d = l.length → d + 200 < k →
    spec_l03Text.l0 k l ⟨(Lib.join (preT l x.toNat) [32]).toArray⟩ x = some ⟨(Lib.join (preT l l.length) [32]).toArray⟩ := by
  intro d
  induction d with
  | zero =>
    intro k x h0 h1 hk
    obtain ⟨k, rfl⟩ : ∃ m, k = m + 1 := ⟨k - 1, by omega⟩
    simp only [spec_l03Text.l0]
    rw [if_neg (by omega), show x.toNat = l.length by omega]
  | succ d ih =>
    intro k x h0 h1 hk
    obtain ⟨k, rfl⟩ : ∃ m, k = m + 1 := ⟨k - 1, by omega⟩
    have hx1 : x < (l.length : Int) := by omega
    have hm := rdP_mem l x h0 hx1
    have hr : rd_T57 l x = l[x.toNat]'(by omega) := by simp [rd_T57, List.getD, List.getElem?_eq_getElem (show x.toNat < l.length by omega)]
    obtain ⟨⟨b1, b2⟩, ⟨b3, b4⟩⟩ := hb _ hm
    have hpre : preT l (x.toNat + 1) = preT l x.toNat ++ [(pairS (rd_T57 l x)).data.toList] := by
      unfold preT
      rw [List.take_succ_eq_append_getElem (by omega), hr, List.map_append]
      rfl
    simp only [spec_l03Text.l0]
    generalize rd_T57 l x = p at *
    have w0 : wrap64 p.f0 = p.f0 := wr (by omega)
    have w1 : wrap64 p.f1 = p.f1 := wr (by omega)
    have hd0 := dec_spec 120 k (wrap64 p.f0) (by omega) (by omega) (by omega) (by omega)
    have hd1 := dec_spec 120 k (wrap64 p.f1) (by omega) (by omega) (by omega) (by omega)
    have s0 := dec_size p.f0
    have s1 := dec_size p.f1
    have hle := preT_le l x.toNat (by omega) h4
    have hps : (pairS p).size ≤ 50 := by
      have := pairS_le p
      rw [Array.length_toList] at this
      exact this
    have hs2 : (decS (wrap64 p.f0) ++ (⟨#[47]⟩ : ByteArray)).size = (decS (wrap64 p.f0)).size + 1 := by
      rw [ByteArray.size_append]
      rfl
    have e47 : (decS (wrap64 p.f0) ++ (⟨#[47]⟩ : ByteArray)) ++ decS (wrap64 p.f1) = pairS p := rfl
    have ihx := ih k (x + 1) (by omega) (by omega) (by omega)
    rw [show (x + 1).toNat = x.toNat + 1 by omega, hpre] at ihx
    rw [if_pos hx1, hd0, hd1]
    simp only [Option.bind_some, e47, hs2]
    have hsz : (⟨(Lib.join (preT l x.toNat) [32]).toArray⟩ : ByteArray).size ≤ 140737488355328 := by rw [ba_size]; exact hle
    by_cases c : x > 0
    · have hne : preT l x.toNat ≠ [] := fun e => by
        have := preT_len l x.toNat (by omega)
        rw [e] at this
        simp at this
        omega
      have e1 : (⟨(Lib.join (preT l x.toNat) [32]).toArray⟩ : ByteArray) ++ (⟨#[32]⟩ : ByteArray) = ⟨(Lib.join (preT l x.toNat) [32] ++ [32]).toArray⟩ := ba_app _ [32]
      have e2 : (⟨(Lib.join (preT l x.toNat) [32] ++ [32]).toArray⟩ : ByteArray) ++ pairS p = ⟨(Lib.join (preT l x.toNat ++ [(pairS p).data.toList]) [32]).toArray⟩ := by
        rw [join_snoc _ _ _ hne]
        exact ba_app _ _
      rw [if_pos c, if_pos (by omega), if_pos h0, if_pos (by omega), if_pos (by omega), e1, if_pos (by rw [ba_size, List.length_append]; simp; omega), e2, wr (by omega)]
      exact ihx
    · have hx0 : x.toNat = 0 := by omega
      have e2 : (⟨(Lib.join (preT l x.toNat) [32]).toArray⟩ : ByteArray) ++ pairS p = ⟨(Lib.join (preT l x.toNat ++ [(pairS p).data.toList]) [32]).toArray⟩ := by
        rw [hx0, show preT l 0 = [] from rfl, List.nil_append, Lib.join_one]
        exact ba_app [] _
      rw [if_neg c, if_pos h0, if_pos (by omega), if_pos (by omega), if_pos (by omega), e2, wr (by omega)]
      exact ihx
theorem trainText_both (k : Nat) (l : List SP) (hl : l.length ≤ 1048576) (hs : Shorts l) (hk : l.length + 1000 < k) : ∃ r, spec_TrainText.f k l = some r ∧ impl_TrainText.f l = some r := by
  unfold spec_TrainText.f impl_TrainText.f impl_ValidTrain.f
  rw [train_spec k l hl hs (by omega)]
  simp only [Option.bind_some]
  by_cases h : trainB l = true
  · have h4 := trainB_len h
    have hb := text_rounds l (trainB_all h) h4.2 l.length k 0 (by omega) (by omega) (by omega)
    have e0 : (⟨(Lib.join (preT l (0 : Int).toNat) [32]).toArray⟩ : ByteArray) = ⟨#[]⟩ := rfl
    rw [e0] at hb
    unfold spec_l03Text.f
    rw [if_pos h, if_pos h, if_pos h4.1, if_pos h4.2, hb]
    refine ⟨_, rfl, ?_⟩
    unfold textT preT
    rw [List.take_length]
  · rw [if_neg h, if_neg h]
    exact ⟨_, rfl, rfl⟩
end Go.Proofs.YtdgillfbdlmloaaDoor.Core
