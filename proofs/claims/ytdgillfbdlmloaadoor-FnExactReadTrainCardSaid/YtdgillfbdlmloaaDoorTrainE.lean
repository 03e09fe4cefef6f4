/- Trains in plain words: the laws' own helpers, equality among them. -/
import Derived.Test.YtdgillfbdlmloaaDoorTrainA
import Derived.Test.YtdgillfbdlmloaaDoorPx9
import Derived.IntWalk
namespace Go.Proofs.YtdgillfbdlmloaaDoor.Core
open Go.RowKit Go.Proofs.YtdgillfbdlmloaaDoor.P Go.Proofs.YtdgillfbdlmloaaDoorW.PrintWords Go.Proofs.YtdgillfbdlmloaaDoorW.PrintMore

theorem wrT {n : Int} (h : -9223372036854775808 ≤ n ∧ n ≤ 9223372036854775807) : wrap64 n = n := Go.IntWalk.wrap64_in n h
theorem wf16 {n : Int} (h : (Lit.int .i16 n).wf = true) : -32768 ≤ n ∧ n ≤ 32767 := by
  simp [Lit.wf, IntKind.min, IntKind.max, IntKind.signed, IntKind.bits] at h
  omega
/-- The laws' pairs as the program's. -/
def cvP (x : S59) : S57 := ⟨x.f0, x.f1⟩
def cv (l : List S59) : List S57 := l.map cvP
theorem cv_length (l : List S59) : (cv l).length = l.length := by simp [cv]
/-- All numbers of teeth are short. -/
def Shorts (l : List S57) : Prop := ∀ p ∈ l, (-32768 ≤ p.f0 ∧ p.f0 ≤ 32767) ∧ (-32768 ≤ p.f1 ∧ p.f1 ≤ 32767)
theorem shorts_cv {l : List S59} (h : ∀ x ∈ l, (Lit.int .i16 x.f0).wf = true ∧ (Lit.int .i16 x.f1).wf = true) : Shorts (cv l) := by
  intro p hp
  obtain ⟨x, hx, rfl⟩ := List.mem_map.mp hp
  exact ⟨wf16 (h x hx).1, wf16 (h x hx).2⟩
theorem rdP_mem (l : List S57) (x : Int) (h0 : 0 ≤ x) (h1 : x < (l.length : Int)) : rd_T57 l x ∈ l := by
  have e : rd_T57 l x = l[x.toNat]'(by omega) := by simp [rd_T57, List.getD, List.getElem?_eq_getElem (show x.toNat < l.length by omega)]
  rw [e]
  exact List.getElem_mem _
theorem cv_at (l : List S59) (x : Int) (h0 : 0 ≤ x) (h1 : x < (l.length : Int)) : (cv l)[x.toNat]? = some ⟨(rd_T59 l x).f0, (rd_T59 l x).f1⟩ := by
  simp [cv, cvP, rd_T59, List.getD, List.getElem?_eq_getElem (show x.toNat < l.length by omega)]
theorem take_setG {α : Type} (o m : List α) (n : Nat) (v : α) (hn : n < o.length) (ht : o.take n = m.take n) (hv : m[n]? = some v) : (o.set n v).take (n + 1) = m.take (n + 1) := by
  rw [List.take_add_one, List.take_add_one, List.take_set_of_le (Nat.le_refl n), ht, hv, List.getElem?_set_self hn]

theorem eqTrain_rounds (l : List S57) (hl : l.length ≤ 1048576) : ∀ (d k : Nat) (x : Int), 0 ≤ x → x + d = l.length → d < k → laws_eqTrain.l0 k l l x = some true := by
  intro d
  induction d with
  | zero =>
    intro k x h0 h1 hk
    obtain ⟨k, rfl⟩ : ∃ m, k = m + 1 := ⟨k - 1, by omega⟩
    simp only [laws_eqTrain.l0]
    rw [if_neg (by omega)]
  | succ d ih =>
    intro k x h0 h1 hk
    obtain ⟨k, rfl⟩ : ∃ m, k = m + 1 := ⟨k - 1, by omega⟩
    simp only [laws_eqTrain.l0, laws_eqPair.f, if_true, Option.bind_some]
    rw [if_pos (by omega), if_pos h0, if_pos (by omega), wrT (by omega)]
    exact ih k (x + 1) (by omega) (by omega) (by omega)
theorem eqTrain_self (k : Nat) (l : List S57) (hl : l.length ≤ 1048576) (hk : l.length < k) : laws_eqTrain.f k l l = some true := by
  unfold laws_eqTrain.f
  rw [if_pos rfl]
  exact eqTrain_rounds l hl l.length k 0 (by omega) (by omega) hk
end Go.Proofs.YtdgillfbdlmloaaDoor.Core
