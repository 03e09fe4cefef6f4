/- A decimal number as the program reads it: strconv.ParseInt, and the number's own text compared; where what the readers ask of the world holds. -/
import Derived.Test.YtdgillfbdlmloaaGreatDoorSplitS
import Derived.Lib.ParseIntBCases
namespace Go.Proofs.YtdgillfbdlmloaaGreatDoor.P
open Go.RowKit Go.Shelf Go.Proofs.YtdgillfbdlmloaaGreatDoorW.PrintWords Go.Proofs.YtdgillfbdlmloaaGreatDoorW.PrintLast Go.Proofs.YtdgillfbdlmloaaGreatDoorW.PrintMore
set_option linter.unusedVariables false
set_option linter.unusedSimpArgs false
/-- The number that a text spells to strconv.ParseInt, if it does. -/
def i64P (t : ByteArray) : Option Int :=
  match Lib.parseIntB 64 t.data.toList with
  | .ok v => some v
  | _ => none
theorem i64P_ok {t : ByteArray} {v : Int} (h : i64P t = some v) : Lib.parseIntB 64 t.data.toList = .ok v := by
  unfold i64P at h
  split at h
  · rename_i u hu
    obtain rfl := Option.some.inj h
    exact hu
  · cases h
theorem i64P_in {t : ByteArray} {v : Int} (h : i64P t = some v) : -9223372036854775808 ≤ v ∧ v ≤ 9223372036854775807 := by
  have h := i64P_ok h
  cases hl : t.data.toList with
  | nil =>
    rw [hl] at h
    cases h
  | cons c r =>
    rw [hl] at h
    have hs : ∀ x : Lib.NumEnd Nat, Lib.signlessC (2 ^ (64 - 1)) x = .ok v → -9223372036854775808 ≤ v ∧ v ≤ 9223372036854775807 := by
      intro x hx
      cases x with
      | ok u =>
        simp only [Lib.signlessC] at hx
        split at hx
        · cases hx
        · injection hx with hx
          omega
      | _ => cases hx
    have hm : ∀ x : Lib.NumEnd Nat, Lib.signedC (2 ^ (64 - 1)) x = .ok v → -9223372036854775808 ≤ v ∧ v ≤ 9223372036854775807 := by
      intro x hx
      cases x with
      | ok u =>
        simp only [Lib.signedC] at hx
        split at hx
        · cases hx
        · injection hx with hx
          omega
      | _ => cases hx
    by_cases h43 : c.toNat = 43
    · have e : c = 43 := UInt8.toNat_inj.mp h43
      rw [e, Lib.parseIntB_plus] at h
      exact hs _ h
    · by_cases h45 : c.toNat = 45
      · have e : c = 45 := UInt8.toNat_inj.mp h45
        rw [e, Lib.parseIntB_minus] at h
        exact hm _ h
      · rw [Lib.parseIntB_plain 64 c r h43 h45] at h
        exact hs _ h
theorem parseInt_yes (t : ByteArray) (ht : t.size ≤ 281474976710656) (v : Int) (hv : i64P t = some v) (w : World) :
    Calls Tryz.prog 34 #[.string t, .int .i64 10, .int .i64 64] w fun e w' => e = .returned (.tuple #[.int .i64 v, .nilIface]) ∧ Below w.heap.size w w' := by
  refine (Tryz.strconv_ParseInt_10_at64_ok t (by omega) v (i64P_ok hv) w).mono ?_
  rintro e w' ⟨rfl, rfl | ⟨s, rfl⟩⟩
  · exact ⟨rfl, Below.refl _ _⟩
  · exact ⟨rfl, bw_below _ _ _⟩
theorem parseInt_no (t : ByteArray) (ht : t.size ≤ 281474976710656) (hu : i64P t = none) (w : World) (hE : Env w) :
    Calls Tryz.prog 34 #[.string t, .int .i64 10, .int .i64 64] w fun e w' => ∃ N v, e = .returned (.tuple #[.int .i64 v, .iface 93 (.pointer (some ⟨N, 0, none⟩))]) ∧ Below w.heap.size w w' := by
  obtain ⟨_, _, ⟨t1, p1, h1⟩, ⟨t2, p2, h2⟩⟩ := hE
  cases h : Lib.parseIntB 64 t.data.toList with
  | ok u =>
    unfold i64P at hu
    rw [h] at hu
    cases hu
  | range =>
    refine (Tryz.strconv_ParseInt_10_at64_range_var t ht h t2 p2 w h2).mono ?_
    rintro e w' ⟨N, rfl, _, _, hb⟩
    exact ⟨N, _, rfl, hb⟩
  | _ =>
    refine (Any.strconv_ParseInt_10_at64_syntax_var Tryz.laysC174 t ht h t1 p1 w h1).mono ?_
    rintro e w' ⟨N, rfl, _, _, hb⟩
    exact ⟨N, _, rfl, hb⟩
/-- The number that a text spells as the program's own texts spell numbers. -/
def dec64 (t : ByteArray) : Option Int := (i64P t).bind fun v => if (decS v).toList = t.toList then some v else none
set_option maxHeartbeats 4000000 in
theorem readDec_yes (t : ByteArray) (ht : t.size ≤ 281474976710656) (v : Int) (hv : dec64 t = some v) (w : World) (hE : Env w) :
    Calls Tryz.prog 16 #[.string t] w fun e w' => e = .returned (.tuple #[.int .i64 v, .bool true]) ∧ Below w.heap.size w w' := by
  unfold dec64 at hv
  replace hv := Option.bind_eq_some_iff.mp hv
  obtain ⟨u, hu, hv⟩ := hv
  split at hv
  · rename_i he
    obtain rfl := Option.some.inj hv
    have hin := i64P_in hu
    have HE := Aside0.mk hE
    have HU := Aside0.mk hu
    have HT := Aside0.mk ht
    have HIN := Aside0.mk hin
    have cb0 : ((decS u).toList == t.toList) = true := by simpa using he
    clear hu he hin hv hE ht
    go_enter Tryz.func16, Tryz.ntmps16
    go_wp2_with (first | (go_at_call 34; refine (parseInt_yes t HT.out u HU.out w).mono ?_; rintro e w1 ⟨rfl, hb1⟩; have HB1 := Aside0.mk hb1; clear hb1) | (go_at_call 35; refine (decimal_calls u HIN.out.1 HIN.out.2 _ (tab_keep HE.out.1 HB1.out (Nat.le_refl _))).mono ?_; rintro e w2 ⟨rfl, hb2⟩; have HB2 := Aside0.mk hb2; clear hb2))
    go_ret2
    exact ⟨rfl, HB1.out.trans (HB2.out.mono HB1.out.size)⟩
  · cases hv
set_option maxHeartbeats 4000000 in
theorem readDec_no (t : ByteArray) (ht : t.size ≤ 281474976710656) (hv : dec64 t = none) (w : World) (hE : Env w) :
    Calls Tryz.prog 16 #[.string t] w fun e w' => ∃ n, e = .returned (.tuple #[.int .i64 n, .bool false]) ∧ Below w.heap.size w w' := by
  unfold dec64 at hv
  cases hu : i64P t with
  | none =>
    have HE := Aside0.mk hE
    have HU := Aside0.mk hu
    have HT := Aside0.mk ht
    clear hu hv hE ht
    go_enter Tryz.func16, Tryz.ntmps16
    go_wp2_with (first | (go_at_call 34; refine (parseInt_no t HT.out HU.out w HE.out).mono ?_; rintro e w1 ⟨N, n, rfl, hb1⟩; have HB1 := Aside0.mk hb1; clear hb1))
    go_ret2
    exact ⟨n, rfl, HB1.out⟩
  | some u =>
    rw [hu] at hv
    simp only [Option.bind_some] at hv
    split at hv
    · cases hv
    · rename_i he
      have hin := i64P_in hu
      have HE := Aside0.mk hE
      have HU := Aside0.mk hu
      have HT := Aside0.mk ht
      have HIN := Aside0.mk hin
      have cb0 : ((decS u).toList == t.toList) = false := by simpa using he
      clear hu he hin hv hE ht
      go_enter Tryz.func16, Tryz.ntmps16
      go_wp2_with (first | (go_at_call 34; refine (parseInt_yes t HT.out u HU.out w).mono ?_; rintro e w1 ⟨rfl, hb1⟩; have HB1 := Aside0.mk hb1; clear hb1) | (go_at_call 35; refine (decimal_calls u HIN.out.1 HIN.out.2 _ (tab_keep HE.out.1 HB1.out (Nat.le_refl _))).mono ?_; rintro e w2 ⟨rfl, hb2⟩; have HB2 := Aside0.mk hb2; clear hb2))
      go_ret2
      exact ⟨u, rfl, HB1.out.trans (HB2.out.mono HB1.out.size)⟩
end Go.Proofs.YtdgillfbdlmloaaGreatDoor.P
