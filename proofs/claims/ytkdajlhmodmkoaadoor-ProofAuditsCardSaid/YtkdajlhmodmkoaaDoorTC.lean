/-
  Layer 8 (tree): slices.ContainsFunc at the widths.
-/
import Derived.Test.YtkdajlhmodmkoaaDoorTB2
namespace Go.Proofs.YtkdajlhmodmkoaaDoor
open Go.RowKit TreeM
set_option linter.unusedVariables false
set_option linter.unusedSimpArgs false

/-- What IndexFunc tells. -/
def IdxOk (L : List ByteArray) (i : Int) : Prop := if wideB L = true then i = -1 else 0 ≤ i
theorem wide_succ {L : List ByteArray} {k : Nat} (h : k < L.length) (hw : wideB (L.take k) = true) : L[k].size = 32 → wideB (L.take (k + 1)) = true := fun hs => by
  unfold wideB at hw ⊢
  rw [List.take_succ_eq_append_getElem h, List.all_append, hw]
  simp [hs]
theorem wide_not {L : List ByteArray} {k : Nat} (h : k < L.length) : L[k].size ≠ 32 → wideB L = false := fun hs => by
  unfold wideB
  rw [List.all_eq_false]
  exact ⟨L[k], List.getElem_mem h, by simp [hs]⟩
set_option maxRecDepth 100000 in
theorem odd75_any (s : ByteArray) (w : World) : Calls Tryd.prog 75 #[.string s] w fun e w' => e = .returned (.bool (!(s.size == 32))) ∧ w' = w := by
  by_cases h : s.size = 32
  · have h1 : ((s.size : Int) != 32) = false := by rw [bne_eq_false_iff_eq]; omega
    have h2 : (!(s.size == 32)) = false := by simp [h]
    rw [h2]
    go_enter Tryd.func75, Tryd.ntmps75
    go_wp2
    go_ret
    exact ⟨rfl, rfl⟩
  · have h1 : ((s.size : Int) != 32) = true := by rw [bne_iff_ne]; omega
    have h2 : (!(s.size == 32)) = true := by simp [h]
    rw [h2]
    go_enter Tryd.func75, Tryd.ntmps75
    go_wp2
    go_ret
    exact ⟨rfl, rfl⟩
set_option maxRecDepth 100000 in
theorem odd101_any (s : ByteArray) (w : World) : Calls Tryd.prog 101 #[.string s] w fun e w' => e = .returned (.bool (!(s.size == 32))) ∧ w' = w := by
  by_cases h : s.size = 32
  · have h1 : ((s.size : Int) != 32) = false := by rw [bne_eq_false_iff_eq]; omega
    have h2 : (!(s.size == 32)) = false := by simp [h]
    rw [h2]
    go_enter Tryd.func101, Tryd.ntmps101
    go_wp2
    go_ret
    exact ⟨rfl, rfl⟩
  · have h1 : ((s.size : Int) != 32) = true := by rw [bne_iff_ne]; omega
    have h2 : (!(s.size == 32)) = true := by simp [h]
    rw [h2]
    go_enter Tryd.func101, Tryd.ntmps101
    go_wp2
    go_ret
    exact ⟨rfl, rfl⟩
set_option maxRecDepth 100000 in
theorem index75_any {w : World} {v : Value} {L : List ByteArray} (h : SRead w v L) :
    Calls Tryd.prog 100 #[v, .func (.func 75) #[] #[]] w fun e w' => (∃ i : Int, e = .returned (.int .i64 i) ∧ IdxOk L i) ∧ w' = w := by
  obtain ⟨A, cap, rfl, hm, hc⟩ := h
  have hl1 : L.length ≤ 9223372036854775807 := hm
  have Hc := Lib.hid hc
  clear hc hm
  go_enter Tryd.func100, Tryd.ntmps100
  go_wp2
  go_loopw [5, 8] (fun _ i wx => ∃ k : Nat, k ≤ L.length ∧ i = .int .i64 (k : Int) ∧ wideB (L.take k) = true ∧ wx = w) (fun _ i _ => L.length - (intOf i).toNat)
  case atStart => exact ⟨0, Nat.zero_le _, rfl, rfl, rfl⟩
  case round =>
    obtain ⟨k, hk, rfl, hw, rfl⟩ := hrel
    have Hw := Lib.hid hw; clear hw
    by_cases hlt : k < L.length
    · obtain ⟨b, o, rfl, _, hx⟩ := Hc.out k hlt
      have hk1 : (k : Int) < (L.length : Int) := by omega
      have hst := wide_succ hlt Hw.out
      have hno := wide_not hlt
      generalize L[k] = S at *
      have Hst := Lib.hid hst; have Hno := Lib.hid hno
      clear hst hno
      by_cases hS : S.size = 32
      · have hb : (!(S.size == 32)) = false := by simp [hS]
        go_wp2_with fail
        refine (odd75_any S _).mono ?_
        rintro e w2 ⟨rfl, rfl⟩
        rw [hb]
        go_wp2
        go_roundw
        case rel => exact ⟨k + 1, by omega, by go_num, Hst.out hS, by trivial⟩
        case measure => simp [intOf]; omega
      · have hb : (!(S.size == 32)) = true := by simp [hS]
        go_wp2_with fail
        refine (odd75_any S _).mono ?_
        rintro e w2 ⟨rfl, rfl⟩
        rw [hb]
        go_wp2
        go_ret
        exact ⟨⟨_, rfl, by unfold IdxOk; rw [if_neg (by rw [Hno.out hS]; decide)]; omega⟩, rfl⟩
    · have hall : wideB L = true := by have := Hw.out; rwa [List.take_of_length_le (by omega)] at this
      obtain rfl : k = L.length := by omega
      go_wp2
      go_ret
      exact ⟨⟨_, rfl, by unfold IdxOk; rw [if_pos hall]⟩, rfl⟩
set_option maxRecDepth 100000 in
theorem contains75_any {w : World} {v : Value} {L : List ByteArray} (h : SRead w v L) :
    Calls Tryd.prog 77 #[v, .func (.func 75) #[] #[]] w fun e w' => e = .returned (.bool (!(wideB L))) ∧ w' = w := by
  have h' := h
  obtain ⟨A, cap, rfl, hm, hc⟩ := h
  clear hm hc
  obtain ⟨R, hR⟩ : ∃ R, wideB L = R := ⟨_, rfl⟩
  rw [hR]
  have HR := Lib.hid hR; clear hR
  go_enter Tryd.func77, Tryd.ntmps77
  go_wp2_with fail
  refine (index75_any h').mono ?_
  rintro e w2 ⟨⟨i, rfl, hi⟩, rfl⟩
  clear h'
  unfold IdxOk at hi
  rw [HR.out] at hi
  cases R
  · rw [if_neg (by decide)] at hi
    go_wp2
    go_ret
    exact ⟨rfl, rfl⟩
  · rw [if_pos rfl] at hi
    subst hi
    go_wp2
    go_ret
    exact ⟨rfl, rfl⟩
set_option maxRecDepth 100000 in
theorem index101_any {w : World} {v : Value} {L : List ByteArray} (h : SRead w v L) :
    Calls Tryd.prog 100 #[v, .func (.func 101) #[] #[]] w fun e w' => (∃ i : Int, e = .returned (.int .i64 i) ∧ IdxOk L i) ∧ w' = w := by
  obtain ⟨A, cap, rfl, hm, hc⟩ := h
  have hl1 : L.length ≤ 9223372036854775807 := hm
  have Hc := Lib.hid hc
  clear hc hm
  go_enter Tryd.func100, Tryd.ntmps100
  go_wp2
  go_loopw [5, 8] (fun _ i wx => ∃ k : Nat, k ≤ L.length ∧ i = .int .i64 (k : Int) ∧ wideB (L.take k) = true ∧ wx = w) (fun _ i _ => L.length - (intOf i).toNat)
  case atStart => exact ⟨0, Nat.zero_le _, rfl, rfl, rfl⟩
  case round =>
    obtain ⟨k, hk, rfl, hw, rfl⟩ := hrel
    have Hw := Lib.hid hw; clear hw
    by_cases hlt : k < L.length
    · obtain ⟨b, o, rfl, _, hx⟩ := Hc.out k hlt
      have hk1 : (k : Int) < (L.length : Int) := by omega
      have hst := wide_succ hlt Hw.out
      have hno := wide_not hlt
      generalize L[k] = S at *
      have Hst := Lib.hid hst; have Hno := Lib.hid hno
      clear hst hno
      by_cases hS : S.size = 32
      · have hb : (!(S.size == 32)) = false := by simp [hS]
        go_wp2_with fail
        refine (odd101_any S _).mono ?_
        rintro e w2 ⟨rfl, rfl⟩
        rw [hb]
        go_wp2
        go_roundw
        case rel => exact ⟨k + 1, by omega, by go_num, Hst.out hS, by trivial⟩
        case measure => simp [intOf]; omega
      · have hb : (!(S.size == 32)) = true := by simp [hS]
        go_wp2_with fail
        refine (odd101_any S _).mono ?_
        rintro e w2 ⟨rfl, rfl⟩
        rw [hb]
        go_wp2
        go_ret
        exact ⟨⟨_, rfl, by unfold IdxOk; rw [if_neg (by rw [Hno.out hS]; decide)]; omega⟩, rfl⟩
    · have hall : wideB L = true := by have := Hw.out; rwa [List.take_of_length_le (by omega)] at this
      obtain rfl : k = L.length := by omega
      go_wp2
      go_ret
      exact ⟨⟨_, rfl, by unfold IdxOk; rw [if_pos hall]⟩, rfl⟩
set_option maxRecDepth 100000 in
theorem contains101_any {w : World} {v : Value} {L : List ByteArray} (h : SRead w v L) :
    Calls Tryd.prog 77 #[v, .func (.func 101) #[] #[]] w fun e w' => e = .returned (.bool (!(wideB L))) ∧ w' = w := by
  have h' := h
  obtain ⟨A, cap, rfl, hm, hc⟩ := h
  clear hm hc
  obtain ⟨R, hR⟩ : ∃ R, wideB L = R := ⟨_, rfl⟩
  rw [hR]
  have HR := Lib.hid hR; clear hR
  go_enter Tryd.func77, Tryd.ntmps77
  go_wp2_with fail
  refine (index101_any h').mono ?_
  rintro e w2 ⟨⟨i, rfl, hi⟩, rfl⟩
  clear h'
  unfold IdxOk at hi
  rw [HR.out] at hi
  cases R
  · rw [if_neg (by decide)] at hi
    go_wp2
    go_ret
    exact ⟨rfl, rfl⟩
  · rw [if_pos rfl] at hi
    subst hi
    go_wp2
    go_ret
    exact ⟨rfl, rfl⟩
end Go.Proofs.YtkdajlhmodmkoaaDoor
