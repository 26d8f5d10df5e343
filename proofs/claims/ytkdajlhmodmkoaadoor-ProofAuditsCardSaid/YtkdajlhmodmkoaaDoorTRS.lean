/-
  Layer 8 (tree): the document's Split, at every number.
-/
import Derived.Test.YtkdajlhmodmkoaaDoorTZ
import Derived.Test.YtkdajlhmodmkoaaDoorShaO2
namespace Go.Proofs.YtkdajlhmodmkoaaDoor
open Go.RowKit TreeM
set_option linter.unusedVariables false
set_option linter.unusedSimpArgs false

set_option maxRecDepth 100000 in
theorem rsplit_all (n : Nat) (hn : n < 18446744073709551616) (w : World) :
    Calls Tryd.prog 39 #[.int .u64 (n : Int)] w fun e w' => e = .returned (.int .u64 (split n : Int)) ∧ w' = w := by
  by_cases h : n ≤ 1
  · have hs : split n = 0 := by unfold split; rw [if_pos h]
    rw [hs]
    have h' : (n : Int) < 2 := by omega
    go_enter Tryd.func39, Tryd.ntmps39
    go_wp2
    go_ret
    exact ⟨rfl, rfl⟩
  · have h' : ¬ (n : Int) < 2 := by omega
    obtain ⟨R, hR⟩ : ∃ R, split n = R := ⟨_, rfl⟩
    rw [hR]
    have HR := Lib.hid hR; clear hR
    go_enter Tryd.func39, Tryd.ntmps39
    go_wp2
    go_loopw [3] (fun x wx => ∃ e : Nat, x = .int .u64 ((2 ^ e : Nat) : Int) ∧ 2 ^ e < n ∧ wx = w) (fun x _ => n - (intOf x).toNat)
    case atStart => exact ⟨0, rfl, by simp; omega, rfl⟩
    case round =>
      obtain ⟨e, rfl, he, rfl⟩ := hrel
      have Hu : Hid (n ≤ 2 * 2 ^ e → R = 2 ^ e) := Lib.hid (fun hq => by rw [← HR.out]; exact split_uniq (by omega) e he hq)
      have Hp : Hid (2 ^ (e + 1) = 2 ^ e * 2) := Lib.hid (Nat.pow_succ 2 e)
      have hp1 := Nat.one_le_two_pow (n := e)
      generalize hk : 2 ^ e = k at *
      have Hk := Lib.hid hk; clear hk
      by_cases hlt : k < n - k
      · have l1 : (k : Int) < (n : Int) - (k : Int) := by omega
        have e2 : IntKind.u64.wrap ((n : Int) - (k : Int)) = (n : Int) - (k : Int) := by show ((n : Int) - (k : Int)) % 18446744073709551616 = _; omega
        have e3 : IntKind.u64.wrap ((k : Int) * 2) = (k : Int) * 2 := by show ((k : Int) * 2) % 18446744073709551616 = _; omega
        clear Hu
        go_wp2
        go_roundw
        case rel => exact ⟨e + 1, by rw [Hp.out]; congr 1, by rw [Hp.out]; omega, by trivial⟩
        case measure => simp [intOf]; omega
      · have l1 : ¬ (k : Int) < (n : Int) - (k : Int) := by omega
        have e2 : IntKind.u64.wrap ((n : Int) - (k : Int)) = (n : Int) - (k : Int) := by show ((n : Int) - (k : Int)) % 18446744073709551616 = _; omega
        obtain rfl := Hu.out (by omega)
        go_wp2
        go_ret
        exact ⟨rfl, rfl⟩
end Go.Proofs.YtkdajlhmodmkoaaDoor
