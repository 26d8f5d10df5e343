/-
  The walk of the statement CrcLinear.
-/
import Derived.Test.YtjmdiobnappgkaaCrcLaw2
import Derived.Deep.RegionHeld3
import Derived.Deep.RegionLaw
import Derived.Deep.AppendLies
namespace Go.Proofs.Ytjmdiobnappgkaa
open Go.RowKit
set_option linter.unusedVariables false
set_option linter.unusedSimpArgs false

theorem run_min_int4 {P : Program} (w : World) (ts : Array TypeId) (t : TypeId) (k1 k2 k3 k4 : IntKind) (x y z u : Int) (n : Int) (hn : min (min (min x y) z) u = n) : (Builtin.min_ ts t #[.int k1 x, .int k2 y, .int k3 z, .int k4 u]).run P w = .ok (.int k1 n) w := by
  subst hn
  simp [Builtin.min_, Builtin.min2]
  have e : ∀ p q : Int, (if q < p then q else p) = min p q := fun p q => by rw [Int.min_def]; split <;> split <;> omega
  simp only [e]
  omega
theorem info5 : (Try.prog.info? 5).map (fun i => (i.zero, i.size, i.bytes)) = some (some (.int .u8 0), 1, 1) := by kernel_rfl
def xorAt (a b c : ByteArray) (k : Nat) : Int := ((a.data.toList.getD k 0 ^^^ b.data.toList.getD k 0 ^^^ c.data.toList.getD k 0).toNat : Int)
theorem xor_at (a b c : ByteArray) (k : Nat) (h1 : k < a.size) (h2 : k < b.size) (h3 : k < c.size) :
    bits .xor .u8 (bits .xor .u8 (a[k].toNat : Int) (b[k].toNat : Int)) (c[k].toNat : Int) = xorAt a b c k := by
  have e1 : a.data.toList.getD k 0 = a[k] := by simp [List.getD, h1]; rfl
  have e2 : b.data.toList.getD k 0 = b[k] := by simp [List.getD, h2]; rfl
  have e3 : c.data.toList.getD k 0 = c[k] := by simp [List.getD, h3]; rfl
  rw [xorAt, e1, e2, e3, u8_xor_nat _ _ (UInt8.toNat_lt _) (UInt8.toNat_lt _), u8_xor_nat _ _ (Nat.xor_lt_two_pow (n := 8) (UInt8.toNat_lt _) (UInt8.toNat_lt _)) (UInt8.toNat_lt _)]
  simp [UInt8.toNat_xor]
def xorL (a b c : List UInt8) : List UInt8 := List.zipWith (· ^^^ ·) (List.zipWith (· ^^^ ·) a b) c

theorem xorL_snoc (a b c : ByteArray) (k : Nat) (h1 : k < a.size) (h2 : k < b.size) (h3 : k < c.size) :
    bvals ((xorL a.data.toList b.data.toList c.data.toList).take (k + 1)) = bvals ((xorL a.data.toList b.data.toList c.data.toList).take k) ++ [Value.int .u8 (xorAt a b c k)] := by
  have hl : k < (xorL a.data.toList b.data.toList c.data.toList).length := by
    simp only [xorL, List.length_zipWith, Array.length_toList]; exact by have e1 : a.data.size = a.size := rfl; have e2 : b.data.size = b.size := rfl; have e3 : c.data.size = c.size := rfl; omega
  rw [List.take_succ_eq_append_getElem hl, bvals_append]
  congr 1
  simp only [bvals, List.map_cons, List.map_nil, xorAt, xorL, List.getElem_zipWith]
  have e1 : a.data.toList.getD k 0 = a[k] := by simp [List.getD, h1]; rfl
  have e2 : b.data.toList.getD k 0 = b[k] := by simp [List.getD, h2]; rfl
  have e3 : c.data.toList.getD k 0 = c[k] := by simp [List.getD, h3]; rfl
  rw [e1, e2, e3]; rfl

theorem lin_int (a b c : ByteArray) (k : Nat) (h1 : k ≤ a.size) (h2 : k ≤ b.size) (h3 : k ≤ c.size) :
    bits .xor .u32 (bits .xor .u32 (CrcM.on 0 (List.take k a.data.toList) : Int) (CrcM.on 0 (List.take k b.data.toList) : Int)) (CrcM.on 0 (List.take k c.data.toList) : Int) = (CrcM.on 0 (List.take k (xorL a.data.toList b.data.toList c.data.toList)) : Int) := by
  have e1 : a.data.size = a.size := rfl
  have e2 : b.data.size = b.size := rfl
  have e3 : c.data.size = c.size := rfl
  rw [u32_xor_nat _ _ (CrcM.on_lt _ _) (CrcM.on_lt _ _), u32_xor_nat _ _ (Nat.xor_lt_two_pow (n := 32) (CrcM.on_lt _ _) (CrcM.on_lt _ _)) (CrcM.on_lt _ _)]
  rw [CrcM.of_xor3 _ _ _ (by simp; omega) (by simp; omega)]
  simp only [xorL, List.take_zipWith]

set_option maxRecDepth 100000 in
set_option maxHeartbeats 800000 in
theorem crcLinear_walk (a : ByteArray) (ha : a.size ≤ maxLen) (b : ByteArray) (hb : b.size ≤ maxLen) (c : ByteArray) (hc : c.size ≤ maxLen) (w : World) :
    Calls Try.prog 6 #[.string a, .string b, .string c] w fun e w' => e = .returned (.bool true) ∧ Below w.heap.size w w' := by
  unfold maxLen at ha hb hc
  obtain ⟨n, hn⟩ : ∃ n : Nat, min (min (min (a.size : Int) (b.size : Int)) (c.size : Int)) 100 = (n : Int) := ⟨(min (min (min (a.size : Int) (b.size : Int)) (c.size : Int)) 100).toNat, by omega⟩
  have hmin := run_min_int4 (P := Try.prog) w #[3, 3, 3, 3] 3 .i64 .i64 .i64 .i64 a.size b.size c.size 100 n hn
  have hna : n ≤ a.size := by omega
  have hnb : n ≤ b.size := by omega
  have hnc : n ≤ c.size := by omega
  have hn100 : n ≤ 100 := by omega
  clear hn
  obtain ⟨i0, hi, hz0, hz1, hz2⟩ := info_parts info5
  go_enter Try.func6, Try.ntmps6
  go_wp2
  go_loopw [8, 9] (fun v i wr => ∃ k : Nat, k ≤ n ∧ i = .int .i64 k ∧ wr.ownsRow w.heap.size 5 1 v k (bvals ((xorL a.data.toList b.data.toList c.data.toList).take k)) ∧ Below w.heap.size w wr) (fun _ i _ => n - (intOf i).toNat)
  case atStart => exact ⟨0, Nat.zero_le _, rfl, by simpa [bvals] using World.ownsRow_made w #[] 0 (Nat.le_refl _) (by simp [maxLen]) (by simp), (Below.refl _ _).alloc (Nat.le_refl _) _⟩
  case round =>
    obtain ⟨k, hk, rfl, hown, hbel⟩ := hrel
    by_cases hlt : k < n
    · have hx := xor_at a b c k (by omega) (by omega) (by omega)
      have h1 : (k : Int) < (a.size : Int) := by omega
      have h2 : (k : Int) < (b.size : Int) := by omega
      have h3 : (k : Int) < (c.size : Int) := by omega
      have hz := hbel.size
      go_wp2
      have Hsnoc := Lib.hid (xorL_snoc a b c k (by omega) (by omega) (by omega))
      go_region_law (refine step_append1 rfl _ _ 30 rfl w.heap.size 5 i0 (.int .u8 0) 1 Try.underlying30 hi hz0 hz1 hz2 rfl u8 _ _ rfl (hown.alloc _).drew wr.heap.size rfl (.int .u8 (xorAt a b c k)) (by simp [go_sem]) rfl (by unfold maxLen; omega) (by omega) (by simp; omega) ?_; intro v' w1 hown1 hg1 hb1)
      all_goals
        have hbel1 : Below w.heap.size w w1 := ((hbel.alloc hz _).drew).grown hg1 (by simp; omega) (fun g hg => (hown.lt g hg).1)
        have Hg1 := Lib.hid hg1; clear hg1
        have Hb1 := Lib.hid hb1; clear hb1
        go_wp2
        go_roundw
        case rel => exact ⟨k + 1, by omega, by go_num, by rw [Hsnoc.out]; exact hown1, hbel1⟩
        case measure => simp [intOf]; omega
    · obtain rfl : k = n := by omega
      have hcv := fun (wx : World) (hx : wx.ownsRow w.heap.size 5 1 u8 k (bvals (List.take k (xorL a.data.toList b.data.toList c.data.toList)))) => conv_own (P := Try.prog) Try.underlying30 Try.underlying5 Try.underlying9 hx
      have b1 : (a.extract 0 k).size ≤ 140737488351232 := by have := ext_le a k; omega
      have b2 : (b.extract 0 k).size ≤ 140737488351232 := by have := ext_le b k; omega
      have b3 : (c.extract 0 k).size ≤ 140737488351232 := by have := ext_le c k; omega
      have b4 : (ByteArray.mk (List.take k (xorL a.data.toList b.data.toList c.data.toList)).toArray).size ≤ 140737488351232 := by
        have : (List.take k (xorL a.data.toList b.data.toList c.data.toList)).length ≤ k := List.length_take_le _ _
        have e : (ByteArray.mk (List.take k (xorL a.data.toList b.data.toList c.data.toList)).toArray).size = (List.take k (xorL a.data.toList b.data.toList c.data.toList)).length := by simp [ByteArray.size]
        omega
      have hfin := lin_int a b c k hna hnb hnc
      generalize hL : List.take k (xorL a.data.toList b.data.toList c.data.toList) = L at *
      have B1 := Lib.hid b1; have B2 := Lib.hid b2; have B3 := Lib.hid b3; have B4 := Lib.hid b4
      clear b1 b2 b3 b4 hL
      go_wp2
      go_region_held3 (fun wx => wx.ownsRow w.heap.size 5 1 u8 k (bvals L)) (first | exact hown.drew | (refine own_belowB (by assumption) rfl ?_; first | exact hown.drew | assumption))
        (first
          | (go_at_call 23; refine (of_any _ ?_ _).mono ?_; (first | exact B1.out | exact B2.out | exact B3.out | exact B4.out); rintro e w' ⟨rfl, hb⟩)
          | (go_at_call 29; refine (crcFixed_any _).mono ?_; rintro e w' ⟨rfl, hb⟩))
      all_goals
        go_wp2
        go_ret
        exact ⟨rfl, by repeat (first | exact hbel.drew | refine below_step (by assumption) rfl ?_)⟩
end Go.Proofs.Ytjmdiobnappgkaa
