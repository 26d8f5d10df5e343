/-
  Layer 2 (sha), the document's answer: keys and padded walked.
-/
import Derived.Test.YtkdajlhmodmkoaaDoorShaG
import Derived.Deep.LoopGhost
namespace Go.Proofs.YtkdajlhmodmkoaaDoor
open Go.RowKit
set_option linter.unusedVariables false
set_option linter.unusedSimpArgs false

theorem keysRow : (#[.int .u32 1116352408, .int .u32 1899447441, .int .u32 3049323471, .int .u32 3921009573, .int .u32 961987163, .int .u32 1508970993, .int .u32 2453635748, .int .u32 2870763221, .int .u32 3624381080, .int .u32 310598401, .int .u32 607225278, .int .u32 1426881987, .int .u32 1925078388, .int .u32 2162078206, .int .u32 2614888103, .int .u32 3248222580, .int .u32 3835390401, .int .u32 4022224774, .int .u32 264347078, .int .u32 604807628, .int .u32 770255983, .int .u32 1249150122, .int .u32 1555081692, .int .u32 1996064986, .int .u32 2554220882, .int .u32 2821834349, .int .u32 2952996808, .int .u32 3210313671, .int .u32 3336571891, .int .u32 3584528711, .int .u32 113926993, .int .u32 338241895, .int .u32 666307205, .int .u32 773529912, .int .u32 1294757372, .int .u32 1396182291, .int .u32 1695183700, .int .u32 1986661051, .int .u32 2177026350, .int .u32 2456956037, .int .u32 2730485921, .int .u32 2820302411, .int .u32 3259730800, .int .u32 3345764771, .int .u32 3516065817, .int .u32 3600352804, .int .u32 4094571909, .int .u32 275423344, .int .u32 430227734, .int .u32 506948616, .int .u32 659060556, .int .u32 883997877, .int .u32 958139571, .int .u32 1322822218, .int .u32 1537002063, .int .u32 1747873779, .int .u32 1955562222, .int .u32 2024104815, .int .u32 2227730452, .int .u32 2361852424, .int .u32 2428436474, .int .u32 2756734187, .int .u32 3204031479, .int .u32 3329325298] : Array Value) = ucells ShaM.K := by kernel_rfl
set_option maxRecDepth 100000 in
set_option maxHeartbeats 400000 in
theorem keys_any (w : World) : Calls Tryd.prog 65 #[] w (UPost w ShaM.K) := by
  go_enter Tryd.func65, Tryd.ntmps65
  go_wp2
  rw [keysRow]
  go_ret
  exact ⟨⟨_, rfl, URead.new w 26 ShaM.K 64⟩, alloc_below' w _⟩

/-- The last k of a number's bytes. -/
def lenL (n : Nat) : Nat → List UInt8
  | 0 => []
  | k + 1 => UInt8.ofNat (n / 256 ^ k) :: lenL n k
theorem lenL8 (n : Nat) : lenL n 8 = ShaM.len8 n := by simp [lenL, ShaM.len8]
theorem lenL_byte (n k : Nat) : UInt8.ofNat (n / 256 ^ k % 256 % 256) = UInt8.ofNat (n / 256 ^ k) := by
  apply UInt8.toNat_inj.1; simp
theorem lenL_length (n : Nat) : ∀ k, (lenL n k).length = k
  | 0 => rfl
  | k + 1 => by simp [lenL, lenL_length n k]
theorem byte_data (m : Nat) : (strOfNums [(m : Int) % 256]).data.toList = [UInt8.ofNat m] := by
  rw [strOfNums_data]
  simp only [List.map_cons, List.map_nil]
  congr 1
  apply UInt8.toNat_inj.1
  have : ((m : Int) % 256).toNat = m % 256 := by omega
  rw [this]; simp
theorem ba_append (a b : ByteArray) : (a ++ b).data.toList = a.data.toList ++ b.data.toList := by simp [ByteArray.data_append]
theorem ba_eq {a b : ByteArray} (h : a.data.toList = b.data.toList) : a = b := by
  cases a; cases b; simp at h; simp [h]
theorem ba_size (a : ByteArray) : a.size = a.data.toList.length := by simp

set_option maxRecDepth 100000 in
set_option maxHeartbeats 1000000 in
theorem padded_any (s : ByteArray) (hs : s.size ≤ 100000000) (w : World) : Calls Tryd.prog 66 #[.string s] w fun e w' => e = .returned (.string ⟨(ShaM.padded s.data.toList).toArray⟩) ∧ Below w.heap.size w w' := by
  have hcv : ∀ (wx : World) (x : Int), (convert 40 9 (.slice (some ⟨wx.heap.size, 0, none⟩) 1 1)).run Tryd.prog (wx.alloc (.cells #[.int .u8 x] 5)) = .ok (.string (strOfNums [x])) (wx.alloc (.cells #[.int .u8 x] 5)) :=
    fun wx x => conv_string_new (P := Tryd.prog) wx 40 9 5 [x] Tryd.underlying40 Tryd.underlying5 Tryd.underlying9 1 1 rfl 5
  have Hcv := Lib.hid hcv; clear hcv
  go_enter Tryd.func66, Tryd.ntmps66
  go_wp2
  go_loopg [4] (ShaM.gap s.size) (fun q t wr => ∃ (j : Nat) (b : ByteArray), j + q = ShaM.gap s.size ∧ t = .string b ∧ b.data.toList = s.data.toList ++ [128] ++ List.replicate j 0 ∧ w = wr)
  case atStart => exact ⟨0, _, Nat.zero_add _, rfl, by simp [ba_append], rfl⟩
  case round =>
    obtain ⟨j, b, hj, rfl, hb, rfl⟩ := hrel
    have hbs : b.size = s.size + 1 + j := by rw [ba_size, hb]; simp; omega
    have Hb := Lib.hid hb; have Hbs := Lib.hid hbs
    have hbnd : b.size ≤ 100000200 := by unfold ShaM.gap at hj; omega
    by_cases hlt : j < ShaM.gap s.size
    · have ht : ((b.size : Int) % 64 != 56) = true := by rw [bne_iff_ne]; unfold ShaM.gap at hlt; omega
      have Hj := Lib.hid hj
      clear hb hbs hj
      go_wp2
      go_roundg (gk - 1)
      case measure => have := Hj.out; omega
      case rel => exact ⟨j + 1, _, by have := Hj.out; omega, rfl, by rw [ba_append, Hb.out, List.replicate_succ']; simp, rfl⟩
    · have ht : ((b.size : Int) % 64 != 56) = false := by rw [bne_eq_false_iff_eq]; unfold ShaM.gap at hlt hj; omega
      obtain rfl : j = ShaM.gap s.size := by omega
      clear hb hbs hj
      go_wp2
      go_loopw [3, 5, 6] (fun nv ev i wr2 => ∃ (k : Nat) (e : ByteArray), k ≤ 8 ∧ i = .int .i64 k ∧ nv = .int .u64 ((8 * s.size / 256 ^ k : Nat) : Int) ∧ ev = .string e ∧ e.data.toList = lenL (8 * s.size) k ∧ Below w.heap.size w wr2) (fun _ _ i _ => 8 - (intOf i).toNat)
      case atStart => exact ⟨0, _, by omega, rfl, by rw [Nat.pow_zero, Nat.div_one]; congr 1; omega, rfl, rfl, Below.refl _ _⟩
      case round =>
        obtain ⟨k, e, hk, rfl, rfl, rfl, he, hbel⟩ := hrel
        have hstep : 8 * s.size / 256 ^ (k + 1) = 8 * s.size / 256 ^ k / 256 := by rw [Nat.pow_succ, Nat.div_div_eq_div_mul]
        have hle : 8 * s.size / 256 ^ k ≤ 8 * s.size := Nat.div_le_self _ _
        have hlen : lenL (8 * s.size) (k + 1) = UInt8.ofNat (8 * s.size / 256 ^ k) :: lenL (8 * s.size) k := rfl
        generalize 8 * s.size / 256 ^ k = m at *
        have Hstep := Lib.hid hstep; have Hlen := Lib.hid hlen; have He := Lib.hid he; have Hbel := Lib.hid hbel
        have hm : (m : Int) ≤ 800000000 := by omega
        clear hstep hlen he hbel hlt
        by_cases hk8 : k < 8
        · have hcv := Hcv.out
          have hs1 := fun x => strOfNums_size [x]
          have hes : e.size ≤ 8 := by rw [ba_size, He.out, lenL_length]; omega
          go_wp2
          go_roundw
          case rel => exact ⟨k + 1, _, by omega, by go_num, by rw [Hstep.out]; congr 1, rfl, by rw [ba_append, He.out, Hlen.out, byte_data]; rfl, Hbel.out.alloc Hbel.out.size _⟩
          case measure => simp [intOf]; omega
        · obtain rfl : k = 8 := by omega
          have hes : e.size ≤ 8 := by rw [ba_size, He.out, lenL_length]; omega
          have hfin : b ++ e = ⟨(ShaM.padded s.data.toList).toArray⟩ := ba_eq (by
            rw [ba_append, Hb.out, He.out, lenL8]
            have e1 : s.size = s.data.toList.length := by simp
            unfold ShaM.padded
            rw [← e1])
          have Hfin := Lib.hid hfin
          clear hfin
          go_wp2
          go_ret
          exact ⟨by rw [← Hfin.out]; rfl, Hbel.out⟩
end Go.Proofs.YtkdajlhmodmkoaaDoor
