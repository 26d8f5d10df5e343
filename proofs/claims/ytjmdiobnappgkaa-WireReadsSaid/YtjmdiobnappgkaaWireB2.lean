/-
  Layer 11 (wire): plain laws for WireBack: a part read back.
-/
import Derived.Test.YtjmdiobnappgkaaWireB
namespace Go.Proofs.Ytjmdiobnappgkaa
set_option linter.unusedVariables false
set_option linter.unusedSimpArgs false

theorem ba_list {a b : ByteArray} (h : a.data.toList = b.data.toList) : a = b := ba_ext (Array.ext' h)
theorem list_size (s : ByteArray) : s.data.toList.length = s.size := by rw [Array.length_toList]; rfl
theorem extract_list (s : ByteArray) (a b : Nat) : (s.extract a b).data.toList = (s.data.toList.drop a).take (b - a) := Lib.extract_data s a b
/-- take, of a reader whose bytes begin with l. -/
theorem take_ok {y : RD} {l rest : List UInt8} (he : y.e = 0) (hs : y.s.data.toList = l ++ rest) : y.takeS (l.length : Int) = ⟨l.toArray⟩ ∧ y.takeX (l.length : Int) = ⟨⟨rest.toArray⟩, 0⟩ := by
  have hz : y.s.size = l.length + rest.length := by rw [← list_size, hs, List.length_append]
  constructor
  · rw [RD.takeS, if_pos ⟨he, by omega, by omega⟩]
    apply ba_list
    rw [extract_list, hs, Int.toNat_natCast]; simp
  · rw [RD.takeX, if_pos he, if_neg (by omega), if_neg (by omega)]
    have : y.s.extract (l.length : Int).toNat y.s.size = ⟨rest.toArray⟩ := by
      apply ba_list
      rw [extract_list, hs, Int.toNat_natCast, hz]; simp
    rw [this, he]
theorem take_short {y : RD} (he : y.e = 0) (n : Nat) (h : y.s.size < n) : (y.takeX (n : Int)).e = 2 := by
  rw [RD.takeX, if_pos he, if_neg (by omega), if_pos (by omega)]
theorem num_ok {y : RD} {n : Nat} {rest : List UInt8} (hn : n < 18446744073709551616) (he : y.e = 0) (hs : y.s.data.toList = numL n ++ rest) : y.numV = n ∧ y.numX = ⟨⟨rest.toArray⟩, 0⟩ := by
  have hz : y.s.size = (numL n).length + rest.length := by rw [← list_size, hs, List.length_append]
  have h := numF_read n rest hn
  rw [← hs] at h
  constructor
  · rw [RD.numV, if_pos he, h]
  · rw [RD.numX, if_pos he, h]
    have : y.s.extract (numL n).length y.s.size = ⟨rest.toArray⟩ := by
      apply ba_list
      rw [extract_list, hs, hz]; simp
    show RD.mk (y.s.extract (numL n).length y.s.size) y.e = _
    rw [this, he]
theorem num_short {y : RD} {n j : Nat} (hn : n < 18446744073709551616) (he : y.e = 0) (hj : j < (numL n).length) (hs : y.s.data.toList = (numL n).take j) : y.numX.e = 2 := by
  have h := numF_short n j hn hj
  rw [← hs] at h
  rw [RD.numX, if_pos he, h]
theorem blobStr_list (s : ByteArray) : (blobStr s).data.toList = numL s.size ++ s.data.toList := by
  rw [blobStr, ByteArray.data_append]; simp
theorem blob_ok {y : RD} {s : ByteArray} {rest : List UInt8} (hsz : s.size ≤ 100) (he : y.e = 0) (hs : y.s.data.toList = (blobStr s).data.toList ++ rest) : y.blobS 100 = s ∧ y.blobX 100 = ⟨⟨rest.toArray⟩, 0⟩ := by
  rw [blobStr_list, List.append_assoc] at hs
  obtain ⟨h1, h2⟩ := num_ok (by omega) he hs
  have h3 := take_ok (y := ⟨⟨(s.data.toList ++ rest).toArray⟩, 0⟩) (l := s.data.toList) (rest := rest) rfl (by simp)
  rw [list_size] at h3
  have h4 : (⟨s.data.toList.toArray⟩ : ByteArray) = s := ba_self s
  constructor
  · rw [RD.blobS, h1, h2, if_pos ⟨rfl, by omega, by omega⟩, h3.1, h4]
  · rw [RD.blobX, h1, h2, if_pos rfl, if_pos ⟨by omega, by omega⟩, h3.2, RD.back, if_pos rfl]
theorem blob_short {y : RD} {s : ByteArray} {j : Nat} (hsz : s.size ≤ 100) (he : y.e = 0) (hj : j < (blobStr s).size) (hs : y.s.data.toList = (blobStr s).data.toList.take j) : (y.blobX 100).e = 2 := by
  rw [← list_size, blobStr_list, List.length_append, list_size] at hj
  rw [blobStr_list] at hs
  rcases Nat.lt_or_ge j (numL s.size).length with h | h
  · rw [List.take_append_of_le_length (by omega)] at hs
    have h1 := num_short (by omega) he h hs
    rw [RD.blobX, if_neg (by omega)]; exact h1
  · rw [List.take_append, List.take_of_length_le h] at hs
    obtain ⟨h1, h2⟩ := num_ok (by omega) he hs
    have h3 := take_short (y := ⟨⟨(s.data.toList.take (j - (numL s.size).length)).toArray⟩, 0⟩) rfl s.size (by
      rw [← list_size]; simp; omega)
    rw [RD.blobX, h1, h2, if_pos rfl, if_pos ⟨by omega, by omega⟩, RD.back]
    split
    · exact h3
    · exact h3
end Go.Proofs.Ytjmdiobnappgkaa
