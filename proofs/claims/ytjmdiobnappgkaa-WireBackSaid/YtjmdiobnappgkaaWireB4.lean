/-
  Layer 11 (wire): plain laws for WireBack: each part, as the walk writes and reads it.
-/
import Derived.Test.YtjmdiobnappgkaaWireB3
namespace Go.Proofs.Ytjmdiobnappgkaa
set_option linter.unusedVariables false
set_option linter.unusedSimpArgs false

section
variable {o : PartV}
theorem pb_byte (h : o.K = 0) {nb : Nat} (hnb : nb = o.N &&& 255) (hl : nb ≤ 255) : (byteStr (nb : Int)).data.toList = pb o := by
  unfold pb; rw [if_pos h, ← hnb]
  show [UInt8.ofNat (((nb : Int) % 256).toNat)] = _
  rw [show ((nb : Int) % 256).toNat = nb by omega]
theorem pb_num (h : o.K = 1) : (⟨(numL o.N).toArray⟩ : ByteArray).data.toList = pb o := by
  unfold pb; rw [if_neg (by omega), if_pos h]
theorem pb_raw (h : o.K = 2) : o.str.data.toList = pb o := by
  unfold pb; rw [if_neg (by omega), if_neg (by omega), if_pos h]
theorem pb_blob (h0 : ¬ o.K = 0) (h1 : ¬ o.K = 1) (h2 : ¬ o.K = 2) : (blobStr o.str).data.toList = pb o := by
  unfold pb; rw [if_neg h0, if_neg h1, if_neg h2]
theorem pb_len (hN : o.N < 18446744073709551616) : (pb o).length ≤ 110 := by
  have h1 := o.str_size
  unfold pb
  split
  · simp
  · split
    · have := numL_len10 o.N hN; omega
    · split
      · rw [list_size]; omega
      · rw [list_size]; have := blobStr_size o.str (by omega); omega
end
theorem allB_len {ops : Nat → PartV} {k : Nat} {o : PartV} (hop : ops k = o) (hN : o.N < 18446744073709551616) (h : (allB ops k).length ≤ 110 * k) : (allB ops (k + 1)).length ≤ 110 * (k + 1) := by
  have := pb_len hN
  rw [allB, List.length_append, hop]; omega
theorem bk_put {ops : Nat → PartV} {k : Nat} {o : PartV} {s : ByteArray} (hop : ops k = o) (h : s.data.toList = pb o) (so : Bool) (hso : so = true) (e : Nat) : (⟨allB ops k, 0⟩ : WS).put so e s = ⟨allB ops (k + 1), 0⟩ := by
  subst hso; rw [WS.put, if_pos rfl, if_pos rfl, h, allB, hop]
section
variable {ops : Nat → PartV} {n k : Nat} {y : RD} {o : PartV}
theorem wb_byte (h : WholeI ops n k y) (hk : k < n) (hop : ops k = o) (hK : o.K = 0) {nb : Nat} (hnb : nb = o.N &&& 255) (hl : nb ≤ 255) : (y.byteV : Int) = (nb : Int) := by
  obtain ⟨rest, h1, _⟩ := whole_at h hk
  rw [hop] at h1
  rw [← pb_byte hK hnb hl] at h1
  have h2 : y.s.data.toList = UInt8.ofNat nb :: rest := by
    rw [h1]
    show UInt8.ofNat (((nb : Int) % 256).toNat) :: rest = _
    rw [show ((nb : Int) % 256).toNat = nb by omega]
  have hz : y.s.size = rest.length + 1 := by rw [← list_size, h2]; simp
  have hz0 : 0 < y.s.size := by omega
  have hz1 : 0 < y.s.data.size := hz0
  have hb : y.byteV = y.s[0].toNat := by rw [RD.byteV, if_pos h.1, dif_pos hz0]
  have h3 : y.s[0] = UInt8.ofNat nb := by
    show y.s.data[0] = _
    have h4 : y.s.data.toList[0]? = some (UInt8.ofNat nb) := by rw [h2]; rfl
    rw [Array.getElem?_toList, Array.getElem?_eq_getElem hz1] at h4
    exact Option.some.inj h4
  rw [hb, h3]
  simp [Nat.mod_eq_of_lt (show nb < 256 by omega)]
theorem wb_num (h : WholeI ops n k y) (hk : k < n) (hop : ops k = o) (hN : o.N < 18446744073709551616) (hK : o.K = 1) : (y.numV : Int) = (o.N : Int) := by
  obtain ⟨rest, h1, _⟩ := whole_at h hk
  rw [hop, ← pb_num hK] at h1
  rw [(num_ok hN h.1 h1).1]
theorem wb_raw (h : WholeI ops n k y) (hk : k < n) (hop : ops k = o) (hK : o.K = 2) : y.takeS (o.str.size : Int) = o.str := by
  obtain ⟨rest, h1, _⟩ := whole_at h hk
  rw [hop, ← pb_raw hK] at h1
  have := (take_ok h.1 h1).1
  rw [list_size] at this
  exact this.trans (ba_self _)
theorem wb_blob (h : WholeI ops n k y) (hk : k < n) (hop : ops k = o) (h0 : ¬ o.K = 0) (h1 : ¬ o.K = 1) (h2 : ¬ o.K = 2) : y.blobS 100 = o.str := by
  obtain ⟨rest, e1, _⟩ := whole_at h hk
  rw [hop, ← pb_blob h0 h1 h2] at e1
  exact (blob_ok o.str_size h.1 e1).1
end
section
variable {ops : Nat → PartV} {k : Nat} {o : PartV} (hop : ops k = o) (y : RD)
include hop
theorem rp_byte (h : o.K = 0) : y.takeX 1 = rp y (ops k) := by rw [hop, rp, if_pos h]
theorem rp_num (h : o.K = 1) : y.numX = rp y (ops k) := by rw [hop, rp, if_neg (by omega), if_pos h]
theorem rp_raw (h : o.K = 2) : y.takeX (o.str.size : Int) = rp y (ops k) := by rw [hop, rp, if_neg (by omega), if_neg (by omega), if_pos h]
theorem rp_blob (h0 : ¬ o.K = 0) (h1 : ¬ o.K = 1) (h2 : ¬ o.K = 2) : y.blobX 100 = rp y (ops k) := by rw [hop, rp, if_neg h0, if_neg h1, if_neg h2]
end
theorem whole_start (ops : Nat → PartV) (n : Nat) {T : ByteArray} (h : (⟨allB ops n, 0⟩ : WS).text = T) : WholeI ops n 0 ⟨T, 0⟩ := by
  subst h
  refine ⟨rfl, ?_⟩
  rw [WS.text, if_pos rfl]; simp [allB]
theorem short_start (ops : Nat → PartV) (n c : Nat) {T : ByteArray} (h : (⟨allB ops n, 0⟩ : WS).text = T) : ShortI ops c n 0 ⟨T.extract 0 c, 0⟩ := by
  subst h
  refine .inl ⟨rfl, Nat.zero_le _, ?_⟩
  rw [WS.text, if_pos rfl]
  show ((⟨(allB ops n).toArray⟩ : ByteArray).extract 0 c).data.toList = _
  rw [extract_list]; simp [allB]
theorem text_size (ops : Nat → PartV) (n : Nat) {T : ByteArray} (h : (⟨allB ops n, 0⟩ : WS).text = T) : T.size = (allB ops n).length := by
  subst h; rw [WS.text, if_pos rfl]; exact List.size_toArray ..
end Go.Proofs.Ytjmdiobnappgkaa
