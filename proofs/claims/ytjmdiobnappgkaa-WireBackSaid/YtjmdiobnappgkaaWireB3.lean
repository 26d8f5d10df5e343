/-
  Layer 11 (wire): plain laws for WireBack: a script's parts, written and read back.
-/
import Derived.Test.YtjmdiobnappgkaaWireB2
namespace Go.Proofs.Ytjmdiobnappgkaa
set_option linter.unusedVariables false
set_option linter.unusedSimpArgs false

def PartV.str (o : PartV) : ByteArray := o.S.extract 0 (min o.S.size 100)
theorem PartV.str_size (o : PartV) : o.str.size ≤ 100 := by unfold PartV.str; rw [ByteArray.size_extract]; omega
/-- The bytes of a part. -/
def pb (o : PartV) : List UInt8 := if o.K = 0 then [UInt8.ofNat (o.N &&& 255)] else if o.K = 1 then numL o.N else if o.K = 2 then o.str.data.toList else (blobStr o.str).data.toList
/-- The reader behind a part. -/
def rp (y : RD) (o : PartV) : RD := if o.K = 0 then y.takeX 1 else if o.K = 1 then y.numX else if o.K = 2 then y.takeX (o.str.size : Int) else y.blobX 100
theorem rp_ok {y : RD} {o : PartV} {rest : List UInt8} (hN : o.N < 18446744073709551616) (he : y.e = 0) (hs : y.s.data.toList = pb o ++ rest) : rp y o = ⟨⟨rest.toArray⟩, 0⟩ := by
  unfold pb at hs; unfold rp
  split
  · rename_i h; rw [if_pos h] at hs; exact (take_ok he hs).2
  · rename_i h; rw [if_neg h] at hs
    split
    · rename_i h1; rw [if_pos h1] at hs; exact (num_ok hN he hs).2
    · rename_i h1; rw [if_neg h1] at hs
      split
      · rename_i h2; rw [if_pos h2] at hs; have := (take_ok he hs).2; rw [list_size] at this; exact this
      · rename_i h2; rw [if_neg h2] at hs; exact (blob_ok o.str_size he hs).2
theorem rp_short {y : RD} {o : PartV} {j : Nat} (hN : o.N < 18446744073709551616) (he : y.e = 0) (hj : j < (pb o).length) (hs : y.s.data.toList = (pb o).take j) : (rp y o).e = 2 := by
  have hsz : y.s.size = min j (pb o).length := by rw [← list_size, hs, List.length_take]
  unfold pb at hs hj hsz; unfold rp
  split
  · rename_i h; rw [if_pos h] at hj hsz
    have := take_short he 1 (by simp at hj hsz; omega)
    exact this
  · rename_i h; rw [if_neg h] at hs hj hsz
    split
    · rename_i h1; rw [if_pos h1] at hs hj; exact num_short hN he hj hs
    · rename_i h1; rw [if_neg h1] at hs hj hsz
      split
      · rename_i h2; rw [if_pos h2, list_size] at hj hsz; exact take_short he _ (by omega)
      · rename_i h2; rw [if_neg h2] at hs hj; rw [list_size] at hj; exact blob_short o.str_size he hj hs
theorem rp_err {y : RD} (o : PartV) (he : ¬ y.e = 0) : rp y o = y := by
  unfold rp
  split
  · exact (err_raw he 1).2
  · split
    · exact (err_num he).2
    · split
      · exact (err_raw he _).2
      · exact (err_blob he _).2
def allB (ops : Nat → PartV) : Nat → List UInt8
  | 0 => []
  | k + 1 => allB ops k ++ pb (ops k)
theorem allB_pre (ops : Nat → PartV) (k : Nat) : ∀ n, k ≤ n → ∃ rest, allB ops n = allB ops k ++ rest
  | 0, h => ⟨[], by have : k = 0 := by omega
                    subst this; simp⟩
  | n + 1, h => by
    rcases Nat.lt_or_ge n k with h1 | h1
    · have : k = n + 1 := by omega
      subst this; exact ⟨[], by simp⟩
    · obtain ⟨r, hr⟩ := allB_pre ops k n h1
      exact ⟨r ++ pb (ops n), by rw [allB, hr, List.append_assoc]⟩
/-- The whole reader ahead of part k. -/
def WholeI (ops : Nat → PartV) (n k : Nat) (y : RD) : Prop := y.e = 0 ∧ y.s.data.toList = (allB ops n).drop (allB ops k).length
/-- The reader of the first c bytes ahead of part k. -/
def ShortI (ops : Nat → PartV) (c n k : Nat) (z : RD) : Prop :=
  (z.e = 0 ∧ (allB ops k).length ≤ c ∧ z.s.data.toList = ((allB ops n).take c).drop (allB ops k).length) ∨ (z.e = 2 ∧ c < (allB ops n).length)
theorem whole_at {ops : Nat → PartV} {n k : Nat} {y : RD} (h : WholeI ops n k y) (hk : k < n) : ∃ rest, y.s.data.toList = pb (ops k) ++ rest ∧ rest = (allB ops n).drop (allB ops (k + 1)).length := by
  obtain ⟨rest, hr⟩ := allB_pre ops (k + 1) n hk
  have e : allB ops n = allB ops k ++ (pb (ops k) ++ rest) := by rw [hr, allB, List.append_assoc]
  refine ⟨rest, ?_, ?_⟩
  · rw [h.2, e]; simp
  · rw [hr]; simp
theorem whole_step {ops : Nat → PartV} {n k : Nat} {y : RD} (h : WholeI ops n k y) (hk : k < n) (hN : (ops k).N < 18446744073709551616) : WholeI ops n (k + 1) (rp y (ops k)) := by
  obtain ⟨rest, h1, h2⟩ := whole_at h hk
  rw [rp_ok hN h.1 h1]
  exact ⟨rfl, by rw [← h2]⟩
theorem short_step {ops : Nat → PartV} {c n k : Nat} {z : RD} (h : ShortI ops c n k z) (hk : k < n) (hN : (ops k).N < 18446744073709551616) : ShortI ops c n (k + 1) (rp z (ops k)) := by
  obtain ⟨rest, hr⟩ := allB_pre ops (k + 1) n hk
  have e : allB ops n = allB ops k ++ (pb (ops k) ++ rest) := by rw [hr, allB, List.append_assoc]
  have el : (allB ops (k + 1)).length = (allB ops k).length + (pb (ops k)).length := by rw [allB, List.length_append]
  rcases h with ⟨he, hc, hs⟩ | ⟨he, hc⟩
  · have hs2 : z.s.data.toList = (pb (ops k) ++ rest).take (c - (allB ops k).length) := by
      rw [hs, e, List.take_append, List.take_of_length_le hc]; simp
    rcases Nat.lt_or_ge (c - (allB ops k).length) (pb (ops k)).length with hlt | hge
    · right
      rw [List.take_append_of_le_length (by omega)] at hs2
      refine ⟨rp_short hN he hlt hs2, ?_⟩
      rw [e, List.length_append, List.length_append]; omega
    · left
      rw [List.take_append, List.take_of_length_le hge] at hs2
      rw [rp_ok hN he hs2]
      refine ⟨rfl, by omega, ?_⟩
      show (rest.take (c - (allB ops k).length - (pb (ops k)).length)) = _
      rw [hr, List.take_append, List.take_of_length_le (show (allB ops (k + 1)).length ≤ c by omega), List.drop_left, el, Nat.sub_sub]
  · right
    rw [rp_err _ (by omega)]
    exact ⟨he, hc⟩
theorem whole_end {ops : Nat → PartV} {n : Nat} {y : RD} (h : WholeI ops n n y) : y.endV = 0 ∧ y.s.size = 0 := by
  have h2 : y.s.size = 0 := by rw [← list_size, h.2]; simp
  exact ⟨by rw [RD.endV, if_pos h.1, if_pos h2], h2⟩
theorem short_end {ops : Nat → PartV} {c n : Nat} {z : RD} (h : ShortI ops c n n z) (hc : c < (allB ops n).length) : z.endV = 2 := by
  rcases h with ⟨_, h, _⟩ | ⟨h, _⟩
  · omega
  · rw [RD.endV, if_neg (by omega), h]
end Go.Proofs.Ytjmdiobnappgkaa
