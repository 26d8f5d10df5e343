/-
  Layer 11 (wire): WireNums walked.
-/
import Derived.Test.YtjmdiobnappgkaaWireL
namespace Go.Proofs.Ytjmdiobnappgkaa
open Go.RowKit
set_option linter.unusedVariables false
set_option linter.unusedSimpArgs false
theorem str_size' (x : List UInt8) : (⟨x.toArray⟩ : ByteArray).size = x.length := List.size_toArray ..
section
variable {w w' : World} {base g : Nat}
set_option maxRecDepth 100000 in
set_option maxHeartbeats 400000 in
theorem put_new (hblk : Blk w g 62 #[.slice none 0 0, .int .i64 0]) (hb : base ≤ g) (s : ByteArray) (hs : s.size ≤ 1000) : Calls Try.prog 94 #[.pointer (some ⟨g, 0, none⟩), .bool true, .int .i64 0, .string s] w fun r w' => r = .returned (.tuple #[]) ∧ ∃ v', IsW w' base g v' ⟨s.data.toList, 0⟩ ∧ Only w.heap.size [g] w w' := by
  obtain ⟨i0, hi, hz0, hz1, hz2⟩ := info_parts winfo5
  have c0 : w.cell? ⟨g, 0, none⟩ = some (.slice none 0 0) := hblk.cell 0
  have c1 : w.cell? ⟨g, 1, none⟩ = some (.int .i64 0) := hblk.cell 1
  have f0 := hblk.frozen 0
  have hgl := hblk.lt
  have hnil : w.ownsRow base 5 1 (.slice none 0 0) 0 [] := World.ownsRow_nil _ _ _ _
  have H := Lib.hid hblk; clear hblk
  go_enter Try.func94, Try.ntmps94
  go_wp2_with (at_builtin; refine wpList_append_o rfl _ _ 30 9 rfl base 5 i0 _ 1 1 Try.underlying30 hi hz0 hz1 hz2 rfl _ _ _ rfl hnil _ s.size (bvals s.data.toList) rfl (Src.ofString (P := Try.prog) w Try.underlying9 s) (by unfold maxLen; omega) (by omega) (by omega) ?_)
  intro v' w3 hown3 hg3 hv3
  have hown3' : w3.ownsRow base 5 1 v' s.size (bvals s.data.toList) := by simpa using hown3
  obtain ⟨A', c', rfl, hl3⟩ := own_form hown3'
  have hb3 : Blk w3 g 62 #[.slice none 0 0, .int .i64 0] := H.out.grown hg3 (by simp [Value.ownBlock])
  have c03 : w3.cell? ⟨g, 0, none⟩ = some (.slice none 0 0) := hb3.cell 0
  have f03 : w3.frozen? ⟨g, 0, none⟩ = false := hb3.frozen 0
  have hne : (Value.slice A' s.size c').ownBlock ≠ some g := by
    intro hc
    rcases hv3 with h1 | h1
    · rw [hc] at h1; simp [Value.ownBlock] at h1
    · rw [hc] at h1; injection h1 with h1; omega
  have ho3 : Only w.heap.size [g] w w3 := (Only.refl w.heap.size [g] w).grown hg3 (Nat.le_refl _) (by intro q hq; simp [Value.ownBlock] at hq)
  have hlen : s.data.toList.length = s.size := by rw [Array.length_toList]; rfl
  have hw : IsW (w3.setCell ⟨g, 0, none⟩ (.slice A' s.size c')) base g (.slice A' s.size c') ⟨s.data.toList, 0⟩ := by
    refine ⟨hb3.set_ 0 _, hb, ?_⟩
    have := own_set_far (p := ⟨g, 0, none⟩) hown3' hne (.slice A' s.size c')
    show World.ownsRow _ base 5 1 _ s.data.toList.length (bvals s.data.toList)
    rw [hlen]; exact this
  have ho4 := ho3.setCell (p := ⟨g, 0, none⟩) (.inl (by simp)) (.slice A' s.size c')
  have H4 := Lib.hid hw; have O4 := Lib.hid ho4
  clear hown3 hown3' hg3 hv3 hl3 hb3 hne ho3 hw ho4 hnil
  go_wp2
  go_end0
  exact ⟨rfl, _, H4.out, O4.out⟩
set_option maxRecDepth 100000 in
theorem num_new (hblk : Blk w g 62 #[.slice none 0 0, .int .i64 0]) (hb : base ≤ g) (n : Nat) (hn : n < 18446744073709551616) : Calls Try.prog 51 #[.pointer (some ⟨g, 0, none⟩), .int .u64 (n : Int)] w fun r w' => r = .returned (.tuple #[]) ∧ ∃ v', IsW w' base g v' ⟨numL n, 0⟩ ∧ Only w.heap.size [g] w w' := by
  go_enter Try.func51, Try.ntmps51
  go_wp2_with fail
  refine (number_any n hn w).mono ?_
  rintro e w1 ⟨rfl, hb1⟩
  have h1 := (Spare.ofBelow (T := []) hb1).blk hblk (by simp)
  go_wp2_with fail
  refine (put_new h1 hb ⟨(numL n).toArray⟩ (by rw [str_size']; have := numL_len10 n hn; omega)).mono ?_
  rintro e w2 ⟨rfl, v', h2, o2⟩
  have H2 := Lib.hid h2; have O2 := Lib.hid ((Only.ofBelow hb1 [g]).trans (o2.mono hb1.size (fun _ _ h => h)))
  clear h2 o2 hb1 h1 hblk
  go_wp2
  go_end0
  exact ⟨rfl, v', by simpa using H2.out, O2.out⟩
end
end Go.Proofs.Ytjmdiobnappgkaa
