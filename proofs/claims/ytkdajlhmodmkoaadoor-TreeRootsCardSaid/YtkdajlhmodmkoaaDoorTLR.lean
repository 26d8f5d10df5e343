/-
  Layer 8 (tree): TreeRoots walked.
-/
import Derived.Test.YtkdajlhmodmkoaaDoorTRS
namespace Go.Proofs.YtkdajlhmodmkoaaDoor
open Go.RowKit TreeM
set_option linter.unusedVariables false
set_option linter.unusedSimpArgs false

def docL (M : List ByteArray) (k : Nat) : List ByteArray := (List.range k).map fun i => root (M.take i)
theorem docL_length (M : List ByteArray) (k : Nat) : (docL M k).length = k := by simp [docL]
theorem docL_succ (M : List ByteArray) (k : Nat) : docL M (k + 1) = docL M k ++ [root (M.take k)] := by
  unfold docL; rw [List.range_succ, List.map_append]; rfl
set_option maxRecDepth 100000 in
set_option maxHeartbeats 8000000 in
theorem treeRoots_walk (A : Option Addr) (len cap : Nat) (L : List ByteArray) (a : Int) (ha : (Lit.int .u64 a).wf = true) {w : World} (hL : SRead w (.slice A len cap) L) (hT : Tab w) (hBru : Bru w) :
    Calls Tryd.prog 9 #[.slice A len cap, .int .u64 a] w fun e w' => e = .returned (.bool true) ∧ Below w.heap.size w w' := by
  obtain ⟨n, hn, rfl⟩ : ∃ n : Nat, n < 18446744073709551616 ∧ a = (n : Int) := by
    simp [Lit.wf, IntKind.min, IntKind.max, IntKind.signed, IntKind.bits] at ha
    exact ⟨a.toNat, by omega, by omega⟩
  obtain ⟨i9, hj, hy0, hy1, hy2⟩ := info_parts winfo9
  have HT0 := Lib.hid hT; have HB0 := Lib.hid hBru; have HL := Lib.hid hL
  clear hT hBru ha hL
  go_enter Tryd.func9, Tryd.ntmps9
  go_wp2_with fail
  refine (cut_any HL.out 24 (by decide)).mono ?_
  rintro e w1 ⟨⟨v1, rfl, ho1⟩, hb1⟩
  have hlen := cutL_length L 24
  have hsz : ∀ s ∈ cutL L 24, s.size ≤ 80000000 := fun s hs => by have := cutL_size L 24 s hs; omega
  generalize cutL L 24 = M at *
  have hl1 := ho1.read (by unfold maxLen; omega)
  obtain ⟨A1, cap1, hve, -, hc1⟩ := id hl1
  subst hve
  have hkc : ∀ k, k ≤ M.length → k ≤ cap1 := fun k hk => by
    by_cases hz : 0 < M.length
    · obtain ⟨b, o, h1, ⟨-, h2⟩, -⟩ := hc1 0 hz; omega
    · omega
  have Hsz := Lib.hid hsz; have Hl := Lib.hid hl1; have Hbel := Lib.hid hb1; have Hkc := Lib.hid hkc
  clear hsz ho1 hb1 HL hl1 hc1 hkc
  go_wp2_with fail
  refine (roots_any (HT0.out.below Hbel.out) (HB0.out.below Hbel.out) Hl.out Hsz.out (by omega)).mono ?_
  rintro e w2 ⟨⟨xv, rfl, ho2⟩, hb2⟩
  have hx := ho2.read (by rw [rootsL_length]; unfold maxLen; omega)
  obtain ⟨A2, cap2, hve, -, -⟩ := id hx
  rw [rootsL_length] at hve
  subst hve
  have HX := Lib.hid hx; have HW := Lib.hid (Hbel.out.trans (hb2.mono Hbel.out.size)); have HL2 := Lib.hid (Hl.out.below hb2 rfl)
  have H0 := Lib.hid (And.intro (SOwn.new (w := w2) (Nat.le_refl _)) (alloc_below' w2 (.cells #[] 9)))
  clear hx ho2 hb2 Hl Hbel
  go_wp2
  go_loopw [6, 7] (fun v i wr => ∃ (k : Nat), k ≤ M.length + 1 ∧ i = .int .i64 (k : Int) ∧ SOwn w2.heap.size wr v (docL M k) ∧ Below w2.heap.size w2 wr) (fun _ i _ => M.length + 1 - (intOf i).toNat)
  case atStart => exact ⟨0, by omega, rfl, H0.out.1, H0.out.2⟩
  case round =>
    clear H0
    obtain ⟨k, hk, rfl, hown, hbel⟩ := hrel
    by_cases hle : k ≤ M.length
    · have l0 : (k : Int) ≤ (M.length : Int) := by omega
      have hkc := Hkc.out k hle
      have q1 : (k : Int) ≤ (cap1 : Int) := by omega
      have Hown := Lib.hid hown; have Hb := Lib.hid hbel
      clear hown hbel
      go_wp2_with fail
      have hsz1 : ∀ s ∈ M.take k, s.size ≤ 80000000 := fun s hs => Hsz.out s (List.mem_of_mem_take hs)
      refine (rroot_any (SRead.take (HL2.out.below Hb.out rfl) k hle) hsz1 (by rw [List.length_take]; omega)).mono ?_
      rintro e w5 ⟨rfl, hb5⟩
      have hsuc := docL_succ M k
      generalize root (M.take k) = R at *
      have ho5 := Hown.out.below hb5
      have hro5' : w5.ownsRow w2.heap.size 9 1 u6 k (svals (docL M k)) := by have := ho5; unfold SOwn at this; rwa [docL_length] at this
      have hroA := own_alloc' hro5' (.cells #[.string R] 9)
      have hW5 := Hb.out.trans (hb5.mono Hb.out.size)
      have hWA := hW5.alloc hW5.size (.cells #[.string R] 9)
      have HWA := Lib.hid hWA; have Hsuc := Lib.hid hsuc
      clear ho5 hro5' hW5 hWA hb5 hsuc Hown Hb hsz1
      go_wp2_with (at_builtin; refine wpList_appendN rfl _ _ 25 rfl w2.heap.size 9 i9 (.string ⟨#[]⟩) 16 Tryd.underlying25 hj hy0 hy1 hy2 rfl _ _ _ rfl hroA w5.heap.size 1 rfl #[.string R] _ _ (heap_alloc_new _ _) rfl (by decide) (by intro u hu; simp at hu; rcases hu with rfl; rfl) (by unfold maxLen; omega) (by omega) HWA.out.size ?_)
      intro v' w6 ho hg hv
      have hro6 : SOwn w2.heap.size w6 v' (docL M (k + 1)) := by unfold SOwn; rw [Hsuc.out, svals_append, List.length_append, docL_length]; exact ho
      have hW6 : Below w2.heap.size w2 w6 := HWA.out.grown hg HWA.out.size (fun k hk => (hroA.lt k hk).1)
      have HM := Lib.hid (And.intro hro6 hW6)
      clear hro6 hW6 ho hg hv hroA HWA Hsuc
      go_wp2
      go_roundw
      case rel => exact ⟨k + 1, by omega, by go_num, HM.out.1, HM.out.2⟩
      case measure => simp [intOf] <;> omega
    · obtain rfl : k = M.length + 1 := by omega
      have hdoc : docL M (M.length + 1) = rootsL M M.length := rfl
      rw [hdoc] at hown
      have hy := hown.read (by rw [rootsL_length]; unfold maxLen; omega)
      have hX := HX.out.below hbel rfl
      have hbT := HW.out.trans (hbel.mono HW.out.size)
      have Hs0 := Lib.hid (And.intro hX hy); have HbT := Lib.hid hbT; have HLT := Lib.hid (HL2.out.below hbel rfl)
      have l1 : ((M.length : Int) + 1 ≤ (M.length : Int)) = False := eq_false (by omega)
      clear hy hX hbT hown hbel hdoc hle hk HX HW HL2
      go_wp2_with fail
      refine (split_any n hn _).mono ?_
      rintro e _ ⟨rfl, rfl⟩
      rename World => w3
      go_wp2_with fail
      refine (rsplit_all n hn _).mono ?_
      rintro e _ ⟨rfl, rfl⟩
      rename World => w3
      generalize split n = K
      go_wp2_with fail
      refine (root_any (HT0.out.below HbT.out) HLT.out Hsz.out (by omega)).mono ?_
      rintro e w4 ⟨rfl, hb4⟩
      have HbT4 := Lib.hid (HbT.out.trans (hb4.mono HbT.out.size)); have HLT4 := Lib.hid (HLT.out.below hb4 rfl); have Hs4 := Lib.hid (And.intro (Hs0.out.1.below hb4 rfl) (Hs0.out.2.below hb4 rfl))
      clear hb4 HbT HLT Hs0
      go_wp2_with fail
      refine (rroot_any HLT4.out Hsz.out (by omega)).mono ?_
      rintro e w5 ⟨rfl, hb4⟩
      have HbT5 := Lib.hid (HbT4.out.trans (hb4.mono HbT4.out.size)); have Hs5 := Lib.hid (And.intro (Hs4.out.1.below hb4 rfl) (Hs4.out.2.below hb4 rfl))
      clear hb4 HbT4 HLT4 Hs4
      generalize root M = R
      go_wp2_with fail
      refine (same_any Hs5.out.1 Hs5.out.2).mono ?_
      rintro e w8 ⟨rfl, n8, rfl⟩
      have Hbel8 := Lib.hid (below_drewN' HbT5.out n8)
      clear HbT5 Hs5
      go_wp2_with fail
      refine (tfixed_any (HT0.out.below Hbel8.out) (HB0.out.below Hbel8.out)).mono ?_
      rintro e w9 ⟨rfl, hb9⟩
      have Hbel9 := Lib.hid (Hbel8.out.trans (hb9.mono Hbel8.out.size))
      go_wp2
      go_ret
      exact ⟨rfl, Hbel9.out⟩
theorem treeRoots_walk' (A : Option Addr) (len cap : Nat) (L : List ByteArray) {w : World} (hL : SRead w (.slice A len cap) L ∧ ∀ s ∈ L, s.size ≤ maxLen) (a : Int) (ha : (Lit.int .u64 a).wf = true) (hT : Tab w) (hBru : Bru w) :
    Calls Tryd.prog 9 #[.slice A len cap, .int .u64 a] w fun e w' => e = .returned (.bool true) ∧ Below w.heap.size w w' := treeRoots_walk A len cap L a ha hL.1 hT hBru
end Go.Proofs.YtkdajlhmodmkoaaDoor
