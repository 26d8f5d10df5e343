/-
  Layer 2 (sha): ShaNodes walked.
-/
import Derived.Test.YtkdajlhmodmkoaaDoorShaL8
import Derived.Test.YtkdajlhmodmkoaaDoorTO
namespace Go.Proofs.YtkdajlhmodmkoaaDoor
open Go.RowKit
set_option linter.unusedVariables false
set_option linter.unusedSimpArgs false

set_option maxRecDepth 100000 in
set_option maxHeartbeats 8000000 in
theorem shaNodes_walk (a : ByteArray) (ha : a.size ≤ maxLen) (b : ByteArray) (hb : b.size ≤ maxLen) (A : Option Addr) (len cap : Nat) (L : List ByteArray) {w : World} (hL : SRead w (.slice A len cap) L) (hT : Tab w) :
    Calls Tryd.prog 4 #[.string a, .string b, .slice A len cap] w fun e w' => e = .returned (.bool true) ∧ Below w.heap.size w w' := by
  obtain ⟨m, -, h0, h1, h2, h3, hmin⟩ := cut_min a 200 200 rfl
  obtain ⟨n, -, k0, k1, k2, k3, kmin⟩ := cut_min b 200 200 rfl
  have hx := ext_le a m; have hy := ext_le b n
  obtain ⟨A', cap', he, hm, hc⟩ := hL
  injection he with e1 e2 e3
  subst e1 e2 e3
  have hm' : L.length ≤ 9223372036854775807 := hm
  have HT0 := Lib.hid hT; have Hc := Lib.hid hc
  clear hT hc hm
  go_enter Tryd.func4, Tryd.ntmps4
  go_wp2_with fail
  obtain ⟨x, hxe⟩ : ∃ x, a.extract 0 m = x := ⟨_, rfl⟩
  obtain ⟨y, hye⟩ : ∃ y, b.extract 0 n = y := ⟨_, rfl⟩
  rw [hxe] at hx; rw [hye] at hy
  rw [hxe, hye]
  clear hxe hye hmin kmin h0 h1 h2 k0 k1 k2
  refine (start_any _).mono ?_
  rintro e w1 ⟨⟨v1, rfl, h1⟩, hb1⟩
  obtain ⟨c1, rfl, hs1, ha1, hi1, hr1⟩ := h1.form
  have hB1 : Blk (w1.alloc (.cells Tryd.zeroCells30 30)) w1.heap.size 30 Tryd.zeroCells30 := Blk.new _ _ _
  have hB1' := hB1.setRow c1
  have hbA : Below w.heap.size w ((w1.alloc (.cells Tryd.zeroCells30 30)).setRow w1.heap.size c1) := below_setRow (hb1.alloc hb1.size _) hb1.size c1
  have hg1 : w.heap.size ≤ w1.heap.size := hb1.size
  have H0 : Hid (RunAt ((w1.alloc (.cells Tryd.zeroCells30 30)).setRow w1.heap.size c1) w1.heap.size [] ∧ Below w.heap.size w ((w1.alloc (.cells Tryd.zeroCells30 30)).setRow w1.heap.size c1)) := Lib.hid ⟨hr1.at_ hB1', hbA⟩
  clear hb1 h1 hr1 hB1' hbA
  go_wp2_with (refine wpList_store_row rfl 30 (Operand.tmp 7) (Operand.tmp 22) rfl w1.heap.size c1 (by rfl) (by rfl) 30 _ hB1 hi1 (hs1.symm ▸ rfl) ha1 ?_)
  generalize (w1.alloc (.cells Tryd.zeroCells30 30)).setRow w1.heap.size c1 = wA at *
  generalize w1.heap.size = g at *
  clear hB1
  go_loopw [8, 9, 10, 11] (fun v i _ _ wx => ∃ (k : Nat) (all : ByteArray), k ≤ L.length ∧ k ≤ 12 ∧ v = .string all ∧ i = .int .i64 (k : Int) ∧ all.size ≤ 200 * k ∧ RunAt wx g all.data.toList ∧ Below w.heap.size w wx) (fun _ i _ _ _ => 12 - (intOf i).toNat)
  case atStart => exact ⟨0, ⟨#[]⟩, by omega, by omega, rfl, rfl, Nat.le_refl _, H0.out.1, H0.out.2⟩
  case round =>
    clear H0
    obtain ⟨k, all, hk1, hk2, rfl, rfl, hal, hrun, hbel⟩ := hrel
    obtain ⟨c, hB, hs, hi, hr⟩ := hrun
    have HT := Lib.hid (HT0.out.below hbel)
    have Hr := Lib.hid hr; have Hbel := Lib.hid hbel
    clear hr hbel
    have hall : all.data.toList.length = all.size := (ba_size all).symm
    by_cases hlt : k < L.length ∧ k < 12
    · obtain ⟨hlt1, hlt2⟩ := hlt
      obtain ⟨bq, oq, rfl, hbl, hcell⟩ := Hc.out k hlt1
      have hcell' : wr.cell? ⟨bq, oq + k, none⟩ = some (.string L[k]) := cell_belowB Hbel.out rfl hcell
      have l1 : (k : Int) < (L.length : Int) := by omega
      have l2 : (k : Int) < 12 := by omega
      generalize L[k] = S at *
      obtain ⟨q, -, q0, q1, q2, q3, qmin⟩ := cut_min S 200 200 rfl
      have hp := ext_le S q
      go_wp2
      go_quiet (fail)
      have hBq : Blk (wr.drewN nq) g 30 c := hB.drewN nq
      have HbQ := Lib.hid (below_drewN' Hbel.out nq)
      obtain ⟨p, hpe⟩ : ∃ p, S.extract 0 q = p := ⟨_, rfl⟩
      rw [hpe] at hp ⊢
      have HTq := Lib.hid (HT0.out.below HbQ.out)
      clear hcell' hcell hpe qmin q0 q1 q2 hB HT Hbel
      generalize wr.drewN nq = wq at *
      go_wp2_with (refine wpList_load_row rfl 30 (Operand.tmp 7) rfl g (by rfl) 30 c (0, 0) _ hBq Tryd.underlying30 rfl hi ?_)
      refine (with_any HTq.out Hr.out p (by rw [hall]; omega)).mono ?_
      rintro e w2 ⟨⟨v2, rfl, h2⟩, hb2⟩
      obtain ⟨d, rfl, ds, da, di, dr⟩ := h2.form
      have hD : Blk (w2.alloc (.cells Tryd.zeroCells30 30)) w2.heap.size 30 Tryd.zeroCells30 := Blk.new _ _ _
      have hD' := hD.setRow d
      have hbA := HbQ.out.trans (hb2.mono HbQ.out.size)
      have hbB : Below w.heap.size w ((w2.alloc (.cells Tryd.zeroCells30 30)).setRow w2.heap.size d) := below_setRow (hbA.alloc hbA.size _) hbA.size d
      have hC : Blk ((w2.alloc (.cells Tryd.zeroCells30 30)).setRow w2.heap.size d) g 30 c := Blk.setRow_far (Blk.alloc ((hb2.block _ hBq.lt).trans hBq) _) d (by have := hBq.lt; have := hb2.size; omega)
      have hgD : g ≠ w2.heap.size := by have := hBq.lt; have := hb2.size; omega
      have HW := Lib.hid hbB; have HDr := Lib.hid dr
      clear hbB dr hbA h2 hb2 hBq HTq HbQ
      go_wp2_with (first | (refine wpList_store_row rfl 30 (Operand.tmp 11) (Operand.tmp 46) rfl w2.heap.size d (by rfl) (by rfl) 30 _ hD di (ds.symm ▸ rfl) da ?_) | (refine wpList_load_row rfl 30 (Operand.tmp 7) rfl g (by rfl) 30 c (0, 0) _ hC Tryd.underlying30 rfl hi ?_))
      generalize (w2.alloc (.cells Tryd.zeroCells30 30)).setRow w2.heap.size d = wB at *
      generalize w2.heap.size = gD at *
      clear hD
      have HT := Lib.hid (HT0.out.below HW.out)
      refine (end_any' HT.out Hr.out all (by rw [hall]; omega) rfl).mono ?_
      rintro e w3 ⟨rfl, hb3⟩
      have hW3 := HW.out.trans (hb3.mono HW.out.size)
      have hC3 : Blk w3 g 30 c := (hb3.block _ hC.lt).trans hC
      have hD3 : Blk w3 gD 30 d := (hb3.block _ hD'.lt).trans hD'
      have HW3 := Lib.hid hW3
      clear hb3 hW3 HW HT hC hD'
      go_wp2_with fail
      refine (rsumB all (by omega) _).mono ?_
      rintro e w4 ⟨rfl, hb4⟩
      have hW4 := HW3.out.trans (hb4.mono HW3.out.size)
      have hC4 : Blk w4 g 30 c := (hb4.block _ hC3.lt).trans hC3
      have hD4 : Blk w4 gD 30 d := (hb4.block _ hD3.lt).trans hD3
      have HW4 := Lib.hid hW4
      clear hb4 hW4 HW3 hC3 hD3
      go_wp2_with (refine wpList_load_rowG (by rfl) 30 (Operand.tmp 7) rfl g (by rfl) 30 c (0, 0) _ hC4 Tryd.underlying30 rfl hi ?_)
      refine (len_any' Hr.out (all.size : Int) (by rw [hall]) _).mono ?_
      rintro e w5 ⟨rfl, hb5⟩
      have hW5 := HW4.out.trans (hb5.mono HW4.out.size)
      have hC5 : Blk w5 g 30 c := (hb5.block _ hC4.lt).trans hC4
      have hD5 : Blk w5 gD 30 d := (hb5.block _ hD4.lt).trans hD4
      have hcat : ¬ 9223372036854775807 < all.size + p.size := by omega
      have HF : Hid (RunAt (w5.setRow g d) g (all ++ p).data.toList ∧ Below w.heap.size w (w5.setRow g d)) := Lib.hid ⟨by rw [ba_append]; exact HDr.out.at_ (hC5.setRow d), below_setRow hW5 hg1 d⟩
      clear hb5 hW5 HW4 hC4 hD4
      go_wp2_with (first | (refine wpList_load_row rfl 30 (Operand.tmp 11) rfl gD (by rfl) 30 d (0, 0) _ hD5 Tryd.underlying30 rfl di ?_) | (refine wpList_store_row rfl 30 (Operand.tmp 7) (Operand.tmp 59) rfl g d (by rfl) (by rfl) 30 _ hC5 di (hs.trans ds.symm) da ?_))
      go_roundw
      case rel => exact ⟨k + 1, all ++ p, by omega, by omega, rfl, by go_num, by simp; omega, HF.out.1, HF.out.2⟩
      case measure => simp [intOf]; omega
    · have hcase : k = L.length ∨ (k < L.length ∧ k = 12) := by omega
      clear Hc
      have HW := Hbel; clear Hbel
      rcases hcase with h | ⟨h1', h2'⟩
      · have l1 : ¬ (k : Int) < (L.length : Int) := by omega
        go_wp2_with fail
        refine (node_any HT.out x y (by omega) (by omega)).mono ?_
        rintro e w3 ⟨rfl, hb3⟩
        have hW3 := HW.out.trans (hb3.mono HW.out.size)
        have hC3 : Blk w3 g 30 c := (hb3.block _ hB.lt).trans hB
        have HW3 := Lib.hid hW3
        clear hb3 hW3 HW HT hB
        go_wp2_with fail
        refine (rnodeB x y (by omega) (by omega) _).mono ?_
        rintro e w4 ⟨rfl, hb4⟩
        have hW4 := HW3.out.trans (hb4.mono HW3.out.size)
        have hC4 : Blk w4 g 30 c := (hb4.block _ hC3.lt).trans hC3
        have HW4 := Lib.hid hW4
        clear hb4 hW4 HW3 hC3
        go_wp2_with (refine wpList_load_rowG (by rfl) 30 (Operand.tmp 7) rfl g (by rfl) 30 c (0, 0) _ hC4 Tryd.underlying30 rfl hi ?_)
        refine (end_any' (HT0.out.below HW4.out) Hr.out all (by rw [hall]; omega) rfl).mono ?_
        rintro e w5 ⟨rfl, hb5⟩
        have hW5 := HW4.out.trans (hb5.mono HW4.out.size)
        have hC5 : Blk w5 g 30 c := (hb5.block _ hC4.lt).trans hC4
        have HW5 := Lib.hid hW5
        clear hb5 hW5 HW4 hC4
        go_wp2_with fail
        refine (rsumB all (by omega) _).mono ?_
        rintro e w6 ⟨rfl, hb6⟩
        have hW6 := HW5.out.trans (hb6.mono HW5.out.size)
        have hC6 : Blk w6 g 30 c := (hb6.block _ hC5.lt).trans hC5
        have HW6 := Lib.hid hW6
        clear hb6 hW6 HW5 hC5
        go_wp2_with (refine wpList_load_rowG (by rfl) 30 (Operand.tmp 7) rfl g (by rfl) 30 c (0, 0) _ hC6 Tryd.underlying30 rfl hi ?_)
        refine (len_any' Hr.out (all.size : Int) (by rw [hall]) _).mono ?_
        rintro e w7 ⟨rfl, hb7⟩
        have HW7 := Lib.hid (HW6.out.trans (hb7.mono HW6.out.size))
        clear hb7 HW6 hC6
        go_wp2_with fail
        refine (fixed_any (HT0.out.below HW7.out)).mono ?_
        rintro e w8 ⟨rfl, hb8⟩
        have HW8 := Lib.hid (HW7.out.trans (hb8.mono HW7.out.size))
        clear hb8 HW7
        go_wp2
        go_ret
        exact ⟨rfl, HW8.out⟩
      · have l1 : (k : Int) < (L.length : Int) := by omega
        have l2 : ¬ (k : Int) < 12 := by omega
        go_wp2_with fail
        refine (node_any HT.out x y (by omega) (by omega)).mono ?_
        rintro e w3 ⟨rfl, hb3⟩
        have hW3 := HW.out.trans (hb3.mono HW.out.size)
        have hC3 : Blk w3 g 30 c := (hb3.block _ hB.lt).trans hB
        have HW3 := Lib.hid hW3
        clear hb3 hW3 HW HT hB
        go_wp2_with fail
        refine (rnodeB x y (by omega) (by omega) _).mono ?_
        rintro e w4 ⟨rfl, hb4⟩
        have hW4 := HW3.out.trans (hb4.mono HW3.out.size)
        have hC4 : Blk w4 g 30 c := (hb4.block _ hC3.lt).trans hC3
        have HW4 := Lib.hid hW4
        clear hb4 hW4 HW3 hC3
        go_wp2_with (refine wpList_load_rowG (by rfl) 30 (Operand.tmp 7) rfl g (by rfl) 30 c (0, 0) _ hC4 Tryd.underlying30 rfl hi ?_)
        refine (end_any' (HT0.out.below HW4.out) Hr.out all (by rw [hall]; omega) rfl).mono ?_
        rintro e w5 ⟨rfl, hb5⟩
        have hW5 := HW4.out.trans (hb5.mono HW4.out.size)
        have hC5 : Blk w5 g 30 c := (hb5.block _ hC4.lt).trans hC4
        have HW5 := Lib.hid hW5
        clear hb5 hW5 HW4 hC4
        go_wp2_with fail
        refine (rsumB all (by omega) _).mono ?_
        rintro e w6 ⟨rfl, hb6⟩
        have hW6 := HW5.out.trans (hb6.mono HW5.out.size)
        have hC6 : Blk w6 g 30 c := (hb6.block _ hC5.lt).trans hC5
        have HW6 := Lib.hid hW6
        clear hb6 hW6 HW5 hC5
        go_wp2_with (refine wpList_load_rowG (by rfl) 30 (Operand.tmp 7) rfl g (by rfl) 30 c (0, 0) _ hC6 Tryd.underlying30 rfl hi ?_)
        refine (len_any' Hr.out (all.size : Int) (by rw [hall]) _).mono ?_
        rintro e w7 ⟨rfl, hb7⟩
        have HW7 := Lib.hid (HW6.out.trans (hb7.mono HW6.out.size))
        clear hb7 HW6 hC6
        go_wp2_with fail
        refine (fixed_any (HT0.out.below HW7.out)).mono ?_
        rintro e w8 ⟨rfl, hb8⟩
        have HW8 := Lib.hid (HW7.out.trans (hb8.mono HW7.out.size))
        clear hb8 HW7
        go_wp2
        go_ret
        exact ⟨rfl, HW8.out⟩
theorem shaNodes_go (a : ByteArray) (ha : a.size ≤ maxLen) (b : ByteArray) (hb : b.size ≤ maxLen) (A : Option Addr) (len cap : Nat) (L : List ByteArray) {w : World} (hL : SRead w (.slice A len cap) L ∧ ∀ s ∈ L, s.size ≤ maxLen) (hT : Tab w) :
    Calls Tryd.prog 4 #[.string a, .string b, .slice A len cap] w fun e w' => e = .returned (.bool true) ∧ Below w.heap.size w w' := shaNodes_walk a ha b hb A len cap L hL.1 hT
end Go.Proofs.YtkdajlhmodmkoaaDoor
