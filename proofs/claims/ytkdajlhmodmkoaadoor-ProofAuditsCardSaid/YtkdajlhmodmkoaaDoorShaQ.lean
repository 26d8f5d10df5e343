/-
  Layer 2 (sha), the document's answer: Sum walked.
-/
import Derived.Test.YtkdajlhmodmkoaaDoorShaH
import Derived.Test.YtkdajlhmodmkoaaDoorShaP
import Derived.Test.YtkdajlhmodmkoaaDoorShaA
import Derived.Test.YtkdajlhmodmkoaaDoorShaV
namespace Go.Proofs.YtkdajlhmodmkoaaDoor
open Go.RowKit
set_option linter.unusedVariables false
set_option linter.unusedSimpArgs false

theorem beginRow : (#[.int .u32 1779033703, .int .u32 3144134277, .int .u32 1013904242, .int .u32 2773480762, .int .u32 1359893119, .int .u32 2600822924, .int .u32 528734635, .int .u32 1541459225] : Array Value) = ucells (vl ShaM.begin8) := by kernel_rfl
/-- The loop of Sum: the words lie in a block of the call's own; the keys behind it. -/
structure SmW (w wr : World) (gk : Nat) (hs : List UInt32) : Prop where
  bel : Below w.heap.size w wr
  h : Blk wr w.heap.size 26 (ucells hs)
  k : w.heap.size < gk ∧ gk < wr.heap.size ∧ ∀ i, i < 64 → wr.cell? ⟨gk, i, none⟩ = some (.int .u32 ((ShaM.K.getD i 0).toNat : Int))
theorem SmW.below {w wr w2 : World} {gk : Nat} {hs : List UInt32} (h : SmW w wr gk hs) (hb : Below wr.heap.size wr w2) : SmW w w2 gk hs :=
  ⟨h.bel.trans (hb.mono h.bel.size), (hb.block _ h.h.lt).trans h.h, h.k.1, Nat.lt_of_lt_of_le h.k.2.1 hb.size, fun i hi => (hb.cell (p := ⟨gk, i, none⟩) h.k.2.1).trans (h.k.2.2 i hi)⟩
theorem SmW.set {w wr : World} {gk : Nat} {hs hs' : List UInt32} (h : SmW w wr gk hs) (i : Nat) (u : Value) (he : (ucells hs).setIfInBounds i u = ucells hs') : SmW w (wr.setCell ⟨w.heap.size, i, none⟩ u) gk hs' :=
  ⟨h.bel.setCell (p := ⟨w.heap.size, i, none⟩) (Nat.le_refl _) u, by rw [← he]; exact h.h.set_ i u, h.k.1, by simpa [World.setCell] using h.k.2.1, fun j hj => by
    have hne : gk ≠ w.heap.size := by have := h.k.1; omega
    exact (World.cell?_congr (Below.heap_setCell wr ⟨w.heap.size, i, none⟩ u gk hne)).trans (h.k.2.2 j hj)⟩
theorem ucells_set (l : List UInt32) (i : Nat) (x : UInt32) : (ucells l).setIfInBounds i (.int .u32 (x.toNat : Int)) = ucells (l.set i x) := by
  simp only [ucells, List.setIfInBounds_toArray, List.map_set]; rfl
theorem ba_extract (s : ByteArray) (i j : Nat) : (s.extract i j).data.toList = (s.data.toList.drop i).take (j - i) := by
  rw [ByteArray.data_extract, Array.toList_extract, List.extract_eq_take_drop]
theorem winfo5 : (Tryd.prog.info? 5).map (fun i => (i.zero, i.size, i.bytes)) = some (some (.int .u8 0), 1, 1) := by kernel_rfl
/-- The bytes of the first k words. -/
def outK (l : List UInt32) (k : Nat) : List UInt8 := (l.take k).flatMap ShaM.out4
theorem outK_all (v : ShaM.V8) : outK (vl v) 8 = ShaM.out v := by simp [outK, vl, ShaM.out, List.append_assoc]
theorem outK_succ (l : List UInt32) (k : Nat) (h : k < l.length) : outK l (k + 1) = outK l k ++ ShaM.out4 (l.getD k 0) := by
  unfold outK
  rw [List.take_succ_eq_append_getElem h, List.flatMap_append, List.getD_eq_getElem?_getD, List.getElem?_eq_getElem h]
  simp
theorem outK_length (l : List UInt32) : ∀ k, k ≤ l.length → (outK l k).length = 4 * k
  | 0, _ => rfl
  | k + 1, h => by rw [outK_succ l k (by omega), List.length_append, outK_length l k (by omega)]; simp [ShaM.out4]; omega
theorem u8w (n : Nat) : ((UInt8.ofNat n).toNat : Int) = (n : Int) % 256 := by simp
theorem out4_ref (x : UInt32) : (#[Value.int IntKind.u8 (IntKind.u8.wrap (IntKind.u32.wrap ((x.toNat : Int) / 16777216))), Value.int IntKind.u8 (IntKind.u8.wrap ((IntKind.u32.wrap ((x.toNat : Int) / 65536)).tmod 256)), Value.int IntKind.u8 (IntKind.u8.wrap ((IntKind.u32.wrap ((x.toNat : Int) / 256)).tmod 256)), Value.int IntKind.u8 (IntKind.u8.wrap ((x.toNat : Int).tmod 256))] : Array Value).toList = bvals (ShaM.out4 x) := by
  have hx := x.toNat_lt
  have w1 : IntKind.u32.wrap ((x.toNat : Int) / 16777216) = (x.toNat : Int) / 16777216 := by rw [IntKind.wrap_u32']; omega
  have w2 : IntKind.u32.wrap ((x.toNat : Int) / 65536) = (x.toNat : Int) / 65536 := by rw [IntKind.wrap_u32']; omega
  have w3 : IntKind.u32.wrap ((x.toNat : Int) / 256) = (x.toNat : Int) / 256 := by rw [IntKind.wrap_u32']; omega
  rw [w1, w2, w3, Int.tmod_eq_emod_of_nonneg (by omega), Int.tmod_eq_emod_of_nonneg (by omega), Int.tmod_eq_emod_of_nonneg (by omega)]
  simp only [bvals, ShaM.out4, List.map_cons, List.map_nil, u8w, IntKind.wrap_u8']
  rw [show (x.toNat : Int) / 65536 % 256 % 256 = ((x.toNat / 65536 : Nat) : Int) % 256 by omega, show (x.toNat : Int) / 256 % 256 % 256 = ((x.toNat / 256 : Nat) : Int) % 256 by omega, show (x.toNat : Int) % 256 % 256 = (x.toNat : Int) % 256 by omega, show (x.toNat : Int) / 16777216 % 256 = ((x.toNat / 16777216 : Nat) : Int) % 256 by omega]
theorem src_blk {X : World} {g : Nat} {l : List UInt32} (h : Blk X g 26 (ucells l)) (c : Nat) : Src Tryd.prog 1 80 (.slice (some ⟨g, 0, none⟩) l.length c) l.length (l.map uval) X := by
  refine Src.ofSlice X Tryd.underlying80 _ _ _ _ (by simp) (fun j u hu => ?_) (fun u hu => ucells_one l u (by simpa [ucells] using hu))
  rw [Addr.add_lit, Nat.zero_add, h.cell]
  simpa [ucells] using hu
theorem URead.ofOwn {X : World} {base n : Nat} {v : Value} {l : List UInt32} (h : X.ownsRow base 26 1 v n (l.map uval)) (hn : l.length = n) (hl : 0 < n) : URead base X v l := by
  subst hn
  rcases h.2 with ⟨hv, hn⟩ | ⟨g, cap, cur, hv, hg, hh, hn, hmx, hcs, htk⟩
  · omega
  · refine ⟨g, cap, hv, hg, (Array.getElem?_eq_some_iff.1 hh).1, fun i hi => ?_⟩
    subst hv
    have := h.cells rfl i (.int .u32 ((l.getD i 0).toNat : Int)) (by rw [List.getElem?_map, List.getElem?_eq_getElem hi, List.getD_eq_getElem?_getD, List.getElem?_eq_getElem hi]; rfl)
    rw [Addr.add_lit, Nat.zero_add] at this
    exact this

set_option maxRecDepth 100000 in
set_option maxHeartbeats 4000000 in
theorem rsum_any (s : ByteArray) (hs : s.size ≤ 100000000) (w : World) : Calls Tryd.prog 23 #[.string s] w fun e w' => e = .returned (.string ⟨(ShaM.sum s.data.toList).toArray⟩) ∧ Below w.heap.size w w' := by
  obtain ⟨i0, hi, hz0, hz1, hz2⟩ := info_parts winfo26
  go_enter Tryd.func23, Tryd.ntmps23
  go_wp2_with fail
  rw [beginRow]
  refine (keys_any _).mono ?_
  rintro e w1 ⟨⟨kv, rfl, hk⟩, hb1⟩
  obtain ⟨gk, capk, rfl, hk0, hk1, hk2⟩ := hk
  rw [show ShaM.K.length = 64 from rfl]
  have h0 : SmW w w1 gk (vl ShaM.begin8) := ⟨(alloc_below' w _).trans (hb1.mono (by simp)), (hb1.block _ (by simp)).trans (Blk.new w 26 _), by simp at hk0; omega, hk1, hk2⟩
  have H0 := Lib.hid h0
  clear hk0 hk1 hk2 hb1 h0
  go_wp2_with fail
  refine (padded_any s hs _).mono ?_
  rintro e w2 ⟨rfl, hb2⟩
  have H2 := Lib.hid (H0.out.below hb2)
  clear H0 hb2
  have hpl := ShaM.padded_length s.data.toList
  have hpw := ShaM.padded_whole s.data.toList
  have hsl : s.data.toList.length = s.size := by simp
  have Hsum : Hid (ShaM.sum s.data.toList = ShaM.out (ShaM.chain (ShaM.padded s.data.toList) ((ShaM.padded s.data.toList).length / 64))) := Lib.hid rfl
  have hgap : ShaM.gap s.size ≤ 63 := by unfold ShaM.gap; omega
  rw [hsl] at hpl
  generalize hP : ShaM.padded s.data.toList = P at *
  obtain ⟨t, ht⟩ : ∃ t : ByteArray, t = ⟨P.toArray⟩ := ⟨_, rfl⟩
  rw [← ht]
  have htl : t.data.toList = P := by rw [ht]
  have hts : t.size = P.length := by rw [ba_size, htl]
  have hP64 : P.length = 64 * (P.length / 64) := by omega
  have hPb : P.length / 64 ≤ 2000000 := by omega
  generalize P.length / 64 = B at *
  have hts64 : t.size = 64 * B := by omega
  have Htl := Lib.hid htl; have Hts := Lib.hid hts; have Hts64 := Lib.hid hts64
  clear hpl hpw hsl hP ht htl hts hP64 hts64
  go_wp2
  go_loopw [6] (fun i wr => ∃ q A : Nat, q ≤ B ∧ A = 64 * q ∧ i = .int .i64 (A : Int) ∧ SmW w wr gk (vl (ShaM.chain P q))) (fun i _ => 64 * B - (intOf i).toNat)
  case atStart => exact ⟨0, 0, by omega, rfl, rfl, H2.out⟩
  case round =>
    clear H2
    obtain ⟨q, A, hq, hA, rfl, hW⟩ := hrel
    have Hw := Lib.hid hW
    clear hW
    by_cases hlt : q < B
    · have h1 : (A : Int) < (t.size : Int) := by have := Hts64.out; omega
      have h2 : A + 64 ≤ t.size := by have := Hts64.out; omega
      have h3 : A < t.size := by omega
      have h4 : A ≤ 200000000 := by omega
      have Hblk : Hid ((t.extract A (A + 64)).data.toList = (P.drop (64 * q)).take 64) := Lib.hid (by rw [ba_extract, Htl.out, hA]; congr 1; omega)
      have Hbs : Hid ((t.extract A (A + 64)).size = 64) := Lib.hid (by rw [ByteArray.size_extract]; omega)
      have Hch : Hid (ShaM.chain P (q + 1) = ShaM.add8 (ShaM.chain P q) (ShaM.rounds (ShaM.wl ((P.drop (64 * q)).take 64) 64) (ShaM.chain P q) 64)) := Lib.hid rfl
      have Hl2 : Hid (ShaM.wl (t.extract A (A + 64)).data.toList 64 = ShaM.wl ((P.drop (64 * q)).take 64) 64) := Lib.hid (by rw [Hblk.out])
      have HA := Lib.hid hA
      have hlen := ShaM.wl_length ((P.drop (64 * q)).take 64) 64
      generalize ShaM.wl ((P.drop (64 * q)).take 64) 64 = W at *
      generalize ShaM.chain P q = H at *
      have Hlen := Lib.hid hlen
      clear hA hlen Hblk
      go_wp2_with fail
      refine (words_any (t.extract A (A + 64)) Hbs.out _).mono ?_
      rintro e w3 ⟨⟨wv, rfl, hwv⟩, hb3⟩
      rw [Hl2.out] at hwv
      have hS3 := Hw.out.below hb3
      have hWz := Hw.out.bel.size
      obtain ⟨gw, capw, rfl, hw0, hw1, hw2⟩ := hwv
      rw [Hlen.out] at hw2 ⊢
      have Hw0 := Lib.hid hw0; have Hw2 := Lib.hid hw2; have HS3 := Lib.hid hS3; have Hw1 := Lib.hid hw1
      clear hw0 hw1 hw2 hb3 hS3
      have hown : (w3.alloc (.cells #[] 26)).ownsRow w3.heap.size 26 1 (.slice (some ⟨w3.heap.size, 0, none⟩) 0 0) 0 [] := World.ownsRow_made w3 #[] 0 (Nat.le_refl _) (by decide) rfl
      have hsrc : Src Tryd.prog 1 80 (.slice (some ⟨w.heap.size, 0, none⟩) 8 8) 8 ((vl H).map uval) (w3.alloc (.cells #[] 26)) := src_blk (l := vl H) (HS3.out.h.alloc _) 8
      go_wp2_with (at_builtin; refine wpList_append_o rfl _ _ 80 80 rfl w3.heap.size 26 i0 _ 1 4 Tryd.underlying80 hi hz0 hz1 hz2 rfl _ _ _ rfl hown _ 8 ((vl H).map uval) rfl hsrc (by decide) (by decide) (by simp) ?_)
      intro v' w4 hown4 hg4 hv4
      have h4r : URead w3.heap.size w4 v' (vl H) := URead.ofOwn hown4 rfl (by decide)
      have hb4 : Below w3.heap.size w3 w4 := (alloc_below' w3 _).grown hg4 (by simp) (by intro k hk; simp [Value.ownBlock] at hk; omega)
      have HS4 := Lib.hid (HS3.out.below hb4)
      have Hwc : Hid (gw < w4.heap.size ∧ ∀ i, i < 64 → w4.cell? ⟨gw, i, none⟩ = some (.int .u32 ((W.getD i 0).toNat : Int))) := Lib.hid ⟨Nat.lt_of_lt_of_le Hw1.out hb4.size, fun i hi => (hb4.cell (p := ⟨gw, i, none⟩) Hw1.out).trans (Hw2.out i hi)⟩
      have Hr0 : Hid (URead (w.heap.size + 1) w4 v' (vl H)) := Lib.hid (h4r.mono (by have := HS3.out.h.lt; omega))
      clear h4r hb4 hown4 hg4 hv4 hsrc hown HS3 Hw2 Hw1 Hw0 Hw
      go_wp2
      go_loopw [8, 9] (fun v i wr2 => ∃ k : Nat, k ≤ 64 ∧ i = .int .i64 (k : Int) ∧ Below w4.heap.size w4 wr2 ∧ URead (w.heap.size + 1) wr2 v (vl (ShaM.rounds W H k))) (fun _ i _ => 64 - (intOf i).toNat)
      case atStart => exact ⟨0, by omega, rfl, Below.refl _ _, Hr0.out⟩
      case round =>
        clear Hr0
        obtain ⟨k, hk, rfl, hbel, hv⟩ := hrel
        by_cases hk64 : k < 64
        · have ck := (HS4.out.below hbel).k.2.2 k hk64
          have cw := (hbel.cell (p := ⟨gw, k, none⟩) Hwc.out.1).trans (Hwc.out.2 k hk64)
          have Hst : Hid (ShaM.rounds W H (k + 1) = ShaM.rnd (ShaM.rounds W H k) (ShaM.K.getD k 0) (W.getD k 0)) := Lib.hid rfl
          have hbz := hbel.size
          have hz4 := HS4.out.h.lt
          generalize ShaM.rounds W H k = V at *
          generalize ShaM.K.getD k 0 = kk at *
          generalize W.getD k 0 = ww at *
          have Hv := Lib.hid hv; have Hbel := Lib.hid hbel
          clear hv hbel
          have r0 : (0 : Int) ≤ (k : Int) := by omega
          have r1 : (k : Int) < 64 := by omega
          go_wp2
          go_still_tail 9, (by kernel_rfl)
          show wpList _ _ _ _ _ wr.drew
          go_wp2_with fail
          refine (round_any (w := wr.drew) (base := w.heap.size + 1) Hv.out kk ww).mono ?_
          rintro e w5 ⟨⟨v5, rfl, h5⟩, hb5⟩
          have Hn : Hid (Below w4.heap.size w4 w5 ∧ URead (w.heap.size + 1) w5 v5 (vl (ShaM.rnd V kk ww))) := Lib.hid ⟨(Hbel.out.drew).trans (hb5.mono hbz), h5.mono (by show w.heap.size + 1 ≤ wr.heap.size; omega)⟩
          clear h5 hb5
          go_wp2
          go_roundw
          case rel => exact ⟨k + 1, by omega, by go_num, Hn.out.1, by rw [Hst.out]; exact Hn.out.2⟩
          case measure => simp [intOf]; omega
        · obtain rfl : k = 64 := by omega
          obtain ⟨gv, cv, rfl, hv0, hv1, hvc⟩ := hv
          rw [vl_length] at hvc ⊢
          generalize ShaM.rounds W H 64 = V at *
          have Hv0 := Lib.hid hv0; have Hvc := Lib.hid hvc; have HS5 := Lib.hid (HS4.out.below hbel)
          clear hv0 hv1 hvc hbel HS4 Hwc hk64 hk
          go_wp2
          rw [show ((64 : Nat) : Int) = 64 from rfl]
          go_loopw [10] (fun i wr3 => ∃ k : Nat, k ≤ 8 ∧ i = .int .i64 (k : Int) ∧ SmW w wr3 gk (acc (vl H) (vl V) k) ∧ ∀ i, i < 8 → wr3.cell? ⟨gv, i, none⟩ = some (.int .u32 (((vl V).getD i 0).toNat : Int))) (fun i _ => 8 - (intOf i).toNat)
          case atStart => exact ⟨0, by omega, rfl, HS5.out, Hvc.out⟩
          case round =>
            clear HS5 Hvc
            obtain ⟨k, hk, rfl, hS, hvc⟩ := hrel
            by_cases hk8 : k < 8
            · have hcv := hvc k hk8
              have hch := hS.h.cell k
              rw [ucells_get _ k (by rw [acc_length _ _ _ rfl rfl hk]; exact hk8), acc_get _ _ k rfl rfl hk8] at hch
              have hfr := hS.h.frozen k
              have hset := acc_set (vl H) (vl V) k rfl rfl hk8
              generalize (vl H).getD k 0 = x at *
              generalize (vl V).getD k 0 = y at *
              have Hset := Lib.hid hset; have HS := Lib.hid hS; have Hvc := Lib.hid hvc
              clear hset hS hvc
              have r0 : (0 : Int) ≤ (k : Int) := by omega
              have r1 : (k : Int) < 8 := by omega
              have U4 := c_add
              go_wp2
              go_still_tail 12, (by kernel_rfl)
              show wpList _ _ _ _ _ wr.drew
              go_wp2
              go_roundw
              case rel => exact ⟨k + 1, by omega, by go_num, SmW.set (wr := wr.drew) (HS.out.below ((Below.refl _ _).drew)) k _ (by rw [ucells_set, ← Hset.out]; rfl), fun i hi => (World.cell?_congr (Below.heap_setCell wr.drew ⟨w.heap.size, k, none⟩ _ gv (by have := Hv0.out; show gv ≠ w.heap.size; omega))).trans (Hvc.out i hi)⟩
              case measure => simp [intOf]; omega
            · obtain rfl : k = 8 := by omega
              have HS := Lib.hid hS
              clear hS hvc
              go_wp2
              go_roundw
              case rel => exact ⟨q + 1, A + 64, by omega, by have := HA.out; omega, by go_num, by rw [Hch.out, ← acc_all]; exact HS.out⟩
              case measure => have := HA.out; simp [intOf]; omega
    · obtain rfl : q = B := by omega
      have HA := Lib.hid hA
      have h1 : ¬ (A : Int) < (t.size : Int) := by have := Hts64.out; have := HA.out; omega
      obtain ⟨i5, hj, hy0, hy1, hy2⟩ := info_parts winfo5
      generalize ShaM.chain P q = C at *
      have hB0 := BdW.new Hw.out.bel
      have HB := Lib.hid hB0; have HSa := Lib.hid (Hw.out.below (alloc_below' wr (.cells #[] 5)))
      clear hB0
      go_wp2
      go_loopw [11, 12] (fun v i wr => ∃ k : Nat, k ≤ 8 ∧ i = .int .i64 (k : Int) ∧ BdW w wr v (outK (vl C) k) ∧ Blk wr w.heap.size 26 (ucells (vl C))) (fun _ i _ => 8 - (intOf i).toNat)
      case atStart => exact ⟨0, by omega, rfl, HB.out, HSa.out.h⟩
      case round =>
        clear HB HSa Hw
        obtain ⟨k, hk, rfl, hbd, hS⟩ := hrel
        by_cases hk8 : k < 8
        · have hc := (hS.cell k).trans (ucells_get _ k hk8)
          have hlen := outK_length (vl C) k hk
          have hsucc := outK_succ (vl C) k hk8
          have hown := hbd.own
          rw [hlen] at hown
          have hne : ∀ g, some w.heap.size = g → u11.ownBlock ≠ g := fun g hg h => own_blk_ne hown hS (by decide) (h.trans hg.symm)
          generalize (vl C).getD k 0 = x at *
          have hx := x.toNat_lt
          have Hsucc := Lib.hid hsucc; have HS := Lib.hid hS; have Hbd := Lib.hid hbd; have Hlen := Lib.hid hlen; have Hne := Lib.hid hne
          clear hsucc hS hbd hlen hne
          have r0 : (0 : Int) ≤ (k : Int) := by omega
          have r1 : (k : Int) < 8 := by omega
          go_wp2
          go_region_held3 (fun wy => wy.cell? ⟨w.heap.size, k, none⟩ = some (.int .u32 (x.toNat : Int))) (first | exact hc | exact hcq | exact (World.cell?_congr (Below.heap_alloc wr _ w.heap.size HS.out.lt)).trans hc | (go_keep; done))
            (first | (refine step_appendN rfl _ _ 40 rfl w.heap.size 5 i5 (.int .u8 0) 1 Tryd.underlying40 hj hy0 hy1 hy2 rfl _ _ _ rfl (own_alloc' hown _).drew wr.heap.size 4 rfl _ _ _ (heap_alloc_new wr _) rfl (by decide) (by intro u hu; simp at hu; rcases hu with rfl | rfl | rfl | rfl <;> rfl) (by unfold maxLen; omega) (by omega) (by have := Hbd.out.bel.size; simp; omega) ?_; intro v' w3 hown3 hg3 hv3; have hcq : w3.cell? ⟨w.heap.size, k, none⟩ = some (.int .u32 (x.toNat : Int)) := (World.cell?_congr (hg3.block w.heap.size (by have := HS.out.lt; simp; omega) (fun h => Hne.out _ h rfl))).trans ((World.cell?_congr (Below.heap_alloc wr _ w.heap.size HS.out.lt)).trans hc)))
          have Hn : Hid (BdW w w3 v' (outK (vl C) (k + 1))) := Lib.hid (by rw [Hsucc.out]; exact Hbd.out.append ((alloc_below' wr _).drew) Hlen.out rfl hown3 hg3 (out4_ref x))
          have HSn : Hid (Blk w3 w.heap.size 26 (ucells (vl C))) := Lib.hid (Blk.grown ((HS.out.alloc _).drew) hg3 (fun h => Hne.out _ rfl h.symm))
          clear hown3 hg3 hv3 hcq hown hc Hbd HS Hsucc Hne
          go_wp2
          go_roundw
          case rel => exact ⟨k + 1, by omega, by go_num, Hn.out, HSn.out⟩
          case measure => simp [intOf]; omega
        · obtain rfl : k = 8 := by omega
          have hcv := conv_own (P := Tryd.prog) Tryd.underlying40 Tryd.underlying5 Tryd.underlying9 hbd.own
          rw [outK_all, ← Hsum.out] at hcv
          have Hbl := Lib.hid hbd.bel
          clear hbd hS
          go_wp2
          go_ret
          exact ⟨rfl, Hbl.out⟩
end Go.Proofs.YtkdajlhmodmkoaaDoor
