/-
  Layer 8 (tree): Of walked.
-/
import Derived.Test.YtkdajlhmodmkoaaDoorTP
namespace Go.Proofs.YtkdajlhmodmkoaaDoor
open Go.RowKit TreeM
set_option linter.unusedVariables false
set_option linter.unusedSimpArgs false

theorem peaks_right (l : List ByteArray) (hl : l.length ≤ 1000000) : rightB l.length (peaks l) = true := by
  unfold rightB wideB
  have h1 := peaks_length l.length l (Nat.le_refl _)
  have h2 := peaks_wide l.length l (Nat.le_refl _)
  rw [h1]
  simp only [Bool.and_eq_true, decide_eq_true_eq, List.all_eq_true]
  exact ⟨⟨by omega, by simp⟩, fun s hs => by simpa using h2 s hs⟩
theorem peaks_push {w : World} (hT : Tab w) (hBru : Bru w) (l : List ByteArray) (hl : l.length < 1000000) {u : Value} (h : SRead w u (peaks l)) (d : ByteArray) (hd : d.size ≤ 80000000) :
    Calls Tryd.prog 44 #[.agg #[.int .u64 (l.length : Int), u], .string d] w fun e w' => (∃ u', e = .returned (.tuple #[.agg #[.int .u64 ((l.length : Int) + 1), u'], .int .i64 0]) ∧ SOwn w.heap.size w' u' (peaks (l ++ [d]))) ∧ Below w.heap.size w w' := by
  have := push_yes hT hBru l.length (by omega) h d hd (peaks_right l (by omega))
  rwa [push_peaks l.length l d (Nat.le_refl _)] at this
theorem peaks_topE {w : World} (hT : Tab w) (l : List ByteArray) (hl : l.length < 1000000) {u : Value} (h : SRead w u (peaks l)) :
    Calls Tryd.prog 46 #[.agg #[.int .u64 (l.length : Int), u]] w fun e w' => e = .returned (.tuple #[.string (root l), .int .i64 0]) ∧ Below w.heap.size w w' := by
  have h0 := top_any hT l.length (by omega) h
  have hr := peaks_right l (by omega)
  unfold topS topE at h0
  rw [if_pos hr, if_pos hr] at h0
  by_cases hz : l.length = 0
  · rw [if_pos hz] at h0
    have : l = [] := List.length_eq_zero_iff.1 hz
    subst this; exact h0
  · rw [if_neg hz, peaks_top l.length l (Nat.le_refl _) (by omega)] at h0
    exact h0
theorem results_one_row {P : Program} {fn : Func} {p : Tmp} {ty : TypeId} (h : fn.results = #[.cell p ty]) (tmps : Array Value) (w : World) (g : Nat) (t : TypeId) (cs : Array Value) (fr : Nat × Nat) (d : TypeDesc)
    (hp : tmps.getD p undef = .pointer (some ⟨g, 0, none⟩)) (hg : w.heap[g]? = some (.cells cs t fr))
    (hu : P.underlying ty = some d) (hd : (match d with | .struct _ | .array _ _ => true | _ => false) = true) (hi : (P.info? ty).map (·.size) = some cs.size) :
    (results fn tmps).run P w = .ok (.agg cs) w := by
  have hp' : tmps[p]?.getD undef = .pointer (some ⟨g, 0, none⟩) := by simpa using hp
  simp [results, h, hp', asAddr, run_loadVar_row w g t ty cs fr d hg hu hd hi]
theorem peaks_short (l : List ByteArray) (hl : l.length < 1000000) : (peaks l).length ≤ maxLen := by
  rw [peaks_length l.length l (Nat.le_refl _)]
  have := ones_le 64 l.length (by omega)
  unfold maxLen; omega
set_option maxRecDepth 100000 in
set_option maxHeartbeats 2000000 in
theorem of_any {w : World} (hT : Tab w) (hBru : Bru w) {v : Value} {L : List ByteArray} (h : SRead w v L) (hs : ∀ s ∈ L, s.size ≤ 80000000) (hl : L.length < 1000000) :
    Calls Tryd.prog 50 #[v] w fun e w' => (∃ u, e = .returned (.agg #[.int .u64 (L.length : Int), u]) ∧ SOwn w.heap.size w' u (peaks L)) ∧ Below w.heap.size w w' := by
  have hw1 := alloc_below' w (.cells Z50 50)
  have hw2 := hw1.trans ((alloc_below' (w.alloc (.cells Z50 50)) (.cells Z50 50)).mono hw1.size)
  have hA : Blk ((w.alloc (.cells Z50 50)).alloc (.cells Z50 50)) w.heap.size 50 Z50 := (Blk.new _ _ _).alloc _
  have hB : Blk ((w.alloc (.cells Z50 50)).alloc (.cells Z50 50)) (w.heap.size + 1) 50 Z50 := by
    have := Blk.new (w.alloc (.cells Z50 50)) 50 Z50
    rwa [World.size_alloc] at this
  obtain ⟨A, cap, rfl, hm, hc⟩ := id h
  have HA := Lib.hid hA; have HB := Lib.hid hB; have Hw2 := Lib.hid hw2; have HT := Lib.hid hT; have HBru := Lib.hid hBru; have Hh := Lib.hid h; have Hc := Lib.hid hc; have Hs := Lib.hid hs
  clear hA hB hw1 hw2 hT hBru h hc hs hm
  go_enter Tryd.func50, Tryd.ntmps50
  go_wp2
  go_loopw [8] (fun i wr => ∃ (k : Nat) (u : Value), k ≤ L.length ∧ i = .int .i64 (k : Int) ∧ Blk wr w.heap.size 50 Z50 ∧ Blk wr (w.heap.size + 1) 50 #[.int .u64 (k : Int), u] ∧ SOwn w.heap.size wr u (peaks (L.take k)) ∧ Below w.heap.size w wr) (fun i _ => L.length - (intOf i).toNat)
  case atStart => exact ⟨0, .slice none 0 0, by omega, rfl, HA.out, HB.out, SOwn.nil _ _, Hw2.out⟩
  case round =>
    clear HA HB Hw2
    obtain ⟨k, u, hk, rfl, hA, hB, hown, hbel⟩ := hrel
    by_cases hlt : k < L.length
    · have l1 : (k : Int) < (L.length : Int) := by omega
      obtain ⟨b, o, rfl, -, hcell⟩ := Hc.out k hlt
      have hx : wr.cell? ⟨b, o + k, none⟩ = some (.string L[k]) := cell_belowB hbel rfl hcell
      have c0 := hB.cell 0; have c1 := hB.cell 1
      simp only [List.getElem?_toArray, List.getElem?_cons_succ, List.getElem?_cons_zero] at c0 c1
      have hlen : (L.take k).length = k := by rw [List.length_take]; omega
      have htk : L.take k ++ [L[k]] = L.take (k + 1) := (List.take_succ_eq_append_getElem hlt).symm
      have hsz := Hs.out L[k] (List.getElem_mem hlt)
      generalize L[k] = S at *
      have HA := Lib.hid hA; have HB := Lib.hid hB; have Hown := Lib.hid hown; have Hbel := Lib.hid hbel; have Htk := Lib.hid htk; have Hlen := Lib.hid hlen
      clear hA hB hown hbel htk hlen hcell
      go_wp2_with fail
      have hpl := peaks_short (L.take k) (by rw [Hlen.out]; omega)
      have hp := peaks_push (HT.out.below Hbel.out) (HBru.out.below Hbel.out) (L.take k) (by rw [Hlen.out]; omega) (Hown.out.read hpl) S hsz
      rw [Hlen.out] at hp
      refine hp.mono ?_
      rintro e w3 ⟨⟨u3, rfl, ho3⟩, hb3⟩
      have hpl2 := peaks_short (L.take k ++ [S]) (by rw [List.length_append, Hlen.out, List.length_singleton]; omega)
      obtain ⟨A3, c3, hve, -, -⟩ := id (ho3.read hpl2)
      generalize (peaks (L.take k ++ [S])).length = q at hve
      subst hve
      have hA3 : Blk w3 w.heap.size 50 Z50 := (hb3.block _ HA.out.lt).trans HA.out
      have hB3 : Blk w3 (w.heap.size + 1) 50 #[.int .u64 (k : Int), u] := (hb3.block _ HB.out.lt).trans HB.out
      have hW3 := Hbel.out.trans (hb3.mono Hbel.out.size)
      have hown3 := SOwn.base ho3 Hbel.out.size
      have hown4 := hown3.two hB3 (.int .u64 ((k : Int) + 1)) (.slice A3 q c3)
      have hB4 := blk_two hB3 (.int .u64 ((k : Int) + 1)) (.slice A3 q c3)
      have hA4 : Blk ((w3.setCell ⟨w.heap.size + 1, 0, none⟩ (.int .u64 ((k : Int) + 1))).setCell ⟨w.heap.size + 1, 1, none⟩ (.slice A3 q c3)) w.heap.size 50 Z50 := (hA3.far (by simp) _).far (by simp) _
      have hW4 : Below w.heap.size w ((w3.setCell ⟨w.heap.size + 1, 0, none⟩ (.int .u64 ((k : Int) + 1))).setCell ⟨w.heap.size + 1, 1, none⟩ (.slice A3 q c3)) := (hW3.setCell (p := ⟨w.heap.size + 1, 0, none⟩) (by simp) _).setCell (p := ⟨w.heap.size + 1, 1, none⟩) (by simp) _
      have z0 := hB3.cell 0; have z1 := hB3.cell 1; have f0 := hB3.frozen 0; have f1 := hB3.frozen 1
      simp only [List.getElem?_toArray, List.getElem?_cons_succ, List.getElem?_cons_zero] at z0 z1
      have HN := Lib.hid (And.intro hA4 (And.intro hB4 (And.intro hown4 hW4)))
      clear hA4 hB4 hown4 hW4 hA3 hB3 hW3 hown3 ho3 hb3 HA HB Hown Hbel c0 c1 hpl hpl2 hp
      rw [Htk.out] at HN
      go_wp2
      go_roundw
      case rel => exact ⟨k + 1, .slice A3 q c3, by omega, by go_num, HN.out.1, by have := HN.out.2.1; simpa using this, HN.out.2.2.1, HN.out.2.2.2⟩
      case measure => simp [intOf]; omega
    · obtain rfl : k = L.length := by omega
      have l1 : ¬ (L.length : Int) < (L.length : Int) := by omega
      have c0 := hB.cell 0; have c1 := hB.cell 1
      have z0 := hA.cell 0; have z1 := hA.cell 1; have f0 := hA.frozen 0; have f1 := hA.frozen 1
      simp only [List.getElem?_toArray, List.getElem?_cons_succ, List.getElem?_cons_zero] at c0 c1 z0 z1
      rw [List.take_length] at hown
      obtain ⟨A3, c3, hve, -, -⟩ := id (hown.read (peaks_short L hl))
      generalize (peaks L).length = q at hve
      subst hve
      have hown4 := hown.two hA (.int .u64 (L.length : Int)) (.slice A3 q c3)
      have hA4 := blk_two hA (.int .u64 (L.length : Int)) (.slice A3 q c3)
      have hW4 : Below w.heap.size w ((wr.setCell ⟨w.heap.size, 0, none⟩ (.int .u64 (L.length : Int))).setCell ⟨w.heap.size, 1, none⟩ (.slice A3 q c3)) := (hbel.setCell (p := ⟨w.heap.size, 0, none⟩) (by simp) _).setCell (p := ⟨w.heap.size, 1, none⟩) (by simp) _
      have HN := Lib.hid (And.intro hA4 (And.intro hown4 hW4))
      clear hA4 hown4 hW4 hA hB hown hbel
      go_wp2
      exact bodyPost_ret (v := .agg #[.int .u64 (L.length : Int), .slice A3 q c3]) (results_one_row Tryd.results50 _ _ w.heap.size 50 _ (0, 0) _ rfl HN.out.1 Tryd.underlying50 rfl info50) rfl ⟨⟨_, rfl, HN.out.2.1⟩, HN.out.2.2⟩
end Go.Proofs.YtkdajlhmodmkoaaDoor
