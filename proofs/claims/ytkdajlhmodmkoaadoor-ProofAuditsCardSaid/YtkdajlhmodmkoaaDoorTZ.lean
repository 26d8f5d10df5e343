/-
  Layer 8 (tree): the fixed calls walked.
-/
import Derived.Test.YtkdajlhmodmkoaaDoorTRO
namespace Go.Proofs.YtkdajlhmodmkoaaDoor
open Go.RowKit TreeM
set_option linter.unusedVariables false
set_option linter.unusedSimpArgs false

def abc : List ByteArray := [⟨#[97]⟩, ⟨#[98]⟩, ⟨#[99]⟩]
def wantB : ByteArray := nodeB (nodeB (leafB ⟨#[97]⟩) (leafB ⟨#[98]⟩)) (leafB ⟨#[99]⟩)
theorem root_abc : root abc = wantB := by
  rw [root_node abc (by decide), show split abc.length = 2 from by decide]
  show nodeB (root [⟨#[97]⟩, ⟨#[98]⟩]) (root [⟨#[99]⟩]) = _
  rw [root_node _ (by decide), show split (List.length [(⟨#[97]⟩ : ByteArray), ⟨#[98]⟩]) = 1 from by decide]
  rfl
theorem abc_small : ∀ s ∈ abc, s.size ≤ 80000000 := by
  intro s hs; simp [abc] at hs; rcases hs with rfl | rfl | rfl <;> decide
theorem peaks_abc : (peaks abc).length = 2 := by rw [peaks_length abc.length abc (Nat.le_refl _)]; decide
theorem right_abc : rightB 3 (peaks abc) = true := peaks_right abc (by decide)
theorem right_one : rightB 1 [] = false := by decide
theorem right_two : rightB 2 [] = false := by decide
theorem right_top (h : ByteArray) (hh : h.size = 32) : rightB 1099511627776 [h] = true := by
  have h1 : ones 1099511627776 = 1 := ones_top 40 0 (by decide)
  unfold rightB wideB
  rw [h1]; simp [hh]
theorem rootsL_abc : (rootsL abc 3)[3]? = some wantB := by
  unfold rootsL; rw [← root_abc]; rfl
theorem nil_read (w : World) : SRead w (.slice none 0 0) [] := (SOwn.nil 0 w).read (by decide)
theorem split5 (w : World) : Calls Tryd.prog 38 #[.int .u64 5] w fun e w' => e = .returned (.int .u64 4) ∧ w' = w := split_any 5 (by decide) w
theorem split4 (w : World) : Calls Tryd.prog 38 #[.int .u64 4] w fun e w' => e = .returned (.int .u64 2) ∧ w' = w := split_any 4 (by decide) w
theorem split1 (w : World) : Calls Tryd.prog 38 #[.int .u64 1] w fun e w' => e = .returned (.int .u64 0) ∧ w' = w := split_any 1 (by decide) w
theorem split0 (w : World) : Calls Tryd.prog 38 #[.int .u64 0] w fun e w' => e = .returned (.int .u64 0) ∧ w' = w := split_any 0 (by decide) w
theorem push_err {w : World} (n : Nat) (hn : n < 18446744073709551616) {u : Value} {L : List ByteArray} (h : SRead w u L) (d : ByteArray) (E : Int) (hE : pushOk n L = false) (he : pushE n L = E) (hc : Calls Tryd.prog 44 #[.agg #[.int .u64 (n : Int), u], .string d] w (PushPost w.heap.size w n L d)) :
    Calls Tryd.prog 44 #[.agg #[.int .u64 (n : Int), u], .string d] w fun e w' => (∃ A cap, e = .returned (.tuple #[.agg #[.int .u64 0, .slice A 0 cap], .int .i64 E])) ∧ Below w.heap.size w w' := by
  refine hc.mono fun e w' ⟨⟨u', h1, h2⟩, hb⟩ => ⟨?_, hb⟩
  have e1 : pushN n L = 0 := by unfold pushN; rw [hE]; rfl
  have e3 : pushL n L d = [] := by unfold pushL; rw [hE]; rfl
  rw [e3] at h2
  obtain ⟨A, cap, hv, -, -⟩ := h2.read (by decide)
  rw [e1, he, hv] at h1
  exact ⟨A, cap, h1⟩
theorem push_two (w : World) (d : ByteArray) : Calls Tryd.prog 44 #[.agg #[.int .u64 2, .slice none 0 0], .string d] w fun e w' => (∃ A cap, e = .returned (.tuple #[.agg #[.int .u64 0, .slice A 0 cap], .int .i64 1])) ∧ Below w.heap.size w w' :=
  push_err 2 (by decide) (nil_read w) d 1 (by decide) (by decide) (push_no 2 (by decide) (nil_read w) d right_two)
theorem push_big {w : World} {u : Value} {s : ByteArray} (h : SRead w u [s]) (hs : s.size = 32) (d : ByteArray) : Calls Tryd.prog 44 #[.agg #[.int .u64 1099511627776, u], .string d] w fun e w' => (∃ A cap, e = .returned (.tuple #[.agg #[.int .u64 0, .slice A 0 cap], .int .i64 8])) ∧ Below w.heap.size w w' :=
  push_err 1099511627776 (by decide) h d 8 (by unfold pushOk; rw [right_top s hs]; rfl) (by unfold pushE; rw [right_top s hs]; rfl) (push_full h d (right_top s hs))
theorem top_one (w : World) : Calls Tryd.prog 46 #[.agg #[.int .u64 1, .slice none 0 0]] w fun e w' => e = .returned (.tuple #[.string ⟨#[]⟩, .int .i64 1]) ∧ Below w.heap.size w w' := top_no 1 (by decide) (nil_read w) right_one
theorem top_nil {w : World} (hT : Tab w) : Calls Tryd.prog 46 #[.agg #[.int .u64 0, .slice none 0 0]] w fun e w' => e = .returned (.tuple #[.string (sumB ⟨#[]⟩), .int .i64 0]) ∧ Below w.heap.size w w' := top_zero hT (nil_read w) (by decide)
theorem top_abc {w : World} (hT : Tab w) {u : Value} (h : SRead w u (peaks abc)) : Calls Tryd.prog 46 #[.agg #[.int .u64 3, u]] w fun e w' => e = .returned (.tuple #[.string wantB, .int .i64 0]) ∧ Below w.heap.size w w' := by
  rw [← root_abc]; exact peaks_topE hT abc (by decide) h
theorem of_abc {w : World} (hT : Tab w) (hBru : Bru w) {v : Value} (h : SRead w v abc) :
    Calls Tryd.prog 50 #[v] w fun e w' => (∃ A cap, e = .returned (.agg #[.int .u64 3, .slice A 2 cap]) ∧ SRead w' (.slice A 2 cap) (peaks abc)) ∧ Below w.heap.size w w' := by
  refine (of_any hT hBru h abc_small (by decide)).mono fun e w' ⟨⟨u, h1, ho⟩, hb⟩ => ⟨?_, hb⟩
  have hr := ho.read (peaks_short abc (by decide))
  obtain ⟨A, cap, hve, -, -⟩ := id hr
  rw [peaks_abc] at hve
  subst hve
  exact ⟨A, cap, h1, hr⟩
theorem roots_abc {w : World} (hT : Tab w) (hBru : Bru w) {v : Value} (h : SRead w v abc) :
    Calls Tryd.prog 36 #[v] w fun e w' => (∃ b o cap, e = .returned (.slice (some ⟨b, o, none⟩) 4 cap) ∧ w'.cell? ⟨b, o + 3, none⟩ = some (.string wantB)) ∧ Below w.heap.size w w' := by
  refine (roots_any hT hBru h abc_small (by decide)).mono fun e w' ⟨⟨u, h1, ho⟩, hb⟩ => ⟨?_, hb⟩
  have hl : (rootsL abc abc.length).length = 4 := rootsL_length abc 3
  have hr := ho.read (by rw [hl]; decide)
  obtain ⟨A, cap, hve, -, hc⟩ := id hr
  obtain ⟨b, o, rfl, -, hcell⟩ := hc 3 (by rw [hl]; decide)
  rw [hl] at hve
  subst hve
  refine ⟨b, o, cap, h1, ?_⟩
  rw [hcell, show (rootsL abc abc.length)[3] = wantB from Option.some.inj ((List.getElem?_eq_getElem _).symm.trans rootsL_abc)]
theorem right_abc_any {w : World} {u : Value} (h : SRead w u (peaks abc)) : Calls Tryd.prog 48 #[.agg #[.int .u64 3, u]] w fun e w' => e = .returned (.bool true) ∧ Below w.heap.size w w' := by
  rw [← right_abc]; exact tright_any 3 (by decide) h
theorem root_abc_any {w : World} (hT : Tab w) {v : Value} (h : SRead w v abc) : Calls Tryd.prog 40 #[v] w fun e w' => e = .returned (.string wantB) ∧ Below w.heap.size w w' := by
  rw [← root_abc]; exact root_any hT h abc_small (by decide)
theorem root_nil_any {w : World} (hT : Tab w) : Calls Tryd.prog 40 #[.slice none 0 0] w fun e w' => e = .returned (.string (sumB ⟨#[]⟩)) ∧ Below w.heap.size w w' := root_any hT (nil_read w) (by simp) (by decide)
set_option maxRecDepth 100000 in
set_option maxHeartbeats 2000000 in
theorem tfixed_any {w : World} (hT : Tab w) (hBru : Bru w) : Calls Tryd.prog 42 #[] w fun e w' => e = .returned (.bool true) ∧ Below w.heap.size w w' := by
  have HT := Lib.hid hT; have HBru := Lib.hid hBru; clear hT hBru
  obtain ⟨x0, hx0⟩ : ∃ x0, w.alloc (.cells (svals abc).toArray 9) = x0 := ⟨_, rfl⟩
  obtain ⟨lv, hlv⟩ : ∃ lv, Value.slice (some ⟨w.heap.size, 0, none⟩) 3 3 = lv := ⟨_, rfl⟩
  have Hb0 : Hid (Below w.heap.size w x0) := Lib.hid (by rw [← hx0]; exact alloc_below' w _)
  have Hl0 : Hid (SRead x0 lv abc) := Lib.hid (by rw [← hx0, ← hlv]; exact (SOwn.made (base := w.heap.size) abc (Nat.le_refl _) (by decide)).read (by decide))
  have hx0' : w.alloc (.cells #[.string ⟨#[97]⟩, .string ⟨#[98]⟩, .string ⟨#[99]⟩] 9) = x0 := hx0
  clear hx0
  go_enter Tryd.func42, Tryd.ntmps42
  go_wp2_with fail
  clear hx0' hlv
  refine (leaf_any (HT.out.below Hb0.out) ⟨#[97]⟩ (by decide)).mono ?_
  rintro e x1 ⟨rfl, hb1⟩
  have Hb1 := Lib.hid (Hb0.out.trans (hb1.mono Hb0.out.size))
  have Hl1 := Lib.hid (Hl0.out.below hb1 rfl)
  clear Hb0 Hl0 hb1
  go_wp2_with fail
  refine (leaf_any (HT.out.below Hb1.out) ⟨#[98]⟩ (by decide)).mono ?_
  rintro e x2 ⟨rfl, hb2⟩
  have Hb2 := Lib.hid (Hb1.out.trans (hb2.mono Hb1.out.size))
  have Hl2 := Lib.hid (Hl1.out.below hb2 rfl)
  clear Hb1 Hl1 hb2
  go_wp2_with fail
  refine (node_any (HT.out.below Hb2.out) _ _ (by rw [leafB_size]; decide) (by rw [leafB_size]; decide)).mono ?_
  rintro e x3 ⟨rfl, hb3⟩
  have Hb3 := Lib.hid (Hb2.out.trans (hb3.mono Hb2.out.size))
  have Hl3 := Lib.hid (Hl2.out.below hb3 rfl)
  clear Hb2 Hl2 hb3
  go_wp2_with fail
  refine (leaf_any (HT.out.below Hb3.out) ⟨#[99]⟩ (by decide)).mono ?_
  rintro e x4 ⟨rfl, hb4⟩
  have Hb4 := Lib.hid (Hb3.out.trans (hb4.mono Hb3.out.size))
  have Hl4 := Lib.hid (Hl3.out.below hb4 rfl)
  clear Hb3 Hl3 hb4
  go_wp2_with fail
  refine (node_any (HT.out.below Hb4.out) _ _ (by rw [nodeB_size]; decide) (by rw [leafB_size]; decide)).mono ?_
  rintro e x5 ⟨rfl, hb5⟩
  rw [show nodeB (nodeB (leafB ⟨#[97]⟩) (leafB ⟨#[98]⟩)) (leafB ⟨#[99]⟩) = wantB from rfl]
  have Hb5 := Lib.hid (Hb4.out.trans (hb5.mono Hb4.out.size))
  have Hl5 := Lib.hid (Hl4.out.below hb5 rfl)
  clear Hb4 Hl4 hb5
  go_wp2_with fail
  refine (of_abc (HT.out.below Hb5.out) (HBru.out.below Hb5.out) Hl5.out).mono ?_
  rintro e x6 ⟨⟨A, cap, rfl, ho⟩, hb6⟩
  have Hp6 := Lib.hid ho
  clear ho
  have Hb6 := Lib.hid (Hb5.out.trans (hb6.mono Hb5.out.size))
  have Hl6 := Lib.hid (Hl5.out.below hb6 rfl)
  clear Hb5 Hl5 hb6
  go_wp2_with fail
  have hb7 := alloc_below' x6 (.cells #[.int .u64 3, .slice A 2 cap] 50)
  obtain ⟨g3, hg3⟩ : ∃ g, x6.heap.size = g := ⟨_, rfl⟩
  have Hc7 : Hid (Blk (x6.alloc (.cells #[.int .u64 3, .slice A 2 cap] 50)) g3 50 #[.int .u64 3, .slice A 2 cap]) := Lib.hid (by rw [← hg3]; exact Blk.new _ _ _)
  rw [hg3]
  clear hg3
  generalize x6.alloc (.cells #[.int .u64 3, .slice A 2 cap] 50) = x7 at *
  have Hb7 := Lib.hid (Hb6.out.trans (hb7.mono Hb6.out.size))
  have Hl7 := Lib.hid (Hl6.out.below hb7 rfl)
  have Hp7 := Lib.hid (Hp6.out.below hb7 rfl)
  clear Hb6 Hl6 Hp6 hb7
  refine (top_abc (HT.out.below Hb7.out) Hp7.out).mono ?_
  rintro e x8 ⟨rfl, hb8⟩
  have Hb8 := Lib.hid (Hb7.out.trans (hb8.mono Hb7.out.size))
  have Hl8 := Lib.hid (Hl7.out.below hb8 rfl)
  have Hp8 := Lib.hid (Hp7.out.below hb8 rfl)
  have Hc8 := Lib.hid ((hb8.block _ (Blk.lt Hc7.out)).trans Hc7.out)
  clear Hb7 Hl7 Hp7 Hc7 hb8
  go_wp2_with fail
  refine (top_one _).mono ?_
  rintro e x9 ⟨rfl, hb9⟩
  have Hb9 := Lib.hid (Hb8.out.trans (hb9.mono Hb8.out.size))
  have Hl9 := Lib.hid (Hl8.out.below hb9 rfl)
  have Hp9 := Lib.hid (Hp8.out.below hb9 rfl)
  have Hc9 := Lib.hid ((hb9.block _ (Blk.lt Hc8.out)).trans Hc8.out)
  clear Hb8 Hl8 Hp8 Hc8 hb9
  go_wp2_with fail
  refine (sum_any (HT.out.below Hb9.out) ⟨#[]⟩ (by decide)).mono ?_
  rintro e x10 ⟨rfl, hb10⟩
  have Hb10 := Lib.hid (Hb9.out.trans (hb10.mono Hb9.out.size))
  have Hl10 := Lib.hid (Hl9.out.below hb10 rfl)
  have Hp10 := Lib.hid (Hp9.out.below hb10 rfl)
  have Hc10 := Lib.hid ((hb10.block _ (Blk.lt Hc9.out)).trans Hc9.out)
  clear Hb9 Hl9 Hp9 Hc9 hb10
  go_wp2_with fail
  have hsp := (SOwn.made (w := x10) (base := 0) [sumB ⟨#[]⟩] (Nat.zero_le _) (by decide)).read (by decide)
  obtain ⟨sv, hsv⟩ : ∃ sv, Value.slice (some ⟨x10.heap.size, 0, none⟩) 1 1 = sv := ⟨_, rfl⟩
  have Hsp : Hid (SRead (x10.alloc (.cells #[.string (sumB ⟨#[]⟩)] 9)) sv [sumB ⟨#[]⟩]) := Lib.hid (by rw [← hsv]; exact hsp)
  rw [hsv]
  clear hsp hsv
  have hb11 := alloc_below' x10 (.cells #[.string (sumB ⟨#[]⟩)] 9)
  generalize x10.alloc (.cells #[.string (sumB ⟨#[]⟩)] 9) = x11 at *
  have Hb11 := Lib.hid (Hb10.out.trans (hb11.mono Hb10.out.size))
  have Hl11 := Lib.hid (Hl10.out.below hb11 rfl)
  have Hp11 := Lib.hid (Hp10.out.below hb11 rfl)
  have Hc11 := Lib.hid ((hb11.block _ (Blk.lt Hc10.out)).trans Hc10.out)
  clear Hb10 Hl10 Hp10 Hc10 hb11
  refine (push_big Hsp.out (sumB_size _) _).mono ?_
  rintro e x12 ⟨⟨A1, cap1, rfl⟩, hb12⟩
  have Hb12 := Lib.hid (Hb11.out.trans (hb12.mono Hb11.out.size))
  have Hl12 := Lib.hid (Hl11.out.below hb12 rfl)
  have Hp12 := Lib.hid (Hp11.out.below hb12 rfl)
  have Hc12 := Lib.hid ((hb12.block _ (Blk.lt Hc11.out)).trans Hc11.out)
  clear Hb11 Hl11 Hp11 Hc11 hb12
  go_wp2_with fail
  have hb13 := alloc_below' x12 (.cells #[.int .u64 0, .slice A1 0 cap1] 50)
  generalize x12.alloc (.cells #[.int .u64 0, .slice A1 0 cap1] 50) = x13 at *
  have Hb13 := Lib.hid (Hb12.out.trans (hb13.mono Hb12.out.size))
  have Hl13 := Lib.hid (Hl12.out.below hb13 rfl)
  have Hp13 := Lib.hid (Hp12.out.below hb13 rfl)
  have Hc13 := Lib.hid ((hb13.block _ (Blk.lt Hc12.out)).trans Hc12.out)
  clear Hb12 Hl12 Hp12 Hc12 hb13
  refine (push_two _ _).mono ?_
  rintro e x14 ⟨⟨A2, cap2, rfl⟩, hb14⟩
  have Hb14 := Lib.hid (Hb13.out.trans (hb14.mono Hb13.out.size))
  have Hl14 := Lib.hid (Hl13.out.below hb14 rfl)
  have Hp14 := Lib.hid (Hp13.out.below hb14 rfl)
  have Hc14 := Lib.hid ((hb14.block _ (Blk.lt Hc13.out)).trans Hc13.out)
  clear Hb13 Hl13 Hp13 Hc13 hb14
  go_wp2_with fail
  have hb15 := alloc_below' x14 (.cells #[.int .u64 0, .slice A2 0 cap2] 50)
  generalize x14.alloc (.cells #[.int .u64 0, .slice A2 0 cap2] 50) = x15 at *
  have Hb15 := Lib.hid (Hb14.out.trans (hb15.mono Hb14.out.size))
  have Hl15 := Lib.hid (Hl14.out.below hb15 rfl)
  have Hp15 := Lib.hid (Hp14.out.below hb15 rfl)
  have Hc15 := Lib.hid ((hb15.block _ (Blk.lt Hc14.out)).trans Hc14.out)
  clear Hb14 Hl14 Hp14 Hc14 hb15
  refine (top_nil (HT.out.below Hb15.out)).mono ?_
  rintro e x16 ⟨rfl, hb16⟩
  have Hb16 := Lib.hid (Hb15.out.trans (hb16.mono Hb15.out.size))
  have Hl16 := Lib.hid (Hl15.out.below hb16 rfl)
  have Hp16 := Lib.hid (Hp15.out.below hb16 rfl)
  have Hc16 := Lib.hid ((hb16.block _ (Blk.lt Hc15.out)).trans Hc15.out)
  clear Hb15 Hl15 Hp15 Hc15 hb16
  go_wp2_with fail
  refine (split5 _).mono ?_
  rintro e _ ⟨rfl, rfl⟩
  go_wp2_with fail
  refine (split4 _).mono ?_
  rintro e _ ⟨rfl, rfl⟩
  go_wp2_with fail
  refine (split1 _).mono ?_
  rintro e _ ⟨rfl, rfl⟩
  go_wp2_with fail
  refine (split0 _).mono ?_
  rintro e _ ⟨rfl, rfl⟩
  go_wp2_with fail
  refine (root_abc_any (HT.out.below Hb16.out) Hl16.out).mono ?_
  rintro e x17 ⟨rfl, hb17⟩
  have Hb17 := Lib.hid (Hb16.out.trans (hb17.mono Hb16.out.size))
  have Hl17 := Lib.hid (Hl16.out.below hb17 rfl)
  have Hp17 := Lib.hid (Hp16.out.below hb17 rfl)
  have Hc17 := Lib.hid ((hb17.block _ (Blk.lt Hc16.out)).trans Hc16.out)
  clear Hb16 Hl16 Hp16 Hc16 hb17
  go_wp2_with fail
  refine (sum_any (HT.out.below Hb17.out) ⟨#[]⟩ (by decide)).mono ?_
  rintro e x18 ⟨rfl, hb18⟩
  have Hb18 := Lib.hid (Hb17.out.trans (hb18.mono Hb17.out.size))
  have Hl18 := Lib.hid (Hl17.out.below hb18 rfl)
  have Hp18 := Lib.hid (Hp17.out.below hb18 rfl)
  have Hc18 := Lib.hid ((hb18.block _ (Blk.lt Hc17.out)).trans Hc17.out)
  clear Hb17 Hl17 Hp17 Hc17 hb18
  go_wp2_with fail
  refine (root_nil_any (HT.out.below Hb18.out)).mono ?_
  rintro e x19 ⟨rfl, hb19⟩
  have Hb19 := Lib.hid (Hb18.out.trans (hb19.mono Hb18.out.size))
  have Hl19 := Lib.hid (Hl18.out.below hb19 rfl)
  have Hp19 := Lib.hid (Hp18.out.below hb19 rfl)
  have Hc19 := Lib.hid ((hb19.block _ (Blk.lt Hc18.out)).trans Hc18.out)
  clear Hb18 Hl18 Hp18 Hc18 hb19
  go_wp2_with fail
  refine (sum_any (HT.out.below Hb19.out) ⟨#[]⟩ (by decide)).mono ?_
  rintro e x20 ⟨rfl, hb20⟩
  have Hb20 := Lib.hid (Hb19.out.trans (hb20.mono Hb19.out.size))
  have Hl20 := Lib.hid (Hl19.out.below hb20 rfl)
  have Hp20 := Lib.hid (Hp19.out.below hb20 rfl)
  have Hc20 := Lib.hid ((hb20.block _ (Blk.lt Hc19.out)).trans Hc19.out)
  clear Hb19 Hl19 Hp19 Hc19 hb20
  have c0 := Blk.cell Hc20.out 0; have c1 := Blk.cell Hc20.out 1
  simp only [List.getElem?_toArray, List.getElem?_cons_succ, List.getElem?_cons_zero] at c0 c1
  go_wp2_with fail
  clear c0 c1
  refine (right_abc_any Hp20.out).mono ?_
  rintro e x21 ⟨rfl, hb21⟩
  have Hb21 := Lib.hid (Hb20.out.trans (hb21.mono Hb20.out.size))
  have Hl21 := Lib.hid (Hl20.out.below hb21 rfl)
  have Hp21 := Lib.hid (Hp20.out.below hb21 rfl)
  have Hc21 := Lib.hid ((hb21.block _ (Blk.lt Hc20.out)).trans Hc20.out)
  clear Hb20 Hl20 Hp20 Hc20 hb21
  go_wp2_with fail
  refine (roots_abc (HT.out.below Hb21.out) (HBru.out.below Hb21.out) Hl21.out).mono ?_
  rintro e x22 ⟨⟨b1, o1, cap3, rfl, -⟩, hb22⟩
  have Hb22 := Lib.hid (Hb21.out.trans (hb22.mono Hb21.out.size))
  have Hl22 := Lib.hid (Hl21.out.below hb22 rfl)
  have Hp22 := Lib.hid (Hp21.out.below hb22 rfl)
  have Hc22 := Lib.hid ((hb22.block _ (Blk.lt Hc21.out)).trans Hc21.out)
  clear Hb21 Hl21 Hp21 Hc21 hb22
  go_wp2_with fail
  refine (roots_abc (HT.out.below Hb22.out) (HBru.out.below Hb22.out) Hl22.out).mono ?_
  rintro e x23 ⟨⟨b2, o2, cap4, rfl, hq⟩, hb23⟩
  have Hb23 := Lib.hid (Hb22.out.trans (hb23.mono Hb22.out.size))
  have Hl23 := Lib.hid (Hl22.out.below hb23 rfl)
  have Hp23 := Lib.hid (Hp22.out.below hb23 rfl)
  have Hc23 := Lib.hid ((hb23.block _ (Blk.lt Hc22.out)).trans Hc22.out)
  clear Hb22 Hl22 Hp22 Hc22 hb23
  go_wp2
  go_ret
  exact ⟨rfl, Hb23.out⟩
end Go.Proofs.YtkdajlhmodmkoaaDoor
