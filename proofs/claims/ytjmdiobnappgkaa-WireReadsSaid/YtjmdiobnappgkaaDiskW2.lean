/-
  Layer 14 (disk): the walks of Turn, Trim, Copy.
-/
import Derived.Test.YtjmdiobnappgkaaDiskW
import Derived.BigRegion
namespace Go.Proofs.Ytjmdiobnappgkaa
open Go.RowKit
set_option linter.unusedVariables false
set_option linter.unusedSimpArgs false

theorem IsDisk.only {w w' : World} {base g B : Nat} {v : Value} {d : DS} {l : List Nat} (h : IsDisk w base g v d) (ho : Only B l w w') (hg : g < B ∧ g ∉ l) (hv : ∀ k, v.ownBlock = some k → k < B ∧ k ∉ l) : IsDisk w' base g v d :=
  ⟨h.blk.only ho hg.1 hg.2, h.hb, own_only h.own ho hv⟩
theorem IsDisk.below {w w' : World} {base g : Nat} {v : Value} {d : DS} (h : IsDisk w base g v d) (hb : Below w.heap.size w w') : IsDisk w' base g v d :=
  h.only (Only.ofBelow hb []) ⟨h.blk.lt, by simp⟩ (fun k hk => ⟨own_lt h.own k hk, by simp⟩)
theorem IsDisk.drewN {w : World} {base g : Nat} {v : Value} {d : DS} (h : IsDisk w base g v d) (n : Nat) : IsDisk (w.drewN n) base g v d := ⟨h.blk, h.hb, h.own⟩

def DS.turn (d : DS) : DS := { d with f0 := d.f1, f1 := d.f0 }

set_option maxRecDepth 100000 in
set_option maxHeartbeats 400000 in
theorem turn_no {base g : Nat} {v : Value} {d : DS} {w : World} (h : IsDisk w base g v d) (hk : d.ok) (hl : 0 < looseAll d.loose) : Calls Try.prog 38 #[.pointer (some ⟨g, 0, none⟩)] w fun e w' => e = .returned (.int .i64 7) ∧ Below w.heap.size w w' := by
  have hl' : (0 : Int) < (looseAll d.loose : Int) := by omega
  go_enter Try.func38, Try.ntmps38
  go_wp2_with fail
  refine (loose_any h hk).mono ?_
  rintro e w1 ⟨rfl, hb⟩
  go_wp2
  go_ret
  exact ⟨rfl, hb⟩

set_option maxRecDepth 100000 in
set_option maxHeartbeats 400000 in
theorem turn_yes {base g : Nat} {v : Value} {d : DS} {w : World} (h : IsDisk w base g v d) (hk : d.ok) (hl : looseAll d.loose = 0) : Calls Try.prog 38 #[.pointer (some ⟨g, 0, none⟩)] w fun e w' => e = .returned (.int .i64 0) ∧ IsDisk w' base g v d.turn ∧ Only w.heap.size [g] w w' := by
  have hl' : ¬ (0 : Int) < (looseAll d.loose : Int) := by omega
  go_enter Try.func38, Try.ntmps38
  go_wp2_with fail
  refine (loose_any h hk).mono ?_
  rintro e w1 ⟨rfl, hb⟩
  have h1 := h.below hb
  have c0 := h1.c0
  have c1 := h1.c1
  have f0 := h1.fr 0
  have f1 := h1.fr 1
  have H1 := Lib.hid h1; clear h1 h
  have Hb := Lib.hid hb; clear hb
  go_wp2
  go_region
  have hz := Hb.out.size
  have hbk := H1.out.blk
  have hfar := own_blk_ne H1.out.own hbk (by decide)
  have hb2 : Blk ((w1.setCell ⟨g, 0, none⟩ (Value.string d.f1)).setCell ⟨g, 1, none⟩ (Value.string d.f0)).drew g 117 (dcells d.turn v) := (hbk.set_ 0 _).set_ 1 _
  have ho2 : ((w1.setCell ⟨g, 0, none⟩ (Value.string d.f1)).setCell ⟨g, 1, none⟩ (Value.string d.f0)).drew.ownsRow base 120 2 v d.loose.length (lvals d.loose) := own_set_far (p := ⟨g, 1, none⟩) (own_set_far (p := ⟨g, 0, none⟩) H1.out.own hfar _) hfar _
  have hf2 : Only w.heap.size [g] w ((w1.setCell ⟨g, 0, none⟩ (Value.string d.f1)).setCell ⟨g, 1, none⟩ (Value.string d.f0)).drew := (((Only.ofBelow Hb.out [g]).setCell (p := ⟨g, 0, none⟩) (.inl (by simp)) _).setCell (p := ⟨g, 1, none⟩) (.inl (by simp)) _).drew
  clear hbk c0 c1 f0 f1
  generalize ((w1.setCell ⟨g, 0, none⟩ (Value.string d.f1)).setCell ⟨g, 1, none⟩ (Value.string d.f0)).drew = W at *
  have Hall := Lib.hid (And.intro hb2 (And.intro ho2 hf2)); clear hb2 ho2 hf2
  go_wp2
  go_ret
  exact ⟨rfl, ⟨Hall.out.1, H1.out.hb, Hall.out.2.1⟩, Hall.out.2.2⟩

def DS.trim (d : DS) (f n : Nat) : DS := if f = 0 then { d with f0 := d.f0.extract 0 n } else { d with f1 := d.f1.extract 0 n }
theorem trim_cells (d : DS) (v : Value) (f : Nat) (hf : f < 2) (n : Nat) : (dcells d v).setIfInBounds f (.string ((d.file f).extract 0 n)) = dcells (d.trim f n) v := by
  have : f = 0 ∨ f = 1 := by omega
  rcases this with rfl | rfl <;> rfl
theorem trim_loose (d : DS) (f : Nat) (hf : f < 2) (n : Nat) : (d.trim f n).loose = d.loose := by unfold DS.trim; split <;> rfl

set_option maxRecDepth 100000 in
set_option maxHeartbeats 400000 in
theorem trim_arg0 (g : Nat) (f : Int) (h : f < 0 ∨ 2 ≤ f) (n : Int) (w : World) : Calls Try.prog 39 #[.pointer (some ⟨g, 0, none⟩), .int .i64 f, .int .i64 n] w fun e w' => e = .returned (.int .i64 1) ∧ w = w' := by
  go_enter Try.func39, Try.ntmps39
  go_wp2_with fail
  refine (has_no _ h _).mono ?_
  rintro e w1 ⟨rfl, rfl⟩
  go_wp2
  go_ret
  exact ⟨rfl, rfl⟩
set_option maxRecDepth 100000 in
set_option maxHeartbeats 400000 in
theorem trim_arg {base g : Nat} {v : Value} {d : DS} {w : World} (h : IsDisk w base g v d) (hk : d.ok) (f : Nat) (hf2 : f < 2) (n : Int) (hn : n < 0 ∨ ((d.file f).size : Int) < n) : Calls Try.prog 39 #[.pointer (some ⟨g, 0, none⟩), .int .i64 (f : Int), .int .i64 n] w fun e w' => e = .returned (.int .i64 1) ∧ w = w' := by
  have cf := h.cf f hf2
  have hfi : (f : Int) < 2 := by omega
  have hfl := file_le hk f
  clear h
  rcases hn with hn | hn
  · have h1 : decide (n < 0) = true := by simp; omega
    go_enter Try.func39, Try.ntmps39
    go_wp2_with fail
    refine (has_yes _ (by omega) (by omega) _).mono ?_
    rintro e w1 ⟨rfl, rfl⟩
    go_wp2
    go_ret
    exact ⟨rfl, rfl⟩
  · have h1 : decide (n < 0) = false := by simp; omega
    go_enter Try.func39, Try.ntmps39
    go_wp2_with fail
    refine (has_yes _ (by omega) (by omega) _).mono ?_
    rintro e w1 ⟨rfl, rfl⟩
    go_wp2
    go_ret
    exact ⟨rfl, rfl⟩
set_option maxRecDepth 100000 in
set_option maxHeartbeats 400000 in
theorem trim_state {base g : Nat} {v : Value} {d : DS} {w : World} (h : IsDisk w base g v d) (hk : d.ok) (f : Nat) (hf2 : f < 2) (n : Nat) (hn : n ≤ (d.file f).size) (hl : 0 < looseAll d.loose) : Calls Try.prog 39 #[.pointer (some ⟨g, 0, none⟩), .int .i64 (f : Int), .int .i64 (n : Int)] w fun e w' => e = .returned (.int .i64 7) ∧ Below w.heap.size w w' := by
  have hl' : (0 : Int) < (looseAll d.loose : Int) := by omega
  have cf := h.cf f hf2
  have hfi : (f : Int) < 2 := by omega
  have hfl := file_le hk f
  have hni : (n : Int) ≤ ((d.file f).size : Int) := by omega
  go_enter Try.func39, Try.ntmps39
  go_wp2_with fail
  refine (has_yes _ (by omega) (by omega) _).mono ?_
  rintro e w1 ⟨rfl, rfl⟩
  go_wp2_with fail
  refine (loose_any h hk).mono ?_
  rintro e w1 ⟨rfl, hb⟩
  go_wp2
  go_ret
  exact ⟨rfl, hb⟩
set_option maxRecDepth 100000 in
set_option maxHeartbeats 400000 in
theorem trim_yes {base g : Nat} {v : Value} {d : DS} {w : World} (h : IsDisk w base g v d) (hk : d.ok) (f : Nat) (hf2 : f < 2) (n : Nat) (hn : n ≤ (d.file f).size) (hl : looseAll d.loose = 0) : Calls Try.prog 39 #[.pointer (some ⟨g, 0, none⟩), .int .i64 (f : Int), .int .i64 (n : Int)] w fun e w' => e = .returned (.int .i64 0) ∧ IsDisk w' base g v (d.trim f n) ∧ Only w.heap.size [g] w w' := by
  have hl' : ¬ (0 : Int) < (looseAll d.loose : Int) := by omega
  have cf := h.cf f hf2
  have hfi : (f : Int) < 2 := by omega
  have hfl := file_le hk f
  have hni : (n : Int) ≤ ((d.file f).size : Int) := by omega
  go_enter Try.func39, Try.ntmps39
  go_wp2_with fail
  refine (has_yes _ (by omega) (by omega) _).mono ?_
  rintro e w1 ⟨rfl, rfl⟩
  go_wp2_with fail
  refine (loose_any h hk).mono ?_
  rintro e w1 ⟨rfl, hb⟩
  have h1 := h.below hb
  clear cf
  have cf := h1.cf f hf2
  have ff := h1.fr f
  have H1 := Lib.hid h1; clear h1 h
  have Hb := Lib.hid hb; clear hb
  go_wp2
  go_region
  have hz := Hb.out.size
  have hbk := H1.out.blk
  have hfar := own_blk_ne H1.out.own hbk (by decide)
  have hb2 : Blk (w1.setCell ⟨g, f, none⟩ (Value.string ((d.file f).extract 0 n))).drew g 117 (dcells (d.trim f n) v) := by
    rw [← trim_cells d v f hf2 n]; exact hbk.set_ f _
  have ho2 : (w1.setCell ⟨g, f, none⟩ (Value.string ((d.file f).extract 0 n))).drew.ownsRow base 120 2 v d.loose.length (lvals d.loose) := own_set_far (p := ⟨g, f, none⟩) H1.out.own hfar _
  have hf3 : Only w.heap.size [g] w (w1.setCell ⟨g, f, none⟩ (Value.string ((d.file f).extract 0 n))).drew := ((Only.ofBelow Hb.out [g]).setCell (p := ⟨g, f, none⟩) (.inl (by simp)) _).drew
  clear hbk cf ff
  generalize (w1.setCell ⟨g, f, none⟩ (Value.string ((d.file f).extract 0 n))).drew = W at *
  have Hall := Lib.hid (And.intro hb2 (And.intro ho2 hf3)); clear hb2 ho2 hf3
  go_wp2
  go_ret
  refine ⟨rfl, ⟨Hall.out.1, H1.out.hb, ?_⟩, Hall.out.2.2⟩
  rw [trim_loose d f hf2 n]; exact Hall.out.2.1
end Go.Proofs.Ytjmdiobnappgkaa
