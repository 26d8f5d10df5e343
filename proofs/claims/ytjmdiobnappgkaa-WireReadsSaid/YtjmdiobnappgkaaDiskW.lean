/-
  Layer 14 (disk): the walks of Put, Turn, Trim, Copy, Crash.
-/
import Derived.Test.YtjmdiobnappgkaaDiskM
import Derived.BigRegion
namespace Go.Proofs.Ytjmdiobnappgkaa
open Go.RowKit
set_option linter.unusedVariables false
set_option linter.unusedSimpArgs false

theorem info120 : (Try.prog.info? 120).map (fun i => (i.zero, i.size, i.bytes)) = some (some (.agg #[.int .i64 0, .int .i64 0]), 2, 16) := by kernel_rfl

def DS.put (d : DS) (f : Nat) (s : ByteArray) : DS :=
  if f = 0 then { d with f0 := d.f0 ++ s, loose := d.loose ++ [(0, s.size)] } else { d with f1 := d.f1 ++ s, loose := d.loose ++ [(1, s.size)] }

theorem put_arg (g : Nat) (f : Int) (h : f < 0 ∨ 2 ≤ f) (s : ByteArray) (w : World) : Calls Try.prog 31 #[.pointer (some ⟨g, 0, none⟩), .int .i64 f, .string s] w fun e w' => e = .returned (.int .i64 1) ∧ w = w' := by
  go_enter Try.func31, Try.ntmps31
  go_wp2_with fail
  refine (has_no _ h _).mono ?_
  rintro e w1 ⟨rfl, rfl⟩
  go_wp2
  go_ret
  exact ⟨rfl, rfl⟩

set_option maxRecDepth 100000 in
set_option maxHeartbeats 400000 in
theorem put_full {base g : Nat} {v : Value} {d : DS} {w : World} (h : IsDisk w base g v d) (hk : d.ok) (f : Int) (h0 : 0 ≤ f) (h2 : f < 2) (s : ByteArray) (hs : d.free < s.size) :
    Calls Try.prog 31 #[.pointer (some ⟨g, 0, none⟩), .int .i64 f, .string s] w fun e w' => e = .returned (.int .i64 8) ∧ ∃ n, w' = w.drewN n := by
  have hlt : (d.free : Int) < (s.size : Int) := by omega
  go_enter Try.func31, Try.ntmps31
  go_wp2_with fail
  refine (has_yes _ h0 h2 _).mono ?_
  rintro e w1 ⟨rfl, rfl⟩
  go_wp2_with fail
  refine (free_any h hk).mono ?_
  rintro e w1 ⟨rfl, n, rfl⟩
  go_wp2
  go_ret
  exact ⟨rfl, n, rfl⟩

theorem IsDisk.cf {w : World} {base g : Nat} {v : Value} {d : DS} (h : IsDisk w base g v d) (f : Nat) (hf : f < 2) : w.cell? ⟨g, f, none⟩ = some (.string (d.file f)) := by
  have : f = 0 ∨ f = 1 := by omega
  rcases this with rfl | rfl
  · exact h.c0
  · exact h.c1
theorem file_le {d : DS} (hk : d.ok) (f : Nat) : (d.file f).size ≤ 16777216 := by
  have := hk.fits; have := hk.room; unfold DS.file; split <;> omega
theorem put_cells (d : DS) (v v' : Value) (f : Nat) (hf : f < 2) (s : ByteArray) : ((dcells d v).setIfInBounds f (.string (d.file f ++ s))).setIfInBounds 2 v' = dcells (d.put f s) v' := by
  have : f = 0 ∨ f = 1 := by omega
  rcases this with rfl | rfl <;> rfl
theorem put_loose (d : DS) (f : Nat) (hf : f < 2) (s : ByteArray) : (d.put f s).loose = d.loose ++ [(f, s.size)] := by
  have : f = 0 ∨ f = 1 := by omega
  rcases this with rfl | rfl <;> rfl

set_option maxRecDepth 100000 in
set_option maxHeartbeats 400000 in
theorem put_ok {base g : Nat} {v : Value} {d : DS} {w : World} (h : IsDisk w base g v d) (hk : d.ok) (f : Nat) (hf2 : f < 2) (s : ByteArray) (hs : s.size ≤ d.free) (hfew : d.loose.length < 1000000) :
    Calls Try.prog 31 #[.pointer (some ⟨g, 0, none⟩), .int .i64 (f : Int), .string s] w fun e w' => e = .returned (.int .i64 0) ∧ ∃ v', IsDisk w' base g v' (d.put f s) ∧ (v'.ownBlock = v.ownBlock ∨ ∃ k, w.heap.size ≤ k ∧ v'.ownBlock = some k) ∧ Only w.heap.size (g :: v.ownBlock.toList) w w' := by
  have hge : ¬ (d.free : Int) < (s.size : Int) := by omega
  obtain ⟨i0, hi, hz0, hz1, hz2⟩ := info_parts info120
  have cf := h.cf f hf2
  have ff := h.fr f
  have hfl := file_le hk f
  have hfit := hk.fits
  have hroom := hk.room
  have hfree : d.free ≤ 16777216 := by unfold DS.free; omega
  have hsz0 : ((d.file f).size : Int) + s.size ≤ 9223372036854775807 := by omega
  have hfi : (f : Int) < 2 := by omega
  have H := Lib.hid h
  go_enter Try.func31, Try.ntmps31
  go_wp2_with fail
  refine (has_yes _ (by omega) (by omega) _).mono ?_
  rintro e w1 ⟨rfl, rfl⟩
  go_wp2_with fail
  refine (free_any h hk).mono ?_
  rintro e w1 ⟨rfl, n, rfl⟩
  have hblk := h.blk
  have hown := h.own
  have hfar := own_blk_ne hown hblk (by decide)
  clear h
  have Hblk := Lib.hid hblk; clear hblk
  have Hfar := Lib.hid hfar; clear hfar
  go_wp2
  go_region
  have hb1 : Blk ((w.drewN (n + 1)).setCell ⟨g, f, none⟩ (Value.string (d.file f ++ s))) g 117 ((dcells d v).setIfInBounds f (.string (d.file f ++ s))) := (Hblk.out.drewN (n + 1)).set_ f _
  have hown1 : ((w.drewN (n + 1)).setCell ⟨g, f, none⟩ (Value.string (d.file f ++ s))).ownsRow base 120 2 v d.loose.length (lvals d.loose) := own_set_far (p := ⟨g, f, none⟩) hown Hfar.out _
  have ho1 : Only w.heap.size (g :: v.ownBlock.toList) w ((w.drewN (n + 1)).setCell ⟨g, f, none⟩ (Value.string (d.file f ++ s))) := ((Only.refl _ _ _).drewN _).setCell (p := ⟨g, f, none⟩) (.inl (by simp)) _
  have c2 : ((w.drewN (n + 1)).setCell ⟨g, f, none⟩ (Value.string (d.file f ++ s))).cell? ⟨g, 2, none⟩ = some v := by
    rw [hb1.cell 2, Array.getElem?_setIfInBounds, if_neg (by omega)]; rfl
  have hsz1 : ((w.drewN (n + 1)).setCell ⟨g, f, none⟩ (Value.string (d.file f ++ s))).heap.size = w.heap.size := by simp
  generalize (w.drewN (n + 1)).setCell ⟨g, f, none⟩ (Value.string (d.file f ++ s)) = W at *
  have hbase : base ≤ W.heap.size := by have := H.out.hb; have := hb1.lt; omega
  have hgl := hb1.lt
  have hvl := own_lt hown1
  have Hb1 := Lib.hid hb1; clear hb1
  have Hvl := Lib.hid hvl; clear hvl
  have Ho1 := Lib.hid ho1; clear ho1
  have Hsz1 := Lib.hid hsz1; clear hsz1
  clear cf ff hown
  go_wp2_with (at_builtin; refine wpList_append_el rfl _ _ 115 rfl base 120 i0 _ 2 16 Try.underlying115 hi hz0 hz1 hz2 rfl (by decide) v _ _ rfl (hown1.alloc _) W.heap.size rfl _ 120 (0, 0) (heap_alloc_new W _) rfl ?c1 ?c2 ?c3 ?c4 ?c5)
  case c1 => exact ⟨rfl, rfl⟩
  case c2 => unfold maxLen; omega
  case c3 => omega
  case c4 => simp; omega
  intro g' cap' w2 hown2 hg2 hat2
  have hv2 : g' ≠ g := by
    rcases hat2 with h1 | h1
    · rintro rfl; exact Hfar.out h1
    · have : (W.alloc (.cells #[.int .i64 (f : Int), .int .i64 (s.size : Int)] 120)).heap.size = W.heap.size + 1 := by simp
      omega
  have hblk2 := (Hb1.out.alloc (.cells #[.int .i64 (f : Int), .int .i64 (s.size : Int)] 120)).grown hg2 (fun h => Hfar.out h.symm)
  have c22 : w2.cell? ⟨g, 2, none⟩ = some v := by rw [hblk2.cell 2, Array.getElem?_setIfInBounds, if_neg (by omega)]; rfl
  have f22 := hblk2.frozen 2
  have Hblk2 := Lib.hid hblk2; clear hblk2
  have Hv2 := Lib.hid hv2; clear hv2
  have Hat2 := Lib.hid hat2; clear hat2
  have Hg2 := Lib.hid hg2; clear hg2
  go_wp2
  go_ret
  refine ⟨rfl, .slice (some ⟨g', 0, none⟩) (d.loose.length + 1) cap', ⟨?_, H.out.hb, ?_⟩, ?_, ?_⟩
  · have := Hblk2.out.set_ 2 (.slice (some ⟨g', 0, none⟩) (d.loose.length + 1) cap')
    rw [put_cells d v _ f hf2] at this
    exact this
  · rw [put_loose d f hf2, lvals_append]
    have := own_set_far (p := ⟨g, 2, none⟩) hown2 (by simp [Value.ownBlock]; exact Hv2.out) (.slice (some ⟨g', 0, none⟩) (d.loose.length + 1) cap')
    simpa [lvals] using this
  · rcases Hat2.out with h1 | h1
    · exact .inl (by rw [h1]; rfl)
    · exact .inr ⟨g', by rw [h1]; simp [Hsz1.out], rfl⟩
  · refine (((Ho1.out.alloc (by rw [Hsz1.out]; exact Nat.le_refl _) _).grown Hg2.out (by simp [Hsz1.out]) ?_).setCell (p := ⟨g, 2, none⟩) (.inl (by simp)) _)
    intro k hk
    exact .inl (by rw [hk]; simp)
end Go.Proofs.Ytjmdiobnappgkaa
