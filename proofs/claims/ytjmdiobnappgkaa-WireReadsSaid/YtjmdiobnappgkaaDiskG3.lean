/-
  Layer 14 (disk): the document's disk: the walks of Sync, Put, Turn, Trim, Crash.
-/
import Derived.Test.YtjmdiobnappgkaaDiskG2
namespace Go.Proofs.Ytjmdiobnappgkaa
open Go.RowKit
set_option linter.unusedVariables false
set_option linter.unusedSimpArgs false

def RS.sync (r : RS) : RS := ⟨r.file 0, r.file 1, [], r.room⟩
theorem ownsRow_empty {w : World} {g : Nat} (base : Nat) (e : TypeId) (size : Nat) (hb : base ≤ g) (h : w.heap[g]? = some (.cells #[] e (0, 0))) : w.ownsRow base e size (.slice (some ⟨g, 0, none⟩) 0 0) 0 [] :=
  ⟨by simp, .inr ⟨g, 0, #[], rfl, hb, h, Nat.le_refl _, Nat.zero_le _, by simp, by simp⟩⟩

set_option maxRecDepth 100000 in
set_option maxHeartbeats 400000 in
theorem rsync_any {base g : Nat} {v : Value} {r : RS} {w : World} (h : IsRef w base g v r) (hk : r.ok) : Calls Try.prog 87 #[.pointer (some ⟨g, 0, none⟩)] w fun e w' => e = .returned (.tuple #[]) ∧ ∃ v', IsRef w' base g v' r.sync ∧ Only w.heap.size [g] w w' := by
  go_enter Try.func87, Try.ntmps87
  go_wp2_with fail
  refine (rread_yes h hk 0 (by decide)).mono ?_
  rintro e w1 ⟨rfl, h1⟩
  have hr1 := h.below h1
  go_wp2_with fail
  refine (rread_yes hr1 hk 1 (by decide)).mono ?_
  rintro e w2 ⟨rfl, h2⟩
  have hr2 := hr1.below h2
  have hb2 := bthen h1 h2
  have c0 := hr2.c0
  have c1 := hr2.c1
  have c2 := hr2.c2
  have f0 := hr2.fr 0
  have f1 := hr2.fr 1
  have f2 := hr2.fr 2
  have hgl := hr2.blk.lt
  have hbase : base ≤ w2.heap.size := by have := hr2.hb; omega
  have H2 := Lib.hid hr2
  have B2 := Lib.hid hb2
  clear h h1 hr1 h2 hr2 hb2
  go_wp2
  go_end0
  have hsz : (((w2.setCell ⟨g, 0, none⟩ (.string (r.file 0))).setCell ⟨g, 1, none⟩ (.string (r.file 1))).setCell ⟨g, 2, none⟩ (.slice (some ⟨w2.heap.size, 0, none⟩) 0 0)).heap.size = w2.heap.size := by simp
  refine ⟨rfl, _, ⟨(((H2.out.blk.set_ 0 _).set_ 1 _).set_ 2 _).alloc _, H2.out.hb, ?_⟩, ?_⟩
  · have := heap_alloc_new (((w2.setCell ⟨g, 0, none⟩ (.string (r.file 0))).setCell ⟨g, 1, none⟩ (.string (r.file 1))).setCell ⟨g, 2, none⟩ (.slice (some ⟨w2.heap.size, 0, none⟩) 0 0)) (.cells #[] 123)
    rw [hsz] at this
    exact ownsRow_empty base 123 2 hbase this
  · refine ((((Only.ofBelow B2.out [g]).setCell (p := ⟨g, 0, none⟩) (.inl (by simp)) _).setCell (p := ⟨g, 1, none⟩) (.inl (by simp)) _).setCell (p := ⟨g, 2, none⟩) (.inl (by simp)) _).alloc ?_ _
    rw [hsz]; exact B2.out.size

/-- A row that was there before, or one that is new. -/
def sameOrNew (B : Nat) (v v' : Value) : Prop := v'.ownBlock = v.ownBlock ∨ ∃ k, B ≤ k ∧ v'.ownBlock = some k
def RS.put (r : RS) (f : Nat) (l : List UInt8) : RS := { r with loose := r.loose ++ l.map fun c => (f, c) }
theorem RS.put_snoc (r : RS) (f : Nat) (l : List UInt8) (c : UInt8) : (r.put f (l ++ [c])).loose = (r.put f l).loose ++ [(f, c)] := by simp [RS.put]
theorem take_snoc' (s : ByteArray) (k : Nat) (h : k < s.size) : s.data.toList.take (k + 1) = s.data.toList.take k ++ [s[k]] := by
  rw [List.take_succ_eq_append_getElem (by rw [Array.length_toList]; exact h)]; rfl

set_option maxRecDepth 100000 in
theorem rput_arg (g : Nat) (f : Int) (h : f < 0 ∨ 2 ≤ f) (s : ByteArray) (w : World) : Calls Try.prog 86 #[.pointer (some ⟨g, 0, none⟩), .int .i64 f, .string s] w fun e w' => e = .returned (.int .i64 1) ∧ w = w' := by
  rcases h with h | h
  · go_enter Try.func86, Try.ntmps86
    go_wp2
    go_ret
    exact ⟨rfl, rfl⟩
  · have h' : decide (f < 0) = false := by simp; omega
    have h2 : (1 : Int) < f := by omega
    go_enter Try.func86, Try.ntmps86
    go_wp2
    go_ret
    exact ⟨rfl, rfl⟩
set_option maxRecDepth 100000 in
theorem rput_full {base g : Nat} {v : Value} {r : RS} {w : World} (h : IsRef w base g v r) (hk : r.ok) (f : Nat) (hf : f < 2) (s : ByteArray) (hs : r.room < r.a.size + r.b.size + r.loose.length + s.size) :
    Calls Try.prog 86 #[.pointer (some ⟨g, 0, none⟩), .int .i64 (f : Int), .string s] w fun e w' => e = .returned (.int .i64 8) ∧ ∃ n, w' = w.drewN n := by
  have hlt : (r.room : Int) - (r.a.size : Int) - (r.b.size : Int) - (r.loose.length : Int) < (s.size : Int) := by omega
  have hf0 : ¬ (f : Int) < 0 := by omega
  have hf1 : ¬ (1 : Int) < (f : Int) := by omega
  go_enter Try.func86, Try.ntmps86
  go_wp2_with fail
  refine (rfree_any h hk).mono ?_
  rintro e w1 ⟨rfl, n, rfl⟩
  go_wp2
  go_ret
  exact ⟨rfl, n, rfl⟩

set_option maxRecDepth 100000 in
set_option maxHeartbeats 800000 in
theorem rput_ok {base g : Nat} {v : Value} {r : RS} {w : World} (h : IsRef w base g v r) (hk : r.ok) (f : Nat) (hf : f < 2) (s : ByteArray) (hs : r.a.size + r.b.size + r.loose.length + s.size ≤ r.room) :
    Calls Try.prog 86 #[.pointer (some ⟨g, 0, none⟩), .int .i64 (f : Int), .string s] w fun e w' => e = .returned (.int .i64 0) ∧ ∃ v', IsRef w' base g v' (r.put f s.data.toList) ∧ sameOrNew w.heap.size v v' ∧ Only w.heap.size (g :: v.ownBlock.toList) w w' := by
  have hge : ¬ (r.room : Int) - (r.a.size : Int) - (r.b.size : Int) - (r.loose.length : Int) < (s.size : Int) := by omega
  have hroom := hk.room
  obtain ⟨i0, hi, hz0, hz1, hz2⟩ := info_parts info123
  have hf0 : ¬ (f : Int) < 0 := by omega
  have hf1 : ¬ (1 : Int) < (f : Int) := by omega
  have hgl := h.blk.lt
  have hvl0 := h.own.lt
  have e0 : r.put f [] = r := by simp [RS.put]
  have Hvl0 := Lib.hid hvl0; clear hvl0
  go_enter Try.func86, Try.ntmps86
  go_wp2_with fail
  refine (rfree_any h hk).mono ?_
  rintro e w1 ⟨rfl, n, rfl⟩
  go_wp2
  go_loopw [7] (fun i wr => ∃ (k : Nat) (v' : Value), k ≤ s.size ∧ i = .int .i64 k ∧ IsRef wr base g v' (r.put f (s.data.toList.take k)) ∧ sameOrNew w.heap.size v v' ∧ Only w.heap.size (g :: v.ownBlock.toList) w wr) (fun i _ => s.size - (intOf i).toNat)
  case atStart => exact ⟨0, v, Nat.zero_le _, rfl, by rw [List.take_zero, e0]; exact h.drewN n, .inl rfl, (Only.refl _ _ _).drewN n⟩
  case round =>
    clear h hge
    obtain ⟨k, v', hk', rfl, hr, hsn, ho⟩ := hrel
    by_cases hlt : k < s.size
    · have hts := take_snoc' s k hlt
      have hps := RS.put_snoc r f (s.data.toList.take k) s[k]
      rw [← hts] at hps
      have hlen : (r.put f (s.data.toList.take k)).loose.length = r.loose.length + k := by
        have : s.data.toList.length = s.size := by rw [Array.length_toList]; rfl
        simp [RS.put]; omega
      have hcl : ∃ c, s[k] = c := ⟨_, rfl⟩
      obtain ⟨c, hc⟩ := hcl
      rw [hc] at hps hts
      have ha0 : (r.put f (s.data.toList.take (k + 1))) = { (r.put f (s.data.toList.take k)) with loose := (r.put f (s.data.toList.take k)).loose ++ [(f, c)] } := by
        rw [hts]; simp [RS.put]
      have Ha0 := Lib.hid ha0; clear ha0 hts hps
      generalize r.put f (s.data.toList.take k) = R at *
      have c2 := hr.c2
      have f2 := hr.fr 2
      have hown := hr.own
      rw [hlen] at hown
      have hbase : base ≤ wr.heap.size := by have := hr.hb; have := hr.blk.lt; omega
      have hfar := own_blk_ne hown hr.blk (by decide)
      have hszw := ho.size
      have Hr := Lib.hid hr; have Ho := Lib.hid ho; have Hfar := Lib.hid hfar; have Hlen := Lib.hid hlen
      clear hr ho hfar hlen
      have c2a : (wr.alloc (.cells #[.int .i64 (f : Int), .int .u8 (c.toNat : Int)] 123)).cell? ⟨g, 2, none⟩ = some v' := (Hr.out.blk.alloc _).cell 2
      go_wp2
      go_region_law (refine step_append_el rfl _ _ 55 rfl base 123 i0 _ 2 16 Try.underlying55 hi hz0 hz1 hz2 rfl (by decide) v' _ _ rfl (hown.alloc _).drew wr.heap.size rfl #[.int .i64 (f : Int), .int .u8 (c.toNat : Int)] 123 (0, 0) (heap_alloc_new wr _) rfl (by intro u hu; simp at hu; rcases hu with rfl | rfl <;> rfl) (by unfold maxLen; omega) (by omega) (by simp; omega) ?_; intro g' cap' w3 hown3 hg3 hat3; have hb3 := ((Hr.out.blk.alloc (.cells #[.int .i64 (f : Int), .int .u8 (c.toNat : Int)] 123)).drew).grown hg3 (fun h => Hfar.out h.symm); have c23 : w3.cell? ⟨g, 2, none⟩ = some v' := hb3.cell 2; have f23 : w3.frozen? ⟨g, 2, none⟩ = false := hb3.frozen 2)
      all_goals
        have Hat := Lib.hid hat3; have Hg3 := Lib.hid hg3; have Hb3 := Lib.hid hb3; have Ho3 := Lib.hid hown3
        clear hat3 hg3 hb3 hown3
        go_wp2
        go_roundw
        case rel =>
          have hne : g' ≠ g := by
            rcases Hat.out with h1 | h1
            · rintro rfl; exact Hfar.out h1
            · have : (wr.alloc (.cells #[.int .i64 (f : Int), .int .u8 (c.toNat : Int)] 123)).drew.heap.size = wr.heap.size + 1 := by simp
              have := Hr.out.blk.lt
              omega
          refine ⟨k + 1, .slice (some ⟨g', 0, none⟩) (r.loose.length + k + 1) cap', by omega, by go_num, ⟨?_, Hr.out.hb, ?_⟩, ?_, ?_⟩
          · rw [Ha0.out]; exact Hb3.out.set_ 2 _
          · rw [Ha0.out]
            have := own_set_far (p := ⟨g, 2, none⟩) Ho3.out (by simp [Value.ownBlock]; exact hne) (.slice (some ⟨g', 0, none⟩) (r.loose.length + k + 1) cap')
            show World.ownsRow _ base 123 2 _ (R.loose ++ [(f, c)]).length (rvals (R.loose ++ [(f, c)]))
            rw [List.length_append, Hlen.out, rvals_append]
            simpa [rvals] using this
          · rcases Hat.out with h1 | h1
            · rcases hsn with h2 | ⟨q, h2, h3⟩
              · exact .inl (by rw [← h2, h1]; rfl)
              · rw [h1] at h3; injection h3 with h3; exact .inr ⟨g', by omega, rfl⟩
            · have : (wr.alloc (.cells #[.int .i64 (f : Int), .int .u8 (c.toNat : Int)] 123)).drew.heap.size = wr.heap.size + 1 := by simp
              exact .inr ⟨g', by omega, rfl⟩
          · refine ((((Ho.out.alloc hszw _).drew).grown Hg3.out (by simp; omega) ?_).setCell (p := ⟨g, 2, none⟩) (.inl (by simp)) _)
            intro q hq
            rcases hsn with h2 | ⟨q', h2, h3⟩
            · exact .inl (by rw [← h2, hq]; simp)
            · rw [hq] at h3; injection h3 with h3; exact .inr (by omega)
        case measure => simp [intOf]; omega
    · obtain rfl : k = s.size := by omega
      have e1 : s.data.toList.take s.size = s.data.toList := List.take_of_length_le (by rw [Array.length_toList]; exact Nat.le_refl _)
      rw [e1] at hr
      have Hr := Lib.hid hr; have Ho := Lib.hid ho; clear hr ho
      go_wp2
      go_ret
      exact ⟨rfl, _, Hr.out, hsn, Ho.out⟩
end Go.Proofs.Ytjmdiobnappgkaa
