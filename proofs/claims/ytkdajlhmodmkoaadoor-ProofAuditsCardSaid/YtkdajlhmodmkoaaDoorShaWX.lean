/-
  Layer 2 (sha): With walked.
-/
import Derived.Test.YtkdajlhmodmkoaaDoorShaE
import Derived.Test.YtkdajlhmodmkoaaDoorShaA
import Derived.Deep.DeepCutAuto
namespace Go.Proofs.YtkdajlhmodmkoaaDoor
open Go.RowKit
set_option linter.unusedVariables false
set_option linter.unusedSimpArgs false

/-- A run's value, that has eaten the bytes l. -/
def IsRun (v : Value) (l : List UInt8) : Prop := ∃ on st left, v = .agg (rcells on (vl st) left l.length) ∧ ShaM.Inv on st left l
def RunPost (w : World) (l : List UInt8) (e : Ending) (w' : World) : Prop := (∃ v, e = .returned v ∧ IsRun v l) ∧ Below w.heap.size w w'
theorem info30 : (Tryd.prog.info? 30).map (·.size) = some 74 := by kernel_rfl

theorem ba_take_snoc (s : ByteArray) (k : Nat) (h : k < s.size) : s.data.toList.take (k + 1) = s.data.toList.take k ++ [s[k]] := by
  rw [List.take_succ_eq_append_getElem (by simpa using h)]; rfl
/-- The loop of With, behind k bytes. -/
structure WithW (w wr : World) (s : ByteArray) (l : List UInt8) (k : Nat) (on : Bool) (st : ShaM.V8) (left : List UInt8) (N : Nat) : Prop where
  bel : Below w.heap.size w wr
  run : RB wr w.heap.size on (vl st) left N
  inv : ShaM.Inv on st left (l ++ s.data.toList.take k)
  len : N = l.length + k
  z : Blk wr (w.heap.size + 1) 30 Tryd.zeroCells30
  b : ∀ i (h : i < s.size), wr.cell? ⟨w.heap.size + 2, i, none⟩ = some (.int .u8 (s[i].toNat : Int))
  lt : w.heap.size + 2 < wr.heap.size

/-- The world behind one byte. -/
abbrev putW (w wr : World) (N : Nat) (c : UInt8) : World := (wr.setCell ⟨w.heap.size, 9 + N % 64, none⟩ (.int .u8 (c.toNat : Int))).setCell ⟨w.heap.size, 73, none⟩ (.int .i64 ((N : Int) + 1))
section
variable {w wr w6 : World} {s : ByteArray} {l : List UInt8} {k : Nat} {on : Bool} {st : ShaM.V8} {left : List UInt8} {N : Nat} {c : UInt8}
theorem WithW.putB (h : WithW w wr s l k on st left N) : Below w.heap.size w (putW w wr N c) := (h.bel.setCell (p := ⟨w.heap.size, 9 + N % 64, none⟩) (Nat.le_refl _) _).setCell (p := ⟨w.heap.size, 73, none⟩) (Nat.le_refl _) _
theorem WithW.putR (h : WithW w wr s l k on st left N) : RB (putW w wr N c) w.heap.size on (vl st) (left.set (N % 64) c) (N + 1) := (h.run.setL (N % 64) (by omega) c).setN (N + 1)
theorem WithW.putO (h : WithW w wr s l k on st left N) : Only wr.heap.size [w.heap.size] wr (putW w wr N c) := ((Only.refl _ _ _).setCell (p := ⟨w.heap.size, 9 + N % 64, none⟩) (.inl (by simp)) _).setCell (p := ⟨w.heap.size, 73, none⟩) (.inl (by simp)) _
theorem WithW.lenL (h : WithW w wr s l k on st left N) (hk : k < s.size) : (l ++ s.data.toList.take k).length = N := by
  rw [h.len, List.length_append, List.length_take]
  have : s.data.toList.length = s.size := by simp
  omega
theorem WithW.stay (h : WithW w wr s l k on st left N) (hk : k < s.size) (ht : s.data.toList.take (k + 1) = s.data.toList.take k ++ [c]) (hm : ¬ (N + 1) % 64 = 0) :
    WithW w (putW w wr N c) s l (k + 1) on st (left.set (N % 64) c) (N + 1) := by
  have hl := h.lenL hk
  have hi := h.inv.put c (by rw [hl]; exact hm)
  rw [hl, List.append_assoc, ← ht] at hi
  have ho := h.putO (c := c)
  have hlt := h.lt
  refine ⟨h.putB, h.putR, hi, by rw [h.len]; omega, h.z.only ho (by omega) (by simp), fun i hi => ?_, Nat.lt_of_lt_of_le hlt ho.size⟩
  have := ho.block (w.heap.size + 2) hlt (by simp)
  exact (World.cell?_congr this).trans (h.b i hi)
theorem WithW.turn (h : WithW w wr s l k on st left N) (hk : k < s.size) (ht : s.data.toList.take (k + 1) = s.data.toList.take k ++ [c]) (hm : (N + 1) % 64 = 0)
    (h6 : RB w6 w.heap.size true (vl (ShaM.compress (bif on then st else ShaM.begin8) (left.set (N % 64) c))) (left.set (N % 64) c) (N + 1)) (o6 : Only (putW w wr N c).heap.size [w.heap.size] (putW w wr N c) w6) :
    WithW w w6 s l (k + 1) true (ShaM.compress (bif on then st else ShaM.begin8) (left.set (N % 64) c)) (left.set (N % 64) c) (N + 1) := by
  have hl := h.lenL hk
  have hi := h.inv.eat c (by rw [hl]; exact hm)
  rw [hl, List.append_assoc, ← ht] at hi
  have ho := h.putO (c := c)
  have hlt := h.lt
  have oo : Only wr.heap.size [w.heap.size] wr w6 := ho.trans (o6.mono ho.size (fun _ _ h => h))
  refine ⟨h.bel.trans (oo.below_of (Nat.le_of_lt (by omega)) (by simp)), h6, hi, by rw [h.len]; omega, h.z.only oo (by omega) (by simp), fun i hi => ?_, Nat.lt_of_lt_of_le hlt oo.size⟩
  have := oo.block (w.heap.size + 2) hlt (by simp)
  exact (World.cell?_congr this).trans (h.b i hi)
end
set_option maxRecDepth 100000 in
set_option maxHeartbeats 2000000 in
theorem with_any {w : World} (hT : Tab w) {v : Value} {l : List UInt8} (h : IsRun v l) (s : ByteArray) (hs : l.length + s.size ≤ 140737488355328) :
    Calls Tryd.prog 30 #[v, .string s] w (RunPost w (l ++ s.data.toList)) := by
  obtain ⟨on, st, left, rfl, hinv⟩ := h
  have hsz : (rcells on (vl st) left l.length).size = 74 := rcells_size rfl hinv.hlen
  have hr0 : RB (w.alloc (.cells (rcells on (vl st) left l.length) 30)) w.heap.size on (vl st) left l.length := ⟨Blk.new _ _ _, rfl, hinv.hlen⟩
  generalize hcs : rcells on (vl st) left l.length = cs at *
  have Hcs := Lib.hid hcs; clear hcs
  have hz0 := blk_new2 w (.cells cs 30) 30 Tryd.zeroCells30
  obtain ⟨cap, w2, hconv, hb2, hz2, hcap, hcells⟩ := conv_bytes (P := Tryd.prog) ((w.alloc (.cells cs 30)).alloc (.cells Tryd.zeroCells30 30)) 9 40 5 s Tryd.underlying9 Tryd.underlying40 Tryd.underlying5
  have H0 : Hid (WithW w w2 s l 0 on st left l.length) := Lib.hid ⟨(((Below.refl _ _).alloc (Nat.le_refl _) _).alloc (by simp) _).trans (hb2.mono (by simp; omega)), (hr0.alloc _).below hb2, by simpa using hinv, rfl, (hb2.block _ hz0.lt).trans hz0, by simpa using hcells, by simp at hz2; omega⟩
  have HT := Lib.hid hT; have Hinv := Lib.hid hinv
  clear hcells hz2 hb2 hz0 hr0 hinv hT
  go_enter Tryd.func30, Tryd.ntmps30
  go_wp2
  go_loopw [6, 10] (fun _ i wr => ∃ k : Nat, k ≤ s.size ∧ i = .int .i64 k ∧ ∃ on st left N, WithW w wr s l k on st left N) (fun _ i _ => s.size - (intOf i).toNat)
  case atStart => exact ⟨0, by omega, rfl, on, st, left, _, H0.out⟩
  case round =>
    clear hconv H0
    obtain ⟨k, hk, rfl, on', st', left', N, hW⟩ := hrel
    by_cases hlt : k < s.size
    · have hc := hW.b k hlt
      have hN := hW.len
      have Hts := Lib.hid (ba_take_snoc s k hlt)
      generalize s[k] = c at *
      have hn := hW.run.gN
      have hl := hW.run.gL (N % 64) (by omega)
      have hfl := hW.run.fr (9 + N % 64)
      have hfn := hW.run.fr 73
      have HW := Lib.hid hW; have HN := Lib.hid hN
      have hNb : N < 140737488355328 := by omega
      clear hW hN
      have m0 : (0 : Int) ≤ (N : Int) % 64 := by omega
      have m1 : (N : Int) % 64 < 64 := by omega
      have m2 : ((N : Int) % 64).toNat = N % 64 := by omega
      have hTp := Lib.hid (HT.out.below (HW.out.putB (c := c)))
      have hg := Lib.hid HT.out.lt
      by_cases hm : (N + 1) % 64 = 0
      · have hb : (((N : Int) + 1) % 64 == 0) = true := by rw [beq_iff_eq]; omega
        have Hm := Lib.hid hm; clear hm
        go_wp2_with fail
        refine (eat_any (w := putW w wr N c) hTp.out HW.out.putR hg.out).mono ?_
        rintro e w6 ⟨rfl, h6, o6⟩
        have H6 := Lib.hid h6; have O6 := Lib.hid o6
        clear h6 o6
        go_wp2_with fail
        go_roundw
        case rel => exact ⟨k + 1, by omega, by go_num, _, _, _, _, HW.out.turn hlt Hts.out Hm.out H6.out O6.out⟩
        case measure => simp [intOf]; omega
      · have hb : (((N : Int) + 1) % 64 == 0) = false := by rw [beq_eq_false_iff_ne]; omega
        have Hm := Lib.hid hm; clear hm
        go_wp2_with fail
        go_roundw
        case rel => exact ⟨k + 1, by omega, by go_num, _, _, _, _, HW.out.stay hlt Hts.out Hm.out⟩
        case measure => simp [intOf]; omega
    · obtain rfl : k = s.size := by omega
      obtain ⟨h1, ⟨h2, -, h2l⟩, h3, rfl, h5, -, -⟩ := hW
      rw [List.take_of_length_le (by simp)] at h3
      have hq : IsRun (.agg (rcells on' (vl st') left' (l.length + s.size))) (l ++ s.data.toList) := ⟨on', st', left', by simp, h3⟩
      have hsz2 : (rcells on' (vl st') left' (l.length + s.size)).size = 74 := rcells_size rfl h2l
      have hinf : (Tryd.prog.info? 30).map (·.size) = some (rcells on' (vl st') left' (l.length + s.size)).size := by rw [hsz2]; exact info30
      have hst := run_storeCells_blk (P := Tryd.prog) h5 (rcells on' (vl st') left' (l.length + s.size)) (by rw [hsz2]; rfl) rcells_one
      have h4 := h5.setRow (rcells on' (vl st') left' (l.length + s.size))
      have hb := below_setRow h1 (Nat.le_succ _) (rcells on' (vl st') left' (l.length + s.size))
      generalize rcells on' (vl st') left' (l.length + s.size) = cs2 at *
      have H4 := Lib.hid h4; have Hb := Lib.hid hb; have Hq := Lib.hid hq
      clear h1 h4 hb hq h3
      go_wp2_with (refine wpList_load_row rfl 30 (Operand.tmp 2) rfl w.heap.size rfl 30 cs2 (0, 0) _ h2 Tryd.underlying30 rfl hinf ?_)
      exact bodyPost_ret (v := .agg cs2) (results_cell_row Tryd.results30 _ _ (w.heap.size + 1) 30 cs2 (0, 0) _ rfl H4.out Tryd.underlying30 rfl hinf) rfl ⟨⟨_, rfl, Hq.out⟩, Hb.out⟩
end Go.Proofs.YtkdajlhmodmkoaaDoor
