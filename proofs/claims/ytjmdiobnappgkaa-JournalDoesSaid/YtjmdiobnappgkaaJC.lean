/-
  Several texts of this seat as one (for the limit of files): WireN, WireW, WireR, WireR2, WireR3, WireR4, WireF@def fx1, WireO, WireE@def someB, WireV, WireL, WireB, WireB2, WireS, WireS2, WireS3.
-/
import Derived.Test.YtjmdiobnappgkaaJB
import Derived.Test.YtjmdiobnappgkaaRows
import Derived.Deep.QuietTactic
import Derived.BigQuiet
import Derived.Defers
import Derived.BigRegion
import Derived.WalkMore
/-
  Layer 11 (wire): a number's bytes: the plain list, and the walk of wire.number.
-/
namespace Go.Proofs.Ytjmdiobnappgkaa
open Go.RowKit
set_option linter.unusedVariables false
set_option linter.unusedSimpArgs false

def numL (n : Nat) : List UInt8 := if h : n < 128 then [UInt8.ofNat n] else UInt8.ofNat (n % 128 + 128) :: numL (n / 128)
theorem numL_small {n : Nat} (h : n < 128) : numL n = [UInt8.ofNat n] := by rw [numL, dif_pos h]
theorem numL_big {n : Nat} (h : ¬ n < 128) : numL n = UInt8.ofNat (n % 128 + 128) :: numL (n / 128) := by rw [numL, dif_neg h]
theorem src_byteN {w : World} (c : Nat) (hc : c < 256) : Src Try.prog 1 30 (.slice (some ⟨w.heap.size, 0, none⟩) 1 1) 1 (bvals [UInt8.ofNat c]) (w.alloc (.cells #[.int .u8 (c : Int)] 5)) := by
  refine Src.ofSlice _ Try.underlying30 _ _ _ _ (by simp [bvals]) ?_ (bvals_one _)
  intro j u hu
  rw [Addr.add_lit, Nat.zero_add, cell_of_row _ _ _ _ _ _ (heap_alloc_new w _)]
  have : (UInt8.ofNat c).toNat = c := by simp [Nat.mod_eq_of_lt hc]
  simp only [bvals, List.map_cons, List.map_nil, this] at hu
  simpa using hu
theorem src_byteI {w : World} (c : Nat) (hc : c < 256) (ci : Int) (h : (c : Int) = ci) : Src Try.prog 1 30 (.slice (some ⟨w.heap.size, 0, none⟩) 1 1) 1 (bvals [UInt8.ofNat c]) (w.alloc (.cells #[.int .u8 ci] 5)) := by
  subst h; exact src_byteN c hc
theorem winfo5 : (Try.prog.info? 5).map (fun i => (i.zero, i.size, i.bytes)) = some (some (.int .u8 0), 1, 1) := by kernel_rfl

set_option maxRecDepth 100000 in
set_option maxHeartbeats 400000 in
theorem number_any (n : Nat) (hn : n < 18446744073709551616) (w : World) : Calls Try.prog 95 #[.int .u64 (n : Int)] w fun e w' => e = .returned (.string ⟨(numL n).toArray⟩) ∧ Below w.heap.size w w' := by
  obtain ⟨i0, hi, hz0, hz1, hz2⟩ := info_parts winfo5
  go_enter Try.func95, Try.ntmps95
  go_wp2
  go_loopw [0, 3] (fun mv bv wr => ∃ (m : Nat) (l : List UInt8), m < 18446744073709551616 ∧ m * 128 ^ l.length ≤ n ∧ mv = .int .u64 (m : Int) ∧ numL n = l ++ numL m ∧ wr.ownsRow w.heap.size 5 1 bv l.length (bvals l) ∧ l.length ≤ 20 ∧ Below w.heap.size w wr) (fun mv _ _ => (intOf mv).toNat)
  case atStart => exact ⟨n, [], hn, by simp, rfl, rfl, World.ownsRow_nil _ _ _ _, by simp, Below.refl _ _⟩
  case round =>
    obtain ⟨m, l, hm, hpow, rfl, hnum, hown, hl20, hbel⟩ := hrel
    have hz := hbel.size
    by_cases hlt : m < 128
    · rw [numL_small hlt] at hnum
      have Hnum := Lib.hid hnum; clear hnum hpow
      go_wp2_with (at_builtin; refine wpList_append_o rfl _ _ 30 30 rfl w.heap.size 5 i0 _ 1 1 Try.underlying30 hi hz0 hz1 hz2 rfl _ _ _ rfl (hown.alloc _) _ 1 (bvals [UInt8.ofNat m]) rfl (src_byteN m (by omega)) (by unfold maxLen; omega) (by omega) (by simp; omega) ?_)
      intro v' w3 hown3 hg3 hv3
      rw [← bvals_append, ← Hnum.out] at hown3
      have hb3 : Below w.heap.size w w3 := (hbel.alloc hz _).grown hg3 (by simp; omega) (fun k hk => (hown.lt k hk).1)
      have hstr := conv_own (P := Try.prog) (src := 30) (dst := 9) Try.underlying30 Try.underlying5 Try.underlying9 hown3
      have B3 := Lib.hid hb3
      clear hown3 hg3 hv3 hb3 hown hbel
      go_wp2
      go_ret
      exact ⟨rfl, B3.out⟩
    · rw [numL_big hlt] at hnum
      have hl19 : l.length + 1 ≤ 20 := by
        rcases Nat.lt_or_ge l.length 20 with h | h
        · omega
        · have e : l.length = 20 := by omega
          rw [e] at hpow
          have h1 : 128 * 128 ^ 20 ≤ m * 128 ^ 20 := Nat.mul_le_mul_right _ (by omega)
          have h2 : (128 : Nat) * 128 ^ 20 ≥ 18446744073709551616 := by decide
          omega
      have hpow2 : (m / 128) * 128 ^ (l.length + 1) ≤ n := by
        have h1 : (m / 128) * 128 ^ (l.length + 1) = (m / 128 * 128) * 128 ^ l.length := by rw [Nat.pow_succ, Nat.mul_assoc, Nat.mul_comm (128 ^ l.length) 128]
        have h2 : m / 128 * 128 ≤ m := by omega
        have := Nat.mul_le_mul_right (128 ^ l.length) h2
        omega
      obtain ⟨cb, hcb⟩ : ∃ cb, UInt8.ofNat (m % 128 + 128) = cb := ⟨_, rfl⟩
      have hsrc : Src Try.prog 1 30 (.slice (some ⟨wr.heap.size, 0, none⟩) 1 1) 1 (bvals [cb]) (wr.alloc (.cells #[.int .u8 ((m : Int) % 128 + 128)] 5)) := by rw [← hcb]; exact src_byteI (m % 128 + 128) (by omega) _ (by omega)
      rw [hcb] at hnum
      have Hnum := Lib.hid hnum; have Hpow := Lib.hid hpow2; clear hnum hpow hpow2 hcb
      go_wp2_with (at_builtin; refine wpList_append_o rfl _ _ 30 30 rfl w.heap.size 5 i0 _ 1 1 Try.underlying30 hi hz0 hz1 hz2 rfl _ _ _ rfl (hown.alloc _) _ 1 (bvals [cb]) rfl hsrc (by unfold maxLen; omega) (by omega) (by simp; omega) ?_)
      intro v' w3 hown3 hg3 hv3
      have hb3 : Below w.heap.size w w3 := (hbel.alloc hz _).grown hg3 (by simp; omega) (fun k hk => (hown.lt k hk).1)
      have H3 := Lib.hid hown3; have B3 := Lib.hid hb3
      clear hown3 hg3 hv3 hb3 hown hbel hsrc
      go_wp2
      go_roundw
      case rel => exact ⟨m / 128, l ++ [cb], by omega, by rw [List.length_append]; exact Hpow.out, by go_num, by rw [Hnum.out, List.append_assoc]; rfl, by rw [bvals_append, List.length_append]; exact H3.out, by simp; omega, B3.out⟩
      case measure => simp [intOf]; omega
end Go.Proofs.Ytjmdiobnappgkaa

/-
  Layer 11 (wire): the writer: its plain model, how it lies in memory, the walks of its methods.
-/
namespace Go.Proofs.Ytjmdiobnappgkaa
open Go.RowKit
set_option linter.unusedVariables false
set_option linter.unusedSimpArgs false

theorem alloc_below' (w : World) (o : Obj) : Below w.heap.size w (w.alloc o) := (Below.refl _ _).alloc (Nat.le_refl _) _
structure WS where
  b : List UInt8
  e : Nat
def WS.put (x : WS) (so : Bool) (e : Nat) (s : ByteArray) : WS := if x.e = 0 then (if so = true then { x with b := x.b ++ s.data.toList } else { x with e := e }) else x
structure IsW (w : World) (base g : Nat) (v : Value) (x : WS) : Prop where
  blk : Blk w g 62 #[v, .int .i64 (x.e : Int)]
  hb : base ≤ g
  own : w.ownsRow base 5 1 v x.b.length (bvals x.b)
/-- In world w block g is the writer x, made since w0. -/
def WK (w0 w : World) (g : Nat) (x : WS) : Prop := (∃ v, IsW w w0.heap.size g v x) ∧ Below w0.heap.size w0 w ∧ w0.heap.size ≤ w.heap.size
section
variable {w0 w w' : World} {base g : Nat} {v : Value} {x : WS}
theorem IsW.c0 (h : IsW w base g v x) : w.cell? ⟨g, 0, none⟩ = some v := h.blk.cell 0
theorem IsW.c1 (h : IsW w base g v x) : w.cell? ⟨g, 1, none⟩ = some (.int .i64 (x.e : Int)) := h.blk.cell 1
theorem IsW.fr (h : IsW w base g v x) (i : Nat) : w.frozen? ⟨g, i, none⟩ = false := h.blk.frozen i
theorem IsW.typed (h : IsW w base g v x) : ∀ k ∈ (g :: v.ownBlock.toList), ∃ (cs : Array Value) (t : TypeId) (fr : Nat × Nat), w.heap[k]? = some (.cells cs t fr) ∧ t ∈ [62, 5] := by
  intro k hk
  rcases List.mem_cons.1 hk with rfl | hk
  · exact ⟨_, _, _, h.blk, by simp⟩
  · simp only [Option.mem_toList] at hk
    obtain ⟨cs, hc⟩ := own_typed h.own hk
    exact ⟨cs, 5, _, hc, by simp⟩
theorem IsW.below (h : IsW w base g v x) (hb : Below w.heap.size w w') : IsW w' base g v x :=
  ⟨(Spare.ofBelow (T := []) hb).blk h.blk (by simp), h.hb, (Spare.ofBelow (T := []) hb).own h.own (by simp)⟩
theorem WK.below (h : WK w0 w g x) (hb : Below w.heap.size w w') : WK w0 w' g x := by
  obtain ⟨⟨v, hv⟩, hb0, h3⟩ := h
  exact ⟨⟨v, hv.below hb⟩, hb0.trans (hb.mono h3), Nat.le_trans h3 hb.size⟩
theorem WK.spare {T : List TypeId} (h : WK w0 w g x) (hb : Below w0.heap.size w0 w') (hs : Spare T w w') (h1 : 62 ∉ T) (h2 : 5 ∉ T) : WK w0 w' g x := by
  obtain ⟨⟨v, hv⟩, hb0, h3⟩ := h
  exact ⟨⟨v, ⟨hs.blk hv.blk h1, hv.hb, hs.own hv.own h2⟩⟩, hb, hb.size⟩
theorem WK.only {x' : WS} {v v' : Value} (h : WK w0 w g x) (hv : IsW w w0.heap.size g v x) (hv' : IsW w' w0.heap.size g v' x') (ho : Only w.heap.size (g :: v.ownBlock.toList) w w') : WK w0 w' g x' := by
  obtain ⟨_, hb0, h3⟩ := h
  refine ⟨⟨v', hv'⟩, hb0.trans ?_, Nat.le_trans h3 ho.size⟩
  refine (ho.mono h3 (l' := (g :: v.ownBlock.toList)) (fun k _ h => h)).below ?_
  intro k hk
  rcases List.mem_cons.1 hk with rfl | hk
  · exact hv.hb
  · simp only [Option.mem_toList] at hk
    exact (hv.own.lt k hk).1

set_option maxRecDepth 100000 in
set_option maxHeartbeats 400000 in
theorem wk_put (h : WK w0 w g x) (so : Bool) (e : Nat) (s : ByteArray) (hs : x.b.length + s.size ≤ 16777216) : Calls Try.prog 94 #[.pointer (some ⟨g, 0, none⟩), .bool so, .int .i64 (e : Int), .string s] w fun r w' => r = .returned (.tuple #[]) ∧ WK w0 w' g (x.put so e s) ∧ Spare [62, 5] w w' := by
  obtain ⟨i0, hi, hz0, hz1, hz2⟩ := info_parts winfo5
  have hh := h
  obtain ⟨⟨v, hv⟩, hb0, h3⟩ := h
  have c0 := hv.c0
  have c1 := hv.c1
  have f0 := hv.fr 0
  have f1 := hv.fr 1
  have hgl := hv.blk.lt
  have hfar := own_blk_ne hv.own hv.blk (by decide)
  by_cases he : x.e = 0
  · rw [he] at c1
    cases so with
    | true =>
      have hput : x.put true e s = { x with b := x.b ++ s.data.toList } := by rw [WS.put, if_pos he, if_pos rfl]
      rw [hput]
      have H := Lib.hid hv; have Hfar := Lib.hid hfar; have Hh := Lib.hid hh
      have hown := hv.own
      clear hv hfar hput hh
      go_enter Try.func94, Try.ntmps94
      go_wp2_with (at_builtin; refine wpList_append_o rfl _ _ 30 9 rfl w0.heap.size 5 i0 _ 1 1 Try.underlying30 hi hz0 hz1 hz2 rfl _ _ _ rfl hown _ s.size (bvals s.data.toList) rfl (Src.ofString (P := Try.prog) w Try.underlying9 s) (by unfold maxLen; omega) (by omega) h3 ?_)
      intro v' w3 hown3 hg3 hv3
      obtain ⟨A', c', rfl, hl3⟩ := own_form hown3
      have hb3 : Blk w3 g 62 #[v, .int .i64 (x.e : Int)] := H.out.blk.grown hg3 (fun hc => Hfar.out hc.symm)
      have c03 : w3.cell? ⟨g, 0, none⟩ = some v := hb3.cell 0
      have f03 : w3.frozen? ⟨g, 0, none⟩ = false := hb3.frozen 0
      have hne : (Value.slice A' (x.b.length + s.size) c').ownBlock ≠ some g := by
        intro hc
        rcases hv3 with h1 | h1
        · rw [hc] at h1; exact Hfar.out h1.symm
        · rw [hc] at h1; injection h1 with h1; omega
      have ho3 : Only w.heap.size (g :: v.ownBlock.toList) w w3 := (Only.refl w.heap.size (g :: v.ownBlock.toList) w).grown hg3 (Nat.le_refl _) (by intro q hq; exact .inl (by rw [hq]; simp))
      have hlen : s.data.toList.length = s.size := by rw [Array.length_toList]; rfl
      have hw : IsW (w3.setCell ⟨g, 0, none⟩ (.slice A' (x.b.length + s.size) c')) w0.heap.size g (.slice A' (x.b.length + s.size) c') { x with b := x.b ++ s.data.toList } := by
        refine ⟨hb3.set_ 0 _, H.out.hb, ?_⟩
        have := own_set_far (p := ⟨g, 0, none⟩) hown3 hne (.slice A' (x.b.length + s.size) c')
        show World.ownsRow _ w0.heap.size 5 1 _ (x.b ++ s.data.toList).length (bvals (x.b ++ s.data.toList))
        rw [bvals_append, List.length_append, hlen]; exact this
      have ho4 := ho3.setCell (p := ⟨g, 0, none⟩) (.inl (by simp)) (.slice A' (x.b.length + s.size) c')
      have H4 := Lib.hid hw; have O4 := Lib.hid ho4
      clear hown3 hg3 hv3 hl3 hb3 hne ho3 hw ho4 hown
      go_wp2
      go_end0
      exact ⟨rfl, Hh.out.only H.out H4.out O4.out, Spare.ofOnly O4.out H.out.typed⟩
    | false =>
      have hput : x.put false e s = { x with e := e } := by rw [WS.put, if_pos he, if_neg (by simp)]
      rw [hput]
      have H := Lib.hid hv; have Hfar := Lib.hid hfar; have Hh := Lib.hid hh
      clear hv hfar hput hh
      go_enter Try.func94, Try.ntmps94
      go_wp2
      go_end0
      have ho : Only w.heap.size (g :: v.ownBlock.toList) w (w.setCell ⟨g, 1, none⟩ (.int .i64 (e : Int))) := (Only.refl _ _ _).setCell (p := ⟨g, 1, none⟩) (.inl (by simp)) _
      exact ⟨rfl, Hh.out.only H.out ⟨H.out.blk.set_ 1 _, H.out.hb, own_set_far (p := ⟨g, 1, none⟩) H.out.own Hfar.out _⟩ ho, Spare.ofOnly ho H.out.typed⟩
  · have hne : ¬ (x.e : Int) = 0 := by omega
    have hput : x.put so e s = x := by rw [WS.put, if_neg he]
    rw [hput]
    have Hh := Lib.hid hh; clear hh hv hfar
    go_enter Try.func94, Try.ntmps94
    go_wp2
    go_end0
    exact ⟨rfl, Hh.out, Spare.refl _ _⟩

theorem wk_putI (h : WK w0 w g x) (so : Bool) (e : Nat) (ei : Int) (hei : (e : Int) = ei) (s : ByteArray) (hs : x.b.length + s.size ≤ 16777216) : Calls Try.prog 94 #[.pointer (some ⟨g, 0, none⟩), .bool so, .int .i64 ei, .string s] w fun r w' => r = .returned (.tuple #[]) ∧ WK w0 w' g (x.put so e s) ∧ Spare [62, 5] w w' := by
  subst hei; exact wk_put h so e s hs
def WS.text (x : WS) : ByteArray := if x.e = 0 then ⟨x.b.toArray⟩ else ⟨#[]⟩
set_option maxRecDepth 100000 in
theorem wk_text (h : WK w0 w g x) : Calls Try.prog 46 #[.pointer (some ⟨g, 0, none⟩)] w fun r w' => r = .returned (.string x.text) ∧ w = w' := by
  obtain ⟨⟨v, hv⟩, hb0, h3⟩ := h
  have c0 := hv.c0
  have c1 := hv.c1
  have hstr := conv_own (P := Try.prog) (src := 30) (dst := 9) Try.underlying30 Try.underlying5 Try.underlying9 hv.own
  clear hv
  by_cases he : x.e = 0
  · have ht : x.text = ⟨x.b.toArray⟩ := by rw [WS.text, if_pos he]
    rw [ht]
    rw [he] at c1
    go_enter Try.func46, Try.ntmps46
    go_wp2
    go_ret
    exact ⟨rfl, rfl⟩
  · have hne : ¬ (x.e : Int) = 0 := by omega
    have ht : x.text = ⟨#[]⟩ := by rw [WS.text, if_neg he]
    rw [ht]
    go_enter Try.func46, Try.ntmps46
    go_wp2
    go_ret
    exact ⟨rfl, rfl⟩
set_option maxRecDepth 100000 in
theorem wk_err (h : WK w0 w g x) : Calls Try.prog 48 #[.pointer (some ⟨g, 0, none⟩)] w fun r w' => r = .returned (.int .i64 (x.e : Int)) ∧ w = w' := by
  obtain ⟨⟨v, hv⟩, hb0, h3⟩ := h
  have c1 := hv.c1
  clear hv
  go_enter Try.func48, Try.ntmps48
  go_wp2
  go_ret
  exact ⟨rfl, rfl⟩
def byteStr (n : Int) : ByteArray := strOfNums [n % 256]
set_option maxRecDepth 100000 in
theorem wk_byte (h : WK w0 w g x) (n : Int) (hs : x.b.length + (byteStr n).size ≤ 16777216) : Calls Try.prog 50 #[.pointer (some ⟨g, 0, none⟩), .int .i64 n] w fun r w' => r = .returned (.tuple #[]) ∧ WK w0 w' g (x.put (decide (0 ≤ n ∧ n ≤ 255)) 1 (byteStr n)) ∧ Spare [62, 5] w w' := by
  have hcv := conv_string_new (P := Try.prog) w 30 9 5 [n % 256] Try.underlying30 Try.underlying5 Try.underlying9 1 1 rfl 5
  have hst : strOfNums [n % 256] = byteStr n := rfl
  rw [hst] at hcv
  simp only [List.map_cons, List.map_nil] at hcv
  have hcase : n < 0 ∨ (0 ≤ n ∧ n ≤ 255) ∨ (0 ≤ n ∧ ¬ n ≤ 255) := by omega
  rcases hcase with h0 | ⟨h0, h1⟩ | ⟨h0, h1⟩
  · have hd : decide (0 ≤ n ∧ n ≤ 255) = false := by simp; omega
    rw [hd]
    go_enter Try.func50, Try.ntmps50
    go_wp2_with fail
    refine (wk_putI (h.below (alloc_below' w _)) false 1 1 rfl (byteStr n) hs).mono ?_
    rintro e w1 ⟨rfl, h1', h2'⟩
    have H1 := Lib.hid h1'; have H2 := Lib.hid h2'; clear h1' h2'
    go_wp2
    go_end0
    exact ⟨rfl, H1.out, (Spare.ofBelow (alloc_below' w _)).trans H2.out⟩
  · have hd : decide (0 ≤ n ∧ n ≤ 255) = true := by simp; omega
    rw [hd]
    rw [show n % 256 = n by omega] at hcv
    go_enter Try.func50, Try.ntmps50
    go_wp2_with fail
    refine (wk_putI (h.below (alloc_below' w _)) true 1 1 rfl (byteStr n) hs).mono ?_
    rintro e w1 ⟨rfl, h1', h2'⟩
    have H1 := Lib.hid h1'; have H2 := Lib.hid h2'; clear h1' h2'
    go_wp2
    go_end0
    exact ⟨rfl, H1.out, (Spare.ofBelow (alloc_below' w _)).trans H2.out⟩
  · have hd : decide (0 ≤ n ∧ n ≤ 255) = false := by simp; omega
    rw [hd]
    go_enter Try.func50, Try.ntmps50
    go_wp2_with fail
    refine (wk_putI (h.below (alloc_below' w _)) false 1 1 rfl (byteStr n) hs).mono ?_
    rintro e w1 ⟨rfl, h1', h2'⟩
    have H1 := Lib.hid h1'; have H2 := Lib.hid h2'; clear h1' h2'
    go_wp2
    go_end0
    exact ⟨rfl, H1.out, (Spare.ofBelow (alloc_below' w _)).trans H2.out⟩
set_option maxRecDepth 100000 in
theorem wk_num (h : WK w0 w g x) (n : Nat) (hn : n < 18446744073709551616) (hs : x.b.length + (numL n).length ≤ 16777216) : Calls Try.prog 51 #[.pointer (some ⟨g, 0, none⟩), .int .u64 (n : Int)] w fun r w' => r = .returned (.tuple #[]) ∧ WK w0 w' g (x.put true 0 ⟨(numL n).toArray⟩) ∧ Spare [62, 5] w w' := by
  go_enter Try.func51, Try.ntmps51
  go_wp2_with fail
  refine (number_any n hn w).mono ?_
  rintro e w1 ⟨rfl, hb1⟩
  have h1 := h.below hb1
  go_wp2_with fail
  refine (wk_putI h1 true 0 0 rfl ⟨(numL n).toArray⟩ hs).mono ?_
  rintro e w2 ⟨rfl, h1', h2'⟩
  have H1 := Lib.hid h1'; have H2 := Lib.hid ((Spare.ofBelow hb1).trans h2'); clear h1' h2' hb1 h1 h
  go_wp2
  go_end0
  exact ⟨rfl, H1.out, H2.out⟩
set_option maxRecDepth 100000 in
theorem wk_raw (h : WK w0 w g x) (s : ByteArray) (n : Int) (hs : x.b.length + s.size ≤ 16777216) : Calls Try.prog 52 #[.pointer (some ⟨g, 0, none⟩), .string s, .int .i64 n] w fun r w' => r = .returned (.tuple #[]) ∧ WK w0 w' g (x.put (decide ((s.size : Int) = n)) 1 s) ∧ Spare [62, 5] w w' := by
  obtain ⟨so, hso⟩ : ∃ so, ((s.size : Int) == n) = so := ⟨_, rfl⟩
  have hd : decide ((s.size : Int) = n) = so := by rw [← hso]; rfl
  rw [hd]
  go_enter Try.func52, Try.ntmps52
  go_wp2_with fail
  refine (wk_putI h so 1 1 rfl s hs).mono ?_
  rintro e w2 ⟨rfl, h1', h2'⟩
  have H1 := Lib.hid h1'; have H2 := Lib.hid h2'; clear h1' h2' h
  go_wp2
  go_end0
  exact ⟨rfl, H1.out, H2.out⟩
def blobStr (s : ByteArray) : ByteArray := ⟨(numL s.size).toArray⟩ ++ s
set_option maxRecDepth 100000 in
theorem wk_blob (h : WK w0 w g x) (s : ByteArray) (hs0 : s.size ≤ 1000000) (hs : x.b.length + (blobStr s).size ≤ 16777216) : Calls Try.prog 53 #[.pointer (some ⟨g, 0, none⟩), .string s] w fun r w' => r = .returned (.tuple #[]) ∧ WK w0 w' g (x.put (decide (s.size ≤ 4096)) 4 (blobStr s)) ∧ Spare [62, 5] w w' := by
  obtain ⟨so, hso⟩ : ∃ so, decide ((s.size : Int) ≤ 4096) = so := ⟨_, rfl⟩
  have hd : decide (s.size ≤ 4096) = so := by rw [← hso]; congr 1; simp; omega
  rw [hd]
  have hsz : (⟨(numL s.size).toArray⟩ : ByteArray).size + s.size ≤ maxLen := by
    have : (blobStr s).size = (⟨(numL s.size).toArray⟩ : ByteArray).size + s.size := by rw [blobStr, ByteArray.size_append]
    unfold maxLen; omega
  have hbs : blobStr s = ⟨(numL s.size).toArray⟩ ++ s := rfl
  obtain ⟨nb, hnb⟩ : ∃ nb : ByteArray, (⟨(numL s.size).toArray⟩ : ByteArray) = nb := ⟨_, rfl⟩
  have hnum := number_any s.size (by omega)
  rw [hnb] at hsz hbs hnum
  have hsz2 : nb.size + s.size ≤ 9223372036854775807 := by unfold maxLen at hsz; omega
  have hsz3 : (nb.size : Int) + (s.size : Int) ≤ 9223372036854775807 := by omega
  have Hbs := Lib.hid hbs; have Hnum := Lib.hid hnum; clear hbs hnb hnum
  go_enter Try.func53, Try.ntmps53
  go_wp2_with fail
  refine (Hnum.out w).mono ?_
  rintro e w1 ⟨rfl, hb1⟩
  have h1 := h.below hb1
  go_wp2_with fail
  rw [Hbs.out] at hs
  refine (wk_putI h1 so 4 4 rfl _ hs).mono ?_
  rintro e w2 ⟨rfl, h1', h2'⟩
  have H1 := Lib.hid h1'; have H2 := Lib.hid ((Spare.ofBelow hb1).trans h2'); clear h1' h2' hb1 h1 h
  go_wp2
  go_end0
  exact ⟨rfl, by rw [Hbs.out]; exact H1.out, H2.out⟩
end
end Go.Proofs.Ytjmdiobnappgkaa

/-
  Layer 11 (wire): the reader: its plain model, how it lies in memory, the walk of take.
-/
namespace Go.Proofs.Ytjmdiobnappgkaa
open Go.RowKit
set_option linter.unusedVariables false
set_option linter.unusedSimpArgs false

structure RD where
  s : ByteArray
  e : Nat
/-- Of the blocks that were there g alone may have turned. -/
def Frm (g : Nat) (w w' : World) : Prop := Only w.heap.size [g] w w'
theorem Frm.refl (g : Nat) (w : World) : Frm g w w := Only.refl _ _ _
theorem Frm.trans {g : Nat} {w w' w'' : World} (h : Frm g w w') (k : Frm g w' w'') : Frm g w w'' := Only.trans h (Only.mono k h.size (fun _ _ h => h))
theorem Frm.ofBelow (g : Nat) {w w' : World} (h : Below w.heap.size w w') : Frm g w w' := Only.ofBelow h [g]
def IsRd (w : World) (g : Nat) (x : RD) : Prop := Blk w g 127 #[.string x.s, .int .i64 (x.e : Int)]
/-- In world w block g is the reader x, made since w0. -/
def RDK (w0 w : World) (g : Nat) (x : RD) : Prop := IsRd w g x ∧ w0.heap.size ≤ g ∧ Below w0.heap.size w0 w ∧ w0.heap.size ≤ w.heap.size
section
variable {w0 w w' : World} {g : Nat} {x : RD}
theorem IsRd.c0 (h : IsRd w g x) : w.cell? ⟨g, 0, none⟩ = some (.string x.s) := Blk.cell h 0
theorem IsRd.c1 (h : IsRd w g x) : w.cell? ⟨g, 1, none⟩ = some (.int .i64 (x.e : Int)) := Blk.cell h 1
theorem IsRd.fr (h : IsRd w g x) (i : Nat) : w.frozen? ⟨g, i, none⟩ = false := Blk.frozen h i
theorem RDK.below (h : RDK w0 w g x) (hb : Below w.heap.size w w') : RDK w0 w' g x := by
  obtain ⟨h1, h2, h3, h4⟩ := h
  exact ⟨(Spare.ofBelow (T := []) hb).blk h1 (by simp), h2, h3.trans (hb.mono h4), Nat.le_trans h4 hb.size⟩
theorem RDK.spare {T : List TypeId} (h : RDK w0 w g x) (hb : Below w0.heap.size w0 w') (hs : Spare T w w') (h1 : 127 ∉ T) : RDK w0 w' g x :=
  ⟨hs.blk h.1 h1, h.2.1, hb, hb.size⟩
theorem RDK.only {x' : RD} (h : RDK w0 w g x) (hx : IsRd w' g x') (ho : Only w.heap.size [g] w w') : RDK w0 w' g x' ∧ Frm g w w' := by
  obtain ⟨h1, h2, h3, h4⟩ := h
  exact ⟨⟨hx, h2, h3.trans ((ho.mono h4 (l' := [g]) (fun k _ h => h)).below (by simp; exact h2)), Nat.le_trans h4 ho.size⟩, ho⟩
theorem RDK.frm {g' : Nat} (h : RDK w0 w g x) (hb : Below w0.heap.size w0 w') (hf : Frm g' w w') (hne : g ≠ g') : RDK w0 w' g x :=
  ⟨(hf.block g h.1.lt (by simp; exact hne)).trans h.1, h.2.1, hb, hb.size⟩
theorem Frm.spare {w w' : World} {g : Nat} {x : RD} (h : Frm g w w') (hx : IsRd w g x) : Spare [127] w w' :=
  Spare.ofOnly h (by intro k hk; simp at hk; subst hk; exact ⟨_, _, _, hx, by simp⟩)
/-- What take gives, and the reader after it. -/
def RD.takeS (x : RD) (n : Int) : ByteArray := if x.e = 0 ∧ 0 ≤ n ∧ n ≤ x.s.size then x.s.extract 0 n.toNat else ⟨#[]⟩
def RD.takeX (x : RD) (n : Int) : RD := if x.e = 0 then (if n < 0 then { x with e := 1 } else if (x.s.size : Int) < n then { x with e := 2 } else { x with s := x.s.extract n.toNat x.s.size }) else x

set_option maxRecDepth 100000 in
set_option maxHeartbeats 400000 in
theorem take1_d (b2 b3 g n : Nat) (s : ByteArray) (hn : n ≤ s.size) (u : FrameMode) (w : World) (c2 : w.cell? ⟨b2, 0, none⟩ = some (.pointer (some ⟨g, 0, none⟩))) (c3 : w.cell? ⟨b3, 0, none⟩ = some (.int .i64 (n : Int))) (c0 : w.cell? ⟨g, 0, none⟩ = some (.string s)) (f0 : w.frozen? ⟨g, 0, none⟩ = false) :
    CallsD Try.prog 108 #[.pointer (some ⟨b2, 0, none⟩), .pointer (some ⟨b3, 0, none⟩)] u w fun e u' w' => u' = u ∧ (e = .returned (.tuple #[]) ∧ w' = (w.setCell ⟨g, 0, none⟩ (.string (s.extract n s.size))).drew) := by
  have hni : (n : Int) ≤ (s.size : Int) := by omega
  go_enter_d Try.func108, Try.ntmps108
  go_wp2
  go_region
  go_end0
  exact ⟨rfl, rfl⟩
set_option maxRecDepth 100000 in
set_option maxHeartbeats 800000 in
theorem rd_take (h : RDK w0 w g x) (n : Int) : Calls Try.prog 96 #[.pointer (some ⟨g, 0, none⟩), .int .i64 n] w fun r w' => r = .returned (.string (x.takeS n)) ∧ RDK w0 w' g (x.takeX n) ∧ Frm g w w' := by
  have hmf : ∀ (fn : Fn) (first cap : Array Value) (w : World), (Instr.makeFunc fn first cap).run Try.prog w = .ok (.func fn first cap) w := fun _ _ _ _ => rfl
  have hb1 := alloc_below' w (.cells #[.pointer (some ⟨g, 0, none⟩)] 76)
  have hb2 := alloc_below' (w.alloc (.cells #[.pointer (some ⟨g, 0, none⟩)] 76)) (.cells #[.int .i64 n] 3)
  have hb := bthen hb1 hb2
  have h2 := h.below hb
  have k2 : ((w.alloc (.cells #[.pointer (some ⟨g, 0, none⟩)] 76)).alloc (.cells #[.int .i64 n] 3)).cell? ⟨w.heap.size, 0, none⟩ = some (.pointer (some ⟨g, 0, none⟩)) := ((Blk.new w 76 #[.pointer (some ⟨g, 0, none⟩)]).alloc (.cells #[.int .i64 n] 3)).cell 0
  have e1 : (w.alloc (.cells #[.pointer (some ⟨g, 0, none⟩)] 76)).heap.size = w.heap.size + 1 := by simp
  have k3 : ((w.alloc (.cells #[.pointer (some ⟨g, 0, none⟩)] 76)).alloc (.cells #[.int .i64 n] 3)).cell? ⟨w.heap.size + 1, 0, none⟩ = some (.int .i64 n) := by
    have := (Blk.new (w.alloc (.cells #[.pointer (some ⟨g, 0, none⟩)] 76)) 3 #[.int .i64 n]).cell 0
    rw [e1] at this; exact this
  have c0 := h2.1.c0
  have c1 := h2.1.c1
  have f0 := h2.1.fr 0
  have f1 := h2.1.fr 1
  have H2 := Lib.hid h2; have Hb := Lib.hid (Frm.ofBelow g hb)
  clear hb1 hb2 hb h2
  have hcase : (¬ x.e = 0) ∨ (x.e = 0 ∧ n < 0) ∨ (x.e = 0 ∧ ¬ n < 0 ∧ (x.s.size : Int) < n) ∨ (x.e = 0 ∧ 0 ≤ n ∧ n ≤ (x.s.size : Int)) := by omega
  rcases hcase with he | ⟨he, hn⟩ | ⟨he, hn, hn2⟩ | ⟨he, hn, hn2⟩
  · have hne : ¬ (x.e : Int) = 0 := by omega
    have r1 : x.takeS n = ⟨#[]⟩ := by rw [RD.takeS, if_neg (fun c => he c.1)]
    have r2 : x.takeX n = x := by rw [RD.takeX, if_neg he]
    rw [r1, r2]
    clear r1 r2
    go_enter_defers Try.func96, Try.ntmps96
    go_wp2
    exact ⟨_, results_tmp rfl _ _ _, rfl, H2.out, Hb.out⟩
  · have r1 : x.takeS n = ⟨#[]⟩ := by rw [RD.takeS, if_neg (fun c => by omega)]
    have r2 : x.takeX n = { x with e := 1 } := by rw [RD.takeX, if_pos he, if_pos hn]
    rw [r1, r2]
    rw [he] at c1
    clear r1 r2
    go_enter_defers Try.func96, Try.ntmps96
    go_wp2
    have hq := H2.out.only (x' := { x with e := 1 }) (Blk.set_ H2.out.1 1 _) ((Only.refl _ _ _).setCell (p := ⟨g, 1, none⟩) (.inl (by simp)) (.int .i64 1))
    exact ⟨_, results_tmp rfl _ _ _, rfl, hq.1, Hb.out.trans hq.2⟩
  · have r1 : x.takeS n = ⟨#[]⟩ := by rw [RD.takeS, if_neg (fun c => by omega)]
    have r2 : x.takeX n = { x with e := 2 } := by rw [RD.takeX, if_pos he, if_neg hn, if_pos hn2]
    rw [r1, r2]
    rw [he] at c1
    clear r1 r2
    go_enter_defers Try.func96, Try.ntmps96
    go_wp2
    go_quiet (fail)
    go_wp2
    have hq := fun q => H2.out.only (x' := { x with e := 2 }) (Blk.set_ (Blk.drewN H2.out.1 q) 1 _) (((Only.refl _ [g] _).drewN q).setCell (p := ⟨g, 1, none⟩) (.inl (by simp)) (.int .i64 2))
    exact ⟨_, results_tmp rfl _ _ _, rfl, (hq _).1, Hb.out.trans (hq _).2⟩
  · obtain ⟨n, rfl⟩ := Int.eq_ofNat_of_zero_le hn
    have hnn : n ≤ x.s.size := by omega
    have hn3 : ¬ (x.s.size : Int) < (n : Int) := by omega
    have r1 : x.takeS (n : Int) = x.s.extract 0 n := by rw [RD.takeS, if_pos ⟨he, hn, hn2⟩, Int.toNat_natCast]
    have r2 : x.takeX (n : Int) = { x with s := x.s.extract n x.s.size } := by rw [RD.takeX, if_pos he, if_neg (by omega), if_neg hn3, Int.toNat_natCast]
    rw [r1, r2]
    rw [he] at c1
    clear r1 r2
    go_enter_defers Try.func96, Try.ntmps96
    go_wp2
    go_quiet (fail)
    go_wp2
    go_quiet (fail)
    go_wp2
    refine leaves_cons (f := 108) (args := #[.pointer (some ⟨w.heap.size, 0, none⟩), .pointer (some ⟨w.heap.size + 1, 0, none⟩)]) (by simp) (by simp [go_sem]) ?_
    refine (take1_d _ _ g n x.s hnn .returning _ (by exact k2) (by exact k3) (by exact c0) (by exact f0)).mono ?_
    rintro e u' w'' ⟨rfl, rfl, rfl⟩
    have hq := fun q p => H2.out.only (x' := { x with s := x.s.extract n x.s.size }) (Blk.drew (Blk.set_ (Blk.drewN (Blk.drewN H2.out.1 q) p) 0 (.string (x.s.extract n x.s.size)))) (((((Only.refl _ [g] _).drewN q).drewN p).setCell (p := ⟨g, 0, none⟩) (.inl (by simp)) (.string (x.s.extract n x.s.size))).drew)
    exact ⟨_, results_tmp rfl _ _ _, rfl, (hq _ _).1, Hb.out.trans (hq _ _).2⟩
end
end Go.Proofs.Ytjmdiobnappgkaa

/-
  Layer 11 (wire): the reader: the walks of Read, Byte, Raw, End, Left, Fail.
-/
namespace Go.Proofs.Ytjmdiobnappgkaa
open Go.RowKit
set_option linter.unusedVariables false
set_option linter.unusedSimpArgs false
theorem ne_toList {s : ByteArray} (h : ¬ s.size = 0) : s.toList.isEmpty = false := by
  rw [← decide_eq_emptyBytes]
  simp only [decide_eq_false_iff_not]
  intro hc; rw [hc] at h; exact h rfl
section
variable {w0 w w' : World} {g : Nat} {x : RD}
set_option maxRecDepth 100000 in
theorem rd_new (hb : Below w0.heap.size w0 w) (hl : w0.heap.size ≤ w.heap.size) (s : ByteArray) : Calls Try.prog 54 #[.string s] w fun r w' => r = .returned (.pointer (some ⟨w.heap.size, 0, none⟩)) ∧ RDK w0 w' w.heap.size ⟨s, 0⟩ ∧ Below w.heap.size w w' := by
  go_enter Try.func54, Try.ntmps54
  go_wp2
  go_ret
  exact ⟨rfl, ⟨Blk.new _ _ _, hl, hb.trans ((alloc_below' w _).mono hl), by simp; omega⟩, alloc_below' w _⟩
set_option maxRecDepth 100000 in
theorem rd_left (h : RDK w0 w g x) : Calls Try.prog 60 #[.pointer (some ⟨g, 0, none⟩)] w fun r w' => r = .returned (.int .i64 (x.s.size : Int)) ∧ w = w' := by
  have c0 := h.1.c0
  clear h
  go_enter Try.func60, Try.ntmps60
  go_wp2
  go_ret
  exact ⟨rfl, rfl⟩
def RD.endV (x : RD) : Nat := if x.e = 0 then (if x.s.size = 0 then 0 else 3) else x.e
theorem ba_empty {s : ByteArray} (h : s.size = 0) : s = ⟨#[]⟩ := by
  cases s with
  | mk d => congr 1; exact Array.eq_empty_of_size_eq_zero h
set_option maxRecDepth 100000 in
theorem rd_end (h : RDK w0 w g x) : Calls Try.prog 59 #[.pointer (some ⟨g, 0, none⟩)] w fun r w' => r = .returned (.int .i64 (x.endV : Int)) ∧ w = w' := by
  have c0 := h.1.c0
  have c1 := h.1.c1
  clear h
  by_cases he : x.e = 0
  · rw [he] at c1
    by_cases hs : x.s.size = 0
    · have hv : x.endV = 0 := by rw [RD.endV, if_pos he, if_pos hs]
      rw [hv]
      rw [ba_empty hs] at c0
      clear hv hs he
      go_enter Try.func59, Try.ntmps59
      go_wp2
      go_ret
      exact ⟨rfl, rfl⟩
    · have hv : x.endV = 3 := by rw [RD.endV, if_pos he, if_neg hs]
      rw [hv]
      have hne := ne_toList hs
      clear hv hs he
      go_enter Try.func59, Try.ntmps59
      go_wp2
      go_ret
      exact ⟨rfl, rfl⟩
  · have hne : ¬ (x.e : Int) = 0 := by omega
    have hv : x.endV = x.e := by rw [RD.endV, if_neg he]
    rw [hv]
    clear hv
    go_enter Try.func59, Try.ntmps59
    go_wp2
    go_ret
    exact ⟨rfl, rfl⟩
def RD.fail (x : RD) (e : Nat) : RD := if x.e = 0 then { x with e := e } else x
set_option maxRecDepth 100000 in
theorem rd_fail (h : RDK w0 w g x) (e : Nat) (ei : Int) (hei : (e : Int) = ei) : Calls Try.prog 64 #[.pointer (some ⟨g, 0, none⟩), .int .i64 ei] w fun r w' => r = .returned (.tuple #[]) ∧ RDK w0 w' g (x.fail e) ∧ Frm g w w' := by
  subst hei
  have c1 := h.1.c1
  have f1 := h.1.fr 1
  have H := Lib.hid h; clear h
  by_cases he : x.e = 0
  · rw [he] at c1
    have hv : x.fail e = { x with e := e } := by rw [RD.fail, if_pos he]
    rw [hv]
    clear hv he
    go_enter Try.func64, Try.ntmps64
    go_wp2
    go_end0
    have hq := H.out.only (x' := { x with e := e }) (Blk.set_ H.out.1 1 _) ((Only.refl _ [g] _).setCell (p := ⟨g, 1, none⟩) (.inl (by simp)) (.int .i64 (e : Int)))
    exact ⟨rfl, hq.1, hq.2⟩
  · have hne : ¬ (x.e : Int) = 0 := by omega
    have hv : x.fail e = x := by rw [RD.fail, if_neg he]
    rw [hv]
    clear hv
    go_enter Try.func64, Try.ntmps64
    go_wp2
    go_end0
    exact ⟨rfl, H.out, Frm.refl _ _⟩
set_option maxRecDepth 100000 in
theorem rd_raw (h : RDK w0 w g x) (n : Int) : Calls Try.prog 57 #[.pointer (some ⟨g, 0, none⟩), .int .i64 n] w fun r w' => r = .returned (.string (x.takeS n)) ∧ RDK w0 w' g (x.takeX n) ∧ Frm g w w' := by
  go_enter Try.func57, Try.ntmps57
  go_wp2_with fail
  refine (rd_take h n).mono ?_
  rintro e w1 ⟨rfl, h1, h2⟩
  have H1 := Lib.hid h1; have H2 := Lib.hid h2; clear h1 h2 h
  go_wp2
  go_ret
  exact ⟨rfl, H1.out, H2.out⟩
def RD.byteV (x : RD) : Nat := if x.e = 0 then (if h : 0 < x.s.size then x.s[0].toNat else 0) else 0
theorem takeS_one_pos {x : RD} (he : x.e = 0) (h : 0 < x.s.size) : x.takeS 1 = x.s.extract 0 1 := by
  rw [RD.takeS, if_pos ⟨he, by decide, by omega⟩]; rfl
theorem takeS_one_neg {x : RD} (h : ¬ (x.e = 0 ∧ 0 < x.s.size)) : x.takeS 1 = ⟨#[]⟩ := by
  rw [RD.takeS, if_neg]; rintro ⟨a, _, b⟩; exact h ⟨a, by omega⟩
set_option maxRecDepth 100000 in
set_option maxHeartbeats 400000 in
theorem rd_byte (h : RDK w0 w g x) : Calls Try.prog 55 #[.pointer (some ⟨g, 0, none⟩)] w fun r w' => r = .returned (.int .i64 (x.byteV : Int)) ∧ RDK w0 w' g (x.takeX 1) ∧ Frm g w w' := by
  by_cases hc : x.e = 0 ∧ 0 < x.s.size
  · obtain ⟨he, hs⟩ := hc
    have hv : x.byteV = x.s[0].toNat := by rw [RD.byteV, if_pos he, dif_pos hs]
    rw [hv]
    have ht := takeS_one_pos he hs
    obtain ⟨t, hT⟩ : ∃ t, x.s.extract 0 1 = t := ⟨_, rfl⟩
    have hts : 0 < t.size := by rw [← hT, ByteArray.size_extract]; omega
    have ht0 : t[0].toNat = x.s[0].toNat := by
      subst hT
      congr 1
      rw [ByteArray.getElem_extract]
    have hne : t.toList.isEmpty = false := ne_toList (by omega)
    have hlt : (0 : Int) < (t.size : Int) := by omega
    rw [hT] at ht
    have Ht0 := Lib.hid ht0; have Ht := Lib.hid ht
    clear ht0 hT hv ht
    have h256 : t[0].toNat < 256 := t[0].toNat_lt
    go_enter Try.func55, Try.ntmps55
    go_wp2_with fail
    have hh := rd_take h 1
    rw [Ht.out] at hh
    refine hh.mono ?_
    rintro e w1 ⟨rfl, h1, h2⟩
    have H1 := Lib.hid h1; have H2 := Lib.hid h2; clear h1 h2 h hh
    go_wp2
    go_ret
    exact ⟨by rw [← Ht0.out]; rfl, H1.out, H2.out⟩
  · have hv : x.byteV = 0 := by
      rw [RD.byteV]
      by_cases he : x.e = 0
      · rw [if_pos he, dif_neg (fun hs => hc ⟨he, hs⟩)]
      · rw [if_neg he]
    rw [hv]
    have ht := takeS_one_neg hc
    have Ht := Lib.hid ht; clear ht hv
    go_enter Try.func55, Try.ntmps55
    go_wp2_with fail
    have hh := rd_take h 1
    rw [Ht.out] at hh
    refine hh.mono ?_
    rintro e w1 ⟨rfl, h1, h2⟩
    have H1 := Lib.hid h1; have H2 := Lib.hid h2; clear h1 h2 h hh
    go_wp2
    go_ret
    exact ⟨rfl, H1.out, H2.out⟩
end
end Go.Proofs.Ytjmdiobnappgkaa

/-
  Layer 11 (wire): the reader: the walk of Num.
-/
namespace Go.Proofs.Ytjmdiobnappgkaa
open Go.RowKit
set_option linter.unusedVariables false
set_option linter.unusedSimpArgs false

/-- One digit laid over a number. -/
def numOr (n c at_ : Nat) : Nat := n ||| ((c % 128) * 2 ^ (7 * at_)) % 18446744073709551616
/-- What Num makes of bytes: an error, or a number and how many bytes it has. -/
def numF : Nat → List UInt8 → Nat → Nat → Except Nat (Nat × Nat)
  | 0, _, _, _ => .error 3
  | _ + 1, [], _, _ => .error 2
  | f + 1, c :: l, at_, n =>
    if 128 ≤ c.toNat then numF f l (at_ + 1) (numOr n c.toNat at_)
    else if (c.toNat = 0 ∧ 0 < at_) ∨ (at_ = 9 ∧ 1 < c.toNat) then .error 3
    else .ok (numOr n c.toNat at_, at_ + 1)
def RD.numV (x : RD) : Nat := if x.e = 0 then (match numF 10 x.s.data.toList 0 0 with | .error _ => 0 | .ok p => p.1) else 0
def RD.numX (x : RD) : RD := if x.e = 0 then (match numF 10 x.s.data.toList 0 0 with | .error e => { x with e := e } | .ok p => { x with s := x.s.extract p.2 x.s.size }) else x
theorem numOr_lt (n c a : Nat) (h : n < 18446744073709551616) : numOr n c a < 18446744073709551616 :=
  Nat.or_lt_two_pow (n := 64) h (Nat.mod_lt _ (by decide))
theorem or_nat (a b : Nat) (ha : a < 18446744073709551616) (hb : b < 18446744073709551616) : bits BinOp.or IntKind.u64 (a : Int) (b : Int) = ((a ||| b : Nat) : Int) := by
  simp only [bits, BitVec.toNat_or, BitVec.toNat_ofInt]
  have e1 : ((a : Int) % ((2 ^ IntKind.u64.bits : Nat) : Int)).toNat = a := by
    show ((a : Int) % 18446744073709551616).toNat = a
    omega
  have e2 : ((b : Int) % ((2 ^ IntKind.u64.bits : Nat) : Int)).toNat = b := by
    show ((b : Int) % 18446744073709551616).toNat = b
    omega
  rw [e1, e2]
  have : a ||| b < 18446744073709551616 := Nat.or_lt_two_pow (n := 64) ha hb
  generalize a ||| b = q at this ⊢
  rw [IntKind.wrap_u64]; omega
theorem num_digit (m c k : Nat) (hm : m < 18446744073709551616) : ∃ b : Nat, IntKind.u64.wrap ((c : Int) % 128 * 2 ^ (7 * k)) = (b : Int) ∧ bits BinOp.or IntKind.u64 (m : Int) (b : Int) = ((numOr m c k : Nat) : Int) := by
  refine ⟨(c % 128) * 2 ^ (7 * k) % 18446744073709551616, ?_, ?_⟩
  · have e : (c : Int) % 128 * 2 ^ (7 * k) = ((c % 128 * 2 ^ (7 * k) : Nat) : Int) := by push_cast; rfl
    rw [e]
    generalize c % 128 * 2 ^ (7 * k) = q
    rw [IntKind.wrap_u64]; omega
  · rw [or_nat _ _ hm (Nat.mod_lt _ (by decide))]; rfl
theorem numF_step {L : List UInt8} {k m c : Nat} {R : Except Nat (Nat × Nat)} (hk : k < L.length) (hk10 : k < 10) (hc : L[k].toNat = c) (h : R = numF (10 - k) (L.drop k) k m) :
    (128 ≤ c → R = numF (10 - (k + 1)) (L.drop (k + 1)) (k + 1) (numOr m c k)) ∧ (¬ 128 ≤ c → (c = 0 ∧ 0 < k) ∨ (k = 9 ∧ 1 < c) → R = .error 3) ∧ (¬ 128 ≤ c → ¬ ((c = 0 ∧ 0 < k) ∨ (k = 9 ∧ 1 < c)) → R = .ok (numOr m c k, k + 1)) := by
  rw [show 10 - k = (10 - (k + 1)) + 1 by omega, List.drop_eq_getElem_cons hk, numF, hc] at h
  refine ⟨fun h1 => ?_, fun h1 h2 => ?_, fun h1 h2 => ?_⟩
  · rw [if_pos h1] at h; exact h
  · rw [if_neg h1, if_pos h2] at h; exact h
  · rw [if_neg h1, if_neg h2] at h; exact h
section
variable {w0 w w' : World} {g : Nat} {x : RD}
theorem rdk_err (h : RDK w0 w g x) (e : Nat) : RDK w0 (w.setCell ⟨g, 1, none⟩ (.int .i64 (e : Int))) g { x with e := e } ∧ Frm g w (w.setCell ⟨g, 1, none⟩ (.int .i64 (e : Int))) :=
  h.only (x' := { x with e := e }) (Blk.set_ h.1 1 _) ((Only.refl _ [g] _).setCell (p := ⟨g, 1, none⟩) (.inl (by simp)) _)
theorem rdk_rest (h : RDK w0 w g x) (s : ByteArray) : RDK w0 (w.setCell ⟨g, 0, none⟩ (.string s)) g { x with s := s } ∧ Frm g w (w.setCell ⟨g, 0, none⟩ (.string s)) :=
  h.only (x' := { x with s := s }) (Blk.set_ h.1 0 _) ((Only.refl _ [g] _).setCell (p := ⟨g, 0, none⟩) (.inl (by simp)) _)
set_option maxRecDepth 100000 in
set_option maxHeartbeats 400000 in
theorem rd_num (h : RDK w0 w g x) : Calls Try.prog 56 #[.pointer (some ⟨g, 0, none⟩)] w fun r w' => r = .returned (.int .u64 (x.numV : Int)) ∧ RDK w0 w' g x.numX ∧ Frm g w w' := by
  have c0 := h.1.c0
  have c1 := h.1.c1
  have f0 := h.1.fr 0
  have f1 := h.1.fr 1
  have H := Lib.hid h; clear h
  by_cases he : x.e = 0
  · rw [he] at c1
    have hE : ∀ e, numF 10 x.s.data.toList 0 0 = .error e → x.numV = 0 ∧ x.numX = { x with e := e } := fun e h => ⟨by rw [RD.numV, if_pos he, h], by rw [RD.numX, if_pos he, h]⟩
    have hO : ∀ m k, numF 10 x.s.data.toList 0 0 = .ok (m, k) → x.numV = m ∧ x.numX = { x with s := x.s.extract k x.s.size } := fun m k h => ⟨by rw [RD.numV, if_pos he, h], by rw [RD.numX, if_pos he, h]⟩
    obtain ⟨R, hR⟩ : ∃ R, numF 10 x.s.data.toList 0 0 = R := ⟨_, rfl⟩
    rw [hR] at hE hO
    have HE := Lib.hid hE; have HO := Lib.hid hO; clear hE hO
    obtain ⟨V, hV⟩ : ∃ V, x.numV = V := ⟨_, rfl⟩
    obtain ⟨X', hX'⟩ : ∃ X', x.numX = X' := ⟨_, rfl⟩
    simp only [hV, hX'] at HE HO ⊢
    clear hV hX'
    go_enter Try.func56, Try.ntmps56
    go_wp2
    go_step3
    go_wp2
    go_step3
    go_wp2
    go_loop [3, 4, 5] (fun nv av ev => ∃ k m : Nat, k ≤ 10 ∧ k ≤ x.s.size ∧ m < 18446744073709551616 ∧ av = .int .i64 (k : Int) ∧ nv = .int .u64 (m : Int) ∧ ev = .int .i64 3 ∧ R = numF (10 - k) (x.s.data.toList.drop k) k m) (fun _ av _ => 10 - (intOf av).toNat)
    case atStart => exact ⟨0, 0, by omega, Nat.zero_le _, by decide, rfl, rfl, rfl, by rw [← hR]; rfl⟩
    case round =>
      obtain ⟨k, m, hk10, hks, hm, rfl, rfl, rfl, hnum⟩ := hrel
      clear hR
      have hLl : x.s.data.toList.length = x.s.size := by rw [Array.length_toList]; rfl
      by_cases hk : k = 10
      · subst hk
        have HR := Lib.hid (show R = .error 3 from hnum); clear hnum hLl
        go_wp2
        all_goals
          try rw [Exit.noGoto_ret]
          go_ret
          have hq := rdk_err H.out 3
          obtain ⟨q1, q2⟩ := HE.out 3 HR.out
          exact ⟨by rw [q1]; rfl, by rw [q2]; exact hq.1, hq.2⟩
      · by_cases hk2 : k = x.s.size
        · have HR := Lib.hid (show R = .error 2 by rw [hnum, show 10 - k = (9 - k) + 1 by omega, List.drop_eq_nil_of_le (by omega)]; rfl); clear hnum hLl
          subst hk2
          go_wp2
          all_goals
            try rw [Exit.noGoto_ret]
            go_ret
            have hq := rdk_err H.out 2
            obtain ⟨q1, q2⟩ := HE.out 2 HR.out
            exact ⟨by rw [q1]; rfl, by rw [q2]; exact hq.1, hq.2⟩
        · have hklt : k < x.s.size := by omega
          have hki : (k : Int) < (x.s.size : Int) := by omega
          have hki2 : ¬ (k : Int) = (x.s.size : Int) := by omega
          have hki3 : (k : Int) < 10 := by omega
          obtain ⟨c, hc⟩ : ∃ c : Nat, x.s[k].toNat = c := ⟨_, rfl⟩
          have hc256 : c < 256 := by rw [← hc]; exact x.s[k].toNat_lt
          obtain ⟨hA, hB, hC⟩ := numF_step (c := c) (by omega) (by omega) (by rw [← hc]; rfl) hnum
          obtain ⟨b, hb1, hb2⟩ := num_digit m c k hm
          have hlt := numOr_lt m c k hm
          have hk1 : ((k + 1 : Nat) : Int) ≤ (x.s.size : Int) := by omega
          have hk1' : (k : Int) + 1 ≤ (x.s.size : Int) := by omega
          have hk1n : k + 1 ≤ x.s.size := by omega
          generalize numOr m c k = M at *
          have HA := Lib.hid hA; have HB := Lib.hid hB; have HC := Lib.hid hC
          clear hA hB hC hnum hLl
          have hcase : (128 ≤ c) ∨ (c = 0 ∧ 0 < k) ∨ (c = 0 ∧ k = 0) ∨ (¬ 128 ≤ c ∧ ¬ c = 0 ∧ k = 9 ∧ 1 < c) ∨ (¬ 128 ≤ c ∧ ¬ c = 0 ∧ k = 9 ∧ c = 1) ∨ (¬ 128 ≤ c ∧ ¬ c = 0 ∧ ¬ k = 9) := by omega
          have hki2' : ((k : Int) == (x.s.size : Int)) = false := by rw [beq_eq_false_iff_ne]; exact hki2
          clear hki2 hk hk2 hks hk10 hc256
          rcases hcase with h1 | ⟨h1, h2⟩ | ⟨h1, h2⟩ | ⟨h1, h2, h3, h4⟩ | ⟨h1, h2, h3, h4⟩ | ⟨h1, h2, h3⟩
          · have g1 : (128 : Int) ≤ (c : Int) := by omega
            have HR := Lib.hid (HA.out h1); clear HA HB HC
            go_wp2
            refine ⟨⟨k + 1, M, by omega, by omega, hlt, by simp, rfl, rfl, HR.out⟩, ?_⟩
            simp [intOf]; omega
          · have g1 : ¬ (128 : Int) ≤ (c : Int) := by omega
            have g2 : ((c : Int) == 0) = true := by rw [beq_iff_eq]; omega
            have g3 : (1 : Int) < (k : Int) + 1 := by omega
            have HR := Lib.hid (HB.out (by omega) (.inl ⟨h1, h2⟩)); clear HA HB HC h1 h2
            go_wp2
            all_goals
              try rw [Exit.noGoto_ret]
              go_ret
              have hq := rdk_err H.out 3
              obtain ⟨q1, q2⟩ := HE.out 3 HR.out
              exact ⟨by rw [q1]; rfl, by rw [q2]; exact hq.1, hq.2⟩
          · have g1 : ¬ (128 : Int) ≤ (c : Int) := by omega
            have g2 : ((c : Int) == 0) = true := by rw [beq_iff_eq]; omega
            have g3 : ¬ (1 : Int) < (k : Int) + 1 := by omega
            have g4 : ((k : Int) + 1 == 10) = false := by rw [beq_eq_false_iff_ne]; omega
            have HR := Lib.hid (HC.out (by omega) (by omega)); clear HA HB HC h1 h2
            go_wp2
            all_goals
              try rw [Exit.noGoto_ret]
              go_ret
              have hq := rdk_rest H.out (x.s.extract (k + 1) x.s.size)
              obtain ⟨q1, q2⟩ := HO.out _ _ HR.out
              exact ⟨by rw [q1]; rfl, by rw [q2]; exact hq.1, hq.2⟩
          · have g1 : ¬ (128 : Int) ≤ (c : Int) := by omega
            have g2 : ((c : Int) == 0) = false := by rw [beq_eq_false_iff_ne]; omega
            have g4 : ((k : Int) + 1 == 10) = true := by rw [beq_iff_eq]; omega
            have g5 : (1 : Int) < (c : Int) := by omega
            have HR := Lib.hid (HB.out h1 (.inr ⟨h3, h4⟩)); clear HA HB HC h1 h2 h3 h4
            go_wp2
            all_goals
              try rw [Exit.noGoto_ret]
              go_ret
              have hq := rdk_err H.out 3
              obtain ⟨q1, q2⟩ := HE.out 3 HR.out
              exact ⟨by rw [q1]; rfl, by rw [q2]; exact hq.1, hq.2⟩
          · have g1 : ¬ (128 : Int) ≤ (c : Int) := by omega
            have g2 : ((c : Int) == 0) = false := by rw [beq_eq_false_iff_ne]; omega
            have g4 : ((k : Int) + 1 == 10) = true := by rw [beq_iff_eq]; omega
            have g5 : ¬ (1 : Int) < (c : Int) := by omega
            have HR := Lib.hid (HC.out h1 (by omega)); clear HA HB HC h1 h2 h3 h4
            go_wp2
            all_goals
              try rw [Exit.noGoto_ret]
              go_ret
              have hq := rdk_rest H.out (x.s.extract (k + 1) x.s.size)
              obtain ⟨q1, q2⟩ := HO.out _ _ HR.out
              exact ⟨by rw [q1]; rfl, by rw [q2]; exact hq.1, hq.2⟩
          · have g1 : ¬ (128 : Int) ≤ (c : Int) := by omega
            have g2 : ((c : Int) == 0) = false := by rw [beq_eq_false_iff_ne]; omega
            have g4 : ((k : Int) + 1 == 10) = false := by rw [beq_eq_false_iff_ne]; omega
            have HR := Lib.hid (HC.out h1 (by omega)); clear HA HB HC h1 h2 h3
            go_wp2
            all_goals
              try rw [Exit.noGoto_ret]
              go_ret
              have hq := rdk_rest H.out (x.s.extract (k + 1) x.s.size)
              obtain ⟨q1, q2⟩ := HO.out _ _ HR.out
              exact ⟨by rw [q1]; rfl, by rw [q2]; exact hq.1, hq.2⟩
  · have hne : ¬ (x.e : Int) = 0 := by omega
    have hv : x.numV = 0 := by rw [RD.numV, if_neg he]
    have hx : x.numX = x := by rw [RD.numX, if_neg he]
    rw [hv, hx]
    clear hv hx
    go_enter Try.func56, Try.ntmps56
    go_wp2
    go_step3
    go_wp2
    rw [Exit.noGoto_ret]
    go_ret
    exact ⟨rfl, H.out, Frm.refl _ _⟩
end
end Go.Proofs.Ytjmdiobnappgkaa

/-
  Layer 11 (wire): the reader: the walk of Blob.
-/
namespace Go.Proofs.Ytjmdiobnappgkaa
open Go.RowKit
set_option linter.unusedVariables false
set_option linter.unusedSimpArgs false

def RD.back (z : RD) (s : ByteArray) : RD := if z.e = 0 then z else { z with s := s }
def RD.blobS (x : RD) (limit : Int) : ByteArray := if x.numX.e = 0 ∧ x.numV ≤ 4096 ∧ (x.numV : Int) ≤ limit then x.numX.takeS x.numV else ⟨#[]⟩
def RD.blobX (x : RD) (limit : Int) : RD := if x.numX.e = 0 then (if x.numV ≤ 4096 ∧ (x.numV : Int) ≤ limit then (x.numX.takeX x.numV).back x.s else { s := x.s, e := 4 }) else x.numX
section
variable {w0 w w' : World} {g : Nat} {x : RD}
set_option maxRecDepth 100000 in
set_option maxHeartbeats 800000 in
theorem rd_blob (h : RDK w0 w g x) (limit : Int) : Calls Try.prog 58 #[.pointer (some ⟨g, 0, none⟩), .int .i64 limit] w fun r w' => r = .returned (.string (x.blobS limit)) ∧ RDK w0 w' g (x.blobX limit) ∧ Frm g w w' := by
  have c0 := h.1.c0
  obtain ⟨y, hy⟩ : ∃ y, x.numX = y := ⟨_, rfl⟩
  obtain ⟨n, hn⟩ : ∃ n, x.numV = n := ⟨_, rfl⟩
  obtain ⟨bs, hbs⟩ : ∃ bs, x.blobS limit = bs := ⟨_, rfl⟩
  obtain ⟨bx, hbx⟩ : ∃ bx, x.blobX limit = bx := ⟨_, rfl⟩
  have hnum := rd_num h
  rw [hy, hn] at hnum
  have hs := hbs; have hx := hbx
  rw [RD.blobS, hy, hn] at hs
  rw [RD.blobX, hy, hn] at hx
  rw [hbs, hbx]
  have Hs := Lib.hid hs; have Hx := Lib.hid hx
  clear hs hx hbs hbx hy hn
  have hcase : (¬ y.e = 0) ∨ (y.e = 0 ∧ 4096 < n) ∨ (y.e = 0 ∧ n ≤ 4096 ∧ limit < (n : Int)) ∨ (y.e = 0 ∧ n ≤ 4096 ∧ (n : Int) ≤ limit) := by omega
  rcases hcase with he | ⟨he, h1⟩ | ⟨he, h1, h2⟩ | ⟨he, h1, h2⟩
  · have r1 : bs = ⟨#[]⟩ := by rw [← Hs.out, if_neg (fun c => he c.1)]
    have r2 : bx = y := by rw [← Hx.out, if_neg he]
    rw [r1, r2]
    have hne : ¬ (y.e : Int) = 0 := by omega
    go_enter Try.func58, Try.ntmps58
    go_wp2_with fail
    refine hnum.mono ?_
    rintro e w1 ⟨rfl, k1, k2⟩
    have d1 := k1.1.c1
    have K1 := Lib.hid k1; have K2 := Lib.hid k2; clear k1 k2 hnum h
    go_wp2
    go_ret
    exact ⟨rfl, K1.out, K2.out⟩
  · have r1 : bs = ⟨#[]⟩ := by rw [← Hs.out, if_neg (by omega)]
    have r2 : bx = { s := x.s, e := 4 } := by rw [← Hx.out, if_pos he, if_neg (by omega)]
    rw [r1, r2]
    have g1 : (4096 : Int) < (n : Int) := by omega
    go_enter Try.func58, Try.ntmps58
    go_wp2_with fail
    refine hnum.mono ?_
    rintro e w1 ⟨rfl, k1, k2⟩
    have d0 := k1.1.c0
    have d1 := k1.1.c1
    have f0 := k1.1.fr 0
    have f1 := k1.1.fr 1
    rw [he] at d1
    have K1 := Lib.hid k1; have K2 := Lib.hid k2; clear k1 k2 hnum h
    go_wp2
    go_ret
    have q := rdk_err K1.out 4
    have q2 := rdk_rest q.1 x.s
    exact ⟨rfl, q2.1, K2.out.trans (q.2.trans q2.2)⟩
  · have r1 : bs = ⟨#[]⟩ := by rw [← Hs.out, if_neg (by omega)]
    have r2 : bx = { s := x.s, e := 4 } := by rw [← Hx.out, if_pos he, if_neg (by omega)]
    rw [r1, r2]
    have g1 : ¬ (4096 : Int) < (n : Int) := by omega
    have g2 : IntKind.i64.wrap (n : Int) = (n : Int) := by rw [IntKind.wrap_i64]; omega
    go_enter Try.func58, Try.ntmps58
    go_wp2_with fail
    refine hnum.mono ?_
    rintro e w1 ⟨rfl, k1, k2⟩
    have d0 := k1.1.c0
    have d1 := k1.1.c1
    have f0 := k1.1.fr 0
    have f1 := k1.1.fr 1
    rw [he] at d1
    have K1 := Lib.hid k1; have K2 := Lib.hid k2; clear k1 k2 hnum h
    go_wp2
    go_ret
    have q := rdk_err K1.out 4
    have q2 := rdk_rest q.1 x.s
    exact ⟨rfl, q2.1, K2.out.trans (q.2.trans q2.2)⟩
  · have g1 : ¬ (4096 : Int) < (n : Int) := by omega
    have g2 : IntKind.i64.wrap (n : Int) = (n : Int) := by rw [IntKind.wrap_i64]; omega
    have g3 : ¬ limit < (n : Int) := by omega
    have r1 : bs = y.takeS n := by rw [← Hs.out, if_pos ⟨he, h1, h2⟩]
    have r2 : bx = (y.takeX n).back x.s := by rw [← Hx.out, if_pos he, if_pos ⟨h1, h2⟩]
    obtain ⟨z, hz⟩ : ∃ z, y.takeX (n : Int) = z := ⟨_, rfl⟩
    obtain ⟨t, ht⟩ : ∃ t, y.takeS (n : Int) = t := ⟨_, rfl⟩
    rw [hz] at r2
    rw [ht] at r1
    rw [r1]
    clear r1
    have htake := fun (wx : World) (hx : RDK w0 wx g y) => rd_take hx (n : Int)
    rw [hz, ht] at htake
    have Htake := Lib.hid htake; have R2 := Lib.hid r2
    clear htake r2 hz ht h2
    go_enter Try.func58, Try.ntmps58
    go_wp2_with fail
    refine hnum.mono ?_
    rintro e w1 ⟨rfl, k1, k2⟩
    have d0 := k1.1.c0
    have d1 := k1.1.c1
    rw [he] at d1
    have K2 := Lib.hid k2; clear k2 hnum h
    go_wp2_with fail
    refine (Htake.out _ k1).mono ?_
    rintro e w2 ⟨rfl, k3, k4⟩
    clear d0 d1 k1
    have d0 := k3.1.c0
    have d1 := k3.1.c1
    have f0 := k3.1.fr 0
    have f1 := k3.1.fr 1
    have K3 := Lib.hid k3; have K4 := Lib.hid k4; clear k3 k4
    by_cases hze : z.e = 0
    · have r3 : bx = z := by rw [R2.out, RD.back, if_pos hze]
      rw [hze] at d1
      have R3 := Lib.hid r3; clear r3
      go_wp2
      go_ret
      exact ⟨rfl, by rw [R3.out]; exact K3.out, K2.out.trans K4.out⟩
    · have r3 : bx = { z with s := x.s } := by rw [R2.out, RD.back, if_neg hze]
      have hne : ¬ (z.e : Int) = 0 := by omega
      have R3 := Lib.hid r3; clear r3
      go_wp2
      go_ret
      have q := rdk_rest K3.out x.s
      exact ⟨rfl, by rw [R3.out]; exact q.1, K2.out.trans (K4.out.trans q.2)⟩
end
end Go.Proofs.Ytjmdiobnappgkaa

/-
  Layer 11 (wire): the calls whose answers the document fixes.
-/
namespace Go.Proofs.Ytjmdiobnappgkaa
open Go.RowKit
set_option linter.unusedVariables false
set_option linter.unusedSimpArgs false
section
variable {w0 w w' : World} {g : Nat} {x x' : WS} {y y' : RD}
theorem aw_byte (h : WK w0 w g x) (n : Int) (hs : x.b.length + (byteStr n).size ≤ 16777216) (hx : x.put (decide (0 ≤ n ∧ n ≤ 255)) 1 (byteStr n) = x') : Calls Try.prog 50 #[.pointer (some ⟨g, 0, none⟩), .int .i64 n] w fun r w' => r = .returned (.tuple #[]) ∧ WK w0 w' g x' ∧ Spare [62, 5] w w' := by
  subst hx; exact wk_byte h n hs
theorem aw_num (h : WK w0 w g x) (n : Nat) (ni : Int) (hni : (n : Int) = ni) (hn : n < 18446744073709551616) (hs : x.b.length + (numL n).length ≤ 16777216) (hx : x.put true 0 ⟨(numL n).toArray⟩ = x') : Calls Try.prog 51 #[.pointer (some ⟨g, 0, none⟩), .int .u64 ni] w fun r w' => r = .returned (.tuple #[]) ∧ WK w0 w' g x' ∧ Spare [62, 5] w w' := by
  subst hx hni; exact wk_num h n hn hs
theorem aw_raw (h : WK w0 w g x) (s : ByteArray) (n : Int) (hs : x.b.length + s.size ≤ 16777216) (hx : x.put (decide ((s.size : Int) = n)) 1 s = x') : Calls Try.prog 52 #[.pointer (some ⟨g, 0, none⟩), .string s, .int .i64 n] w fun r w' => r = .returned (.tuple #[]) ∧ WK w0 w' g x' ∧ Spare [62, 5] w w' := by
  subst hx; exact wk_raw h s n hs
theorem aw_blob (h : WK w0 w g x) (s : ByteArray) (hs0 : s.size ≤ 1000000) (hs : x.b.length + (blobStr s).size ≤ 16777216) (hx : x.put (decide (s.size ≤ 4096)) 4 (blobStr s) = x') : Calls Try.prog 53 #[.pointer (some ⟨g, 0, none⟩), .string s] w fun r w' => r = .returned (.tuple #[]) ∧ WK w0 w' g x' ∧ Spare [62, 5] w w' := by
  subst hx; exact wk_blob h s hs0 hs
theorem aw_text (h : WK w0 w g x) (t : ByteArray) (ht : x.text = t) : Calls Try.prog 46 #[.pointer (some ⟨g, 0, none⟩)] w fun r w' => r = .returned (.string t) ∧ w = w' := by
  subst ht; exact wk_text h
theorem aw_err (h : WK w0 w g x) (e : Int) (he : (x.e : Int) = e) : Calls Try.prog 48 #[.pointer (some ⟨g, 0, none⟩)] w fun r w' => r = .returned (.int .i64 e) ∧ w = w' := by
  subst he; exact wk_err h
theorem ar_byte (h : RDK w0 w g y) (v : Int) (hv : (y.byteV : Int) = v) (hy : y.takeX 1 = y') : Calls Try.prog 55 #[.pointer (some ⟨g, 0, none⟩)] w fun r w' => r = .returned (.int .i64 v) ∧ RDK w0 w' g y' ∧ Frm g w w' := by
  subst hv hy; exact rd_byte h
theorem ar_num (h : RDK w0 w g y) (v : Int) (hv : (y.numV : Int) = v) (hy : y.numX = y') : Calls Try.prog 56 #[.pointer (some ⟨g, 0, none⟩)] w fun r w' => r = .returned (.int .u64 v) ∧ RDK w0 w' g y' ∧ Frm g w w' := by
  subst hv hy; exact rd_num h
theorem ar_raw (h : RDK w0 w g y) (n : Int) (t : ByteArray) (ht : y.takeS n = t) (hy : y.takeX n = y') : Calls Try.prog 57 #[.pointer (some ⟨g, 0, none⟩), .int .i64 n] w fun r w' => r = .returned (.string t) ∧ RDK w0 w' g y' ∧ Frm g w w' := by
  subst ht hy; exact rd_raw h n
theorem ar_blob (h : RDK w0 w g y) (n : Int) (t : ByteArray) (ht : y.blobS n = t) (hy : y.blobX n = y') : Calls Try.prog 58 #[.pointer (some ⟨g, 0, none⟩), .int .i64 n] w fun r w' => r = .returned (.string t) ∧ RDK w0 w' g y' ∧ Frm g w w' := by
  subst ht hy; exact rd_blob h n
theorem ar_left (h : RDK w0 w g y) (v : Int) (hv : (y.s.size : Int) = v) : Calls Try.prog 60 #[.pointer (some ⟨g, 0, none⟩)] w fun r w' => r = .returned (.int .i64 v) ∧ w = w' := by
  subst hv; exact rd_left h
theorem ar_end (h : RDK w0 w g y) (v : Int) (hv : (y.endV : Int) = v) : Calls Try.prog 59 #[.pointer (some ⟨g, 0, none⟩)] w fun r w' => r = .returned (.int .i64 v) ∧ w = w' := by
  subst hv; exact rd_end h
end
theorem numL300 : numL 300 = [172, 2] := by rw [numL_big (by decide), numL_small (by decide)]; rfl
theorem numL2 : numL 2 = [2] := by rw [numL_small (by decide)]; rfl
theorem numL1 : numL 1 = [1] := by rw [numL_small (by decide)]; rfl
theorem wnew (w : World) : WK w (w.alloc (.cells #[.slice none 0 0, .int .i64 0] 62)) w.heap.size ⟨[], 0⟩ :=
  ⟨⟨_, ⟨Blk.new _ _ _, Nat.le_refl _, World.ownsRow_nil _ _ _ _⟩⟩, alloc_below' w _, by simp⟩
end Go.Proofs.Ytjmdiobnappgkaa
/-
  Layer 11 (wire): a script, opened: a slice of structs of a kind, a number and a string.
-/
namespace Go.Proofs.Ytjmdiobnappgkaa
open Go.ChangeShapes Go.WideShapes Go.ChangeAt Go.RowKit Go.Joins Go.Deep
set_option linter.unusedVariables false

/-- A part of a script. -/
structure PartV where
  K : Int
  N : Nat
  S : ByteArray
structure AtPart (w : World) (B : Nat) (A : Option Addr) (i : Nat) (o : PartV) (b q : Nat) : Prop where
  at_ : A = some ⟨b, q, none⟩
  lt : b < B
  c0 : w.cell? ⟨b, q + i * 3, none⟩ = some (.int .i64 o.K)
  c1 : w.cell? ⟨b, q + i * 3 + 1, none⟩ = some (.int .u64 (o.N : Int))
  c2 : w.cell? ⟨b, q + i * 3 + 2, none⟩ = some (.string o.S)
  hK : -9223372036854775808 ≤ o.K ∧ o.K ≤ 9223372036854775807
  hN : o.N < 18446744073709551616
  hS : o.S.size ≤ maxLen
def IsParts (w : World) (B : Nat) (A : Option Addr) (len : Nat) (ops : Nat → PartV) : Prop := len ≤ maxLen ∧ ∀ i, i < len → ∃ b q, AtPart w B A i (ops i) b q

theorem u64_of_wf {n : Int} (h : (Lit.int .u64 n).wf = true) : ∃ m : Nat, m < 18446744073709551616 ∧ n = (m : Int) := by
  simp [Lit.wf, IntKind.min, IntKind.max, IntKind.signed, IntKind.bits] at h
  exact ⟨n.toNat, by omega, by omega⟩
theorem cells69 : Try.prog.cellsOf 69 = 3 := by kernel_rfl
theorem cells67 : Try.prog.cellsOf 67 = 1 := by kernel_rfl
theorem list3 {α : Type} {l : List α} (h : l.length = 3) : ∃ a b c, l = [a, b, c] := by
  match l, h with
  | [a, b, c], _ => exact ⟨a, b, c, rfl⟩

set_option maxRecDepth 100000 in
theorem open_list59 {H : Type} {enc : TypeId × Value → H} {w : World} {base : Nat} {spare : Nat → Bool} {held : Bool} {A : Option Addr} {len cap : Nat} {d : DataW H} {p : List MemPlace}
    (h : DataW.Trod enc Try.prog w base spare held 59 (.slice A len cap) d p) : ∃ ops, IsParts w w.heap.size A len ops := by
  obtain ⟨fuel, hf⟩ := h
  rcases open_slice Try.underlying59 hf with ⟨h0, _⟩ | ⟨a, l, c, m, n, D, Pl, h0, hb, hl, hm, hmm, _, hx⟩
  · simp [Value.cells] at h0
    obtain ⟨rfl, rfl, rfl⟩ := h0
    exact ⟨fun _ => ⟨0, 0, ⟨#[]⟩⟩, by decide, fun i hi => absurd hi (by omega)⟩
  · simp [Value.cells] at h0
    obtain ⟨rfl, rfl, rfl⟩ := h0
    have hlm : len ≤ m := by rw [hmm]; split <;> omega
    obtain ⟨ops, hops⟩ := choose_lt (α := Option PartV) (p := fun i o => ∃ o', o = some o' ∧ ∃ b q, AtPart w w.heap.size (some a) i o' b q) (n := len) (fun i hi => by
      obtain ⟨cs', hc, ht⟩ := hx i (by omega)
      obtain ⟨hbase, hlen, hcell⟩ := World.cells?_some hc
      rw [cells69] at hlen hcell
      obtain ⟨x0, x1, x2, rfl⟩ := list3 hlen
      have e0 := hcell 0 (by omega)
      have e1 := hcell 1 (by omega)
      have e2 := hcell 2 (by omega)
      obtain ⟨b, o, spot⟩ := a
      simp only [List.getElem?_cons_zero, List.getElem?_cons_succ] at e0 e1 e2
      obtain ⟨xs, n', _, _, _, hxl, hat⟩ := DataW.trod_struct Try.underlying69 ht
      have hxl' : xs.length = 3 := hxl
      obtain ⟨y0, y1, y2, rfl⟩ := list3 hxl'
      have g0 : DataW.trod enc Try.prog w base spare held n' 3 (([x0, x1, x2].drop 0).take (Try.prog.cellsOf 3)) = [y0, y1, y2][0]? := hat 0 _ rfl
      have g1 : DataW.trod enc Try.prog w base spare held n' 67 (([x0, x1, x2].drop 1).take (Try.prog.cellsOf 67)) = [y0, y1, y2][1]? := hat 1 _ rfl
      have g2 : DataW.trod enc Try.prog w base spare held n' 9 (([x0, x1, x2].drop 2).take (Try.prog.cellsOf 9)) = [y0, y1, y2][2]? := hat 2 _ rfl
      simp only [cells3, cells67, cells9, List.drop, List.take, List.getElem?_cons_zero, List.getElem?_cons_succ] at g0 g1 g2
      obtain ⟨k, hk, _, wk⟩ := DataW.trod_int Try.underlying3 g0
      obtain ⟨nn, hn, _, wn⟩ := DataW.trod_int Try.underlying67 g1
      obtain ⟨s, hs, _, ws⟩ := DataW.trod_string Try.underlying9 g2
      simp only [List.cons.injEq, and_true] at hk hn hs
      subst hk hn hs
      obtain ⟨nv, hnv, rfl⟩ := u64_of_wf wn
      have hspot : spot = none := by
        obtain ⟨cs0, hc0, _⟩ := hx 0 (by omega)
        obtain ⟨_, hl0, hcl⟩ := World.cells?_some hc0
        rw [cells69] at hl0 hcl
        have z0 := hcl 0 (by omega)
        rw [List.getElem?_eq_getElem (by omega)] at z0
        simpa [Addr.add] using World.cell?_spot z0
      subst hspot
      simp only [add_plain] at e0 e1 e2
      refine ⟨_, ⟨⟨k, nv, s⟩, rfl, b, o, rfl, World.block_lt_of_cell? w _ e0, e0, e1, e2, i64_of_wf wk, hnv, ws⟩⟩)
    exact ⟨fun i => (ops i).getD ⟨0, 0, ⟨#[]⟩⟩, by omega, fun i hi => by
      obtain ⟨o', ho, b, q, hq⟩ := hops i hi
      exact ⟨b, q, by show AtPart w w.heap.size (some a) i ((ops i).getD _) b q; rw [ho]; exact hq⟩⟩
end Go.Proofs.Ytjmdiobnappgkaa

/-
  Layer 11 (wire): WireErrs walked.
-/
namespace Go.Proofs.Ytjmdiobnappgkaa
open Go.RowKit
set_option linter.unusedVariables false
set_option linter.unusedSimpArgs false

theorem and_nat (a b : Nat) (ha : a < 18446744073709551616) (hb : b < 18446744073709551616) : bits BinOp.and IntKind.u64 (a : Int) (b : Int) = ((a &&& b : Nat) : Int) := by
  simp only [bits, BitVec.toNat_and, BitVec.toNat_ofInt]
  have e1 : ((a : Int) % ((2 ^ IntKind.u64.bits : Nat) : Int)).toNat = a := by
    show ((a : Int) % 18446744073709551616).toNat = a
    omega
  have e2 : ((b : Int) % ((2 ^ IntKind.u64.bits : Nat) : Int)).toNat = b := by
    show ((b : Int) % 18446744073709551616).toNat = b
    omega
  rw [e1, e2]
  have : a &&& b ≤ a := Nat.and_le_left
  generalize a &&& b = q at this ⊢
  rw [IntKind.wrap_u64]; omega
theorem and_low (N m : Nat) (hN : N < 18446744073709551616) (hm : m < 18446744073709551616) : ∃ k : Nat, k ≤ m ∧ bits BinOp.and IntKind.u64 (N : Int) (m : Int) = (k : Int) ∧ k = N &&& m :=
  ⟨N &&& m, Nat.and_le_right, and_nat N m hN hm, rfl⟩
theorem numL_len : ∀ (k n : Nat), n < 128 ^ (k + 1) → (numL n).length ≤ k + 1
  | 0, n, h => by rw [numL_small (by simpa using h)]; simp
  | k + 1, n, h => by
    by_cases hs : n < 128
    · rw [numL_small hs]; simp
    · rw [numL_big hs, List.length_cons]
      have := numL_len k (n / 128) (by rw [Nat.div_lt_iff_lt_mul (by decide)]; rw [Nat.pow_succ] at h; exact h)
      omega
theorem numL_len10 (n : Nat) (h : n < 18446744073709551616) : (numL n).length ≤ 10 := numL_len 9 n (Nat.lt_of_lt_of_le h (by decide))
theorem byteStr_size (n : Int) : (byteStr n).size = 1 := rfl
theorem blobStr_size (s : ByteArray) (h : s.size < 18446744073709551616) : (blobStr s).size ≤ 10 + s.size := by
  rw [blobStr, ByteArray.size_append]
  have := numL_len10 s.size h
  have e : (⟨(numL s.size).toArray⟩ : ByteArray).size = (numL s.size).length := List.size_toArray ..
  omega
theorem put_stays {x : WS} (h : ¬ x.e = 0) (so : Bool) (e : Nat) (s : ByteArray) : x.put so e s = x := by rw [WS.put, if_neg h]
section
variable {y : RD} (h : ¬ y.e = 0)
include h
theorem err_byte : (y.byteV : Int) = 0 ∧ y.takeX 1 = y := ⟨by rw [RD.byteV, if_neg h]; rfl, by rw [RD.takeX, if_neg h]⟩
theorem err_raw (n : Int) : y.takeS n = ⟨#[]⟩ ∧ y.takeX n = y := ⟨by rw [RD.takeS, if_neg (fun c => h c.1)], by rw [RD.takeX, if_neg h]⟩
theorem err_num : (y.numV : Int) = 0 ∧ y.numX = y := ⟨by rw [RD.numV, if_neg h]; rfl, by rw [RD.numX, if_neg h]⟩
theorem err_blob (n : Int) : y.blobS n = ⟨#[]⟩ ∧ y.blobX n = y := by
  have e := (err_num h).2
  exact ⟨by rw [RD.blobS, e, if_neg (fun c => h c.1)], by rw [RD.blobX, e, if_neg h]⟩
theorem err_fail (e : Nat) : y.fail e = y := by rw [RD.fail, if_neg h]
theorem err_end : y.endV = y.e := by rw [RD.endV, if_neg h]
end
end Go.Proofs.Ytjmdiobnappgkaa
/-
  Layer 11 (wire): the document's writer: the walks of its methods. Its model is the program's writer's.
-/
namespace Go.Proofs.Ytjmdiobnappgkaa
open Go.RowKit
set_option linter.unusedVariables false
set_option linter.unusedSimpArgs false

/-- In world w block g is the document's writer x, made since w0. -/
def VK (w0 w : World) (g : Nat) (x : WS) : Prop := Blk w g 65 #[.string ⟨x.b.toArray⟩, .int .i64 (x.e : Int)] ∧ w0.heap.size ≤ g ∧ Below w0.heap.size w0 w ∧ w0.heap.size ≤ w.heap.size
theorem put_str (x : List UInt8) (s : ByteArray) : (⟨x.toArray⟩ : ByteArray) ++ s = ⟨(x ++ s.data.toList).toArray⟩ := by
  apply ba_ext; rw [ByteArray.data_append]; apply Array.ext'; simp
theorem str_size (x : List UInt8) : (⟨x.toArray⟩ : ByteArray).size = x.length := List.size_toArray ..
section
variable {w0 w w' : World} {g : Nat} {x : WS}
theorem VK.below (h : VK w0 w g x) (hb : Below w.heap.size w w') : VK w0 w' g x := by
  obtain ⟨h1, h2, h3, h4⟩ := h
  exact ⟨(Spare.ofBelow (T := []) hb).blk h1 (by simp), h2, h3.trans (hb.mono h4), Nat.le_trans h4 hb.size⟩
theorem VK.spare {T : List TypeId} (h : VK w0 w g x) (hb : Below w0.heap.size w0 w') (hs : Spare T w w') (h1 : 65 ∉ T) : VK w0 w' g x :=
  ⟨hs.blk h.1 h1, h.2.1, hb, hb.size⟩
theorem VK.only {x' : WS} (h : VK w0 w g x) (hx : Blk w' g 65 #[.string ⟨x'.b.toArray⟩, .int .i64 (x'.e : Int)]) (ho : Only w.heap.size [g] w w') : VK w0 w' g x' ∧ Spare [65] w w' := by
  obtain ⟨h1, h2, h3, h4⟩ := h
  refine ⟨⟨hx, h2, h3.trans ?_, Nat.le_trans h4 ho.size⟩, Spare.ofOnly ho ?_⟩
  · exact (ho.mono h4 (l' := [g]) (fun k _ h => h)).below (by simp; exact h2)
  · intro k hk; simp at hk; subst hk; exact ⟨_, _, _, h1, by simp⟩
set_option maxRecDepth 100000 in
theorem v_put (h : VK w0 w g x) (so : Bool) (e : Nat) (ei : Int) (hei : (e : Int) = ei) (s : ByteArray) (hs : x.b.length + s.size ≤ 16777216) : Calls Try.prog 107 #[.pointer (some ⟨g, 0, none⟩), .bool so, .int .i64 ei, .string s] w fun r w' => r = .returned (.tuple #[]) ∧ VK w0 w' g (x.put so e s) ∧ Spare [65] w w' := by
  subst hei
  have c0 : w.cell? ⟨g, 0, none⟩ = some (.string ⟨x.b.toArray⟩) := h.1.cell 0
  have c1 : w.cell? ⟨g, 1, none⟩ = some (.int .i64 (x.e : Int)) := h.1.cell 1
  have f0 := h.1.frozen 0
  have f1 := h.1.frozen 1
  have H := Lib.hid h; clear h
  by_cases he : x.e = 0
  · cases so with
    | true =>
      have hput : x.put true e s = { x with b := x.b ++ s.data.toList } := by rw [WS.put, if_pos he, if_pos rfl]
      have hcat := put_str x.b s
      have hz := str_size x.b
      obtain ⟨t, ht⟩ : ∃ t, (⟨x.b.toArray⟩ : ByteArray) = t := ⟨_, rfl⟩
      rw [ht] at c0 hcat hz
      have h1 : t.size + s.size ≤ 9223372036854775807 := by omega
      have h2 : (t.size : Int) + (s.size : Int) ≤ 9223372036854775807 := by omega
      have h3 : t.size + s.size ≤ maxLen := by unfold maxLen; omega
      have Hput := Lib.hid hput; have Hcat := Lib.hid hcat
      clear hput hcat ht hz
      rw [he] at c1
      go_enter Try.func107, Try.ntmps107
      go_wp2
      (first | go_end0 | refine bodyPost_ret (results_none rfl _ _ _) rfl ?_)
      have q := H.out.only (w' := w.setCell ⟨g, 0, none⟩ (.string (t ++ s))) (x' := { x with b := x.b ++ s.data.toList }) (by rw [Hcat.out]; exact Blk.set_ H.out.1 0 _) ((Only.refl _ [g] _).setCell (p := ⟨g, 0, none⟩) (.inl (by simp)) _)
      exact ⟨rfl, by rw [Hput.out]; exact q.1, q.2⟩
    | false =>
      have hput : x.put false e s = { x with e := e } := by rw [WS.put, if_pos he, if_neg (by simp)]
      rw [hput]
      rw [he] at c1
      clear hput
      go_enter Try.func107, Try.ntmps107
      go_wp2
      (first | go_end0 | refine bodyPost_ret (results_none rfl _ _ _) rfl ?_)
      have q := H.out.only (x' := { x with e := e }) (Blk.set_ H.out.1 1 _) ((Only.refl _ [g] _).setCell (p := ⟨g, 1, none⟩) (.inl (by simp)) (.int .i64 (e : Int)))
      exact ⟨rfl, q.1, q.2⟩
  · have hne : ¬ (x.e : Int) = 0 := by omega
    rw [put_stays he]
    go_enter Try.func107, Try.ntmps107
    go_wp2
    (first | go_end0 | refine bodyPost_ret (results_none rfl _ _ _) rfl ?_)
    exact ⟨rfl, H.out, Spare.refl _ _⟩
set_option maxRecDepth 100000 in
theorem v_text (h : VK w0 w g x) : Calls Try.prog 47 #[.pointer (some ⟨g, 0, none⟩)] w fun r w' => r = .returned (.string x.text) ∧ w = w' := by
  have c0 : w.cell? ⟨g, 0, none⟩ = some (.string ⟨x.b.toArray⟩) := h.1.cell 0
  have c1 : w.cell? ⟨g, 1, none⟩ = some (.int .i64 (x.e : Int)) := h.1.cell 1
  clear h
  by_cases he : x.e = 0
  · have ht : x.text = ⟨x.b.toArray⟩ := by rw [WS.text, if_pos he]
    rw [ht]
    rw [he] at c1
    go_enter Try.func47, Try.ntmps47
    go_wp2
    go_ret
    exact ⟨rfl, rfl⟩
  · have hne : ¬ (x.e : Int) = 0 := by omega
    have ht : x.text = ⟨#[]⟩ := by rw [WS.text, if_neg he]
    rw [ht]
    go_enter Try.func47, Try.ntmps47
    go_wp2
    go_ret
    exact ⟨rfl, rfl⟩
end
set_option maxRecDepth 100000 in
set_option maxHeartbeats 400000 in
theorem rnumber_any (n : Nat) (hn : n < 18446744073709551616) (w : World) : Calls Try.prog 106 #[.int .u64 (n : Int)] w fun e w' => e = .returned (.string ⟨(numL n).toArray⟩) ∧ Below w.heap.size w w' := by
  go_enter Try.func106, Try.ntmps106
  go_wp2
  go_loopw [0, 3] (fun mv sv wr => ∃ (m : Nat) (l : List UInt8) (t : ByteArray), m < 18446744073709551616 ∧ m * 128 ^ l.length ≤ n ∧ mv = .int .u64 (m : Int) ∧ sv = .string t ∧ t = ⟨l.toArray⟩ ∧ numL n = l ++ numL m ∧ l.length ≤ 20 ∧ Below w.heap.size w wr) (fun mv _ _ => (intOf mv).toNat)
  case atStart => exact ⟨n, [], ⟨#[]⟩, hn, by simp, rfl, rfl, rfl, rfl, by simp, Below.refl _ _⟩
  case round =>
    obtain ⟨m, l, t, hm, hpow, rfl, rfl, ht, hnum, hl20, hbel⟩ := hrel
    have hz := hbel.size
    have hts : t.size = l.length := by rw [ht]; exact str_size l
    have hcat : ∀ c : UInt8, t ++ ⟨#[c]⟩ = ⟨(l ++ [c]).toArray⟩ := fun c => by rw [ht]; exact put_str l ⟨#[c]⟩
    have Ht := Lib.hid ht; have Hcat := Lib.hid hcat; clear ht hcat
    by_cases hlt : m < 128
    · rw [numL_small hlt] at hnum
      have hcv := conv_string_new (P := Try.prog) wr 30 9 5 [(m : Int)] Try.underlying30 Try.underlying5 Try.underlying9 1 1 rfl 5
      simp only [List.map_cons, List.map_nil] at hcv
      have hst : strOfNums [(m : Int)] = ⟨#[UInt8.ofNat m]⟩ := by simp [strOfNums]
      obtain ⟨u, hu⟩ : ∃ u, strOfNums [(m : Int)] = u := ⟨_, rfl⟩
      have hus : u.size = 1 := by rw [← hu, hst]; rfl
      have hfin : t ++ u = ⟨(numL n).toArray⟩ := by rw [← hu, hst, Hcat.out, hnum]
      rw [hu] at hcv
      have h1 : t.size + u.size ≤ 9223372036854775807 := by omega
      have h2 : (t.size : Int) + (u.size : Int) ≤ 9223372036854775807 := by omega
      have h3 : t.size + u.size ≤ maxLen := by unfold maxLen; omega
      have Hfin := Lib.hid hfin; have B3 := Lib.hid (hbel.alloc hz (.cells #[.int .u8 (m : Int)] 5))
      clear hfin hnum hpow hst hu hbel
      go_wp2
      go_ret
      exact ⟨by rw [← Hfin.out]; rfl, B3.out⟩
    · rw [numL_big hlt] at hnum
      have hl19 : l.length + 1 ≤ 20 := by
        rcases Nat.lt_or_ge l.length 20 with h | h
        · omega
        · have e : l.length = 20 := by omega
          rw [e] at hpow
          have h1 : 128 * 128 ^ 20 ≤ m * 128 ^ 20 := Nat.mul_le_mul_right _ (by omega)
          have h2 : (128 : Nat) * 128 ^ 20 ≥ 18446744073709551616 := by decide
          omega
      have hpow2 : (m / 128) * 128 ^ (l.length + 1) ≤ n := by
        have h1 : (m / 128) * 128 ^ (l.length + 1) = (m / 128 * 128) * 128 ^ l.length := by rw [Nat.pow_succ, Nat.mul_assoc, Nat.mul_comm (128 ^ l.length) 128]
        have h2 : m / 128 * 128 ≤ m := by omega
        have := Nat.mul_le_mul_right (128 ^ l.length) h2
        omega
      have hcv := conv_string_new (P := Try.prog) wr 30 9 5 [(m : Int) % 128 + 128] Try.underlying30 Try.underlying5 Try.underlying9 1 1 rfl 5
      simp only [List.map_cons, List.map_nil] at hcv
      have hst : strOfNums [(m : Int) % 128 + 128] = ⟨#[UInt8.ofNat (m % 128 + 128)]⟩ := by
        have : ((m : Int) % 128 + 128).toNat = m % 128 + 128 := by omega
        simp [strOfNums, this]
      obtain ⟨u, hu⟩ : ∃ u, strOfNums [(m : Int) % 128 + 128] = u := ⟨_, rfl⟩
      have hus : u.size = 1 := by rw [← hu, hst]; rfl
      have hfin : t ++ u = ⟨(l ++ [UInt8.ofNat (m % 128 + 128)]).toArray⟩ := by rw [← hu, hst, Hcat.out]
      rw [hu] at hcv
      have h1 : t.size + u.size ≤ 9223372036854775807 := by omega
      have h2 : (t.size : Int) + (u.size : Int) ≤ 9223372036854775807 := by omega
      have h3 : t.size + u.size ≤ maxLen := by unfold maxLen; omega
      have Hfin := Lib.hid hfin; have B3 := Lib.hid (hbel.alloc hz (.cells #[.int .u8 ((m : Int) % 128 + 128)] 5))
      have Hnum := Lib.hid hnum; have Hpow := Lib.hid hpow2
      clear hfin hnum hpow hpow2 hst hu hbel
      go_wp2
      go_roundw
      case rel => exact ⟨m / 128, l ++ [UInt8.ofNat (m % 128 + 128)], t ++ u, by omega, by rw [List.length_append]; exact Hpow.out, by go_num, rfl, Hfin.out, by rw [Hnum.out, List.append_assoc]; rfl, by simp; omega, B3.out⟩
      case measure => simp [intOf]; omega
section
variable {w0 w w' : World} {g : Nat} {x : WS}
set_option maxRecDepth 100000 in
theorem v_byte (h : VK w0 w g x) (n : Int) (hs : x.b.length + (byteStr n).size ≤ 16777216) : Calls Try.prog 90 #[.pointer (some ⟨g, 0, none⟩), .int .i64 n] w fun r w' => r = .returned (.tuple #[]) ∧ VK w0 w' g (x.put (decide (0 ≤ n ∧ n ≤ 255)) 1 (byteStr n)) ∧ Spare [65] w w' := by
  have hcv := conv_string_new (P := Try.prog) w 30 9 5 [n % 256] Try.underlying30 Try.underlying5 Try.underlying9 1 1 rfl 5
  have hst : strOfNums [n % 256] = byteStr n := rfl
  rw [hst] at hcv
  simp only [List.map_cons, List.map_nil] at hcv
  have hcase : n < 0 ∨ (0 ≤ n ∧ n ≤ 255) ∨ (0 ≤ n ∧ ¬ n ≤ 255) := by omega
  rcases hcase with h0 | ⟨h0, h1⟩ | ⟨h0, h1⟩
  · have hd : decide (0 ≤ n ∧ n ≤ 255) = false := by simp; omega
    rw [hd]
    go_enter Try.func90, Try.ntmps90
    go_wp2_with fail
    refine (v_put (h.below (alloc_below' w _)) false 1 1 rfl (byteStr n) hs).mono ?_
    rintro e w1 ⟨rfl, h1', h2'⟩
    have H1 := Lib.hid h1'; have H2 := Lib.hid h2'; clear h1' h2'
    go_wp2
    go_end0
    exact ⟨rfl, H1.out, (Spare.ofBelow (alloc_below' w _)).trans H2.out⟩
  · have hd : decide (0 ≤ n ∧ n ≤ 255) = true := by simp; omega
    rw [hd]
    rw [show n % 256 = n by omega] at hcv
    go_enter Try.func90, Try.ntmps90
    go_wp2_with fail
    refine (v_put (h.below (alloc_below' w _)) true 1 1 rfl (byteStr n) hs).mono ?_
    rintro e w1 ⟨rfl, h1', h2'⟩
    have H1 := Lib.hid h1'; have H2 := Lib.hid h2'; clear h1' h2'
    go_wp2
    go_end0
    exact ⟨rfl, H1.out, (Spare.ofBelow (alloc_below' w _)).trans H2.out⟩
  · have hd : decide (0 ≤ n ∧ n ≤ 255) = false := by simp; omega
    rw [hd]
    go_enter Try.func90, Try.ntmps90
    go_wp2_with fail
    refine (v_put (h.below (alloc_below' w _)) false 1 1 rfl (byteStr n) hs).mono ?_
    rintro e w1 ⟨rfl, h1', h2'⟩
    have H1 := Lib.hid h1'; have H2 := Lib.hid h2'; clear h1' h2'
    go_wp2
    go_end0
    exact ⟨rfl, H1.out, (Spare.ofBelow (alloc_below' w _)).trans H2.out⟩
set_option maxRecDepth 100000 in
theorem v_num (h : VK w0 w g x) (n : Nat) (hn : n < 18446744073709551616) (hs : x.b.length + (numL n).length ≤ 16777216) : Calls Try.prog 91 #[.pointer (some ⟨g, 0, none⟩), .int .u64 (n : Int)] w fun r w' => r = .returned (.tuple #[]) ∧ VK w0 w' g (x.put true 0 ⟨(numL n).toArray⟩) ∧ Spare [65] w w' := by
  go_enter Try.func91, Try.ntmps91
  go_wp2_with fail
  refine (rnumber_any n hn w).mono ?_
  rintro e w1 ⟨rfl, hb1⟩
  have h1 := h.below hb1
  go_wp2_with fail
  refine (v_put h1 true 0 0 rfl ⟨(numL n).toArray⟩ hs).mono ?_
  rintro e w2 ⟨rfl, h1', h2'⟩
  have H1 := Lib.hid h1'; have H2 := Lib.hid ((Spare.ofBelow hb1).trans h2'); clear h1' h2' hb1 h1 h
  go_wp2
  go_end0
  exact ⟨rfl, H1.out, H2.out⟩
set_option maxRecDepth 100000 in
theorem v_raw (h : VK w0 w g x) (s : ByteArray) (n : Int) (hs : x.b.length + s.size ≤ 16777216) : Calls Try.prog 92 #[.pointer (some ⟨g, 0, none⟩), .string s, .int .i64 n] w fun r w' => r = .returned (.tuple #[]) ∧ VK w0 w' g (x.put (decide ((s.size : Int) = n)) 1 s) ∧ Spare [65] w w' := by
  obtain ⟨so, hso⟩ : ∃ so, ((s.size : Int) == n) = so := ⟨_, rfl⟩
  have hd : decide ((s.size : Int) = n) = so := by rw [← hso]; rfl
  rw [hd]
  go_enter Try.func92, Try.ntmps92
  go_wp2_with fail
  refine (v_put h so 1 1 rfl s hs).mono ?_
  rintro e w2 ⟨rfl, h1', h2'⟩
  have H1 := Lib.hid h1'; have H2 := Lib.hid h2'; clear h1' h2' h
  go_wp2
  go_end0
  exact ⟨rfl, H1.out, H2.out⟩
set_option maxRecDepth 100000 in
theorem v_blob (h : VK w0 w g x) (s : ByteArray) (hs0 : s.size ≤ 1000000) (hs : x.b.length + (blobStr s).size ≤ 16777216) : Calls Try.prog 93 #[.pointer (some ⟨g, 0, none⟩), .string s] w fun r w' => r = .returned (.tuple #[]) ∧ VK w0 w' g (x.put (decide (s.size ≤ 4096)) 4 (blobStr s)) ∧ Spare [65] w w' := by
  obtain ⟨so, hso⟩ : ∃ so, decide ((s.size : Int) ≤ 4096) = so := ⟨_, rfl⟩
  have hd : decide (s.size ≤ 4096) = so := by rw [← hso]; congr 1; simp; omega
  rw [hd]
  have hsz : (⟨(numL s.size).toArray⟩ : ByteArray).size + s.size ≤ maxLen := by
    have : (blobStr s).size = (⟨(numL s.size).toArray⟩ : ByteArray).size + s.size := by rw [blobStr, ByteArray.size_append]
    unfold maxLen; omega
  have hbs : blobStr s = ⟨(numL s.size).toArray⟩ ++ s := rfl
  obtain ⟨nb, hnb⟩ : ∃ nb : ByteArray, (⟨(numL s.size).toArray⟩ : ByteArray) = nb := ⟨_, rfl⟩
  have hnum := rnumber_any s.size (by omega)
  rw [hnb] at hsz hbs hnum
  have hsz2 : nb.size + s.size ≤ 9223372036854775807 := by unfold maxLen at hsz; omega
  have hsz3 : (nb.size : Int) + (s.size : Int) ≤ 9223372036854775807 := by omega
  have Hbs := Lib.hid hbs; have Hnum := Lib.hid hnum; clear hbs hnb hnum
  go_enter Try.func93, Try.ntmps93
  go_wp2_with fail
  refine (Hnum.out w).mono ?_
  rintro e w1 ⟨rfl, hb1⟩
  have h1 := h.below hb1
  go_wp2_with fail
  rw [Hbs.out] at hs
  refine (v_put h1 so 4 4 rfl _ hs).mono ?_
  rintro e w2 ⟨rfl, h1', h2'⟩
  have H1 := Lib.hid h1'; have H2 := Lib.hid ((Spare.ofBelow hb1).trans h2'); clear h1' h2' hb1 h1 h
  go_wp2
  go_end0
  exact ⟨rfl, by rw [Hbs.out]; exact H1.out, H2.out⟩
end
end Go.Proofs.Ytjmdiobnappgkaa

/-
  Layer 11 (wire): plain laws of a number's bytes.
-/
namespace Go.Proofs.Ytjmdiobnappgkaa
set_option linter.unusedVariables false
set_option linter.unusedSimpArgs false

theorem numL_pos (n : Nat) : 1 ≤ (numL n).length := by
  by_cases h : n < 128
  · rw [numL_small h]; simp
  · rw [numL_big h]; simp
theorem numL_mono : ∀ (n m : Nat), n ≤ m → (numL n).length ≤ (numL m).length := by
  intro n
  induction n using Nat.strongRecOn with
  | ind n ih =>
    intro m h
    by_cases hn : n < 128
    · rw [numL_small hn]; exact numL_pos m
    · rw [numL_big hn, numL_big (show ¬ m < 128 by omega), List.length_cons, List.length_cons]
      have := ih (n / 128) (by omega) (m / 128) (by omega)
      omega
theorem ofNat_inj {a b : Nat} (ha : a < 256) (hb : b < 256) (h : UInt8.ofNat a = UInt8.ofNat b) : a = b := by
  have := congrArg UInt8.toNat h
  simp [Nat.mod_eq_of_lt ha, Nat.mod_eq_of_lt hb] at this
  exact this
theorem numL_inj : ∀ (n m : Nat), numL n = numL m → n = m := by
  intro n
  induction n using Nat.strongRecOn with
  | ind n ih =>
    intro m h
    by_cases hn : n < 128
    · by_cases hm : m < 128
      · rw [numL_small hn, numL_small hm] at h
        injection h with h1 _
        exact ofNat_inj (by omega) (by omega) h1
      · rw [numL_small hn, numL_big hm] at h
        injection h with _ h2
        have := numL_pos (m / 128)
        rw [← h2] at this
        simp at this
    · by_cases hm : m < 128
      · rw [numL_big hn, numL_small hm] at h
        injection h with _ h2
        have := numL_pos (n / 128)
        rw [h2] at this
        simp at this
      · rw [numL_big hn, numL_big hm] at h
        injection h with h1 h2
        have e1 := ofNat_inj (by omega) (by omega) h1
        have e2 := ih (n / 128) (by omega) (m / 128) h2
        omega
theorem numF_err : ∀ (f a n : Nat) (L : List UInt8) (e : Nat), numF f L a n = .error e → e = 2 ∨ e = 3
  | 0, a, n, L, e, h => by rw [numF] at h; injection h with h; exact .inr h.symm
  | f + 1, a, n, [], e, h => by rw [numF] at h; injection h with h; exact .inl h.symm
  | f + 1, a, n, c :: l, e, h => by
    rw [numF] at h
    split at h
    · exact numF_err f _ _ l e h
    · split at h
      · injection h with h; exact .inr h.symm
      · cases h
theorem or_add (n c a : Nat) (hn : n < 2 ^ (7 * a)) (hc : (c % 128) * 2 ^ (7 * a) < 18446744073709551616) : numOr n c a = n + 2 ^ (7 * a) * (c % 128) := by
  unfold numOr
  rw [Nat.mod_eq_of_lt hc, Nat.or_comm, Nat.mul_comm, ← Nat.two_pow_add_eq_or_of_lt hn, Nat.add_comm]
set_option maxRecDepth 100000 in
theorem numF_ok : ∀ (f a n : Nat) (L : List UInt8) (v k : Nat), a + f = 10 → n < 2 ^ (7 * a) → numF f L a n = .ok (v, k) → ∃ u j, k = a + j ∧ 1 ≤ j ∧ j ≤ L.length ∧ numL u = L.take j ∧ v = n + 2 ^ (7 * a) * u ∧ (0 < a → u ≠ 0)
  | 0, a, n, L, v, k, ha, hn, h => by rw [numF] at h; cases h
  | f + 1, a, n, [], v, k, ha, hn, h => by rw [numF] at h; cases h
  | f + 1, a, n, c :: l, v, k, ha, hn, h => by
    rw [numF] at h
    have hc256 : c.toNat < 256 := c.toNat_lt
    split at h
    · rename_i hbig
      have ha8 : a ≤ 8 := by
        rcases Nat.lt_or_ge a 9 with h9 | h9
        · omega
        · have : f = 0 := by omega
          subst this; rw [numF] at h; cases h
      have hp : (2 : Nat) ^ (7 * a) ≤ 2 ^ 56 := Nat.pow_le_pow_right (by decide) (by omega)
      have hlt : (c.toNat % 128) * 2 ^ (7 * a) < 18446744073709551616 := by
        have h1 : (c.toNat % 128) * 2 ^ (7 * a) ≤ 127 * 2 ^ 56 := Nat.mul_le_mul (by omega) hp
        have h2 : (127 : Nat) * 2 ^ 56 < 18446744073709551616 := by decide
        omega
      have e := or_add n c.toNat a hn hlt
      have hpow : (2 : Nat) ^ (7 * (a + 1)) = 2 ^ (7 * a) * 128 := by rw [show 7 * (a + 1) = 7 * a + 7 by omega, Nat.pow_add]
      have hn' : numOr n c.toNat a < 2 ^ (7 * (a + 1)) := by
        rw [e, hpow]
        have h1 : 2 ^ (7 * a) * (c.toNat % 128) ≤ 2 ^ (7 * a) * 127 := Nat.mul_le_mul_left _ (by omega)
        omega
      obtain ⟨u, j, hk, hj1, hj2, hnum, hv, hu⟩ := numF_ok f (a + 1) _ l v k (by omega) hn' h
      have hu0 := hu (by omega)
      refine ⟨c.toNat % 128 + 128 * u, j + 1, by omega, by omega, by simp; omega, ?_, ?_, fun _ => by omega⟩
      · rw [numL_big (by omega), List.take_succ_cons, ← hnum]
        congr 1
        · have : (c.toNat % 128 + 128 * u) % 128 + 128 = c.toNat := by omega
          rw [this]; simp
        · congr 1; omega
      · rw [hv, e, hpow, Nat.mul_add, Nat.mul_assoc, Nat.add_assoc]
    · rename_i hsmall
      split at h
      · cases h
      · rename_i hok
        injection h with h
        injection h with h1 h2
        have hc : c.toNat % 128 = c.toNat := by omega
        have hlt : (c.toNat % 128) * 2 ^ (7 * a) < 18446744073709551616 := by
          rcases Nat.lt_or_ge a 9 with h9 | h9
          · have hp : (2 : Nat) ^ (7 * a) ≤ 2 ^ 56 := Nat.pow_le_pow_right (by decide) (by omega)
            have h1 : (c.toNat % 128) * 2 ^ (7 * a) ≤ 127 * 2 ^ 56 := Nat.mul_le_mul (by omega) hp
            have h2 : (127 : Nat) * 2 ^ 56 < 18446744073709551616 := by decide
            omega
          · have : a = 9 := by omega
            subst this
            have h1 : (c.toNat % 128) * 2 ^ (7 * 9) ≤ 9223372036854775808 := by
              have h3 : (c.toNat % 128) * 2 ^ (7 * 9) ≤ 1 * 2 ^ (7 * 9) := Nat.mul_le_mul_right _ (by omega)
              exact Nat.le_trans h3 (by decide)
            exact Nat.lt_of_le_of_lt h1 (by decide)
        refine ⟨c.toNat, 1, h2.symm, Nat.le_refl _, by simp, ?_, ?_, fun h0 hc0 => hok (.inl ⟨hc0, h0⟩)⟩
        · rw [numL_small (by omega)]; simp
        · rw [← h1, or_add n c.toNat a hn hlt, hc]
set_option maxRecDepth 100000 in
/-- What Num reads, written again, is what was read. -/
theorem numF_back {L : List UInt8} {v k : Nat} (h : numF 10 L 0 0 = .ok (v, k)) : 1 ≤ k ∧ k ≤ L.length ∧ numL v = L.take k := by
  obtain ⟨u, j, hk, hj1, hj2, hnum, hv, _⟩ := numF_ok 10 0 0 L v k rfl (Nat.one_pos) h
  have e1 : k = j := by omega
  have e2 : v = u := by rw [Nat.mul_zero, Nat.pow_zero, Nat.one_mul, Nat.zero_add] at hv; exact hv
  subst e1 e2
  exact ⟨hj1, hj2, hnum⟩
theorem numF_lt : ∀ (f a n : Nat) (L : List UInt8) (v k : Nat), n < 18446744073709551616 → numF f L a n = .ok (v, k) → v < 18446744073709551616
  | 0, a, n, L, v, k, hn, h => by rw [numF] at h; cases h
  | f + 1, a, n, [], v, k, hn, h => by rw [numF] at h; cases h
  | f + 1, a, n, c :: l, v, k, hn, h => by
    rw [numF] at h
    split at h
    · exact numF_lt f _ _ l v k (numOr_lt _ _ _ hn) h
    · split at h
      · cases h
      · injection h with h; injection h with h1 h2
        rw [← h1]; exact numOr_lt _ _ _ hn
end Go.Proofs.Ytjmdiobnappgkaa

/-
  Layer 11 (wire): plain laws: Num reads back what Num wrote; cut off it does not.
-/
namespace Go.Proofs.Ytjmdiobnappgkaa
set_option linter.unusedVariables false
set_option linter.unusedSimpArgs false

/-- A number's bytes, whatever lies behind, read as that number. -/
theorem numF_numL : ∀ (f a n u : Nat) (rest : List UInt8), a + f = 10 → n < 2 ^ (7 * a) → 2 ^ (7 * a) * u + n < 18446744073709551616 → (0 < a → u ≠ 0) → numF f (numL u ++ rest) a n = .ok (n + 2 ^ (7 * a) * u, a + (numL u).length)
  | 0, a, n, u, rest, ha, hn, hb, hu => by
    have ha10 : a = 10 := by omega
    subst ha10
    have hu0 := hu (by decide)
    have h1 : 2 ^ (7 * 10) * 1 ≤ 2 ^ (7 * 10) * u := Nat.mul_le_mul_left _ (by omega)
    have h2 : (18446744073709551616 : Nat) ≤ 2 ^ (7 * 10) * 1 := by decide
    omega
  | f + 1, a, n, u, rest, ha, hn, hb, hu => by
    by_cases hs : u < 128
    · have hc : (UInt8.ofNat u).toNat = u := by simp [Nat.mod_eq_of_lt (show u < 256 by omega)]
      have hno : ¬ ((u = 0 ∧ 0 < a) ∨ (a = 9 ∧ 1 < u)) := by
        rintro (⟨h1, h2⟩ | ⟨h1, h2⟩)
        · exact hu h2 h1
        · subst h1
          have h3 : 2 ^ (7 * 9) * 2 ≤ 2 ^ (7 * 9) * u := Nat.mul_le_mul_left _ (by omega)
          have h4 : (18446744073709551616 : Nat) ≤ 2 ^ (7 * 9) * 2 := by decide
          omega
      have hlt : (u % 128) * 2 ^ (7 * a) < 18446744073709551616 := by
        rw [Nat.mod_eq_of_lt hs, Nat.mul_comm]; omega
      rw [numL_small hs, List.singleton_append, numF, hc, if_neg (by omega), if_neg hno, or_add n u a hn hlt, Nat.mod_eq_of_lt hs]
      simp
    · have hc : (UInt8.ofNat (u % 128 + 128)).toNat = u % 128 + 128 := by simp [Nat.mod_eq_of_lt (show u % 128 + 128 < 256 by omega)]
      have hm : (u % 128 + 128) % 128 = u % 128 := by omega
      have hpow : (2 : Nat) ^ (7 * (a + 1)) = 2 ^ (7 * a) * 128 := by rw [show 7 * (a + 1) = 7 * a + 7 by omega, Nat.pow_add]
      have hle : 2 ^ (7 * a) * (u % 128) ≤ 2 ^ (7 * a) * u := Nat.mul_le_mul_left _ (Nat.mod_le _ _)
      have hlt : ((u % 128 + 128) % 128) * 2 ^ (7 * a) < 18446744073709551616 := by
        rw [hm, Nat.mul_comm]; omega
      have e := or_add n (u % 128 + 128) a hn hlt
      rw [hm] at e
      have hsplit : 2 ^ (7 * a) * u = 2 ^ (7 * a) * (u % 128) + 2 ^ (7 * (a + 1)) * (u / 128) := by
        rw [hpow, Nat.mul_assoc, ← Nat.mul_add]; congr 1; omega
      have hn' : n + 2 ^ (7 * a) * (u % 128) < 2 ^ (7 * (a + 1)) := by
        rw [hpow]
        have h1 : 2 ^ (7 * a) * (u % 128) ≤ 2 ^ (7 * a) * 127 := Nat.mul_le_mul_left _ (by omega)
        omega
      have ih := numF_numL f (a + 1) (n + 2 ^ (7 * a) * (u % 128)) (u / 128) rest (by omega) hn' (by omega) (fun _ => by omega)
      rw [numL_big hs, List.cons_append, numF, hc, if_pos (by omega), e, ih, List.length_cons]
      congr 2
      · omega
      · omega
/-- .. from the start. -/
theorem numF_read (n : Nat) (rest : List UInt8) (h : n < 18446744073709551616) : numF 10 (numL n ++ rest) 0 0 = .ok (n, (numL n).length) := by
  have := numF_numL 10 0 0 n rest rfl (Nat.one_pos) (by rw [Nat.mul_zero, Nat.pow_zero, Nat.one_mul]; exact h) (fun h => absurd h (by decide))
  rw [Nat.mul_zero, Nat.pow_zero, Nat.one_mul, Nat.zero_add, Nat.zero_add] at this
  exact this
/-- A number's bytes, cut off, end too early. -/
theorem numF_cut : ∀ (f a n u j : Nat), j < (numL u).length → (numL u).length ≤ f → numF f ((numL u).take j) a n = .error 2
  | 0, a, n, u, j, hj, hf => by omega
  | f + 1, a, n, u, 0, hj, hf => by rw [List.take_zero, numF]
  | f + 1, a, n, u, j + 1, hj, hf => by
    by_cases hs : u < 128
    · rw [numL_small hs] at hj; simp at hj
    · have hc : (UInt8.ofNat (u % 128 + 128)).toNat = u % 128 + 128 := by simp [Nat.mod_eq_of_lt (show u % 128 + 128 < 256 by omega)]
      rw [numL_big hs, List.length_cons] at hj hf
      rw [numL_big hs, List.take_succ_cons, numF, hc, if_pos (by omega)]
      exact numF_cut f _ _ (u / 128) j (by omega) (by omega)
theorem numF_short (n j : Nat) (h : n < 18446744073709551616) (hj : j < (numL n).length) : numF 10 ((numL n).take j) 0 0 = .error 2 := numF_cut 10 0 0 n j hj (numL_len10 n h)
end Go.Proofs.Ytjmdiobnappgkaa

/-
  Layer 11 (wire): plain laws for WireBack: a part read back.
-/
namespace Go.Proofs.Ytjmdiobnappgkaa
set_option linter.unusedVariables false
set_option linter.unusedSimpArgs false

theorem ba_list {a b : ByteArray} (h : a.data.toList = b.data.toList) : a = b := ba_ext (Array.ext' h)
theorem list_size (s : ByteArray) : s.data.toList.length = s.size := by rw [Array.length_toList]; rfl
theorem extract_list (s : ByteArray) (a b : Nat) : (s.extract a b).data.toList = (s.data.toList.drop a).take (b - a) := Lib.extract_data s a b
/-- take, of a reader whose bytes begin with l. -/
theorem take_ok {y : RD} {l rest : List UInt8} (he : y.e = 0) (hs : y.s.data.toList = l ++ rest) : y.takeS (l.length : Int) = ⟨l.toArray⟩ ∧ y.takeX (l.length : Int) = ⟨⟨rest.toArray⟩, 0⟩ := by
  have hz : y.s.size = l.length + rest.length := by rw [← list_size, hs, List.length_append]
  constructor
  · rw [RD.takeS, if_pos ⟨he, by omega, by omega⟩]
    apply ba_list
    rw [extract_list, hs, Int.toNat_natCast]; simp
  · rw [RD.takeX, if_pos he, if_neg (by omega), if_neg (by omega)]
    have : y.s.extract (l.length : Int).toNat y.s.size = ⟨rest.toArray⟩ := by
      apply ba_list
      rw [extract_list, hs, Int.toNat_natCast, hz]; simp
    rw [this, he]
theorem take_short {y : RD} (he : y.e = 0) (n : Nat) (h : y.s.size < n) : (y.takeX (n : Int)).e = 2 := by
  rw [RD.takeX, if_pos he, if_neg (by omega), if_pos (by omega)]
theorem num_ok {y : RD} {n : Nat} {rest : List UInt8} (hn : n < 18446744073709551616) (he : y.e = 0) (hs : y.s.data.toList = numL n ++ rest) : y.numV = n ∧ y.numX = ⟨⟨rest.toArray⟩, 0⟩ := by
  have hz : y.s.size = (numL n).length + rest.length := by rw [← list_size, hs, List.length_append]
  have h := numF_read n rest hn
  rw [← hs] at h
  constructor
  · rw [RD.numV, if_pos he, h]
  · rw [RD.numX, if_pos he, h]
    have : y.s.extract (numL n).length y.s.size = ⟨rest.toArray⟩ := by
      apply ba_list
      rw [extract_list, hs, hz]; simp
    show RD.mk (y.s.extract (numL n).length y.s.size) y.e = _
    rw [this, he]
theorem num_short {y : RD} {n j : Nat} (hn : n < 18446744073709551616) (he : y.e = 0) (hj : j < (numL n).length) (hs : y.s.data.toList = (numL n).take j) : y.numX.e = 2 := by
  have h := numF_short n j hn hj
  rw [← hs] at h
  rw [RD.numX, if_pos he, h]
theorem blobStr_list (s : ByteArray) : (blobStr s).data.toList = numL s.size ++ s.data.toList := by
  rw [blobStr, ByteArray.data_append]; simp
theorem blob_ok {y : RD} {s : ByteArray} {rest : List UInt8} (hsz : s.size ≤ 100) (he : y.e = 0) (hs : y.s.data.toList = (blobStr s).data.toList ++ rest) : y.blobS 100 = s ∧ y.blobX 100 = ⟨⟨rest.toArray⟩, 0⟩ := by
  rw [blobStr_list, List.append_assoc] at hs
  obtain ⟨h1, h2⟩ := num_ok (by omega) he hs
  have h3 := take_ok (y := ⟨⟨(s.data.toList ++ rest).toArray⟩, 0⟩) (l := s.data.toList) (rest := rest) rfl (by simp)
  rw [list_size] at h3
  have h4 : (⟨s.data.toList.toArray⟩ : ByteArray) = s := ba_self s
  constructor
  · rw [RD.blobS, h1, h2, if_pos ⟨rfl, by omega, by omega⟩, h3.1, h4]
  · rw [RD.blobX, h1, h2, if_pos rfl, if_pos ⟨by omega, by omega⟩, h3.2, RD.back, if_pos rfl]
theorem blob_short {y : RD} {s : ByteArray} {j : Nat} (hsz : s.size ≤ 100) (he : y.e = 0) (hj : j < (blobStr s).size) (hs : y.s.data.toList = (blobStr s).data.toList.take j) : (y.blobX 100).e = 2 := by
  rw [← list_size, blobStr_list, List.length_append, list_size] at hj
  rw [blobStr_list] at hs
  rcases Nat.lt_or_ge j (numL s.size).length with h | h
  · rw [List.take_append_of_le_length (by omega)] at hs
    have h1 := num_short (by omega) he h hs
    rw [RD.blobX, if_neg (by omega)]; exact h1
  · rw [List.take_append, List.take_of_length_le h] at hs
    obtain ⟨h1, h2⟩ := num_ok (by omega) he hs
    have h3 := take_short (y := ⟨⟨(s.data.toList.take (j - (numL s.size).length)).toArray⟩, 0⟩) rfl s.size (by
      rw [← list_size]; simp; omega)
    rw [RD.blobX, h1, h2, if_pos rfl, if_pos ⟨by omega, by omega⟩, RD.back]
    split
    · exact h3
    · exact h3
end Go.Proofs.Ytjmdiobnappgkaa

/-
  Layer 11 (wire): the document's reader: plain laws of its numbers; the walk of number.
-/
namespace Go.Proofs.Ytjmdiobnappgkaa
open Go.RowKit
set_option linter.unusedVariables false
set_option linter.unusedSimpArgs false

/-- What bytes tell, the least digit first. -/
def dval : List UInt8 → Nat
  | [] => 0
  | c :: l => dval l * 128 + c.toNat % 128
theorem dval_numL : ∀ v : Nat, dval (numL v) = v := by
  intro v
  induction v using Nat.strongRecOn with
  | ind v ih =>
    by_cases h : v < 128
    · rw [numL_small h, dval, dval]
      have : (UInt8.ofNat v).toNat = v := by simp [Nat.mod_eq_of_lt (show v < 256 by omega)]
      omega
    · rw [numL_big h, dval, ih (v / 128) (by omega)]
      have : (UInt8.ofNat (v % 128 + 128)).toNat = v % 128 + 128 := by simp [Nat.mod_eq_of_lt (show v % 128 + 128 < 256 by omega)]
      omega
theorem dval_drop_le : ∀ (l : List UInt8) (j : Nat), dval (l.drop j) ≤ dval l
  | [], j => by simp
  | c :: l, 0 => by simp
  | c :: l, j + 1 => by
    rw [List.drop_succ_cons, dval]
    have := dval_drop_le l j
    omega
theorem dval_step (l : List UInt8) (k : Nat) (h : k < l.length) : dval (l.drop k) = dval (l.drop (k + 1)) * 128 + l[k].toNat % 128 := by
  rw [List.drop_eq_getElem_cons h, dval]
theorem dval_over {l : List UInt8} {k v : Nat} (hk : 0 < k) (hkl : k ≤ l.length) (h : 144115188075855871 < dval (l.drop k)) (hv : v < 18446744073709551616) : numL v ≠ l := by
  rintro rfl
  obtain ⟨j, rfl⟩ : ∃ j, k = j + 1 := ⟨k - 1, by omega⟩
  have h1 := dval_step (numL v) j (by omega)
  have h2 := dval_drop_le (numL v) j
  rw [dval_numL] at h2
  omega
def NumberPost (s : ByteArray) (w : World) (e : Ending) (w' : World) : Prop :=
  ∃ (n : Nat) (b : Bool), e = .returned (.tuple #[.int .u64 (n : Int), .bool b]) ∧ n < 18446744073709551616 ∧ (b = true → numL n = s.data.toList) ∧ (b = false → ∀ v, v < 18446744073709551616 → numL v ≠ s.data.toList) ∧ Below w.heap.size w w'
set_option maxRecDepth 100000 in
set_option maxHeartbeats 800000 in
theorem number_spec (s : ByteArray) (hs : s.size ≤ 100000) (w : World) : Calls Try.prog 109 #[.string s] w (NumberPost s w) := by
  have hLl : s.data.toList.length = s.size := by rw [Array.length_toList]; rfl
  have HLl := Lib.hid hLl; clear hLl
  go_enter Try.func109, Try.ntmps109
  go_wp2
  go_loop [4, 5] (fun nv iv => ∃ (k m : Nat), k ≤ s.size ∧ iv = .int .i64 ((k : Int) - 1) ∧ nv = .int .u64 (m : Int) ∧ m < 18446744073709551616 ∧ m = dval (s.data.toList.drop k)) (fun _ iv => (intOf iv + 1).toNat)
  case atStart => exact ⟨s.size, 0, Nat.le_refl _, rfl, rfl, by decide, by rw [List.drop_eq_nil_of_le (by rw [HLl.out]; omega)]; rfl⟩
  case round =>
    obtain ⟨k, m, hk, rfl, rfl, hm, hd⟩ := hrel
    have Hm := Lib.hid hm; have Hd := Lib.hid hd; clear hm hd
    by_cases hk0 : k = 0
    · subst hk0
      go_wp2_with fail
      refine (rnumber_any m Hm.out w).mono ?_
      rintro e w1 ⟨rfl, hb1⟩
      obtain ⟨T, hT⟩ : ∃ T, (⟨(numL m).toArray⟩ : ByteArray) = T := ⟨_, rfl⟩
      have hTl : T.data.toList = numL m := by rw [← hT]
      rw [hT]
      have HTl := Lib.hid hTl; clear hTl hT
      have Hb1 := Lib.hid hb1; clear hb1
      obtain ⟨b, hb⟩ : ∃ b, (T.toList == s.toList) = b := ⟨_, rfl⟩
      have HB := Lib.hid hb
      go_wp2
      go_ret2
      refine ⟨m, b, rfl, Hm.out, ?_, ?_, Hb1.out⟩
      · intro h
        have h2 := HB.out; rw [h, ByteArray.toList_eq, ByteArray.toList_eq, beq_iff_eq] at h2
        rw [← HTl.out]; exact h2
      · intro h v hv he
        have h2 := HB.out; rw [h, ByteArray.toList_eq, ByteArray.toList_eq, beq_eq_false_iff_ne] at h2
        apply h2
        rw [HTl.out]
        have h3 : m = v := by rw [Hd.out, List.drop_zero, ← he, dval_numL]
        rw [h3]; exact he
    · obtain ⟨j, rfl⟩ : ∃ j, k = j + 1 := ⟨k - 1, by omega⟩
      have hj : ((j + 1 : Nat) : Int) - 1 = (j : Int) := by omega
      rw [hj]
      clear hj hk0
      have hj1 : (j : Int) < (s.size : Int) := by omega
      have hj2 : j < s.size := by omega
      by_cases ho : 144115188075855871 < m
      · have ho2 : (144115188075855871 : Int) < (m : Int) := by omega
        have Hov := Lib.hid ho; clear ho
        go_wp2
        go_ret2
        exact ⟨0, false, rfl, by decide, fun h => (Bool.false_ne_true h).elim, fun _ v hv => dval_over (Nat.succ_pos j) (by rw [HLl.out]; omega) (by rw [← Hd.out]; exact Hov.out) hv, Below.refl _ _⟩
      · have ho2 : ¬ (144115188075855871 : Int) < (m : Int) := by omega
        obtain ⟨c, hc⟩ : ∃ c : Nat, s[j].toNat = c := ⟨_, rfl⟩
        have hstep : dval (s.data.toList.drop j) = m * 128 + c % 128 := by
          rw [dval_step _ j (by rw [HLl.out]; omega), ← Hd.out, ← hc]; rfl
        have w1 : IntKind.u64.wrap ((m : Int) * 128) = (m : Int) * 128 := by rw [IntKind.wrap_u64]; omega
        have w2 : IntKind.u64.wrap ((c : Int) % 128) = (c : Int) % 128 := by rw [IntKind.wrap_u64]; omega
        have w3 : IntKind.u64.wrap ((m : Int) * 128 + (c : Int) % 128) = (m : Int) * 128 + (c : Int) % 128 := by rw [IntKind.wrap_u64]; omega
        have hlt : m * 128 + c % 128 < 18446744073709551616 := by omega
        have Hst := Lib.hid hstep; have Hlt := Lib.hid hlt
        clear hstep hlt ho Hm Hd
        go_wp2
        go_round
        case rel => exact ⟨j, m * 128 + c % 128, by omega, rfl, by push_cast; rfl, Hlt.out, Hst.out.symm⟩
        case measure => simp [intOf]
end Go.Proofs.Ytjmdiobnappgkaa

/-
  Layer 11 (wire): the document's reader: its plain model, how it lies in memory, the walks of its methods.
-/
namespace Go.Proofs.Ytjmdiobnappgkaa
open Go.RowKit
set_option linter.unusedVariables false
set_option linter.unusedSimpArgs false

theorem numF_lead : ∀ (k f a n : Nat) (L : List UInt8) (hk : k < f) (hkL : k < L.length), (∀ i (h : i < L.length), i < k → 128 ≤ L[i].toNat) → L[k].toNat < 128 → (∃ v, numF f L a n = .ok (v, a + k + 1)) ∨ numF f L a n = .error 3
  | k, 0, a, n, L, hk, hkL, h1, h2 => by omega
  | k, f + 1, a, n, [], hk, hkL, h1, h2 => by simp at hkL
  | 0, f + 1, a, n, c :: l, hk, hkL, h1, h2 => by
    have h2' : c.toNat < 128 := h2
    rw [numF, if_neg (by omega)]
    split
    · exact .inr rfl
    · exact .inl ⟨_, rfl⟩
  | k + 1, f + 1, a, n, c :: l, hk, hkL, h1, h2 => by
    have h0 : 128 ≤ c.toNat := h1 0 (by simp) (Nat.succ_pos k)
    rw [numF, if_pos h0]
    have ih := numF_lead k f (a + 1) (numOr n c.toNat a) l (by omega) (by simp at hkL; omega) (fun i hi hik => by
      have := h1 (i + 1) (by simp; omega) (by omega)
      simpa using this) (by simpa using h2)
    rw [show a + 1 + k + 1 = a + (k + 1) + 1 by omega] at ih
    exact ih
theorem numF_over : ∀ (f a n : Nat) (L : List UInt8), f ≤ L.length → (∀ i (h : i < L.length), i < f → 128 ≤ L[i].toNat) → numF f L a n = .error 3
  | 0, a, n, L, hL, h => by rw [numF]
  | f + 1, a, n, [], hL, h => by simp at hL
  | f + 1, a, n, c :: l, hL, h => by
    have h0 : 128 ≤ c.toNat := h 0 (by simp) (Nat.succ_pos f)
    rw [numF, if_pos h0]
    exact numF_over f _ _ l (by simp at hL; omega) (fun i hi hik => by
      have := h (i + 1) (by simp; omega) (by omega)
      simpa using this)
theorem numF_under : ∀ (f a n : Nat) (L : List UInt8), L.length < f → (∀ i (h : i < L.length), 128 ≤ L[i].toNat) → numF f L a n = .error 2
  | 0, a, n, L, hL, h => by omega
  | f + 1, a, n, [], hL, h => by rw [numF]
  | f + 1, a, n, c :: l, hL, h => by
    have h0 : 128 ≤ c.toNat := h 0 (by simp)
    rw [numF, if_pos h0]
    exact numF_under f _ _ l (by simp at hL; omega) (fun i hi => by
      have := h (i + 1) (by simp; omega)
      simpa using this)
theorem numF_yes {L : List UInt8} {k v : Nat} (hv : v < 18446744073709551616) (h : numL v = L.take (k + 1)) (hk : k < L.length) : numF 10 L 0 0 = .ok (v, k + 1) := by
  have e : L = numL v ++ L.drop (k + 1) := by rw [h, List.take_append_drop]
  have e2 : (numL v).length = k + 1 := by rw [h, List.length_take]; omega
  have := numF_read v (L.drop (k + 1)) hv
  rw [← e, e2] at this
  exact this
theorem numF_no {L : List UInt8} {k : Nat} (hk10 : k < 10) (hk : k < L.length) (h1 : ∀ i (h : i < L.length), i < k → 128 ≤ L[i].toNat) (h2 : L[k].toNat < 128) (h : ∀ v, v < 18446744073709551616 → numL v ≠ L.take (k + 1)) : numF 10 L 0 0 = .error 3 := by
  rcases numF_lead k 10 0 0 L hk10 hk h1 h2 with ⟨v, hv⟩ | h3
  · obtain ⟨_, _, hb⟩ := numF_back hv
    have hlt := numF_lt 10 0 0 L v _ (by decide) hv
    rw [Nat.zero_add] at hb
    exact absurd hb (h v hlt)
  · exact h3

/-- The document's reader: the bytes, how many are taken, the first error. -/
structure RV where
  S : ByteArray
  at_ : Nat
  e : Nat
def RV.rest (v : RV) : ByteArray := v.S.extract v.at_ v.S.size
def RV.rd (v : RV) : RD := ⟨v.rest, v.e⟩
theorem RV.rest_size (v : RV) : v.rest.size = v.S.size - v.at_ := by rw [RV.rest, ByteArray.size_extract]; omega
theorem RV.rest_list (v : RV) : v.rest.data.toList = v.S.data.toList.drop v.at_ := by
  rw [RV.rest, extract_list, List.take_of_length_le (by rw [List.length_drop, list_size]; omega)]
def IsRv (w : World) (g : Nat) (v : RV) : Prop := Blk w g 83 #[.string v.S, .int .i64 (v.at_ : Int), .int .i64 (v.e : Int)]
def RVK (w0 w : World) (g : Nat) (v : RV) : Prop := IsRv w g v ∧ w0.heap.size ≤ g ∧ Below w0.heap.size w0 w ∧ w0.heap.size ≤ w.heap.size ∧ v.at_ ≤ v.S.size ∧ v.S.size ≤ 1000000
section
variable {w0 w w' : World} {g : Nat} {v : RV}
theorem IsRv.c0 (h : IsRv w g v) : w.cell? ⟨g, 0, none⟩ = some (.string v.S) := Blk.cell h 0
theorem IsRv.c1 (h : IsRv w g v) : w.cell? ⟨g, 1, none⟩ = some (.int .i64 (v.at_ : Int)) := Blk.cell h 1
theorem IsRv.c2 (h : IsRv w g v) : w.cell? ⟨g, 2, none⟩ = some (.int .i64 (v.e : Int)) := Blk.cell h 2
theorem IsRv.fr (h : IsRv w g v) (i : Nat) : w.frozen? ⟨g, i, none⟩ = false := Blk.frozen h i
theorem RVK.below (h : RVK w0 w g v) (hb : Below w.heap.size w w') : RVK w0 w' g v := by
  obtain ⟨h1, h2, h3, h4, h5⟩ := h
  exact ⟨(Spare.ofBelow (T := []) hb).blk h1 (by simp), h2, h3.trans (hb.mono h4), Nat.le_trans h4 hb.size, h5⟩
theorem RVK.dw (h : RVK w0 w g v) : RVK w0 w.drew g v := h.below ((Below.refl _ _).drew)
theorem RVK.dwN (h : RVK w0 w g v) (n : Nat) : RVK w0 (w.drewN n) g v := h.below (below_drewN' (Below.refl _ _) n)
theorem RVK.spare {T : List TypeId} (h : RVK w0 w g v) (hb : Below w0.heap.size w0 w') (hs : Spare T w w') (h1 : 83 ∉ T) : RVK w0 w' g v :=
  ⟨hs.blk h.1 h1, h.2.1, hb, hb.size, h.2.2.2.2⟩
theorem RVK.only {v' : RV} (h : RVK w0 w g v) (hx : IsRv w' g v') (ho : Only w.heap.size [g] w w') (h5 : v'.at_ ≤ v'.S.size) (h6 : v'.S.size ≤ 1000000) : RVK w0 w' g v' ∧ Frm g w w' := by
  obtain ⟨h1, h2, h3, h4, _⟩ := h
  exact ⟨⟨hx, h2, h3.trans ((ho.mono h4 (l' := [g]) (fun k _ h => h)).below (by simp; exact h2)), Nat.le_trans h4 ho.size, h5, h6⟩, ho⟩
theorem RVK.err (h : RVK w0 w g v) (e : Nat) : RVK w0 (w.setCell ⟨g, 2, none⟩ (.int .i64 (e : Int))) g { v with e := e } ∧ Frm g w (w.setCell ⟨g, 2, none⟩ (.int .i64 (e : Int))) :=
  h.only (v' := { v with e := e }) (Blk.set_ h.1 2 _) ((Only.refl _ [g] _).setCell (p := ⟨g, 2, none⟩) (.inl (by simp)) _) h.2.2.2.2.1 h.2.2.2.2.2
theorem RVK.go (h : RVK w0 w g v) (n : Nat) (hn : n ≤ v.S.size) (ni : Int) (hni : (n : Int) = ni) : RVK w0 (w.setCell ⟨g, 1, none⟩ (.int .i64 ni)) g { v with at_ := n } ∧ Frm g w (w.setCell ⟨g, 1, none⟩ (.int .i64 ni)) := by
  subst hni
  exact h.only (v' := { v with at_ := n }) (Blk.set_ h.1 1 _) ((Only.refl _ [g] _).setCell (p := ⟨g, 1, none⟩) (.inl (by simp)) _) hn h.2.2.2.2.2
theorem Frm.spareV {g : Nat} {v : RV} (h : Frm g w w') (hx : IsRv w g v) : Spare [83] w w' :=
  Spare.ofOnly h (by intro k hk; simp at hk; subst hk; exact ⟨_, _, _, hx, by simp⟩)

set_option maxRecDepth 100000 in
theorem v_left (h : RVK w0 w g v) : Calls Try.prog 62 #[.pointer (some ⟨g, 0, none⟩)] w fun r w' => r = .returned (.int .i64 (v.rest.size : Int)) ∧ ∃ n, w' = w.drewN n := by
  have c0 := h.1.c0
  have c1 := h.1.c1
  have h5 := h.2.2.2.2.1
  have h6 := h.2.2.2.2.2
  have hz := v.rest_size
  have hs : (v.S.size : Int) - (v.at_ : Int) = (v.rest.size : Int) := by omega
  have Hs := Lib.hid hs
  clear h hz hs
  go_enter Try.func62, Try.ntmps62
  go_wp2
  go_quiet (fail)
  go_wp2
  go_ret
  exact ⟨by rw [← Hs.out]; rfl, _, rfl⟩
def RV.fail (v : RV) (e : Nat) : RV := if v.e = 0 then { v with e := e } else v
theorem RV.fail_rd (v : RV) (e : Nat) : (v.fail e).rd = v.rd.fail e := by
  unfold RV.fail RD.fail RV.rd RV.rest
  by_cases h : v.e = 0
  · rw [if_pos h, if_pos h]
  · rw [if_neg h, if_neg h]
set_option maxRecDepth 100000 in
theorem v_fail (h : RVK w0 w g v) (e : Nat) (ei : Int) (hei : (e : Int) = ei) : Calls Try.prog 100 #[.pointer (some ⟨g, 0, none⟩), .int .i64 ei] w fun r w' => r = .returned (.tuple #[]) ∧ RVK w0 w' g (v.fail e) ∧ Frm g w w' := by
  subst hei
  have c2 := h.1.c2
  have f2 := h.1.fr 2
  have H := Lib.hid h; clear h
  by_cases he : v.e = 0
  · rw [he] at c2
    have hv : v.fail e = { v with e := e } := by rw [RV.fail, if_pos he]
    rw [hv]
    clear hv he
    go_enter Try.func100, Try.ntmps100
    go_wp2
    go_end0
    have hq := H.out.err e
    exact ⟨rfl, hq.1, hq.2⟩
  · have hne : ¬ (v.e : Int) = 0 := by omega
    have hv : v.fail e = v := by rw [RV.fail, if_neg he]
    rw [hv]
    clear hv
    go_enter Try.func100, Try.ntmps100
    go_wp2
    go_end0
    exact ⟨rfl, H.out, Frm.refl _ _⟩
set_option maxRecDepth 100000 in
theorem v_end (h : RVK w0 w g v) : Calls Try.prog 63 #[.pointer (some ⟨g, 0, none⟩)] w fun r w' => r = .returned (.int .i64 (v.rd.endV : Int)) ∧ ∃ n, w' = w.drewN n := by
  have c2 := h.1.c2
  by_cases he : v.e = 0
  · rw [he] at c2
    by_cases hs : v.rest.size = 0
    · have hv : v.rd.endV = 0 := by rw [RD.endV, if_pos (show v.rd.e = 0 from he), if_pos (show v.rd.s.size = 0 from hs)]
      rw [hv]
      have hl := v_left h
      rw [hs] at hl
      have Hl := Lib.hid hl
      clear hv hs he hl h
      go_enter Try.func63, Try.ntmps63
      go_wp2_with fail
      refine Hl.out.mono ?_
      rintro e w1 ⟨rfl, n, rfl⟩
      go_wp2
      go_ret
      exact ⟨rfl, n, rfl⟩
    · have hv : v.rd.endV = 3 := by rw [RD.endV, if_pos (show v.rd.e = 0 from he), if_neg (show ¬ v.rd.s.size = 0 from hs)]
      rw [hv]
      have hp : (0 : Int) < (v.rest.size : Int) := by omega
      have Hl := Lib.hid (v_left h)
      clear hv hs he h
      go_enter Try.func63, Try.ntmps63
      go_wp2_with fail
      refine Hl.out.mono ?_
      rintro e w1 ⟨rfl, n, rfl⟩
      go_wp2
      go_ret
      exact ⟨rfl, n, rfl⟩
  · have hne : ¬ (v.e : Int) = 0 := by omega
    have hv : v.rd.endV = v.e := by rw [RD.endV, if_neg (show ¬ v.rd.e = 0 from he)]; rfl
    rw [hv]
    clear hv h
    go_enter Try.func63, Try.ntmps63
    go_wp2
    go_ret
    exact ⟨rfl, 0, rfl⟩
end
end Go.Proofs.Ytjmdiobnappgkaa

/-
  Layer 11 (wire): the document's reader: the walks of Raw, Byte, Num, Blob.
-/
namespace Go.Proofs.Ytjmdiobnappgkaa
open Go.RowKit
set_option linter.unusedVariables false
set_option linter.unusedSimpArgs false

def RV.takeX (v : RV) (n : Int) : RV := if v.e = 0 then (if n < 0 then { v with e := 1 } else if (v.rest.size : Int) < n then { v with e := 2 } else { v with at_ := v.at_ + n.toNat }) else v
theorem rest_go (v : RV) (k : Nat) : (⟨v.S, v.at_ + k, v.e⟩ : RV).rest = v.rest.extract k v.rest.size := by
  apply ba_list
  rw [RV.rest_list, extract_list, RV.rest_list, List.take_of_length_le (by rw [List.length_drop, List.length_drop, list_size, RV.rest_size]; omega), List.drop_drop]
theorem RV.takeX_rd (v : RV) (n : Int) : (v.takeX n).rd = v.rd.takeX n := by
  unfold RV.takeX RD.takeX
  by_cases he : v.e = 0
  · rw [if_pos he, if_pos (show v.rd.e = 0 from he)]
    by_cases h1 : n < 0
    · rw [if_pos h1, if_pos h1]; rfl
    · rw [if_neg h1, if_neg h1]
      by_cases h2 : (v.rest.size : Int) < n
      · rw [if_pos h2, if_pos (show (v.rd.s.size : Int) < n from h2)]; rfl
      · rw [if_neg h2, if_neg (show ¬ (v.rd.s.size : Int) < n from h2)]
        show RD.mk _ _ = RD.mk _ _
        rw [rest_go]; rfl
  · rw [if_neg he, if_neg (show ¬ v.rd.e = 0 from he)]
theorem RV.takeX_S (v : RV) (n : Int) : (v.takeX n).S = v.S := by
  unfold RV.takeX; split
  · split
    · rfl
    · split <;> rfl
  · rfl
def RV.numX (v : RV) : RV := if v.e = 0 then (match numF 10 v.rest.data.toList 0 0 with | .error e => { v with e := e } | .ok p => { v with at_ := v.at_ + p.2 }) else v
theorem RV.numX_rd (v : RV) : v.numX.rd = v.rd.numX := by
  unfold RV.numX RD.numX
  by_cases he : v.e = 0
  · rw [if_pos he, if_pos (show v.rd.e = 0 from he)]
    show RV.rd (match numF 10 v.rest.data.toList 0 0 with | .error e => _ | .ok p => _) = (match numF 10 v.rest.data.toList 0 0 with | .error e => _ | .ok p => _)
    cases numF 10 v.rest.data.toList 0 0 with
    | error e => rfl
    | ok p => show RD.mk _ _ = RD.mk _ _; rw [rest_go]; rfl
  · rw [if_neg he, if_neg (show ¬ v.rd.e = 0 from he)]
theorem RV.numX_S (v : RV) : v.numX.S = v.S := by
  unfold RV.numX; split
  · split <;> rfl
  · rfl
section
variable {w0 w w' : World} {g : Nat} {v : RV}
set_option maxRecDepth 100000 in
set_option maxHeartbeats 800000 in
theorem v_rawd (h : RVK w0 w g v) (n : Int) : Calls Try.prog 99 #[.pointer (some ⟨g, 0, none⟩), .int .i64 n] w fun r w' => r = .returned (.string (v.rd.takeS n)) ∧ RVK w0 w' g (v.takeX n) ∧ Frm g w w' := by
  have hz := v.rest_size
  have h5 := h.2.2.2.2.1
  have h6 := h.2.2.2.2.2
  have hcase : (n < 0) ∨ (¬ n < 0 ∧ (v.rest.size : Int) < n) ∨ (¬ n < 0 ∧ ¬ (v.rest.size : Int) < n ∧ ¬ v.e = 0) ∨ (0 ≤ n ∧ ¬ (v.rest.size : Int) < n ∧ v.e = 0) := by omega
  rcases hcase with hn | ⟨hn, hn2⟩ | ⟨hn, hn2, he⟩ | ⟨hn, hn2, he⟩
  · have r1 : v.rd.takeS n = ⟨#[]⟩ := by rw [RD.takeS, if_neg (fun c => by omega)]
    have r2 : v.takeX n = v.fail 1 := by
      rw [RV.takeX, RV.fail]
      by_cases he : v.e = 0
      · rw [if_pos he, if_pos he, if_pos hn]
      · rw [if_neg he, if_neg he]
    rw [r1, r2]
    have hE : ¬ (v.fail 1).e = 0 := by
      rw [RV.fail]; by_cases he : v.e = 0
      · rw [if_pos he]; show ¬ (1 : Nat) = 0; decide
      · rw [if_neg he]; exact he
    have hR : (v.fail 1).rest = v.rest := by
      rw [RV.fail]; split <;> rfl
    have hE2 : ¬ ((v.fail 1).e : Int) = 0 := by omega
    have hl : ¬ ((v.fail 1).rest.size : Int) < n := by rw [hR]; omega
    have Hf := Lib.hid (v_fail h 1 1 rfl)
    clear r1 r2 hR hE hz h5 h6 h
    generalize v.fail 1 = v1 at *
    go_enter Try.func99, Try.ntmps99
    go_wp2_with fail
    refine Hf.out.mono ?_
    rintro e w1 ⟨rfl, k1, m1⟩
    go_wp2_with fail
    refine (v_left k1).mono ?_
    rintro e w2 ⟨rfl, q, rfl⟩
    have c2 := k1.1.c2
    have K1 := Lib.hid k1; have M1 := Lib.hid m1; clear k1 m1
    go_wp2
    go_ret
    exact ⟨rfl, K1.out.dwN q, Only.drewN M1.out q⟩
  · have r1 : v.rd.takeS n = ⟨#[]⟩ := by rw [RD.takeS, if_neg (fun c => by have := c.2.2; have e : v.rd.s.size = v.rest.size := rfl; omega)]
    have r2 : v.takeX n = v.fail 2 := by
      rw [RV.takeX, RV.fail]
      by_cases he : v.e = 0
      · rw [if_pos he, if_pos he, if_neg hn, if_pos hn2]
      · rw [if_neg he, if_neg he]
    rw [r1, r2]
    have hE : ¬ (v.fail 2).e = 0 := by
      rw [RV.fail]; by_cases he : v.e = 0
      · rw [if_pos he]; show ¬ (2 : Nat) = 0; decide
      · rw [if_neg he]; exact he
    have hE2 : ¬ ((v.fail 2).e : Int) = 0 := by omega
    have H := Lib.hid h
    clear r1 r2 hE hz h5 h6 h
    go_enter Try.func99, Try.ntmps99
    go_wp2_with fail
    refine (v_left H.out).mono ?_
    rintro e w1 ⟨rfl, q, rfl⟩
    go_wp2_with fail
    refine (v_fail (H.out.dwN q) 2 2 rfl).mono ?_
    rintro e w1 ⟨rfl, k1, m1⟩
    have c2 := k1.1.c2
    have K1 := Lib.hid k1; have M1 := Lib.hid m1; clear k1 m1
    go_wp2
    go_ret
    exact ⟨rfl, K1.out, Frm.trans (Frm.ofBelow g (below_drewN' (Below.refl _ _) q)) M1.out⟩
  · have r1 : v.rd.takeS n = ⟨#[]⟩ := by rw [RD.takeS, if_neg (fun c => he c.1)]
    have r2 : v.takeX n = v := by rw [RV.takeX, if_neg he]
    rw [r1, r2]
    have hE2 : ¬ (v.e : Int) = 0 := by omega
    have c2 := h.1.c2
    have H := Lib.hid h
    clear r1 r2 hz h5 h6 h he
    go_enter Try.func99, Try.ntmps99
    go_wp2_with fail
    refine (v_left H.out).mono ?_
    rintro e w1 ⟨rfl, q, rfl⟩
    go_wp2
    go_ret
    exact ⟨rfl, H.out.dwN q, Frm.ofBelow g (below_drewN' (Below.refl _ _) q)⟩
  · obtain ⟨n, rfl⟩ := Int.eq_ofNat_of_zero_le hn
    have hle : v.at_ + n ≤ v.S.size := by omega
    have r1 : v.rd.takeS (n : Int) = v.S.extract v.at_ (v.at_ + n) := by
      rw [RD.takeS, if_pos ⟨he, hn, by have e : v.rd.s.size = v.rest.size := rfl; omega⟩]
      apply ba_list
      show (v.rest.extract 0 _).data.toList = _
      rw [extract_list, extract_list, RV.rest_list, Int.toNat_natCast]; simp
    have r2 : v.takeX (n : Int) = { v with at_ := v.at_ + n } := by rw [RV.takeX, if_pos he, if_neg (by omega), if_neg hn2, Int.toNat_natCast]
    rw [r1, r2]
    have c0 := h.1.c0
    have c1 := h.1.c1
    have c2 := h.1.c2
    have f1 := h.1.fr 1
    rw [he] at c2
    have H := Lib.hid h
    have s0 : ¬ (n : Int) < 0 := by omega
    have s1 : (v.at_ : Int) + (n : Int) ≤ (v.S.size : Int) := by omega
    have s2 : (v.S.size : Int) ≤ 1000000 := by omega
    have s3 : (v.at_ : Int) ≤ (v.at_ : Int) + (n : Int) := by omega
    have s4 : ((v.at_ : Int) + (n : Int)).toNat = v.at_ + n := by omega
    have s5 : IntKind.i64.wrap ((v.at_ : Int) + (n : Int)) = (v.at_ : Int) + (n : Int) := by rw [IntKind.wrap_i64]; omega
    have s6 : (0 : Int) ≤ (v.at_ : Int) + (n : Int) := by omega
    have S4 := Lib.hid s4
    clear r1 r2 hz h5 h6 h he
    go_enter Try.func99, Try.ntmps99
    go_wp2_with fail
    refine (v_left H.out).mono ?_
    rintro e w1 ⟨rfl, q, rfl⟩
    go_wp2
    go_quiet (fail)
    go_wp2
    go_ret
    have hq := fun q => (H.out.dwN q).go (v.at_ + n) hle ((v.at_ : Int) + (n : Int)) (by omega)
    exact ⟨rfl, (hq _).1, Frm.trans (Frm.ofBelow g (below_drewN' (Below.refl _ _) _)) (hq _).2⟩
theorem byte_pos {x : RD} (he : x.e = 0) (hs : 0 < x.s.size) : ∃ (t : ByteArray) (ht : 0 < t.size), x.takeS 1 = t ∧ x.byteV = t[0].toNat := by
  have hts : 0 < (x.s.extract 0 1).size := by rw [ByteArray.size_extract]; omega
  refine ⟨x.s.extract 0 1, hts, takeS_one_pos he hs, ?_⟩
  rw [RD.byteV, if_pos he, dif_pos hs]
  congr 1
  rw [ByteArray.getElem_extract]
set_option maxRecDepth 100000 in
set_option maxHeartbeats 400000 in
theorem v_byted (h : RVK w0 w g v) : Calls Try.prog 97 #[.pointer (some ⟨g, 0, none⟩)] w fun r w' => r = .returned (.int .i64 (v.rd.byteV : Int)) ∧ RVK w0 w' g (v.takeX 1) ∧ Frm g w w' := by
  by_cases hc : v.rd.e = 0 ∧ 0 < v.rd.s.size
  · obtain ⟨he, hs⟩ := hc
    obtain ⟨t, hts, ht, hv⟩ := byte_pos he hs
    rw [hv]
    have hne : t.toList.isEmpty = false := ne_toList (by omega)
    have hlt : (0 : Int) < (t.size : Int) := by omega
    have Ht := Lib.hid ht
    clear hv ht
    have h256 : t[0].toNat < 256 := t[0].toNat_lt
    go_enter Try.func97, Try.ntmps97
    go_wp2_with fail
    have hh := v_rawd h 1
    rw [Ht.out] at hh
    refine hh.mono ?_
    rintro e w1 ⟨rfl, h1, h2⟩
    have H1 := Lib.hid h1; have H2 := Lib.hid h2; clear h1 h2 h hh
    go_wp2
    go_ret
    exact ⟨rfl, H1.out, H2.out⟩
  · have hv : v.rd.byteV = 0 := by
      rw [RD.byteV]
      by_cases he : v.rd.e = 0
      · rw [if_pos he, dif_neg (fun hs => hc ⟨he, hs⟩)]
      · rw [if_neg he]
    rw [hv]
    have ht := takeS_one_neg hc
    have Ht := Lib.hid ht; clear ht hv
    go_enter Try.func97, Try.ntmps97
    go_wp2_with fail
    have hh := v_rawd h 1
    rw [Ht.out] at hh
    refine hh.mono ?_
    rintro e w1 ⟨rfl, h1, h2⟩
    have H1 := Lib.hid h1; have H2 := Lib.hid h2; clear h1 h2 h hh
    go_wp2
    go_ret
    exact ⟨rfl, H1.out, H2.out⟩
end
def AllBig (L : List UInt8) (k : Nat) : Prop := ∀ i (h : i < L.length), i < k → 128 ≤ L[i].toNat
theorem AllBig.zero (L : List UInt8) : AllBig L 0 := fun i h hi => absurd hi (Nat.not_lt_zero i)
theorem AllBig.succ {L : List UInt8} {k : Nat} (h : AllBig L k) (hk : k < L.length) (hb : 128 ≤ L[k].toNat) : AllBig L (k + 1) := fun i hi hik => by
  by_cases e : i = k
  · subst e; exact hb
  · exact h i hi (by omega)
section
variable {w0 w w' : World} {g : Nat} {v : RV}
theorem rv_keep {X : Prop} (h : RVK w0 w g v ∧ X) (hb : Below w.heap.size w w') : RVK w0 w' g v ∧ w'.cell? ⟨g, 0, none⟩ = some (.string v.S) ∧ w'.cell? ⟨g, 1, none⟩ = some (.int .i64 (v.at_ : Int)) := by
  have h2 := h.1.below hb
  exact ⟨h2, h2.1.c0, h2.1.c1⟩
/-- What Num has found when it stands at byte k. -/
def NumEnd (v : RV) (X : RV) (n : Nat) : Prop := v.rd.numV = n ∧ v.numX = X
theorem numEnd_err {v : RV} {e : Nat} (he : v.e = 0) (h : numF 10 v.rest.data.toList 0 0 = .error e) : NumEnd v (v.fail e) 0 :=
  ⟨by rw [RD.numV, if_pos (show v.rd.e = 0 from he), show v.rd.s = v.rest from rfl, h], by rw [RV.numX, if_pos he, h, RV.fail, if_pos he]⟩
theorem numEnd_ok {v : RV} {n k : Nat} (he : v.e = 0) (h : numF 10 v.rest.data.toList 0 0 = .ok (n, k)) : NumEnd v { v with at_ := v.at_ + k } n :=
  ⟨by rw [RD.numV, if_pos (show v.rd.e = 0 from he), show v.rd.s = v.rest from rfl, h], by rw [RV.numX, if_pos he, h]⟩
set_option maxRecDepth 100000 in
set_option maxHeartbeats 1600000 in
theorem v_numd (h : RVK w0 w g v) : Calls Try.prog 98 #[.pointer (some ⟨g, 0, none⟩)] w fun r w' => r = .returned (.int .u64 (v.rd.numV : Int)) ∧ RVK w0 w' g v.numX ∧ Frm g w w' := by
  by_cases he : v.e = 0
  · have hend : ∀ n X, NumEnd v X n → v.rd.numV = n ∧ v.numX = X := fun n X h => h
    have c2 := h.1.c2
    rw [he] at c2
    have hE : ∀ e, numF 10 v.rest.data.toList 0 0 = .error e → NumEnd v (v.fail e) 0 := fun e h => numEnd_err he h
    have hO : ∀ n k, numF 10 v.rest.data.toList 0 0 = .ok (n, k) → NumEnd v { v with at_ := v.at_ + k } n := fun n k h => numEnd_ok he h
    have HE := Lib.hid hE; have HO := Lib.hid hO; have Hend := Lib.hid hend
    clear hE hO hend
    obtain ⟨V, hV⟩ : ∃ V, v.rd.numV = V := ⟨_, rfl⟩
    obtain ⟨X', hX'⟩ : ∃ X', v.numX = X' := ⟨_, rfl⟩
    simp only [hV, hX'] at Hend ⊢
    clear hV hX'
    have hz := v.rest_size
    have h5 := h.2.2.2.2.1
    have h6 := h.2.2.2.2.2
    have hLl : v.rest.data.toList.length = v.rest.size := list_size _
    have H := Lib.hid h; have HLl := Lib.hid hLl; have HZ := Lib.hid hz
    clear h hLl hz
    go_enter Try.func98, Try.ntmps98
    go_wp2
    go_loopw [3] (fun iv wr => ∃ k : Nat, k ≤ 10 ∧ k ≤ v.rest.size ∧ iv = .int .i64 (k : Int) ∧ AllBig v.rest.data.toList k ∧ RVK w0 wr g v ∧ Frm g w wr) (fun iv _ => 10 - (intOf iv).toNat)
    case atStart => exact ⟨0, by omega, Nat.zero_le _, rfl, AllBig.zero _, H.out, Frm.refl _ _⟩
    case round =>
      clear c2
      obtain ⟨k, hk10, hks, rfl, hb, hp, hm⟩ := hrel
      have hM := Lib.hid hm; have HB := Lib.hid hb; clear hm hb
      have c0 := hp.1.c0
      have c1 := hp.1.c1
      have Hp := Lib.hid hp; clear hp
      have s0 : (0 : Int) ≤ (v.at_ : Int) + (k : Int) := by omega
      have s1 : (v.at_ : Int) + (k : Int) ≤ 2000000 := by have := HZ.out; omega
      have s2 : IntKind.i64.wrap ((v.at_ : Int) + (k : Int)) = (v.at_ : Int) + (k : Int) := by rw [IntKind.wrap_i64]; omega
      have s3 : ((v.at_ : Int) + (k : Int)).toNat = v.at_ + k := by omega
      by_cases hk : k < v.rest.size
      · have g1 : (k : Int) < (v.rest.size : Int) := by omega
        by_cases hk2 : k < 10
        · have g2 : (k : Int) < 10 := by omega
          have s4 : (v.at_ : Int) + (k : Int) < (v.S.size : Int) := by have := HZ.out; omega
          have s5 : v.at_ + k < v.S.size := by have := HZ.out; omega
          obtain ⟨c, hc⟩ : ∃ c : Nat, v.S[v.at_ + k].toNat = c := ⟨_, rfl⟩
          have hkl : k < v.rest.data.toList.length := by rw [HLl.out]; exact hk
          have hcL : v.rest.data.toList[k].toNat = c := by
            rw [List.getElem_of_eq (RV.rest_list v) hkl, List.getElem_drop, ← hc]; rfl
          have hc256 : c < 256 := by rw [← hc]; exact v.S[v.at_ + k].toNat_lt
          have hbig1 : 128 ≤ c → AllBig v.rest.data.toList (k + 1) := fun h => AllBig.succ HB.out hkl (by rw [hcL]; exact h)
          have hyes : ∀ n, n < 18446744073709551616 → numL n = v.rest.data.toList.take (k + 1) → NumEnd v { v with at_ := v.at_ + (k + 1) } n := fun n h1 h2 => HO.out _ _ (numF_yes h1 h2 hkl)
          have hno : c < 128 → (∀ n, n < 18446744073709551616 → numL n ≠ v.rest.data.toList.take (k + 1)) → NumEnd v (v.fail 3) 0 := fun hc h1 => HE.out _ (numF_no hk2 hkl HB.out (by rw [hcL]; exact hc) h1)
          have Hbig := Lib.hid hbig1; have Hyes := Lib.hid hyes; have Hno := Lib.hid hno
          clear hcL hkl hbig1 hyes hno
          by_cases hbig : 128 ≤ c
          · have g3 : (128 : Int) ≤ (c : Int) := by omega
            have HB2 := Lib.hid (Hbig.out hbig)
            clear hbig hc256 hk hk2 Hyes Hno
            go_wp2
            go_quiet ((go_at_call 62; exact Calls.quiet_of (v_left (Hp.out.dwN _))))
            go_wp2
            go_roundw
            case rel => exact ⟨k + 1, by omega, by omega, by go_num, HB2.out, Hp.out.dwN _, Only.drewN hM.out _⟩
            case measure => simp [intOf]; omega
          · have g3 : ¬ (128 : Int) ≤ (c : Int) := by omega
            have g4 : ((k : Int) == 10) = false := by rw [beq_eq_false_iff_ne]; omega
            have g5 : ((k : Int) == (v.rest.size : Int)) = false := by rw [beq_eq_false_iff_ne]; omega
            have hno := Hno.out (by omega)
            have Hno2 := Lib.hid hno
            clear hbig hc256 hk hk2 Hbig Hno hno
            go_wp2
            go_quiet ((go_at_call 62; exact Calls.quiet_of (v_left (Hp.out.dwN _))))
            go_wp2_with fail
            refine (v_left (Hp.out.dwN _)).mono ?_
            rintro e w1 ⟨rfl, q, rfl⟩
            have hp1 := Hp.out.dwN (nq + q)
            have hm1 : Frm g w (wr.drewN (nq + q)) := Only.drewN hM.out _
            have Hm1 := Lib.hid hm1; clear hm1
            have c0 := hp1.1.c0
            have c1 := hp1.1.c1
            have t1 : IntKind.i64.wrap ((v.at_ : Int) + (k : Int) + 1) = (v.at_ : Int) + (k : Int) + 1 := by rw [IntKind.wrap_i64]; omega
            have t2 : (v.at_ : Int) + (k : Int) + 1 ≤ (v.S.size : Int) := by omega
            have t3 : (v.at_ : Int) ≤ (v.at_ : Int) + (k : Int) + 1 := by omega
            have t4 : ((v.at_ : Int) + (k : Int) + 1).toNat = v.at_ + k + 1 := by omega
            have t5 : (0 : Int) ≤ (v.at_ : Int) + (k : Int) + 1 := by omega
            have t6 : (v.S.extract v.at_ (v.at_ + k + 1)).size ≤ 100000 := by rw [ByteArray.size_extract]; omega
            have t7 : (0 : Int) ≤ (v.at_ : Int) := by omega
            have hP : (v.S.extract v.at_ (v.at_ + k + 1)).data.toList = v.rest.data.toList.take (k + 1) := by
              rw [extract_list, RV.rest_list, show v.at_ + k + 1 - v.at_ = k + 1 by omega]
            have HP := Lib.hid hP; clear hP
            go_wp2_with fail
            go_region_held3 (fun wx => RVK w0 wx g v ∧ wx.cell? ⟨g, 0, none⟩ = some (.string v.S) ∧ wx.cell? ⟨g, 1, none⟩ = some (.int .i64 (v.at_ : Int))) (first | exact ⟨hp1.dw, c0, c1⟩ | exact rv_keep (by assumption) hbq | (go_keep; done))
              (first | (go_at_call 109; refine (number_spec (v.S.extract v.at_ (v.at_ + k + 1)) t6 _).mono ?_; rintro e w' ⟨n, b, rfl, n1, n2, n3, hbq⟩))
            rename_i hHeld
            have hq := hHeld.1
            have d1 := hHeld.2.2
            have e1 := hq.1.fr 1
            have hmq : Frm g w w' := Frm.trans (Only.drewN hM.out _) (Frm.ofBelow g hbq)
            rw [HP.out] at n2 n3
            have N1 := Lib.hid n1; have N2 := Lib.hid n2; have N3 := Lib.hid n3; have Hq := Lib.hid hq; have Hmq := Lib.hid hmq
            clear n1 n2 n3 hq hmq hHeld hbq hp1 c0 c1 t6
            cases b with
            | true =>
              have Hn := Lib.hid (Hyes.out n N1.out (N2.out rfl))
              have hgo := Hq.out.go (v.at_ + (k + 1)) (by omega) ((v.at_ : Int) + (k : Int) + 1) (by omega)
              have Hgo := Lib.hid hgo; clear hgo N1 N2 N3 Hno2 Hyes
              go_wp2
              go_ret
              obtain ⟨q1, q2⟩ := Hend.out _ _ Hn.out
              exact ⟨by rw [q1]; rfl, by rw [q2]; exact Hgo.out.1, Frm.trans Hmq.out Hgo.out.2⟩
            | false =>
              have Hn := Lib.hid (Hno2.out (N3.out rfl))
              clear N1 N2 N3 Hno2 Hyes d1 e1
              go_wp2_with fail
              refine (v_fail Hq.out 3 3 rfl).mono ?_
              rintro e w1 ⟨rfl, hp1, hm1⟩
              have H1 := Lib.hid hp1; have M1 := Lib.hid hm1; clear hp1 hm1
              go_wp2
              go_ret
              obtain ⟨q1, q2⟩ := Hend.out _ _ Hn.out
              exact ⟨by rw [q1]; rfl, by rw [q2]; exact H1.out, Hmq.out.trans M1.out⟩
        · have g2 : decide ((k : Int) < 10) = false := by simp; omega
          have g4 : ((k : Int) == 10) = true := by rw [beq_iff_eq]; omega
          have Hn := Lib.hid (HE.out 3 (numF_over 10 0 0 _ (by rw [HLl.out]; omega) (fun i hi hik => HB.out i hi (by omega))))
          clear hk hk2
          go_wp2
          go_quiet ((go_at_call 62; exact Calls.quiet_of (v_left (Hp.out.dwN _))))
          go_wp2_with fail
          refine (v_fail (Hp.out.dwN _) 3 3 rfl).mono ?_
          rintro e w1 ⟨rfl, hp1, hm1⟩
          have H1 := Lib.hid hp1; have M1 := Lib.hid hm1; clear hp1 hm1
          go_wp2
          go_ret
          obtain ⟨q1, q2⟩ := Hend.out _ _ Hn.out
          exact ⟨by rw [q1]; rfl, by rw [q2]; exact H1.out, (Frm.trans hM.out (Frm.ofBelow g (below_drewN' (Below.refl _ _) _))).trans M1.out⟩
      · have g1 : decide (k < v.rest.size) = false := by simp; omega
        have g5 : ((k : Int) == (v.rest.size : Int)) = true := by rw [beq_iff_eq]; omega
        by_cases hk2 : k = 10
        · have g4 : ((k : Int) == 10) = true := by rw [beq_iff_eq]; omega
          have Hn := Lib.hid (HE.out 3 (numF_over 10 0 0 _ (by rw [HLl.out]; omega) (fun i hi hik => HB.out i hi (by omega))))
          clear hk hk2
          go_wp2
          go_quiet ((go_at_call 62; exact Calls.quiet_of (v_left (Hp.out.dwN _))))
          go_wp2_with fail
          refine (v_fail (Hp.out.dwN _) 3 3 rfl).mono ?_
          rintro e w1 ⟨rfl, hp1, hm1⟩
          have H1 := Lib.hid hp1; have M1 := Lib.hid hm1; clear hp1 hm1
          go_wp2
          go_ret
          obtain ⟨q1, q2⟩ := Hend.out _ _ Hn.out
          exact ⟨by rw [q1]; rfl, by rw [q2]; exact H1.out, (Frm.trans hM.out (Frm.ofBelow g (below_drewN' (Below.refl _ _) _))).trans M1.out⟩
        · have g4 : ((k : Int) == 10) = false := by rw [beq_eq_false_iff_ne]; omega
          have Hn := Lib.hid (HE.out 2 (numF_under 10 0 0 _ (by rw [HLl.out]; omega) (fun i hi => HB.out i hi (by rw [HLl.out] at hi; omega))))
          clear hk hk2
          go_wp2
          go_quiet ((go_at_call 62; exact Calls.quiet_of (v_left (Hp.out.dwN _))))
          go_wp2_with fail
          refine (v_left (Hp.out.dwN _)).mono ?_
          rintro e w1 ⟨rfl, q, rfl⟩
          go_wp2_with fail
          refine (v_fail (Hp.out.dwN _) 2 2 rfl).mono ?_
          rintro e w1 ⟨rfl, hp1, hm1⟩
          have H1 := Lib.hid hp1; have M1 := Lib.hid hm1; clear hp1 hm1
          go_wp2
          go_ret
          obtain ⟨q1, q2⟩ := Hend.out _ _ Hn.out
          exact ⟨by rw [q1]; rfl, by rw [q2]; exact H1.out, (Frm.trans hM.out (Frm.ofBelow g (below_drewN' (Below.refl _ _) _))).trans M1.out⟩
  · have hne : ¬ (v.e : Int) = 0 := by omega
    have hv : v.rd.numV = 0 := by rw [RD.numV, if_neg (show ¬ v.rd.e = 0 from he)]
    have hx : v.numX = v := by rw [RV.numX, if_neg he]
    rw [hv, hx]
    have c2 := h.1.c2
    have H := Lib.hid h
    clear hv hx h
    go_enter Try.func98, Try.ntmps98
    go_wp2
    go_ret
    exact ⟨rfl, H.out, Frm.refl _ _⟩
def RV.blobX (v : RV) (limit : Int) : RV := if v.numX.e = 0 then (if v.rd.numV ≤ 4096 ∧ (v.rd.numV : Int) ≤ limit then (if (v.numX.takeX v.rd.numV).e = 0 then v.numX.takeX v.rd.numV else { v.numX.takeX v.rd.numV with at_ := v.at_ }) else { v with e := 4 }) else v.numX
theorem RV.blobX_rd (v : RV) (limit : Int) : (v.blobX limit).rd = v.rd.blobX limit := by
  have hn := v.numX_rd
  unfold RV.blobX RD.blobX
  rw [← hn]
  have he : v.numX.rd.e = v.numX.e := rfl
  rw [he]
  by_cases h1 : v.numX.e = 0
  · rw [if_pos h1, if_pos h1]
    by_cases h2 : v.rd.numV ≤ 4096 ∧ (v.rd.numV : Int) ≤ limit
    · rw [if_pos h2, if_pos h2]
      rw [← RV.takeX_rd]
      unfold RD.back
      have he2 : (v.numX.takeX v.rd.numV).rd.e = (v.numX.takeX v.rd.numV).e := rfl
      rw [he2]
      by_cases h3 : (v.numX.takeX v.rd.numV).e = 0
      · rw [if_pos h3, if_pos h3]
      · rw [if_neg h3, if_neg h3]
        have hS : (v.numX.takeX v.rd.numV).S = v.S := by rw [RV.takeX_S, RV.numX_S]
        show RD.mk ((v.numX.takeX v.rd.numV).S.extract v.at_ (v.numX.takeX v.rd.numV).S.size) _ = RD.mk _ _
        rw [hS]; rfl
    · rw [if_neg h2, if_neg h2]; rfl
  · rw [if_neg h1, if_neg h1]
set_option maxRecDepth 100000 in
set_option maxHeartbeats 800000 in
theorem v_blobd (h : RVK w0 w g v) (limit : Int) : Calls Try.prog 101 #[.pointer (some ⟨g, 0, none⟩), .int .i64 limit] w fun r w' => r = .returned (.string (v.rd.blobS limit)) ∧ RVK w0 w' g (v.blobX limit) ∧ Frm g w w' := by
  have c1 := h.1.c1
  have h5 := h.2.2.2.2.1
  have hN := v.numX_rd
  have hNS := v.numX_S
  obtain ⟨y, hy⟩ : ∃ y, v.numX = y := ⟨_, rfl⟩
  obtain ⟨n, hn⟩ : ∃ n, v.rd.numV = n := ⟨_, rfl⟩
  obtain ⟨bs, hbs⟩ : ∃ bs, v.rd.blobS limit = bs := ⟨_, rfl⟩
  obtain ⟨bx, hbx⟩ : ∃ bx, v.blobX limit = bx := ⟨_, rfl⟩
  have hnum := v_numd h
  rw [hy, hn] at hnum
  rw [hy] at hN hNS
  have hs := hbs; have hx := hbx
  rw [RD.blobS, ← hN, hn] at hs
  rw [RV.blobX, hy, hn] at hx
  rw [hbs, hbx]
  have Hs := Lib.hid hs; have Hx := Lib.hid hx; have HNS := Lib.hid hNS
  clear hs hx hbs hbx hy hn hN hNS
  have hye : y.rd.e = y.e := rfl
  have hcase : (¬ y.e = 0) ∨ (y.e = 0 ∧ 4096 < n) ∨ (y.e = 0 ∧ n ≤ 4096 ∧ limit < (n : Int)) ∨ (y.e = 0 ∧ n ≤ 4096 ∧ (n : Int) ≤ limit) := by omega
  rcases hcase with he | ⟨he, h1⟩ | ⟨he, h1, h2⟩ | ⟨he, h1, h2⟩
  · have r1 : bs = ⟨#[]⟩ := by rw [← Hs.out, if_neg (fun c => he c.1)]
    have r2 : bx = y := by rw [← Hx.out, if_neg he]
    rw [r1, r2]
    have hne : ¬ (y.e : Int) = 0 := by omega
    clear hye
    go_enter Try.func101, Try.ntmps101
    go_wp2_with fail
    refine hnum.mono ?_
    rintro e w1 ⟨rfl, k1, k2⟩
    have d1 := k1.1.c2
    have K1 := Lib.hid k1; have K2 := Lib.hid k2; clear k1 k2 hnum h
    go_wp2
    go_ret
    exact ⟨rfl, K1.out, K2.out⟩
  · have r1 : bs = ⟨#[]⟩ := by rw [← Hs.out, if_neg (by omega)]
    have r2 : bx = { v with e := 4 } := by rw [← Hx.out, if_pos he, if_neg (by omega)]
    rw [r1, r2]
    have g1 : (4096 : Int) < (n : Int) := by omega
    have r3 : ({ y with at_ := v.at_ } : RV).fail 4 = { v with e := 4 } := by
      rw [RV.fail, if_pos (show ({ y with at_ := v.at_ } : RV).e = 0 from he)]
      show RV.mk y.S v.at_ 4 = RV.mk v.S v.at_ 4
      rw [HNS.out]
    have R3 := Lib.hid r3; clear r3 hye r1 r2
    go_enter Try.func101, Try.ntmps101
    go_wp2_with fail
    refine hnum.mono ?_
    rintro e w1 ⟨rfl, k1, k2⟩
    have d1 := k1.1.c1
    have d2 := k1.1.c2
    have f1 := k1.1.fr 1
    rw [he] at d2
    have hgo := k1.go v.at_ (by rw [HNS.out]; exact h5) (v.at_ : Int) rfl
    have K2 := Lib.hid k2; have Hgo := Lib.hid hgo; clear k1 k2 hnum h hgo
    go_wp2_with fail
    refine (v_fail Hgo.out.1 4 4 rfl).mono ?_
    rintro e w2 ⟨rfl, p1, p2⟩
    rw [R3.out] at p1
    have P1 := Lib.hid p1; have P2 := Lib.hid p2; clear p1 p2
    go_wp2
    go_ret
    exact ⟨rfl, P1.out, (K2.out.trans Hgo.out.2).trans P2.out⟩
  · have r1 : bs = ⟨#[]⟩ := by rw [← Hs.out, if_neg (by omega)]
    have r2 : bx = { v with e := 4 } := by rw [← Hx.out, if_pos he, if_neg (by omega)]
    rw [r1, r2]
    have g1 : ¬ (4096 : Int) < (n : Int) := by omega
    have g2 : wrap64 (n : Int) = (n : Int) := IntWalk.wrap64_in _ ⟨by omega, by omega⟩
    have r3 : ({ y with at_ := v.at_ } : RV).fail 4 = { v with e := 4 } := by
      rw [RV.fail, if_pos (show ({ y with at_ := v.at_ } : RV).e = 0 from he)]
      show RV.mk y.S v.at_ 4 = RV.mk v.S v.at_ 4
      rw [HNS.out]
    have R3 := Lib.hid r3; clear r3 hye r1 r2
    go_enter Try.func101, Try.ntmps101
    go_wp2_with fail
    refine hnum.mono ?_
    rintro e w1 ⟨rfl, k1, k2⟩
    have d1 := k1.1.c1
    have d2 := k1.1.c2
    have f1 := k1.1.fr 1
    rw [he] at d2
    have hgo := k1.go v.at_ (by rw [HNS.out]; exact h5) (v.at_ : Int) rfl
    have K2 := Lib.hid k2; have Hgo := Lib.hid hgo; clear k1 k2 hnum h hgo
    go_wp2_with fail
    refine (v_fail Hgo.out.1 4 4 rfl).mono ?_
    rintro e w2 ⟨rfl, p1, p2⟩
    rw [R3.out] at p1
    have P1 := Lib.hid p1; have P2 := Lib.hid p2; clear p1 p2
    go_wp2
    go_ret
    exact ⟨rfl, P1.out, (K2.out.trans Hgo.out.2).trans P2.out⟩
  · have r1 : bs = y.rd.takeS n := by rw [← Hs.out, if_pos ⟨he, h1, h2⟩]
    have r2 : bx = (if (y.takeX n).e = 0 then y.takeX n else { y.takeX n with at_ := v.at_ }) := by rw [← Hx.out, if_pos he, if_pos ⟨h1, h2⟩]
    rw [r1, r2]
    have hSz : (y.takeX n).S = v.S := by rw [RV.takeX_S, HNS.out]
    have g1 : ¬ (4096 : Int) < (n : Int) := by omega
    have g2 : wrap64 (n : Int) = (n : Int) := IntWalk.wrap64_in _ ⟨by omega, by omega⟩
    have g3 : ¬ limit < (n : Int) := by omega
    obtain ⟨Y, hY⟩ : ∃ Y, (if (y.takeX n).e = 0 then y.takeX n else { y.takeX n with at_ := v.at_ }) = Y := ⟨_, rfl⟩
    rw [hY]
    have HSz := Lib.hid hSz; have HY := Lib.hid hY
    clear hye r1 r2 hSz hY
    go_enter Try.func101, Try.ntmps101
    go_wp2_with fail
    refine hnum.mono ?_
    rintro e w1 ⟨rfl, k1, k2⟩
    have d2 := k1.1.c2
    rw [he] at d2
    have K2 := Lib.hid k2; clear k2 hnum h
    go_wp2_with fail
    refine (v_rawd k1 (n : Int)).mono ?_
    rintro e w2 ⟨rfl, p1, p2⟩
    have e1 := p1.1.c1
    have e2 := p1.1.c2
    have f1 := p1.1.fr 1
    have hgo := p1.go v.at_ (by rw [HSz.out]; exact h5) (v.at_ : Int) rfl
    have P1 := Lib.hid p1; have P2 := Lib.hid p2; have Hgo := Lib.hid hgo; clear p1 p2 hgo k1 d2
    by_cases hz : (y.takeX n).e = 0
    · have hy2 := HY.out
      rw [if_pos hz] at hy2
      rw [hz] at e2
      have Hy2 := Lib.hid hy2; clear hz hy2
      go_wp2
      go_ret
      exact ⟨rfl, by rw [← Hy2.out]; exact P1.out, K2.out.trans P2.out⟩
    · have hy2 := HY.out
      rw [if_neg hz] at hy2
      have Hy2 := Lib.hid hy2; clear hy2
      have hz2 : ¬ ((y.takeX n).e : Int) = 0 := by omega
      go_wp2
      go_ret
      exact ⟨rfl, by rw [← Hy2.out]; exact Hgo.out.1, (K2.out.trans P2.out).trans Hgo.out.2⟩
end
end Go.Proofs.Ytjmdiobnappgkaa
