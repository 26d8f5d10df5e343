/-
  Layer 11 (wire): the writer: its plain model, how it lies in memory, the walks of its methods.
-/
import Derived.Test.YtjmdiobnappgkaaWireN
import Derived.Test.YtjmdiobnappgkaaDiskJ2
namespace Go.Proofs.Ytjmdiobnappgkaa
open Go.RowKit
set_option linter.unusedVariables false
set_option linter.unusedSimpArgs false

theorem alloc_below' (w : World) (o : Obj) : Below w.heap.size w (w.alloc o) := (Below.refl _ _).alloc (Nat.le_refl _) _
structure WS where
  b : List UInt8
  e : Nat
def WS.put (x : WS) (so : Bool) (e : Nat) (s : ByteArray) : WS := if x.e = 0 then (if so = true then { x with b := x.b ++ s.data.toList } else { x with e := e }) else x
structure IsW (w : World) (base g : Nat) (v : Value) (x : WS) : Prop where
  blk : Blk w g 62 #[v, .int .i64 (x.e : Int)]
  hb : base ≤ g
  own : w.ownsRow base 5 1 v x.b.length (bvals x.b)
/-- In world w block g is the writer x, made since w0. -/
def WK (w0 w : World) (g : Nat) (x : WS) : Prop := (∃ v, IsW w w0.heap.size g v x) ∧ Below w0.heap.size w0 w ∧ w0.heap.size ≤ w.heap.size
section
variable {w0 w w' : World} {base g : Nat} {v : Value} {x : WS}
theorem IsW.c0 (h : IsW w base g v x) : w.cell? ⟨g, 0, none⟩ = some v := h.blk.cell 0
theorem IsW.c1 (h : IsW w base g v x) : w.cell? ⟨g, 1, none⟩ = some (.int .i64 (x.e : Int)) := h.blk.cell 1
theorem IsW.fr (h : IsW w base g v x) (i : Nat) : w.frozen? ⟨g, i, none⟩ = false := h.blk.frozen i
theorem IsW.typed (h : IsW w base g v x) : ∀ k ∈ (g :: v.ownBlock.toList), ∃ (cs : Array Value) (t : TypeId) (fr : Nat × Nat), w.heap[k]? = some (.cells cs t fr) ∧ t ∈ [62, 5] := by
  intro k hk
  rcases List.mem_cons.1 hk with rfl | hk
  · exact ⟨_, _, _, h.blk, by simp⟩
  · simp only [Option.mem_toList] at hk
    obtain ⟨cs, hc⟩ := own_typed h.own hk
    exact ⟨cs, 5, _, hc, by simp⟩
theorem IsW.below (h : IsW w base g v x) (hb : Below w.heap.size w w') : IsW w' base g v x :=
  ⟨(Spare.ofBelow (T := []) hb).blk h.blk (by simp), h.hb, (Spare.ofBelow (T := []) hb).own h.own (by simp)⟩
theorem WK.below (h : WK w0 w g x) (hb : Below w.heap.size w w') : WK w0 w' g x := by
  obtain ⟨⟨v, hv⟩, hb0, h3⟩ := h
  exact ⟨⟨v, hv.below hb⟩, hb0.trans (hb.mono h3), Nat.le_trans h3 hb.size⟩
theorem WK.spare {T : List TypeId} (h : WK w0 w g x) (hb : Below w0.heap.size w0 w') (hs : Spare T w w') (h1 : 62 ∉ T) (h2 : 5 ∉ T) : WK w0 w' g x := by
  obtain ⟨⟨v, hv⟩, hb0, h3⟩ := h
  exact ⟨⟨v, ⟨hs.blk hv.blk h1, hv.hb, hs.own hv.own h2⟩⟩, hb, hb.size⟩
theorem WK.only {x' : WS} {v v' : Value} (h : WK w0 w g x) (hv : IsW w w0.heap.size g v x) (hv' : IsW w' w0.heap.size g v' x') (ho : Only w.heap.size (g :: v.ownBlock.toList) w w') : WK w0 w' g x' := by
  obtain ⟨_, hb0, h3⟩ := h
  refine ⟨⟨v', hv'⟩, hb0.trans ?_, Nat.le_trans h3 ho.size⟩
  refine (ho.mono h3 (l' := (g :: v.ownBlock.toList)) (fun k _ h => h)).below ?_
  intro k hk
  rcases List.mem_cons.1 hk with rfl | hk
  · exact hv.hb
  · simp only [Option.mem_toList] at hk
    exact (hv.own.lt k hk).1

set_option maxRecDepth 100000 in
set_option maxHeartbeats 400000 in
theorem wk_put (h : WK w0 w g x) (so : Bool) (e : Nat) (s : ByteArray) (hs : x.b.length + s.size ≤ 16777216) : Calls Try.prog 94 #[.pointer (some ⟨g, 0, none⟩), .bool so, .int .i64 (e : Int), .string s] w fun r w' => r = .returned (.tuple #[]) ∧ WK w0 w' g (x.put so e s) ∧ Spare [62, 5] w w' := by
  obtain ⟨i0, hi, hz0, hz1, hz2⟩ := info_parts winfo5
  have hh := h
  obtain ⟨⟨v, hv⟩, hb0, h3⟩ := h
  have c0 := hv.c0
  have c1 := hv.c1
  have f0 := hv.fr 0
  have f1 := hv.fr 1
  have hgl := hv.blk.lt
  have hfar := own_blk_ne hv.own hv.blk (by decide)
  by_cases he : x.e = 0
  · rw [he] at c1
    cases so with
    | true =>
      have hput : x.put true e s = { x with b := x.b ++ s.data.toList } := by rw [WS.put, if_pos he, if_pos rfl]
      rw [hput]
      have H := Lib.hid hv; have Hfar := Lib.hid hfar; have Hh := Lib.hid hh
      have hown := hv.own
      clear hv hfar hput hh
      go_enter Try.func94, Try.ntmps94
      go_wp2_with (at_builtin; refine wpList_append_o rfl _ _ 30 9 rfl w0.heap.size 5 i0 _ 1 1 Try.underlying30 hi hz0 hz1 hz2 rfl _ _ _ rfl hown _ s.size (bvals s.data.toList) rfl (Src.ofString (P := Try.prog) w Try.underlying9 s) (by unfold maxLen; omega) (by omega) h3 ?_)
      intro v' w3 hown3 hg3 hv3
      obtain ⟨A', c', rfl, hl3⟩ := own_form hown3
      have hb3 : Blk w3 g 62 #[v, .int .i64 (x.e : Int)] := H.out.blk.grown hg3 (fun hc => Hfar.out hc.symm)
      have c03 : w3.cell? ⟨g, 0, none⟩ = some v := hb3.cell 0
      have f03 : w3.frozen? ⟨g, 0, none⟩ = false := hb3.frozen 0
      have hne : (Value.slice A' (x.b.length + s.size) c').ownBlock ≠ some g := by
        intro hc
        rcases hv3 with h1 | h1
        · rw [hc] at h1; exact Hfar.out h1.symm
        · rw [hc] at h1; injection h1 with h1; omega
      have ho3 : Only w.heap.size (g :: v.ownBlock.toList) w w3 := (Only.refl w.heap.size (g :: v.ownBlock.toList) w).grown hg3 (Nat.le_refl _) (by intro q hq; exact .inl (by rw [hq]; simp))
      have hlen : s.data.toList.length = s.size := by rw [Array.length_toList]; rfl
      have hw : IsW (w3.setCell ⟨g, 0, none⟩ (.slice A' (x.b.length + s.size) c')) w0.heap.size g (.slice A' (x.b.length + s.size) c') { x with b := x.b ++ s.data.toList } := by
        refine ⟨hb3.set_ 0 _, H.out.hb, ?_⟩
        have := own_set_far (p := ⟨g, 0, none⟩) hown3 hne (.slice A' (x.b.length + s.size) c')
        show World.ownsRow _ w0.heap.size 5 1 _ (x.b ++ s.data.toList).length (bvals (x.b ++ s.data.toList))
        rw [bvals_append, List.length_append, hlen]; exact this
      have ho4 := ho3.setCell (p := ⟨g, 0, none⟩) (.inl (by simp)) (.slice A' (x.b.length + s.size) c')
      have H4 := Lib.hid hw; have O4 := Lib.hid ho4
      clear hown3 hg3 hv3 hl3 hb3 hne ho3 hw ho4 hown
      go_wp2
      go_end0
      exact ⟨rfl, Hh.out.only H.out H4.out O4.out, Spare.ofOnly O4.out H.out.typed⟩
    | false =>
      have hput : x.put false e s = { x with e := e } := by rw [WS.put, if_pos he, if_neg (by simp)]
      rw [hput]
      have H := Lib.hid hv; have Hfar := Lib.hid hfar; have Hh := Lib.hid hh
      clear hv hfar hput hh
      go_enter Try.func94, Try.ntmps94
      go_wp2
      go_end0
      have ho : Only w.heap.size (g :: v.ownBlock.toList) w (w.setCell ⟨g, 1, none⟩ (.int .i64 (e : Int))) := (Only.refl _ _ _).setCell (p := ⟨g, 1, none⟩) (.inl (by simp)) _
      exact ⟨rfl, Hh.out.only H.out ⟨H.out.blk.set_ 1 _, H.out.hb, own_set_far (p := ⟨g, 1, none⟩) H.out.own Hfar.out _⟩ ho, Spare.ofOnly ho H.out.typed⟩
  · have hne : ¬ (x.e : Int) = 0 := by omega
    have hput : x.put so e s = x := by rw [WS.put, if_neg he]
    rw [hput]
    have Hh := Lib.hid hh; clear hh hv hfar
    go_enter Try.func94, Try.ntmps94
    go_wp2
    go_end0
    exact ⟨rfl, Hh.out, Spare.refl _ _⟩

theorem wk_putI (h : WK w0 w g x) (so : Bool) (e : Nat) (ei : Int) (hei : (e : Int) = ei) (s : ByteArray) (hs : x.b.length + s.size ≤ 16777216) : Calls Try.prog 94 #[.pointer (some ⟨g, 0, none⟩), .bool so, .int .i64 ei, .string s] w fun r w' => r = .returned (.tuple #[]) ∧ WK w0 w' g (x.put so e s) ∧ Spare [62, 5] w w' := by
  subst hei; exact wk_put h so e s hs
def WS.text (x : WS) : ByteArray := if x.e = 0 then ⟨x.b.toArray⟩ else ⟨#[]⟩
set_option maxRecDepth 100000 in
theorem wk_text (h : WK w0 w g x) : Calls Try.prog 46 #[.pointer (some ⟨g, 0, none⟩)] w fun r w' => r = .returned (.string x.text) ∧ w = w' := by
  obtain ⟨⟨v, hv⟩, hb0, h3⟩ := h
  have c0 := hv.c0
  have c1 := hv.c1
  have hstr := conv_own (P := Try.prog) (src := 30) (dst := 9) Try.underlying30 Try.underlying5 Try.underlying9 hv.own
  clear hv
  by_cases he : x.e = 0
  · have ht : x.text = ⟨x.b.toArray⟩ := by rw [WS.text, if_pos he]
    rw [ht]
    rw [he] at c1
    go_enter Try.func46, Try.ntmps46
    go_wp2
    go_ret
    exact ⟨rfl, rfl⟩
  · have hne : ¬ (x.e : Int) = 0 := by omega
    have ht : x.text = ⟨#[]⟩ := by rw [WS.text, if_neg he]
    rw [ht]
    go_enter Try.func46, Try.ntmps46
    go_wp2
    go_ret
    exact ⟨rfl, rfl⟩
set_option maxRecDepth 100000 in
theorem wk_err (h : WK w0 w g x) : Calls Try.prog 48 #[.pointer (some ⟨g, 0, none⟩)] w fun r w' => r = .returned (.int .i64 (x.e : Int)) ∧ w = w' := by
  obtain ⟨⟨v, hv⟩, hb0, h3⟩ := h
  have c1 := hv.c1
  clear hv
  go_enter Try.func48, Try.ntmps48
  go_wp2
  go_ret
  exact ⟨rfl, rfl⟩
def byteStr (n : Int) : ByteArray := strOfNums [n % 256]
set_option maxRecDepth 100000 in
theorem wk_byte (h : WK w0 w g x) (n : Int) (hs : x.b.length + (byteStr n).size ≤ 16777216) : Calls Try.prog 50 #[.pointer (some ⟨g, 0, none⟩), .int .i64 n] w fun r w' => r = .returned (.tuple #[]) ∧ WK w0 w' g (x.put (decide (0 ≤ n ∧ n ≤ 255)) 1 (byteStr n)) ∧ Spare [62, 5] w w' := by
  have hcv := conv_string_new (P := Try.prog) w 30 9 5 [n % 256] Try.underlying30 Try.underlying5 Try.underlying9 1 1 rfl 5
  have hst : strOfNums [n % 256] = byteStr n := rfl
  rw [hst] at hcv
  simp only [List.map_cons, List.map_nil] at hcv
  have hcase : n < 0 ∨ (0 ≤ n ∧ n ≤ 255) ∨ (0 ≤ n ∧ ¬ n ≤ 255) := by omega
  rcases hcase with h0 | ⟨h0, h1⟩ | ⟨h0, h1⟩
  · have hd : decide (0 ≤ n ∧ n ≤ 255) = false := by simp; omega
    rw [hd]
    go_enter Try.func50, Try.ntmps50
    go_wp2_with fail
    refine (wk_putI (h.below (alloc_below' w _)) false 1 1 rfl (byteStr n) hs).mono ?_
    rintro e w1 ⟨rfl, h1', h2'⟩
    have H1 := Lib.hid h1'; have H2 := Lib.hid h2'; clear h1' h2'
    go_wp2
    go_end0
    exact ⟨rfl, H1.out, (Spare.ofBelow (alloc_below' w _)).trans H2.out⟩
  · have hd : decide (0 ≤ n ∧ n ≤ 255) = true := by simp; omega
    rw [hd]
    rw [show n % 256 = n by omega] at hcv
    go_enter Try.func50, Try.ntmps50
    go_wp2_with fail
    refine (wk_putI (h.below (alloc_below' w _)) true 1 1 rfl (byteStr n) hs).mono ?_
    rintro e w1 ⟨rfl, h1', h2'⟩
    have H1 := Lib.hid h1'; have H2 := Lib.hid h2'; clear h1' h2'
    go_wp2
    go_end0
    exact ⟨rfl, H1.out, (Spare.ofBelow (alloc_below' w _)).trans H2.out⟩
  · have hd : decide (0 ≤ n ∧ n ≤ 255) = false := by simp; omega
    rw [hd]
    go_enter Try.func50, Try.ntmps50
    go_wp2_with fail
    refine (wk_putI (h.below (alloc_below' w _)) false 1 1 rfl (byteStr n) hs).mono ?_
    rintro e w1 ⟨rfl, h1', h2'⟩
    have H1 := Lib.hid h1'; have H2 := Lib.hid h2'; clear h1' h2'
    go_wp2
    go_end0
    exact ⟨rfl, H1.out, (Spare.ofBelow (alloc_below' w _)).trans H2.out⟩
set_option maxRecDepth 100000 in
theorem wk_num (h : WK w0 w g x) (n : Nat) (hn : n < 18446744073709551616) (hs : x.b.length + (numL n).length ≤ 16777216) : Calls Try.prog 51 #[.pointer (some ⟨g, 0, none⟩), .int .u64 (n : Int)] w fun r w' => r = .returned (.tuple #[]) ∧ WK w0 w' g (x.put true 0 ⟨(numL n).toArray⟩) ∧ Spare [62, 5] w w' := by
  go_enter Try.func51, Try.ntmps51
  go_wp2_with fail
  refine (number_any n hn w).mono ?_
  rintro e w1 ⟨rfl, hb1⟩
  have h1 := h.below hb1
  go_wp2_with fail
  refine (wk_putI h1 true 0 0 rfl ⟨(numL n).toArray⟩ hs).mono ?_
  rintro e w2 ⟨rfl, h1', h2'⟩
  have H1 := Lib.hid h1'; have H2 := Lib.hid ((Spare.ofBelow hb1).trans h2'); clear h1' h2' hb1 h1 h
  go_wp2
  go_end0
  exact ⟨rfl, H1.out, H2.out⟩
set_option maxRecDepth 100000 in
theorem wk_raw (h : WK w0 w g x) (s : ByteArray) (n : Int) (hs : x.b.length + s.size ≤ 16777216) : Calls Try.prog 52 #[.pointer (some ⟨g, 0, none⟩), .string s, .int .i64 n] w fun r w' => r = .returned (.tuple #[]) ∧ WK w0 w' g (x.put (decide ((s.size : Int) = n)) 1 s) ∧ Spare [62, 5] w w' := by
  obtain ⟨so, hso⟩ : ∃ so, ((s.size : Int) == n) = so := ⟨_, rfl⟩
  have hd : decide ((s.size : Int) = n) = so := by rw [← hso]; rfl
  rw [hd]
  go_enter Try.func52, Try.ntmps52
  go_wp2_with fail
  refine (wk_putI h so 1 1 rfl s hs).mono ?_
  rintro e w2 ⟨rfl, h1', h2'⟩
  have H1 := Lib.hid h1'; have H2 := Lib.hid h2'; clear h1' h2' h
  go_wp2
  go_end0
  exact ⟨rfl, H1.out, H2.out⟩
def blobStr (s : ByteArray) : ByteArray := ⟨(numL s.size).toArray⟩ ++ s
set_option maxRecDepth 100000 in
theorem wk_blob (h : WK w0 w g x) (s : ByteArray) (hs0 : s.size ≤ 1000000) (hs : x.b.length + (blobStr s).size ≤ 16777216) : Calls Try.prog 53 #[.pointer (some ⟨g, 0, none⟩), .string s] w fun r w' => r = .returned (.tuple #[]) ∧ WK w0 w' g (x.put (decide (s.size ≤ 4096)) 4 (blobStr s)) ∧ Spare [62, 5] w w' := by
  obtain ⟨so, hso⟩ : ∃ so, decide ((s.size : Int) ≤ 4096) = so := ⟨_, rfl⟩
  have hd : decide (s.size ≤ 4096) = so := by rw [← hso]; congr 1; simp; omega
  rw [hd]
  have hsz : (⟨(numL s.size).toArray⟩ : ByteArray).size + s.size ≤ maxLen := by
    have : (blobStr s).size = (⟨(numL s.size).toArray⟩ : ByteArray).size + s.size := by rw [blobStr, ByteArray.size_append]
    unfold maxLen; omega
  have hbs : blobStr s = ⟨(numL s.size).toArray⟩ ++ s := rfl
  obtain ⟨nb, hnb⟩ : ∃ nb : ByteArray, (⟨(numL s.size).toArray⟩ : ByteArray) = nb := ⟨_, rfl⟩
  have hnum := number_any s.size (by omega)
  rw [hnb] at hsz hbs hnum
  have hsz2 : nb.size + s.size ≤ 9223372036854775807 := by unfold maxLen at hsz; omega
  have hsz3 : (nb.size : Int) + (s.size : Int) ≤ 9223372036854775807 := by omega
  have Hbs := Lib.hid hbs; have Hnum := Lib.hid hnum; clear hbs hnb hnum
  go_enter Try.func53, Try.ntmps53
  go_wp2_with fail
  refine (Hnum.out w).mono ?_
  rintro e w1 ⟨rfl, hb1⟩
  have h1 := h.below hb1
  go_wp2_with fail
  rw [Hbs.out] at hs
  refine (wk_putI h1 so 4 4 rfl _ hs).mono ?_
  rintro e w2 ⟨rfl, h1', h2'⟩
  have H1 := Lib.hid h1'; have H2 := Lib.hid ((Spare.ofBelow hb1).trans h2'); clear h1' h2' hb1 h1 h
  go_wp2
  go_end0
  exact ⟨rfl, by rw [Hbs.out]; exact H1.out, H2.out⟩
end
end Go.Proofs.Ytjmdiobnappgkaa
