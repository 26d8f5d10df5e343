/-
  Layer 11 (wire): the document's writer: the walks of its methods. Its model is the program's writer's.
-/
import Derived.Test.YtjmdiobnappgkaaWireE
namespace Go.Proofs.Ytjmdiobnappgkaa
open Go.RowKit
set_option linter.unusedVariables false
set_option linter.unusedSimpArgs false

/-- In world w block g is the document's writer x, made since w0. -/
def VK (w0 w : World) (g : Nat) (x : WS) : Prop := Blk w g 65 #[.string ⟨x.b.toArray⟩, .int .i64 (x.e : Int)] ∧ w0.heap.size ≤ g ∧ Below w0.heap.size w0 w ∧ w0.heap.size ≤ w.heap.size
theorem put_str (x : List UInt8) (s : ByteArray) : (⟨x.toArray⟩ : ByteArray) ++ s = ⟨(x ++ s.data.toList).toArray⟩ := by
  apply ba_ext; rw [ByteArray.data_append]; apply Array.ext'; simp
theorem str_size (x : List UInt8) : (⟨x.toArray⟩ : ByteArray).size = x.length := List.size_toArray ..
section
variable {w0 w w' : World} {g : Nat} {x : WS}
theorem VK.below (h : VK w0 w g x) (hb : Below w.heap.size w w') : VK w0 w' g x := by
  obtain ⟨h1, h2, h3, h4⟩ := h
  exact ⟨(Spare.ofBelow (T := []) hb).blk h1 (by simp), h2, h3.trans (hb.mono h4), Nat.le_trans h4 hb.size⟩
theorem VK.spare {T : List TypeId} (h : VK w0 w g x) (hb : Below w0.heap.size w0 w') (hs : Spare T w w') (h1 : 65 ∉ T) : VK w0 w' g x :=
  ⟨hs.blk h.1 h1, h.2.1, hb, hb.size⟩
theorem VK.only {x' : WS} (h : VK w0 w g x) (hx : Blk w' g 65 #[.string ⟨x'.b.toArray⟩, .int .i64 (x'.e : Int)]) (ho : Only w.heap.size [g] w w') : VK w0 w' g x' ∧ Spare [65] w w' := by
  obtain ⟨h1, h2, h3, h4⟩ := h
  refine ⟨⟨hx, h2, h3.trans ?_, Nat.le_trans h4 ho.size⟩, Spare.ofOnly ho ?_⟩
  · exact (ho.mono h4 (l' := [g]) (fun k _ h => h)).below (by simp; exact h2)
  · intro k hk; simp at hk; subst hk; exact ⟨_, _, _, h1, by simp⟩
set_option maxRecDepth 100000 in
theorem v_put (h : VK w0 w g x) (so : Bool) (e : Nat) (ei : Int) (hei : (e : Int) = ei) (s : ByteArray) (hs : x.b.length + s.size ≤ 16777216) : Calls Try.prog 107 #[.pointer (some ⟨g, 0, none⟩), .bool so, .int .i64 ei, .string s] w fun r w' => r = .returned (.tuple #[]) ∧ VK w0 w' g (x.put so e s) ∧ Spare [65] w w' := by
  subst hei
  have c0 : w.cell? ⟨g, 0, none⟩ = some (.string ⟨x.b.toArray⟩) := h.1.cell 0
  have c1 : w.cell? ⟨g, 1, none⟩ = some (.int .i64 (x.e : Int)) := h.1.cell 1
  have f0 := h.1.frozen 0
  have f1 := h.1.frozen 1
  have H := Lib.hid h; clear h
  by_cases he : x.e = 0
  · cases so with
    | true =>
      have hput : x.put true e s = { x with b := x.b ++ s.data.toList } := by rw [WS.put, if_pos he, if_pos rfl]
      have hcat := put_str x.b s
      have hz := str_size x.b
      obtain ⟨t, ht⟩ : ∃ t, (⟨x.b.toArray⟩ : ByteArray) = t := ⟨_, rfl⟩
      rw [ht] at c0 hcat hz
      have h1 : t.size + s.size ≤ 9223372036854775807 := by omega
      have h2 : (t.size : Int) + (s.size : Int) ≤ 9223372036854775807 := by omega
      have h3 : t.size + s.size ≤ maxLen := by unfold maxLen; omega
      have Hput := Lib.hid hput; have Hcat := Lib.hid hcat
      clear hput hcat ht hz
      rw [he] at c1
      go_enter Try.func107, Try.ntmps107
      go_wp2
      (first | go_end0 | refine bodyPost_ret (results_none rfl _ _ _) rfl ?_)
      have q := H.out.only (w' := w.setCell ⟨g, 0, none⟩ (.string (t ++ s))) (x' := { x with b := x.b ++ s.data.toList }) (by rw [Hcat.out]; exact Blk.set_ H.out.1 0 _) ((Only.refl _ [g] _).setCell (p := ⟨g, 0, none⟩) (.inl (by simp)) _)
      exact ⟨rfl, by rw [Hput.out]; exact q.1, q.2⟩
    | false =>
      have hput : x.put false e s = { x with e := e } := by rw [WS.put, if_pos he, if_neg (by simp)]
      rw [hput]
      rw [he] at c1
      clear hput
      go_enter Try.func107, Try.ntmps107
      go_wp2
      (first | go_end0 | refine bodyPost_ret (results_none rfl _ _ _) rfl ?_)
      have q := H.out.only (x' := { x with e := e }) (Blk.set_ H.out.1 1 _) ((Only.refl _ [g] _).setCell (p := ⟨g, 1, none⟩) (.inl (by simp)) (.int .i64 (e : Int)))
      exact ⟨rfl, q.1, q.2⟩
  · have hne : ¬ (x.e : Int) = 0 := by omega
    rw [put_stays he]
    go_enter Try.func107, Try.ntmps107
    go_wp2
    (first | go_end0 | refine bodyPost_ret (results_none rfl _ _ _) rfl ?_)
    exact ⟨rfl, H.out, Spare.refl _ _⟩
set_option maxRecDepth 100000 in
theorem v_text (h : VK w0 w g x) : Calls Try.prog 47 #[.pointer (some ⟨g, 0, none⟩)] w fun r w' => r = .returned (.string x.text) ∧ w = w' := by
  have c0 : w.cell? ⟨g, 0, none⟩ = some (.string ⟨x.b.toArray⟩) := h.1.cell 0
  have c1 : w.cell? ⟨g, 1, none⟩ = some (.int .i64 (x.e : Int)) := h.1.cell 1
  clear h
  by_cases he : x.e = 0
  · have ht : x.text = ⟨x.b.toArray⟩ := by rw [WS.text, if_pos he]
    rw [ht]
    rw [he] at c1
    go_enter Try.func47, Try.ntmps47
    go_wp2
    go_ret
    exact ⟨rfl, rfl⟩
  · have hne : ¬ (x.e : Int) = 0 := by omega
    have ht : x.text = ⟨#[]⟩ := by rw [WS.text, if_neg he]
    rw [ht]
    go_enter Try.func47, Try.ntmps47
    go_wp2
    go_ret
    exact ⟨rfl, rfl⟩
end
set_option maxRecDepth 100000 in
set_option maxHeartbeats 400000 in
theorem rnumber_any (n : Nat) (hn : n < 18446744073709551616) (w : World) : Calls Try.prog 106 #[.int .u64 (n : Int)] w fun e w' => e = .returned (.string ⟨(numL n).toArray⟩) ∧ Below w.heap.size w w' := by
  go_enter Try.func106, Try.ntmps106
  go_wp2
  go_loopw [0, 3] (fun mv sv wr => ∃ (m : Nat) (l : List UInt8) (t : ByteArray), m < 18446744073709551616 ∧ m * 128 ^ l.length ≤ n ∧ mv = .int .u64 (m : Int) ∧ sv = .string t ∧ t = ⟨l.toArray⟩ ∧ numL n = l ++ numL m ∧ l.length ≤ 20 ∧ Below w.heap.size w wr) (fun mv _ _ => (intOf mv).toNat)
  case atStart => exact ⟨n, [], ⟨#[]⟩, hn, by simp, rfl, rfl, rfl, rfl, by simp, Below.refl _ _⟩
  case round =>
    obtain ⟨m, l, t, hm, hpow, rfl, rfl, ht, hnum, hl20, hbel⟩ := hrel
    have hz := hbel.size
    have hts : t.size = l.length := by rw [ht]; exact str_size l
    have hcat : ∀ c : UInt8, t ++ ⟨#[c]⟩ = ⟨(l ++ [c]).toArray⟩ := fun c => by rw [ht]; exact put_str l ⟨#[c]⟩
    have Ht := Lib.hid ht; have Hcat := Lib.hid hcat; clear ht hcat
    by_cases hlt : m < 128
    · rw [numL_small hlt] at hnum
      have hcv := conv_string_new (P := Try.prog) wr 30 9 5 [(m : Int)] Try.underlying30 Try.underlying5 Try.underlying9 1 1 rfl 5
      simp only [List.map_cons, List.map_nil] at hcv
      have hst : strOfNums [(m : Int)] = ⟨#[UInt8.ofNat m]⟩ := by simp [strOfNums]
      obtain ⟨u, hu⟩ : ∃ u, strOfNums [(m : Int)] = u := ⟨_, rfl⟩
      have hus : u.size = 1 := by rw [← hu, hst]; rfl
      have hfin : t ++ u = ⟨(numL n).toArray⟩ := by rw [← hu, hst, Hcat.out, hnum]
      rw [hu] at hcv
      have h1 : t.size + u.size ≤ 9223372036854775807 := by omega
      have h2 : (t.size : Int) + (u.size : Int) ≤ 9223372036854775807 := by omega
      have h3 : t.size + u.size ≤ maxLen := by unfold maxLen; omega
      have Hfin := Lib.hid hfin; have B3 := Lib.hid (hbel.alloc hz (.cells #[.int .u8 (m : Int)] 5))
      clear hfin hnum hpow hst hu hbel
      go_wp2
      go_ret
      exact ⟨by rw [← Hfin.out]; rfl, B3.out⟩
    · rw [numL_big hlt] at hnum
      have hl19 : l.length + 1 ≤ 20 := by
        rcases Nat.lt_or_ge l.length 20 with h | h
        · omega
        · have e : l.length = 20 := by omega
          rw [e] at hpow
          have h1 : 128 * 128 ^ 20 ≤ m * 128 ^ 20 := Nat.mul_le_mul_right _ (by omega)
          have h2 : (128 : Nat) * 128 ^ 20 ≥ 18446744073709551616 := by decide
          omega
      have hpow2 : (m / 128) * 128 ^ (l.length + 1) ≤ n := by
        have h1 : (m / 128) * 128 ^ (l.length + 1) = (m / 128 * 128) * 128 ^ l.length := by rw [Nat.pow_succ, Nat.mul_assoc, Nat.mul_comm (128 ^ l.length) 128]
        have h2 : m / 128 * 128 ≤ m := by omega
        have := Nat.mul_le_mul_right (128 ^ l.length) h2
        omega
      have hcv := conv_string_new (P := Try.prog) wr 30 9 5 [(m : Int) % 128 + 128] Try.underlying30 Try.underlying5 Try.underlying9 1 1 rfl 5
      simp only [List.map_cons, List.map_nil] at hcv
      have hst : strOfNums [(m : Int) % 128 + 128] = ⟨#[UInt8.ofNat (m % 128 + 128)]⟩ := by
        have : ((m : Int) % 128 + 128).toNat = m % 128 + 128 := by omega
        simp [strOfNums, this]
      obtain ⟨u, hu⟩ : ∃ u, strOfNums [(m : Int) % 128 + 128] = u := ⟨_, rfl⟩
      have hus : u.size = 1 := by rw [← hu, hst]; rfl
      have hfin : t ++ u = ⟨(l ++ [UInt8.ofNat (m % 128 + 128)]).toArray⟩ := by rw [← hu, hst, Hcat.out]
      rw [hu] at hcv
      have h1 : t.size + u.size ≤ 9223372036854775807 := by omega
      have h2 : (t.size : Int) + (u.size : Int) ≤ 9223372036854775807 := by omega
      have h3 : t.size + u.size ≤ maxLen := by unfold maxLen; omega
      have Hfin := Lib.hid hfin; have B3 := Lib.hid (hbel.alloc hz (.cells #[.int .u8 ((m : Int) % 128 + 128)] 5))
      have Hnum := Lib.hid hnum; have Hpow := Lib.hid hpow2
      clear hfin hnum hpow hpow2 hst hu hbel
      go_wp2
      go_roundw
      case rel => exact ⟨m / 128, l ++ [UInt8.ofNat (m % 128 + 128)], t ++ u, by omega, by rw [List.length_append]; exact Hpow.out, by go_num, rfl, Hfin.out, by rw [Hnum.out, List.append_assoc]; rfl, by simp; omega, B3.out⟩
      case measure => simp [intOf]; omega
section
variable {w0 w w' : World} {g : Nat} {x : WS}
set_option maxRecDepth 100000 in
theorem v_byte (h : VK w0 w g x) (n : Int) (hs : x.b.length + (byteStr n).size ≤ 16777216) : Calls Try.prog 90 #[.pointer (some ⟨g, 0, none⟩), .int .i64 n] w fun r w' => r = .returned (.tuple #[]) ∧ VK w0 w' g (x.put (decide (0 ≤ n ∧ n ≤ 255)) 1 (byteStr n)) ∧ Spare [65] w w' := by
  have hcv := conv_string_new (P := Try.prog) w 30 9 5 [n % 256] Try.underlying30 Try.underlying5 Try.underlying9 1 1 rfl 5
  have hst : strOfNums [n % 256] = byteStr n := rfl
  rw [hst] at hcv
  simp only [List.map_cons, List.map_nil] at hcv
  have hcase : n < 0 ∨ (0 ≤ n ∧ n ≤ 255) ∨ (0 ≤ n ∧ ¬ n ≤ 255) := by omega
  rcases hcase with h0 | ⟨h0, h1⟩ | ⟨h0, h1⟩
  · have hd : decide (0 ≤ n ∧ n ≤ 255) = false := by simp; omega
    rw [hd]
    go_enter Try.func90, Try.ntmps90
    go_wp2_with fail
    refine (v_put (h.below (alloc_below' w _)) false 1 1 rfl (byteStr n) hs).mono ?_
    rintro e w1 ⟨rfl, h1', h2'⟩
    have H1 := Lib.hid h1'; have H2 := Lib.hid h2'; clear h1' h2'
    go_wp2
    go_end0
    exact ⟨rfl, H1.out, (Spare.ofBelow (alloc_below' w _)).trans H2.out⟩
  · have hd : decide (0 ≤ n ∧ n ≤ 255) = true := by simp; omega
    rw [hd]
    rw [show n % 256 = n by omega] at hcv
    go_enter Try.func90, Try.ntmps90
    go_wp2_with fail
    refine (v_put (h.below (alloc_below' w _)) true 1 1 rfl (byteStr n) hs).mono ?_
    rintro e w1 ⟨rfl, h1', h2'⟩
    have H1 := Lib.hid h1'; have H2 := Lib.hid h2'; clear h1' h2'
    go_wp2
    go_end0
    exact ⟨rfl, H1.out, (Spare.ofBelow (alloc_below' w _)).trans H2.out⟩
  · have hd : decide (0 ≤ n ∧ n ≤ 255) = false := by simp; omega
    rw [hd]
    go_enter Try.func90, Try.ntmps90
    go_wp2_with fail
    refine (v_put (h.below (alloc_below' w _)) false 1 1 rfl (byteStr n) hs).mono ?_
    rintro e w1 ⟨rfl, h1', h2'⟩
    have H1 := Lib.hid h1'; have H2 := Lib.hid h2'; clear h1' h2'
    go_wp2
    go_end0
    exact ⟨rfl, H1.out, (Spare.ofBelow (alloc_below' w _)).trans H2.out⟩
set_option maxRecDepth 100000 in
theorem v_num (h : VK w0 w g x) (n : Nat) (hn : n < 18446744073709551616) (hs : x.b.length + (numL n).length ≤ 16777216) : Calls Try.prog 91 #[.pointer (some ⟨g, 0, none⟩), .int .u64 (n : Int)] w fun r w' => r = .returned (.tuple #[]) ∧ VK w0 w' g (x.put true 0 ⟨(numL n).toArray⟩) ∧ Spare [65] w w' := by
  go_enter Try.func91, Try.ntmps91
  go_wp2_with fail
  refine (rnumber_any n hn w).mono ?_
  rintro e w1 ⟨rfl, hb1⟩
  have h1 := h.below hb1
  go_wp2_with fail
  refine (v_put h1 true 0 0 rfl ⟨(numL n).toArray⟩ hs).mono ?_
  rintro e w2 ⟨rfl, h1', h2'⟩
  have H1 := Lib.hid h1'; have H2 := Lib.hid ((Spare.ofBelow hb1).trans h2'); clear h1' h2' hb1 h1 h
  go_wp2
  go_end0
  exact ⟨rfl, H1.out, H2.out⟩
set_option maxRecDepth 100000 in
theorem v_raw (h : VK w0 w g x) (s : ByteArray) (n : Int) (hs : x.b.length + s.size ≤ 16777216) : Calls Try.prog 92 #[.pointer (some ⟨g, 0, none⟩), .string s, .int .i64 n] w fun r w' => r = .returned (.tuple #[]) ∧ VK w0 w' g (x.put (decide ((s.size : Int) = n)) 1 s) ∧ Spare [65] w w' := by
  obtain ⟨so, hso⟩ : ∃ so, ((s.size : Int) == n) = so := ⟨_, rfl⟩
  have hd : decide ((s.size : Int) = n) = so := by rw [← hso]; rfl
  rw [hd]
  go_enter Try.func92, Try.ntmps92
  go_wp2_with fail
  refine (v_put h so 1 1 rfl s hs).mono ?_
  rintro e w2 ⟨rfl, h1', h2'⟩
  have H1 := Lib.hid h1'; have H2 := Lib.hid h2'; clear h1' h2' h
  go_wp2
  go_end0
  exact ⟨rfl, H1.out, H2.out⟩
set_option maxRecDepth 100000 in
theorem v_blob (h : VK w0 w g x) (s : ByteArray) (hs0 : s.size ≤ 1000000) (hs : x.b.length + (blobStr s).size ≤ 16777216) : Calls Try.prog 93 #[.pointer (some ⟨g, 0, none⟩), .string s] w fun r w' => r = .returned (.tuple #[]) ∧ VK w0 w' g (x.put (decide (s.size ≤ 4096)) 4 (blobStr s)) ∧ Spare [65] w w' := by
  obtain ⟨so, hso⟩ : ∃ so, decide ((s.size : Int) ≤ 4096) = so := ⟨_, rfl⟩
  have hd : decide (s.size ≤ 4096) = so := by rw [← hso]; congr 1; simp; omega
  rw [hd]
  have hsz : (⟨(numL s.size).toArray⟩ : ByteArray).size + s.size ≤ maxLen := by
    have : (blobStr s).size = (⟨(numL s.size).toArray⟩ : ByteArray).size + s.size := by rw [blobStr, ByteArray.size_append]
    unfold maxLen; omega
  have hbs : blobStr s = ⟨(numL s.size).toArray⟩ ++ s := rfl
  obtain ⟨nb, hnb⟩ : ∃ nb : ByteArray, (⟨(numL s.size).toArray⟩ : ByteArray) = nb := ⟨_, rfl⟩
  have hnum := rnumber_any s.size (by omega)
  rw [hnb] at hsz hbs hnum
  have hsz2 : nb.size + s.size ≤ 9223372036854775807 := by unfold maxLen at hsz; omega
  have hsz3 : (nb.size : Int) + (s.size : Int) ≤ 9223372036854775807 := by omega
  have Hbs := Lib.hid hbs; have Hnum := Lib.hid hnum; clear hbs hnb hnum
  go_enter Try.func93, Try.ntmps93
  go_wp2_with fail
  refine (Hnum.out w).mono ?_
  rintro e w1 ⟨rfl, hb1⟩
  have h1 := h.below hb1
  go_wp2_with fail
  rw [Hbs.out] at hs
  refine (v_put h1 so 4 4 rfl _ hs).mono ?_
  rintro e w2 ⟨rfl, h1', h2'⟩
  have H1 := Lib.hid h1'; have H2 := Lib.hid ((Spare.ofBelow hb1).trans h2'); clear h1' h2' hb1 h1 h
  go_wp2
  go_end0
  exact ⟨rfl, by rw [Hbs.out]; exact H1.out, H2.out⟩
end
end Go.Proofs.Ytjmdiobnappgkaa
