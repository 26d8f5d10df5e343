/-
  Layer 11 (wire): the reader: the walks of Read, Byte, Raw, End, Left, Fail.
-/
import Derived.Test.YtjmdiobnappgkaaWireR
namespace Go.Proofs.Ytjmdiobnappgkaa
open Go.RowKit
set_option linter.unusedVariables false
set_option linter.unusedSimpArgs false
theorem ne_toList {s : ByteArray} (h : ¬ s.size = 0) : s.toList.isEmpty = false := by
  rw [← decide_eq_emptyBytes]
  simp only [decide_eq_false_iff_not]
  intro hc; rw [hc] at h; exact h rfl
section
variable {w0 w w' : World} {g : Nat} {x : RD}
set_option maxRecDepth 100000 in
theorem rd_new (hb : Below w0.heap.size w0 w) (hl : w0.heap.size ≤ w.heap.size) (s : ByteArray) : Calls Try.prog 54 #[.string s] w fun r w' => r = .returned (.pointer (some ⟨w.heap.size, 0, none⟩)) ∧ RDK w0 w' w.heap.size ⟨s, 0⟩ ∧ Below w.heap.size w w' := by
  go_enter Try.func54, Try.ntmps54
  go_wp2
  go_ret
  exact ⟨rfl, ⟨Blk.new _ _ _, hl, hb.trans ((alloc_below' w _).mono hl), by simp; omega⟩, alloc_below' w _⟩
set_option maxRecDepth 100000 in
theorem rd_left (h : RDK w0 w g x) : Calls Try.prog 60 #[.pointer (some ⟨g, 0, none⟩)] w fun r w' => r = .returned (.int .i64 (x.s.size : Int)) ∧ w = w' := by
  have c0 := h.1.c0
  clear h
  go_enter Try.func60, Try.ntmps60
  go_wp2
  go_ret
  exact ⟨rfl, rfl⟩
def RD.endV (x : RD) : Nat := if x.e = 0 then (if x.s.size = 0 then 0 else 3) else x.e
theorem ba_empty {s : ByteArray} (h : s.size = 0) : s = ⟨#[]⟩ := by
  cases s with
  | mk d => congr 1; exact Array.eq_empty_of_size_eq_zero h
set_option maxRecDepth 100000 in
theorem rd_end (h : RDK w0 w g x) : Calls Try.prog 59 #[.pointer (some ⟨g, 0, none⟩)] w fun r w' => r = .returned (.int .i64 (x.endV : Int)) ∧ w = w' := by
  have c0 := h.1.c0
  have c1 := h.1.c1
  clear h
  by_cases he : x.e = 0
  · rw [he] at c1
    by_cases hs : x.s.size = 0
    · have hv : x.endV = 0 := by rw [RD.endV, if_pos he, if_pos hs]
      rw [hv]
      rw [ba_empty hs] at c0
      clear hv hs he
      go_enter Try.func59, Try.ntmps59
      go_wp2
      go_ret
      exact ⟨rfl, rfl⟩
    · have hv : x.endV = 3 := by rw [RD.endV, if_pos he, if_neg hs]
      rw [hv]
      have hne := ne_toList hs
      clear hv hs he
      go_enter Try.func59, Try.ntmps59
      go_wp2
      go_ret
      exact ⟨rfl, rfl⟩
  · have hne : ¬ (x.e : Int) = 0 := by omega
    have hv : x.endV = x.e := by rw [RD.endV, if_neg he]
    rw [hv]
    clear hv
    go_enter Try.func59, Try.ntmps59
    go_wp2
    go_ret
    exact ⟨rfl, rfl⟩
def RD.fail (x : RD) (e : Nat) : RD := if x.e = 0 then { x with e := e } else x
set_option maxRecDepth 100000 in
theorem rd_fail (h : RDK w0 w g x) (e : Nat) (ei : Int) (hei : (e : Int) = ei) : Calls Try.prog 64 #[.pointer (some ⟨g, 0, none⟩), .int .i64 ei] w fun r w' => r = .returned (.tuple #[]) ∧ RDK w0 w' g (x.fail e) ∧ Frm g w w' := by
  subst hei
  have c1 := h.1.c1
  have f1 := h.1.fr 1
  have H := Lib.hid h; clear h
  by_cases he : x.e = 0
  · rw [he] at c1
    have hv : x.fail e = { x with e := e } := by rw [RD.fail, if_pos he]
    rw [hv]
    clear hv he
    go_enter Try.func64, Try.ntmps64
    go_wp2
    go_end0
    have hq := H.out.only (x' := { x with e := e }) (Blk.set_ H.out.1 1 _) ((Only.refl _ [g] _).setCell (p := ⟨g, 1, none⟩) (.inl (by simp)) (.int .i64 (e : Int)))
    exact ⟨rfl, hq.1, hq.2⟩
  · have hne : ¬ (x.e : Int) = 0 := by omega
    have hv : x.fail e = x := by rw [RD.fail, if_neg he]
    rw [hv]
    clear hv
    go_enter Try.func64, Try.ntmps64
    go_wp2
    go_end0
    exact ⟨rfl, H.out, Frm.refl _ _⟩
set_option maxRecDepth 100000 in
theorem rd_raw (h : RDK w0 w g x) (n : Int) : Calls Try.prog 57 #[.pointer (some ⟨g, 0, none⟩), .int .i64 n] w fun r w' => r = .returned (.string (x.takeS n)) ∧ RDK w0 w' g (x.takeX n) ∧ Frm g w w' := by
  go_enter Try.func57, Try.ntmps57
  go_wp2_with fail
  refine (rd_take h n).mono ?_
  rintro e w1 ⟨rfl, h1, h2⟩
  have H1 := Lib.hid h1; have H2 := Lib.hid h2; clear h1 h2 h
  go_wp2
  go_ret
  exact ⟨rfl, H1.out, H2.out⟩
def RD.byteV (x : RD) : Nat := if x.e = 0 then (if h : 0 < x.s.size then x.s[0].toNat else 0) else 0
theorem takeS_one_pos {x : RD} (he : x.e = 0) (h : 0 < x.s.size) : x.takeS 1 = x.s.extract 0 1 := by
  rw [RD.takeS, if_pos ⟨he, by decide, by omega⟩]; rfl
theorem takeS_one_neg {x : RD} (h : ¬ (x.e = 0 ∧ 0 < x.s.size)) : x.takeS 1 = ⟨#[]⟩ := by
  rw [RD.takeS, if_neg]; rintro ⟨a, _, b⟩; exact h ⟨a, by omega⟩
set_option maxRecDepth 100000 in
set_option maxHeartbeats 400000 in
theorem rd_byte (h : RDK w0 w g x) : Calls Try.prog 55 #[.pointer (some ⟨g, 0, none⟩)] w fun r w' => r = .returned (.int .i64 (x.byteV : Int)) ∧ RDK w0 w' g (x.takeX 1) ∧ Frm g w w' := by
  by_cases hc : x.e = 0 ∧ 0 < x.s.size
  · obtain ⟨he, hs⟩ := hc
    have hv : x.byteV = x.s[0].toNat := by rw [RD.byteV, if_pos he, dif_pos hs]
    rw [hv]
    have ht := takeS_one_pos he hs
    obtain ⟨t, hT⟩ : ∃ t, x.s.extract 0 1 = t := ⟨_, rfl⟩
    have hts : 0 < t.size := by rw [← hT, ByteArray.size_extract]; omega
    have ht0 : t[0].toNat = x.s[0].toNat := by
      subst hT
      congr 1
      rw [ByteArray.getElem_extract]
    have hne : t.toList.isEmpty = false := ne_toList (by omega)
    have hlt : (0 : Int) < (t.size : Int) := by omega
    rw [hT] at ht
    have Ht0 := Lib.hid ht0; have Ht := Lib.hid ht
    clear ht0 hT hv ht
    have h256 : t[0].toNat < 256 := t[0].toNat_lt
    go_enter Try.func55, Try.ntmps55
    go_wp2_with fail
    have hh := rd_take h 1
    rw [Ht.out] at hh
    refine hh.mono ?_
    rintro e w1 ⟨rfl, h1, h2⟩
    have H1 := Lib.hid h1; have H2 := Lib.hid h2; clear h1 h2 h hh
    go_wp2
    go_ret
    exact ⟨by rw [← Ht0.out]; rfl, H1.out, H2.out⟩
  · have hv : x.byteV = 0 := by
      rw [RD.byteV]
      by_cases he : x.e = 0
      · rw [if_pos he, dif_neg (fun hs => hc ⟨he, hs⟩)]
      · rw [if_neg he]
    rw [hv]
    have ht := takeS_one_neg hc
    have Ht := Lib.hid ht; clear ht hv
    go_enter Try.func55, Try.ntmps55
    go_wp2_with fail
    have hh := rd_take h 1
    rw [Ht.out] at hh
    refine hh.mono ?_
    rintro e w1 ⟨rfl, h1, h2⟩
    have H1 := Lib.hid h1; have H2 := Lib.hid h2; clear h1 h2 h hh
    go_wp2
    go_ret
    exact ⟨rfl, H1.out, H2.out⟩
end
end Go.Proofs.Ytjmdiobnappgkaa
