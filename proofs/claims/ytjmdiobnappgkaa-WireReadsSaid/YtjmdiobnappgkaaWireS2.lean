/-
  Layer 11 (wire): the document's reader: its plain model, how it lies in memory, the walks of its methods.
-/
import Derived.Test.YtjmdiobnappgkaaWireS
namespace Go.Proofs.Ytjmdiobnappgkaa
open Go.RowKit
set_option linter.unusedVariables false
set_option linter.unusedSimpArgs false

theorem numF_lead : ∀ (k f a n : Nat) (L : List UInt8) (hk : k < f) (hkL : k < L.length), (∀ i (h : i < L.length), i < k → 128 ≤ L[i].toNat) → L[k].toNat < 128 → (∃ v, numF f L a n = .ok (v, a + k + 1)) ∨ numF f L a n = .error 3
  | k, 0, a, n, L, hk, hkL, h1, h2 => by omega
  | k, f + 1, a, n, [], hk, hkL, h1, h2 => by simp at hkL
  | 0, f + 1, a, n, c :: l, hk, hkL, h1, h2 => by
    have h2' : c.toNat < 128 := h2
    rw [numF, if_neg (by omega)]
    split
    · exact .inr rfl
    · exact .inl ⟨_, rfl⟩
  | k + 1, f + 1, a, n, c :: l, hk, hkL, h1, h2 => by
    have h0 : 128 ≤ c.toNat := h1 0 (by simp) (Nat.succ_pos k)
    rw [numF, if_pos h0]
    have ih := numF_lead k f (a + 1) (numOr n c.toNat a) l (by omega) (by simp at hkL; omega) (fun i hi hik => by
      have := h1 (i + 1) (by simp; omega) (by omega)
      simpa using this) (by simpa using h2)
    rw [show a + 1 + k + 1 = a + (k + 1) + 1 by omega] at ih
    exact ih
theorem numF_over : ∀ (f a n : Nat) (L : List UInt8), f ≤ L.length → (∀ i (h : i < L.length), i < f → 128 ≤ L[i].toNat) → numF f L a n = .error 3
  | 0, a, n, L, hL, h => by rw [numF]
  | f + 1, a, n, [], hL, h => by simp at hL
  | f + 1, a, n, c :: l, hL, h => by
    have h0 : 128 ≤ c.toNat := h 0 (by simp) (Nat.succ_pos f)
    rw [numF, if_pos h0]
    exact numF_over f _ _ l (by simp at hL; omega) (fun i hi hik => by
      have := h (i + 1) (by simp; omega) (by omega)
      simpa using this)
theorem numF_under : ∀ (f a n : Nat) (L : List UInt8), L.length < f → (∀ i (h : i < L.length), 128 ≤ L[i].toNat) → numF f L a n = .error 2
  | 0, a, n, L, hL, h => by omega
  | f + 1, a, n, [], hL, h => by rw [numF]
  | f + 1, a, n, c :: l, hL, h => by
    have h0 : 128 ≤ c.toNat := h 0 (by simp)
    rw [numF, if_pos h0]
    exact numF_under f _ _ l (by simp at hL; omega) (fun i hi => by
      have := h (i + 1) (by simp; omega)
      simpa using this)
theorem numF_yes {L : List UInt8} {k v : Nat} (hv : v < 18446744073709551616) (h : numL v = L.take (k + 1)) (hk : k < L.length) : numF 10 L 0 0 = .ok (v, k + 1) := by
  have e : L = numL v ++ L.drop (k + 1) := by rw [h, List.take_append_drop]
  have e2 : (numL v).length = k + 1 := by rw [h, List.length_take]; omega
  have := numF_read v (L.drop (k + 1)) hv
  rw [← e, e2] at this
  exact this
theorem numF_no {L : List UInt8} {k : Nat} (hk10 : k < 10) (hk : k < L.length) (h1 : ∀ i (h : i < L.length), i < k → 128 ≤ L[i].toNat) (h2 : L[k].toNat < 128) (h : ∀ v, v < 18446744073709551616 → numL v ≠ L.take (k + 1)) : numF 10 L 0 0 = .error 3 := by
  rcases numF_lead k 10 0 0 L hk10 hk h1 h2 with ⟨v, hv⟩ | h3
  · obtain ⟨_, _, hb⟩ := numF_back hv
    have hlt := numF_lt 10 0 0 L v _ (by decide) hv
    rw [Nat.zero_add] at hb
    exact absurd hb (h v hlt)
  · exact h3

/-- The document's reader: the bytes, how many are taken, the first error. -/
structure RV where
  S : ByteArray
  at_ : Nat
  e : Nat
def RV.rest (v : RV) : ByteArray := v.S.extract v.at_ v.S.size
def RV.rd (v : RV) : RD := ⟨v.rest, v.e⟩
theorem RV.rest_size (v : RV) : v.rest.size = v.S.size - v.at_ := by rw [RV.rest, ByteArray.size_extract]; omega
theorem RV.rest_list (v : RV) : v.rest.data.toList = v.S.data.toList.drop v.at_ := by
  rw [RV.rest, extract_list, List.take_of_length_le (by rw [List.length_drop, list_size]; omega)]
def IsRv (w : World) (g : Nat) (v : RV) : Prop := Blk w g 83 #[.string v.S, .int .i64 (v.at_ : Int), .int .i64 (v.e : Int)]
def RVK (w0 w : World) (g : Nat) (v : RV) : Prop := IsRv w g v ∧ w0.heap.size ≤ g ∧ Below w0.heap.size w0 w ∧ w0.heap.size ≤ w.heap.size ∧ v.at_ ≤ v.S.size ∧ v.S.size ≤ 1000000
section
variable {w0 w w' : World} {g : Nat} {v : RV}
theorem IsRv.c0 (h : IsRv w g v) : w.cell? ⟨g, 0, none⟩ = some (.string v.S) := Blk.cell h 0
theorem IsRv.c1 (h : IsRv w g v) : w.cell? ⟨g, 1, none⟩ = some (.int .i64 (v.at_ : Int)) := Blk.cell h 1
theorem IsRv.c2 (h : IsRv w g v) : w.cell? ⟨g, 2, none⟩ = some (.int .i64 (v.e : Int)) := Blk.cell h 2
theorem IsRv.fr (h : IsRv w g v) (i : Nat) : w.frozen? ⟨g, i, none⟩ = false := Blk.frozen h i
theorem RVK.below (h : RVK w0 w g v) (hb : Below w.heap.size w w') : RVK w0 w' g v := by
  obtain ⟨h1, h2, h3, h4, h5⟩ := h
  exact ⟨(Spare.ofBelow (T := []) hb).blk h1 (by simp), h2, h3.trans (hb.mono h4), Nat.le_trans h4 hb.size, h5⟩
theorem RVK.dw (h : RVK w0 w g v) : RVK w0 w.drew g v := h.below ((Below.refl _ _).drew)
theorem RVK.dwN (h : RVK w0 w g v) (n : Nat) : RVK w0 (w.drewN n) g v := h.below (below_drewN' (Below.refl _ _) n)
theorem RVK.spare {T : List TypeId} (h : RVK w0 w g v) (hb : Below w0.heap.size w0 w') (hs : Spare T w w') (h1 : 83 ∉ T) : RVK w0 w' g v :=
  ⟨hs.blk h.1 h1, h.2.1, hb, hb.size, h.2.2.2.2⟩
theorem RVK.only {v' : RV} (h : RVK w0 w g v) (hx : IsRv w' g v') (ho : Only w.heap.size [g] w w') (h5 : v'.at_ ≤ v'.S.size) (h6 : v'.S.size ≤ 1000000) : RVK w0 w' g v' ∧ Frm g w w' := by
  obtain ⟨h1, h2, h3, h4, _⟩ := h
  exact ⟨⟨hx, h2, h3.trans ((ho.mono h4 (l' := [g]) (fun k _ h => h)).below (by simp; exact h2)), Nat.le_trans h4 ho.size, h5, h6⟩, ho⟩
theorem RVK.err (h : RVK w0 w g v) (e : Nat) : RVK w0 (w.setCell ⟨g, 2, none⟩ (.int .i64 (e : Int))) g { v with e := e } ∧ Frm g w (w.setCell ⟨g, 2, none⟩ (.int .i64 (e : Int))) :=
  h.only (v' := { v with e := e }) (Blk.set_ h.1 2 _) ((Only.refl _ [g] _).setCell (p := ⟨g, 2, none⟩) (.inl (by simp)) _) h.2.2.2.2.1 h.2.2.2.2.2
theorem RVK.go (h : RVK w0 w g v) (n : Nat) (hn : n ≤ v.S.size) (ni : Int) (hni : (n : Int) = ni) : RVK w0 (w.setCell ⟨g, 1, none⟩ (.int .i64 ni)) g { v with at_ := n } ∧ Frm g w (w.setCell ⟨g, 1, none⟩ (.int .i64 ni)) := by
  subst hni
  exact h.only (v' := { v with at_ := n }) (Blk.set_ h.1 1 _) ((Only.refl _ [g] _).setCell (p := ⟨g, 1, none⟩) (.inl (by simp)) _) hn h.2.2.2.2.2
theorem Frm.spareV {g : Nat} {v : RV} (h : Frm g w w') (hx : IsRv w g v) : Spare [83] w w' :=
  Spare.ofOnly h (by intro k hk; simp at hk; subst hk; exact ⟨_, _, _, hx, by simp⟩)

set_option maxRecDepth 100000 in
theorem v_left (h : RVK w0 w g v) : Calls Try.prog 62 #[.pointer (some ⟨g, 0, none⟩)] w fun r w' => r = .returned (.int .i64 (v.rest.size : Int)) ∧ ∃ n, w' = w.drewN n := by
  have c0 := h.1.c0
  have c1 := h.1.c1
  have h5 := h.2.2.2.2.1
  have h6 := h.2.2.2.2.2
  have hz := v.rest_size
  have hs : (v.S.size : Int) - (v.at_ : Int) = (v.rest.size : Int) := by omega
  have Hs := Lib.hid hs
  clear h hz hs
  go_enter Try.func62, Try.ntmps62
  go_wp2
  go_quiet (fail)
  go_wp2
  go_ret
  exact ⟨by rw [← Hs.out]; rfl, _, rfl⟩
def RV.fail (v : RV) (e : Nat) : RV := if v.e = 0 then { v with e := e } else v
theorem RV.fail_rd (v : RV) (e : Nat) : (v.fail e).rd = v.rd.fail e := by
  unfold RV.fail RD.fail RV.rd RV.rest
  by_cases h : v.e = 0
  · rw [if_pos h, if_pos h]
  · rw [if_neg h, if_neg h]
set_option maxRecDepth 100000 in
theorem v_fail (h : RVK w0 w g v) (e : Nat) (ei : Int) (hei : (e : Int) = ei) : Calls Try.prog 100 #[.pointer (some ⟨g, 0, none⟩), .int .i64 ei] w fun r w' => r = .returned (.tuple #[]) ∧ RVK w0 w' g (v.fail e) ∧ Frm g w w' := by
  subst hei
  have c2 := h.1.c2
  have f2 := h.1.fr 2
  have H := Lib.hid h; clear h
  by_cases he : v.e = 0
  · rw [he] at c2
    have hv : v.fail e = { v with e := e } := by rw [RV.fail, if_pos he]
    rw [hv]
    clear hv he
    go_enter Try.func100, Try.ntmps100
    go_wp2
    go_end0
    have hq := H.out.err e
    exact ⟨rfl, hq.1, hq.2⟩
  · have hne : ¬ (v.e : Int) = 0 := by omega
    have hv : v.fail e = v := by rw [RV.fail, if_neg he]
    rw [hv]
    clear hv
    go_enter Try.func100, Try.ntmps100
    go_wp2
    go_end0
    exact ⟨rfl, H.out, Frm.refl _ _⟩
set_option maxRecDepth 100000 in
theorem v_end (h : RVK w0 w g v) : Calls Try.prog 63 #[.pointer (some ⟨g, 0, none⟩)] w fun r w' => r = .returned (.int .i64 (v.rd.endV : Int)) ∧ ∃ n, w' = w.drewN n := by
  have c2 := h.1.c2
  by_cases he : v.e = 0
  · rw [he] at c2
    by_cases hs : v.rest.size = 0
    · have hv : v.rd.endV = 0 := by rw [RD.endV, if_pos (show v.rd.e = 0 from he), if_pos (show v.rd.s.size = 0 from hs)]
      rw [hv]
      have hl := v_left h
      rw [hs] at hl
      have Hl := Lib.hid hl
      clear hv hs he hl h
      go_enter Try.func63, Try.ntmps63
      go_wp2_with fail
      refine Hl.out.mono ?_
      rintro e w1 ⟨rfl, n, rfl⟩
      go_wp2
      go_ret
      exact ⟨rfl, n, rfl⟩
    · have hv : v.rd.endV = 3 := by rw [RD.endV, if_pos (show v.rd.e = 0 from he), if_neg (show ¬ v.rd.s.size = 0 from hs)]
      rw [hv]
      have hp : (0 : Int) < (v.rest.size : Int) := by omega
      have Hl := Lib.hid (v_left h)
      clear hv hs he h
      go_enter Try.func63, Try.ntmps63
      go_wp2_with fail
      refine Hl.out.mono ?_
      rintro e w1 ⟨rfl, n, rfl⟩
      go_wp2
      go_ret
      exact ⟨rfl, n, rfl⟩
  · have hne : ¬ (v.e : Int) = 0 := by omega
    have hv : v.rd.endV = v.e := by rw [RD.endV, if_neg (show ¬ v.rd.e = 0 from he)]; rfl
    rw [hv]
    clear hv h
    go_enter Try.func63, Try.ntmps63
    go_wp2
    go_ret
    exact ⟨rfl, 0, rfl⟩
end
end Go.Proofs.Ytjmdiobnappgkaa
