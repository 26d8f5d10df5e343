/-
  Layer 11 (wire): the reader: the walk of Num.
-/
import Derived.Test.YtjmdiobnappgkaaWireR2
import Derived.WalkMore
namespace Go.Proofs.Ytjmdiobnappgkaa
open Go.RowKit
set_option linter.unusedVariables false
set_option linter.unusedSimpArgs false

/-- One digit laid over a number. -/
def numOr (n c at_ : Nat) : Nat := n ||| ((c % 128) * 2 ^ (7 * at_)) % 18446744073709551616
/-- What Num makes of bytes: an error, or a number and how many bytes it has. -/
def numF : Nat → List UInt8 → Nat → Nat → Except Nat (Nat × Nat)
  | 0, _, _, _ => .error 3
  | _ + 1, [], _, _ => .error 2
  | f + 1, c :: l, at_, n =>
    if 128 ≤ c.toNat then numF f l (at_ + 1) (numOr n c.toNat at_)
    else if (c.toNat = 0 ∧ 0 < at_) ∨ (at_ = 9 ∧ 1 < c.toNat) then .error 3
    else .ok (numOr n c.toNat at_, at_ + 1)
def RD.numV (x : RD) : Nat := if x.e = 0 then (match numF 10 x.s.data.toList 0 0 with | .error _ => 0 | .ok p => p.1) else 0
def RD.numX (x : RD) : RD := if x.e = 0 then (match numF 10 x.s.data.toList 0 0 with | .error e => { x with e := e } | .ok p => { x with s := x.s.extract p.2 x.s.size }) else x
theorem numOr_lt (n c a : Nat) (h : n < 18446744073709551616) : numOr n c a < 18446744073709551616 :=
  Nat.or_lt_two_pow (n := 64) h (Nat.mod_lt _ (by decide))
theorem or_nat (a b : Nat) (ha : a < 18446744073709551616) (hb : b < 18446744073709551616) : bits BinOp.or IntKind.u64 (a : Int) (b : Int) = ((a ||| b : Nat) : Int) := by
  simp only [bits, BitVec.toNat_or, BitVec.toNat_ofInt]
  have e1 : ((a : Int) % ((2 ^ IntKind.u64.bits : Nat) : Int)).toNat = a := by
    show ((a : Int) % 18446744073709551616).toNat = a
    omega
  have e2 : ((b : Int) % ((2 ^ IntKind.u64.bits : Nat) : Int)).toNat = b := by
    show ((b : Int) % 18446744073709551616).toNat = b
    omega
  rw [e1, e2]
  have : a ||| b < 18446744073709551616 := Nat.or_lt_two_pow (n := 64) ha hb
  generalize a ||| b = q at this ⊢
  rw [IntKind.wrap_u64]; omega
theorem num_digit (m c k : Nat) (hm : m < 18446744073709551616) : ∃ b : Nat, IntKind.u64.wrap ((c : Int) % 128 * 2 ^ (7 * k)) = (b : Int) ∧ bits BinOp.or IntKind.u64 (m : Int) (b : Int) = ((numOr m c k : Nat) : Int) := by
  refine ⟨(c % 128) * 2 ^ (7 * k) % 18446744073709551616, ?_, ?_⟩
  · have e : (c : Int) % 128 * 2 ^ (7 * k) = ((c % 128 * 2 ^ (7 * k) : Nat) : Int) := by push_cast; rfl
    rw [e]
    generalize c % 128 * 2 ^ (7 * k) = q
    rw [IntKind.wrap_u64]; omega
  · rw [or_nat _ _ hm (Nat.mod_lt _ (by decide))]; rfl
theorem numF_step {L : List UInt8} {k m c : Nat} {R : Except Nat (Nat × Nat)} (hk : k < L.length) (hk10 : k < 10) (hc : L[k].toNat = c) (h : R = numF (10 - k) (L.drop k) k m) :
    (128 ≤ c → R = numF (10 - (k + 1)) (L.drop (k + 1)) (k + 1) (numOr m c k)) ∧ (¬ 128 ≤ c → (c = 0 ∧ 0 < k) ∨ (k = 9 ∧ 1 < c) → R = .error 3) ∧ (¬ 128 ≤ c → ¬ ((c = 0 ∧ 0 < k) ∨ (k = 9 ∧ 1 < c)) → R = .ok (numOr m c k, k + 1)) := by
  rw [show 10 - k = (10 - (k + 1)) + 1 by omega, List.drop_eq_getElem_cons hk, numF, hc] at h
  refine ⟨fun h1 => ?_, fun h1 h2 => ?_, fun h1 h2 => ?_⟩
  · rw [if_pos h1] at h; exact h
  · rw [if_neg h1, if_pos h2] at h; exact h
  · rw [if_neg h1, if_neg h2] at h; exact h
section
variable {w0 w w' : World} {g : Nat} {x : RD}
theorem rdk_err (h : RDK w0 w g x) (e : Nat) : RDK w0 (w.setCell ⟨g, 1, none⟩ (.int .i64 (e : Int))) g { x with e := e } ∧ Frm g w (w.setCell ⟨g, 1, none⟩ (.int .i64 (e : Int))) :=
  h.only (x' := { x with e := e }) (Blk.set_ h.1 1 _) ((Only.refl _ [g] _).setCell (p := ⟨g, 1, none⟩) (.inl (by simp)) _)
theorem rdk_rest (h : RDK w0 w g x) (s : ByteArray) : RDK w0 (w.setCell ⟨g, 0, none⟩ (.string s)) g { x with s := s } ∧ Frm g w (w.setCell ⟨g, 0, none⟩ (.string s)) :=
  h.only (x' := { x with s := s }) (Blk.set_ h.1 0 _) ((Only.refl _ [g] _).setCell (p := ⟨g, 0, none⟩) (.inl (by simp)) _)
set_option maxRecDepth 100000 in
set_option maxHeartbeats 400000 in
theorem rd_num (h : RDK w0 w g x) : Calls Try.prog 56 #[.pointer (some ⟨g, 0, none⟩)] w fun r w' => r = .returned (.int .u64 (x.numV : Int)) ∧ RDK w0 w' g x.numX ∧ Frm g w w' := by
  have c0 := h.1.c0
  have c1 := h.1.c1
  have f0 := h.1.fr 0
  have f1 := h.1.fr 1
  have H := Lib.hid h; clear h
  by_cases he : x.e = 0
  · rw [he] at c1
    have hE : ∀ e, numF 10 x.s.data.toList 0 0 = .error e → x.numV = 0 ∧ x.numX = { x with e := e } := fun e h => ⟨by rw [RD.numV, if_pos he, h], by rw [RD.numX, if_pos he, h]⟩
    have hO : ∀ m k, numF 10 x.s.data.toList 0 0 = .ok (m, k) → x.numV = m ∧ x.numX = { x with s := x.s.extract k x.s.size } := fun m k h => ⟨by rw [RD.numV, if_pos he, h], by rw [RD.numX, if_pos he, h]⟩
    obtain ⟨R, hR⟩ : ∃ R, numF 10 x.s.data.toList 0 0 = R := ⟨_, rfl⟩
    rw [hR] at hE hO
    have HE := Lib.hid hE; have HO := Lib.hid hO; clear hE hO
    obtain ⟨V, hV⟩ : ∃ V, x.numV = V := ⟨_, rfl⟩
    obtain ⟨X', hX'⟩ : ∃ X', x.numX = X' := ⟨_, rfl⟩
    simp only [hV, hX'] at HE HO ⊢
    clear hV hX'
    go_enter Try.func56, Try.ntmps56
    go_wp2
    go_step3
    go_wp2
    go_step3
    go_wp2
    go_loop [3, 4, 5] (fun nv av ev => ∃ k m : Nat, k ≤ 10 ∧ k ≤ x.s.size ∧ m < 18446744073709551616 ∧ av = .int .i64 (k : Int) ∧ nv = .int .u64 (m : Int) ∧ ev = .int .i64 3 ∧ R = numF (10 - k) (x.s.data.toList.drop k) k m) (fun _ av _ => 10 - (intOf av).toNat)
    case atStart => exact ⟨0, 0, by omega, Nat.zero_le _, by decide, rfl, rfl, rfl, by rw [← hR]; rfl⟩
    case round =>
      obtain ⟨k, m, hk10, hks, hm, rfl, rfl, rfl, hnum⟩ := hrel
      clear hR
      have hLl : x.s.data.toList.length = x.s.size := by rw [Array.length_toList]; rfl
      by_cases hk : k = 10
      · subst hk
        have HR := Lib.hid (show R = .error 3 from hnum); clear hnum hLl
        go_wp2
        all_goals
          try rw [Exit.noGoto_ret]
          go_ret
          have hq := rdk_err H.out 3
          obtain ⟨q1, q2⟩ := HE.out 3 HR.out
          exact ⟨by rw [q1]; rfl, by rw [q2]; exact hq.1, hq.2⟩
      · by_cases hk2 : k = x.s.size
        · have HR := Lib.hid (show R = .error 2 by rw [hnum, show 10 - k = (9 - k) + 1 by omega, List.drop_eq_nil_of_le (by omega)]; rfl); clear hnum hLl
          subst hk2
          go_wp2
          all_goals
            try rw [Exit.noGoto_ret]
            go_ret
            have hq := rdk_err H.out 2
            obtain ⟨q1, q2⟩ := HE.out 2 HR.out
            exact ⟨by rw [q1]; rfl, by rw [q2]; exact hq.1, hq.2⟩
        · have hklt : k < x.s.size := by omega
          have hki : (k : Int) < (x.s.size : Int) := by omega
          have hki2 : ¬ (k : Int) = (x.s.size : Int) := by omega
          have hki3 : (k : Int) < 10 := by omega
          obtain ⟨c, hc⟩ : ∃ c : Nat, x.s[k].toNat = c := ⟨_, rfl⟩
          have hc256 : c < 256 := by rw [← hc]; exact x.s[k].toNat_lt
          obtain ⟨hA, hB, hC⟩ := numF_step (c := c) (by omega) (by omega) (by rw [← hc]; rfl) hnum
          obtain ⟨b, hb1, hb2⟩ := num_digit m c k hm
          have hlt := numOr_lt m c k hm
          have hk1 : ((k + 1 : Nat) : Int) ≤ (x.s.size : Int) := by omega
          have hk1' : (k : Int) + 1 ≤ (x.s.size : Int) := by omega
          have hk1n : k + 1 ≤ x.s.size := by omega
          generalize numOr m c k = M at *
          have HA := Lib.hid hA; have HB := Lib.hid hB; have HC := Lib.hid hC
          clear hA hB hC hnum hLl
          have hcase : (128 ≤ c) ∨ (c = 0 ∧ 0 < k) ∨ (c = 0 ∧ k = 0) ∨ (¬ 128 ≤ c ∧ ¬ c = 0 ∧ k = 9 ∧ 1 < c) ∨ (¬ 128 ≤ c ∧ ¬ c = 0 ∧ k = 9 ∧ c = 1) ∨ (¬ 128 ≤ c ∧ ¬ c = 0 ∧ ¬ k = 9) := by omega
          have hki2' : ((k : Int) == (x.s.size : Int)) = false := by rw [beq_eq_false_iff_ne]; exact hki2
          clear hki2 hk hk2 hks hk10 hc256
          rcases hcase with h1 | ⟨h1, h2⟩ | ⟨h1, h2⟩ | ⟨h1, h2, h3, h4⟩ | ⟨h1, h2, h3, h4⟩ | ⟨h1, h2, h3⟩
          · have g1 : (128 : Int) ≤ (c : Int) := by omega
            have HR := Lib.hid (HA.out h1); clear HA HB HC
            go_wp2
            refine ⟨⟨k + 1, M, by omega, by omega, hlt, by simp, rfl, rfl, HR.out⟩, ?_⟩
            simp [intOf]; omega
          · have g1 : ¬ (128 : Int) ≤ (c : Int) := by omega
            have g2 : ((c : Int) == 0) = true := by rw [beq_iff_eq]; omega
            have g3 : (1 : Int) < (k : Int) + 1 := by omega
            have HR := Lib.hid (HB.out (by omega) (.inl ⟨h1, h2⟩)); clear HA HB HC h1 h2
            go_wp2
            all_goals
              try rw [Exit.noGoto_ret]
              go_ret
              have hq := rdk_err H.out 3
              obtain ⟨q1, q2⟩ := HE.out 3 HR.out
              exact ⟨by rw [q1]; rfl, by rw [q2]; exact hq.1, hq.2⟩
          · have g1 : ¬ (128 : Int) ≤ (c : Int) := by omega
            have g2 : ((c : Int) == 0) = true := by rw [beq_iff_eq]; omega
            have g3 : ¬ (1 : Int) < (k : Int) + 1 := by omega
            have g4 : ((k : Int) + 1 == 10) = false := by rw [beq_eq_false_iff_ne]; omega
            have HR := Lib.hid (HC.out (by omega) (by omega)); clear HA HB HC h1 h2
            go_wp2
            all_goals
              try rw [Exit.noGoto_ret]
              go_ret
              have hq := rdk_rest H.out (x.s.extract (k + 1) x.s.size)
              obtain ⟨q1, q2⟩ := HO.out _ _ HR.out
              exact ⟨by rw [q1]; rfl, by rw [q2]; exact hq.1, hq.2⟩
          · have g1 : ¬ (128 : Int) ≤ (c : Int) := by omega
            have g2 : ((c : Int) == 0) = false := by rw [beq_eq_false_iff_ne]; omega
            have g4 : ((k : Int) + 1 == 10) = true := by rw [beq_iff_eq]; omega
            have g5 : (1 : Int) < (c : Int) := by omega
            have HR := Lib.hid (HB.out h1 (.inr ⟨h3, h4⟩)); clear HA HB HC h1 h2 h3 h4
            go_wp2
            all_goals
              try rw [Exit.noGoto_ret]
              go_ret
              have hq := rdk_err H.out 3
              obtain ⟨q1, q2⟩ := HE.out 3 HR.out
              exact ⟨by rw [q1]; rfl, by rw [q2]; exact hq.1, hq.2⟩
          · have g1 : ¬ (128 : Int) ≤ (c : Int) := by omega
            have g2 : ((c : Int) == 0) = false := by rw [beq_eq_false_iff_ne]; omega
            have g4 : ((k : Int) + 1 == 10) = true := by rw [beq_iff_eq]; omega
            have g5 : ¬ (1 : Int) < (c : Int) := by omega
            have HR := Lib.hid (HC.out h1 (by omega)); clear HA HB HC h1 h2 h3 h4
            go_wp2
            all_goals
              try rw [Exit.noGoto_ret]
              go_ret
              have hq := rdk_rest H.out (x.s.extract (k + 1) x.s.size)
              obtain ⟨q1, q2⟩ := HO.out _ _ HR.out
              exact ⟨by rw [q1]; rfl, by rw [q2]; exact hq.1, hq.2⟩
          · have g1 : ¬ (128 : Int) ≤ (c : Int) := by omega
            have g2 : ((c : Int) == 0) = false := by rw [beq_eq_false_iff_ne]; omega
            have g4 : ((k : Int) + 1 == 10) = false := by rw [beq_eq_false_iff_ne]; omega
            have HR := Lib.hid (HC.out h1 (by omega)); clear HA HB HC h1 h2 h3
            go_wp2
            all_goals
              try rw [Exit.noGoto_ret]
              go_ret
              have hq := rdk_rest H.out (x.s.extract (k + 1) x.s.size)
              obtain ⟨q1, q2⟩ := HO.out _ _ HR.out
              exact ⟨by rw [q1]; rfl, by rw [q2]; exact hq.1, hq.2⟩
  · have hne : ¬ (x.e : Int) = 0 := by omega
    have hv : x.numV = 0 := by rw [RD.numV, if_neg he]
    have hx : x.numX = x := by rw [RD.numX, if_neg he]
    rw [hv, hx]
    clear hv hx
    go_enter Try.func56, Try.ntmps56
    go_wp2
    go_step3
    go_wp2
    rw [Exit.noGoto_ret]
    go_ret
    exact ⟨rfl, H.out, Frm.refl _ _⟩
end
end Go.Proofs.Ytjmdiobnappgkaa
