/-
  Layer 11 (wire): the document's reader: the walks of Raw, Byte, Num, Blob.
-/
import Derived.Test.YtjmdiobnappgkaaWireS2
namespace Go.Proofs.Ytjmdiobnappgkaa
open Go.RowKit
set_option linter.unusedVariables false
set_option linter.unusedSimpArgs false

def RV.takeX (v : RV) (n : Int) : RV := if v.e = 0 then (if n < 0 then { v with e := 1 } else if (v.rest.size : Int) < n then { v with e := 2 } else { v with at_ := v.at_ + n.toNat }) else v
theorem rest_go (v : RV) (k : Nat) : (⟨v.S, v.at_ + k, v.e⟩ : RV).rest = v.rest.extract k v.rest.size := by
  apply ba_list
  rw [RV.rest_list, extract_list, RV.rest_list, List.take_of_length_le (by rw [List.length_drop, List.length_drop, list_size, RV.rest_size]; omega), List.drop_drop]
theorem RV.takeX_rd (v : RV) (n : Int) : (v.takeX n).rd = v.rd.takeX n := by
  unfold RV.takeX RD.takeX
  by_cases he : v.e = 0
  · rw [if_pos he, if_pos (show v.rd.e = 0 from he)]
    by_cases h1 : n < 0
    · rw [if_pos h1, if_pos h1]; rfl
    · rw [if_neg h1, if_neg h1]
      by_cases h2 : (v.rest.size : Int) < n
      · rw [if_pos h2, if_pos (show (v.rd.s.size : Int) < n from h2)]; rfl
      · rw [if_neg h2, if_neg (show ¬ (v.rd.s.size : Int) < n from h2)]
        show RD.mk _ _ = RD.mk _ _
        rw [rest_go]; rfl
  · rw [if_neg he, if_neg (show ¬ v.rd.e = 0 from he)]
theorem RV.takeX_S (v : RV) (n : Int) : (v.takeX n).S = v.S := by
  unfold RV.takeX; split
  · split
    · rfl
    · split <;> rfl
  · rfl
def RV.numX (v : RV) : RV := if v.e = 0 then (match numF 10 v.rest.data.toList 0 0 with | .error e => { v with e := e } | .ok p => { v with at_ := v.at_ + p.2 }) else v
theorem RV.numX_rd (v : RV) : v.numX.rd = v.rd.numX := by
  unfold RV.numX RD.numX
  by_cases he : v.e = 0
  · rw [if_pos he, if_pos (show v.rd.e = 0 from he)]
    show RV.rd (match numF 10 v.rest.data.toList 0 0 with | .error e => _ | .ok p => _) = (match numF 10 v.rest.data.toList 0 0 with | .error e => _ | .ok p => _)
    cases numF 10 v.rest.data.toList 0 0 with
    | error e => rfl
    | ok p => show RD.mk _ _ = RD.mk _ _; rw [rest_go]; rfl
  · rw [if_neg he, if_neg (show ¬ v.rd.e = 0 from he)]
theorem RV.numX_S (v : RV) : v.numX.S = v.S := by
  unfold RV.numX; split
  · split <;> rfl
  · rfl
section
variable {w0 w w' : World} {g : Nat} {v : RV}
set_option maxRecDepth 100000 in
set_option maxHeartbeats 800000 in
theorem v_rawd (h : RVK w0 w g v) (n : Int) : Calls Try.prog 99 #[.pointer (some ⟨g, 0, none⟩), .int .i64 n] w fun r w' => r = .returned (.string (v.rd.takeS n)) ∧ RVK w0 w' g (v.takeX n) ∧ Frm g w w' := by
  have hz := v.rest_size
  have h5 := h.2.2.2.2.1
  have h6 := h.2.2.2.2.2
  have hcase : (n < 0) ∨ (¬ n < 0 ∧ (v.rest.size : Int) < n) ∨ (¬ n < 0 ∧ ¬ (v.rest.size : Int) < n ∧ ¬ v.e = 0) ∨ (0 ≤ n ∧ ¬ (v.rest.size : Int) < n ∧ v.e = 0) := by omega
  rcases hcase with hn | ⟨hn, hn2⟩ | ⟨hn, hn2, he⟩ | ⟨hn, hn2, he⟩
  · have r1 : v.rd.takeS n = ⟨#[]⟩ := by rw [RD.takeS, if_neg (fun c => by omega)]
    have r2 : v.takeX n = v.fail 1 := by
      rw [RV.takeX, RV.fail]
      by_cases he : v.e = 0
      · rw [if_pos he, if_pos he, if_pos hn]
      · rw [if_neg he, if_neg he]
    rw [r1, r2]
    have hE : ¬ (v.fail 1).e = 0 := by
      rw [RV.fail]; by_cases he : v.e = 0
      · rw [if_pos he]; show ¬ (1 : Nat) = 0; decide
      · rw [if_neg he]; exact he
    have hR : (v.fail 1).rest = v.rest := by
      rw [RV.fail]; split <;> rfl
    have hE2 : ¬ ((v.fail 1).e : Int) = 0 := by omega
    have hl : ¬ ((v.fail 1).rest.size : Int) < n := by rw [hR]; omega
    have Hf := Lib.hid (v_fail h 1 1 rfl)
    clear r1 r2 hR hE hz h5 h6 h
    generalize v.fail 1 = v1 at *
    go_enter Try.func99, Try.ntmps99
    go_wp2_with fail
    refine Hf.out.mono ?_
    rintro e w1 ⟨rfl, k1, m1⟩
    go_wp2_with fail
    refine (v_left k1).mono ?_
    rintro e w2 ⟨rfl, q, rfl⟩
    have c2 := k1.1.c2
    have K1 := Lib.hid k1; have M1 := Lib.hid m1; clear k1 m1
    go_wp2
    go_ret
    exact ⟨rfl, K1.out.dwN q, Only.drewN M1.out q⟩
  · have r1 : v.rd.takeS n = ⟨#[]⟩ := by rw [RD.takeS, if_neg (fun c => by have := c.2.2; have e : v.rd.s.size = v.rest.size := rfl; omega)]
    have r2 : v.takeX n = v.fail 2 := by
      rw [RV.takeX, RV.fail]
      by_cases he : v.e = 0
      · rw [if_pos he, if_pos he, if_neg hn, if_pos hn2]
      · rw [if_neg he, if_neg he]
    rw [r1, r2]
    have hE : ¬ (v.fail 2).e = 0 := by
      rw [RV.fail]; by_cases he : v.e = 0
      · rw [if_pos he]; show ¬ (2 : Nat) = 0; decide
      · rw [if_neg he]; exact he
    have hE2 : ¬ ((v.fail 2).e : Int) = 0 := by omega
    have H := Lib.hid h
    clear r1 r2 hE hz h5 h6 h
    go_enter Try.func99, Try.ntmps99
    go_wp2_with fail
    refine (v_left H.out).mono ?_
    rintro e w1 ⟨rfl, q, rfl⟩
    go_wp2_with fail
    refine (v_fail (H.out.dwN q) 2 2 rfl).mono ?_
    rintro e w1 ⟨rfl, k1, m1⟩
    have c2 := k1.1.c2
    have K1 := Lib.hid k1; have M1 := Lib.hid m1; clear k1 m1
    go_wp2
    go_ret
    exact ⟨rfl, K1.out, Frm.trans (Frm.ofBelow g (below_drewN' (Below.refl _ _) q)) M1.out⟩
  · have r1 : v.rd.takeS n = ⟨#[]⟩ := by rw [RD.takeS, if_neg (fun c => he c.1)]
    have r2 : v.takeX n = v := by rw [RV.takeX, if_neg he]
    rw [r1, r2]
    have hE2 : ¬ (v.e : Int) = 0 := by omega
    have c2 := h.1.c2
    have H := Lib.hid h
    clear r1 r2 hz h5 h6 h he
    go_enter Try.func99, Try.ntmps99
    go_wp2_with fail
    refine (v_left H.out).mono ?_
    rintro e w1 ⟨rfl, q, rfl⟩
    go_wp2
    go_ret
    exact ⟨rfl, H.out.dwN q, Frm.ofBelow g (below_drewN' (Below.refl _ _) q)⟩
  · obtain ⟨n, rfl⟩ := Int.eq_ofNat_of_zero_le hn
    have hle : v.at_ + n ≤ v.S.size := by omega
    have r1 : v.rd.takeS (n : Int) = v.S.extract v.at_ (v.at_ + n) := by
      rw [RD.takeS, if_pos ⟨he, hn, by have e : v.rd.s.size = v.rest.size := rfl; omega⟩]
      apply ba_list
      show (v.rest.extract 0 _).data.toList = _
      rw [extract_list, extract_list, RV.rest_list, Int.toNat_natCast]; simp
    have r2 : v.takeX (n : Int) = { v with at_ := v.at_ + n } := by rw [RV.takeX, if_pos he, if_neg (by omega), if_neg hn2, Int.toNat_natCast]
    rw [r1, r2]
    have c0 := h.1.c0
    have c1 := h.1.c1
    have c2 := h.1.c2
    have f1 := h.1.fr 1
    rw [he] at c2
    have H := Lib.hid h
    have s0 : ¬ (n : Int) < 0 := by omega
    have s1 : (v.at_ : Int) + (n : Int) ≤ (v.S.size : Int) := by omega
    have s2 : (v.S.size : Int) ≤ 1000000 := by omega
    have s3 : (v.at_ : Int) ≤ (v.at_ : Int) + (n : Int) := by omega
    have s4 : ((v.at_ : Int) + (n : Int)).toNat = v.at_ + n := by omega
    have s5 : IntKind.i64.wrap ((v.at_ : Int) + (n : Int)) = (v.at_ : Int) + (n : Int) := by rw [IntKind.wrap_i64]; omega
    have s6 : (0 : Int) ≤ (v.at_ : Int) + (n : Int) := by omega
    have S4 := Lib.hid s4
    clear r1 r2 hz h5 h6 h he
    go_enter Try.func99, Try.ntmps99
    go_wp2_with fail
    refine (v_left H.out).mono ?_
    rintro e w1 ⟨rfl, q, rfl⟩
    go_wp2
    go_quiet (fail)
    go_wp2
    go_ret
    have hq := fun q => (H.out.dwN q).go (v.at_ + n) hle ((v.at_ : Int) + (n : Int)) (by omega)
    exact ⟨rfl, (hq _).1, Frm.trans (Frm.ofBelow g (below_drewN' (Below.refl _ _) _)) (hq _).2⟩
theorem byte_pos {x : RD} (he : x.e = 0) (hs : 0 < x.s.size) : ∃ (t : ByteArray) (ht : 0 < t.size), x.takeS 1 = t ∧ x.byteV = t[0].toNat := by
  have hts : 0 < (x.s.extract 0 1).size := by rw [ByteArray.size_extract]; omega
  refine ⟨x.s.extract 0 1, hts, takeS_one_pos he hs, ?_⟩
  rw [RD.byteV, if_pos he, dif_pos hs]
  congr 1
  rw [ByteArray.getElem_extract]
set_option maxRecDepth 100000 in
set_option maxHeartbeats 400000 in
theorem v_byted (h : RVK w0 w g v) : Calls Try.prog 97 #[.pointer (some ⟨g, 0, none⟩)] w fun r w' => r = .returned (.int .i64 (v.rd.byteV : Int)) ∧ RVK w0 w' g (v.takeX 1) ∧ Frm g w w' := by
  by_cases hc : v.rd.e = 0 ∧ 0 < v.rd.s.size
  · obtain ⟨he, hs⟩ := hc
    obtain ⟨t, hts, ht, hv⟩ := byte_pos he hs
    rw [hv]
    have hne : t.toList.isEmpty = false := ne_toList (by omega)
    have hlt : (0 : Int) < (t.size : Int) := by omega
    have Ht := Lib.hid ht
    clear hv ht
    have h256 : t[0].toNat < 256 := t[0].toNat_lt
    go_enter Try.func97, Try.ntmps97
    go_wp2_with fail
    have hh := v_rawd h 1
    rw [Ht.out] at hh
    refine hh.mono ?_
    rintro e w1 ⟨rfl, h1, h2⟩
    have H1 := Lib.hid h1; have H2 := Lib.hid h2; clear h1 h2 h hh
    go_wp2
    go_ret
    exact ⟨rfl, H1.out, H2.out⟩
  · have hv : v.rd.byteV = 0 := by
      rw [RD.byteV]
      by_cases he : v.rd.e = 0
      · rw [if_pos he, dif_neg (fun hs => hc ⟨he, hs⟩)]
      · rw [if_neg he]
    rw [hv]
    have ht := takeS_one_neg hc
    have Ht := Lib.hid ht; clear ht hv
    go_enter Try.func97, Try.ntmps97
    go_wp2_with fail
    have hh := v_rawd h 1
    rw [Ht.out] at hh
    refine hh.mono ?_
    rintro e w1 ⟨rfl, h1, h2⟩
    have H1 := Lib.hid h1; have H2 := Lib.hid h2; clear h1 h2 h hh
    go_wp2
    go_ret
    exact ⟨rfl, H1.out, H2.out⟩
end
def AllBig (L : List UInt8) (k : Nat) : Prop := ∀ i (h : i < L.length), i < k → 128 ≤ L[i].toNat
theorem AllBig.zero (L : List UInt8) : AllBig L 0 := fun i h hi => absurd hi (Nat.not_lt_zero i)
theorem AllBig.succ {L : List UInt8} {k : Nat} (h : AllBig L k) (hk : k < L.length) (hb : 128 ≤ L[k].toNat) : AllBig L (k + 1) := fun i hi hik => by
  by_cases e : i = k
  · subst e; exact hb
  · exact h i hi (by omega)
section
variable {w0 w w' : World} {g : Nat} {v : RV}
theorem rv_keep {X : Prop} (h : RVK w0 w g v ∧ X) (hb : Below w.heap.size w w') : RVK w0 w' g v ∧ w'.cell? ⟨g, 0, none⟩ = some (.string v.S) ∧ w'.cell? ⟨g, 1, none⟩ = some (.int .i64 (v.at_ : Int)) := by
  have h2 := h.1.below hb
  exact ⟨h2, h2.1.c0, h2.1.c1⟩
/-- What Num has found when it stands at byte k. -/
def NumEnd (v : RV) (X : RV) (n : Nat) : Prop := v.rd.numV = n ∧ v.numX = X
theorem numEnd_err {v : RV} {e : Nat} (he : v.e = 0) (h : numF 10 v.rest.data.toList 0 0 = .error e) : NumEnd v (v.fail e) 0 :=
  ⟨by rw [RD.numV, if_pos (show v.rd.e = 0 from he), show v.rd.s = v.rest from rfl, h], by rw [RV.numX, if_pos he, h, RV.fail, if_pos he]⟩
theorem numEnd_ok {v : RV} {n k : Nat} (he : v.e = 0) (h : numF 10 v.rest.data.toList 0 0 = .ok (n, k)) : NumEnd v { v with at_ := v.at_ + k } n :=
  ⟨by rw [RD.numV, if_pos (show v.rd.e = 0 from he), show v.rd.s = v.rest from rfl, h], by rw [RV.numX, if_pos he, h]⟩
set_option maxRecDepth 100000 in
set_option maxHeartbeats 1600000 in
theorem v_numd (h : RVK w0 w g v) : Calls Try.prog 98 #[.pointer (some ⟨g, 0, none⟩)] w fun r w' => r = .returned (.int .u64 (v.rd.numV : Int)) ∧ RVK w0 w' g v.numX ∧ Frm g w w' := by
  by_cases he : v.e = 0
  · have hend : ∀ n X, NumEnd v X n → v.rd.numV = n ∧ v.numX = X := fun n X h => h
    have c2 := h.1.c2
    rw [he] at c2
    have hE : ∀ e, numF 10 v.rest.data.toList 0 0 = .error e → NumEnd v (v.fail e) 0 := fun e h => numEnd_err he h
    have hO : ∀ n k, numF 10 v.rest.data.toList 0 0 = .ok (n, k) → NumEnd v { v with at_ := v.at_ + k } n := fun n k h => numEnd_ok he h
    have HE := Lib.hid hE; have HO := Lib.hid hO; have Hend := Lib.hid hend
    clear hE hO hend
    obtain ⟨V, hV⟩ : ∃ V, v.rd.numV = V := ⟨_, rfl⟩
    obtain ⟨X', hX'⟩ : ∃ X', v.numX = X' := ⟨_, rfl⟩
    simp only [hV, hX'] at Hend ⊢
    clear hV hX'
    have hz := v.rest_size
    have h5 := h.2.2.2.2.1
    have h6 := h.2.2.2.2.2
    have hLl : v.rest.data.toList.length = v.rest.size := list_size _
    have H := Lib.hid h; have HLl := Lib.hid hLl; have HZ := Lib.hid hz
    clear h hLl hz
    go_enter Try.func98, Try.ntmps98
    go_wp2
    go_loopw [3] (fun iv wr => ∃ k : Nat, k ≤ 10 ∧ k ≤ v.rest.size ∧ iv = .int .i64 (k : Int) ∧ AllBig v.rest.data.toList k ∧ RVK w0 wr g v ∧ Frm g w wr) (fun iv _ => 10 - (intOf iv).toNat)
    case atStart => exact ⟨0, by omega, Nat.zero_le _, rfl, AllBig.zero _, H.out, Frm.refl _ _⟩
    case round =>
      clear c2
      obtain ⟨k, hk10, hks, rfl, hb, hp, hm⟩ := hrel
      have hM := Lib.hid hm; have HB := Lib.hid hb; clear hm hb
      have c0 := hp.1.c0
      have c1 := hp.1.c1
      have Hp := Lib.hid hp; clear hp
      have s0 : (0 : Int) ≤ (v.at_ : Int) + (k : Int) := by omega
      have s1 : (v.at_ : Int) + (k : Int) ≤ 2000000 := by have := HZ.out; omega
      have s2 : IntKind.i64.wrap ((v.at_ : Int) + (k : Int)) = (v.at_ : Int) + (k : Int) := by rw [IntKind.wrap_i64]; omega
      have s3 : ((v.at_ : Int) + (k : Int)).toNat = v.at_ + k := by omega
      by_cases hk : k < v.rest.size
      · have g1 : (k : Int) < (v.rest.size : Int) := by omega
        by_cases hk2 : k < 10
        · have g2 : (k : Int) < 10 := by omega
          have s4 : (v.at_ : Int) + (k : Int) < (v.S.size : Int) := by have := HZ.out; omega
          have s5 : v.at_ + k < v.S.size := by have := HZ.out; omega
          obtain ⟨c, hc⟩ : ∃ c : Nat, v.S[v.at_ + k].toNat = c := ⟨_, rfl⟩
          have hkl : k < v.rest.data.toList.length := by rw [HLl.out]; exact hk
          have hcL : v.rest.data.toList[k].toNat = c := by
            rw [List.getElem_of_eq (RV.rest_list v) hkl, List.getElem_drop, ← hc]; rfl
          have hc256 : c < 256 := by rw [← hc]; exact v.S[v.at_ + k].toNat_lt
          have hbig1 : 128 ≤ c → AllBig v.rest.data.toList (k + 1) := fun h => AllBig.succ HB.out hkl (by rw [hcL]; exact h)
          have hyes : ∀ n, n < 18446744073709551616 → numL n = v.rest.data.toList.take (k + 1) → NumEnd v { v with at_ := v.at_ + (k + 1) } n := fun n h1 h2 => HO.out _ _ (numF_yes h1 h2 hkl)
          have hno : c < 128 → (∀ n, n < 18446744073709551616 → numL n ≠ v.rest.data.toList.take (k + 1)) → NumEnd v (v.fail 3) 0 := fun hc h1 => HE.out _ (numF_no hk2 hkl HB.out (by rw [hcL]; exact hc) h1)
          have Hbig := Lib.hid hbig1; have Hyes := Lib.hid hyes; have Hno := Lib.hid hno
          clear hcL hkl hbig1 hyes hno
          by_cases hbig : 128 ≤ c
          · have g3 : (128 : Int) ≤ (c : Int) := by omega
            have HB2 := Lib.hid (Hbig.out hbig)
            clear hbig hc256 hk hk2 Hyes Hno
            go_wp2
            go_quiet ((go_at_call 62; exact Calls.quiet_of (v_left (Hp.out.dwN _))))
            go_wp2
            go_roundw
            case rel => exact ⟨k + 1, by omega, by omega, by go_num, HB2.out, Hp.out.dwN _, Only.drewN hM.out _⟩
            case measure => simp [intOf]; omega
          · have g3 : ¬ (128 : Int) ≤ (c : Int) := by omega
            have g4 : ((k : Int) == 10) = false := by rw [beq_eq_false_iff_ne]; omega
            have g5 : ((k : Int) == (v.rest.size : Int)) = false := by rw [beq_eq_false_iff_ne]; omega
            have hno := Hno.out (by omega)
            have Hno2 := Lib.hid hno
            clear hbig hc256 hk hk2 Hbig Hno hno
            go_wp2
            go_quiet ((go_at_call 62; exact Calls.quiet_of (v_left (Hp.out.dwN _))))
            go_wp2_with fail
            refine (v_left (Hp.out.dwN _)).mono ?_
            rintro e w1 ⟨rfl, q, rfl⟩
            have hp1 := Hp.out.dwN (nq + q)
            have hm1 : Frm g w (wr.drewN (nq + q)) := Only.drewN hM.out _
            have Hm1 := Lib.hid hm1; clear hm1
            have c0 := hp1.1.c0
            have c1 := hp1.1.c1
            have t1 : IntKind.i64.wrap ((v.at_ : Int) + (k : Int) + 1) = (v.at_ : Int) + (k : Int) + 1 := by rw [IntKind.wrap_i64]; omega
            have t2 : (v.at_ : Int) + (k : Int) + 1 ≤ (v.S.size : Int) := by omega
            have t3 : (v.at_ : Int) ≤ (v.at_ : Int) + (k : Int) + 1 := by omega
            have t4 : ((v.at_ : Int) + (k : Int) + 1).toNat = v.at_ + k + 1 := by omega
            have t5 : (0 : Int) ≤ (v.at_ : Int) + (k : Int) + 1 := by omega
            have t6 : (v.S.extract v.at_ (v.at_ + k + 1)).size ≤ 100000 := by rw [ByteArray.size_extract]; omega
            have t7 : (0 : Int) ≤ (v.at_ : Int) := by omega
            have hP : (v.S.extract v.at_ (v.at_ + k + 1)).data.toList = v.rest.data.toList.take (k + 1) := by
              rw [extract_list, RV.rest_list, show v.at_ + k + 1 - v.at_ = k + 1 by omega]
            have HP := Lib.hid hP; clear hP
            go_wp2_with fail
            go_region_held3 (fun wx => RVK w0 wx g v ∧ wx.cell? ⟨g, 0, none⟩ = some (.string v.S) ∧ wx.cell? ⟨g, 1, none⟩ = some (.int .i64 (v.at_ : Int))) (first | exact ⟨hp1.dw, c0, c1⟩ | exact rv_keep (by assumption) hbq | (go_keep; done))
              (first | (go_at_call 109; refine (number_spec (v.S.extract v.at_ (v.at_ + k + 1)) t6 _).mono ?_; rintro e w' ⟨n, b, rfl, n1, n2, n3, hbq⟩))
            rename_i hHeld
            have hq := hHeld.1
            have d1 := hHeld.2.2
            have e1 := hq.1.fr 1
            have hmq : Frm g w w' := Frm.trans (Only.drewN hM.out _) (Frm.ofBelow g hbq)
            rw [HP.out] at n2 n3
            have N1 := Lib.hid n1; have N2 := Lib.hid n2; have N3 := Lib.hid n3; have Hq := Lib.hid hq; have Hmq := Lib.hid hmq
            clear n1 n2 n3 hq hmq hHeld hbq hp1 c0 c1 t6
            cases b with
            | true =>
              have Hn := Lib.hid (Hyes.out n N1.out (N2.out rfl))
              have hgo := Hq.out.go (v.at_ + (k + 1)) (by omega) ((v.at_ : Int) + (k : Int) + 1) (by omega)
              have Hgo := Lib.hid hgo; clear hgo N1 N2 N3 Hno2 Hyes
              go_wp2
              go_ret
              obtain ⟨q1, q2⟩ := Hend.out _ _ Hn.out
              exact ⟨by rw [q1]; rfl, by rw [q2]; exact Hgo.out.1, Frm.trans Hmq.out Hgo.out.2⟩
            | false =>
              have Hn := Lib.hid (Hno2.out (N3.out rfl))
              clear N1 N2 N3 Hno2 Hyes d1 e1
              go_wp2_with fail
              refine (v_fail Hq.out 3 3 rfl).mono ?_
              rintro e w1 ⟨rfl, hp1, hm1⟩
              have H1 := Lib.hid hp1; have M1 := Lib.hid hm1; clear hp1 hm1
              go_wp2
              go_ret
              obtain ⟨q1, q2⟩ := Hend.out _ _ Hn.out
              exact ⟨by rw [q1]; rfl, by rw [q2]; exact H1.out, Hmq.out.trans M1.out⟩
        · have g2 : decide ((k : Int) < 10) = false := by simp; omega
          have g4 : ((k : Int) == 10) = true := by rw [beq_iff_eq]; omega
          have Hn := Lib.hid (HE.out 3 (numF_over 10 0 0 _ (by rw [HLl.out]; omega) (fun i hi hik => HB.out i hi (by omega))))
          clear hk hk2
          go_wp2
          go_quiet ((go_at_call 62; exact Calls.quiet_of (v_left (Hp.out.dwN _))))
          go_wp2_with fail
          refine (v_fail (Hp.out.dwN _) 3 3 rfl).mono ?_
          rintro e w1 ⟨rfl, hp1, hm1⟩
          have H1 := Lib.hid hp1; have M1 := Lib.hid hm1; clear hp1 hm1
          go_wp2
          go_ret
          obtain ⟨q1, q2⟩ := Hend.out _ _ Hn.out
          exact ⟨by rw [q1]; rfl, by rw [q2]; exact H1.out, (Frm.trans hM.out (Frm.ofBelow g (below_drewN' (Below.refl _ _) _))).trans M1.out⟩
      · have g1 : decide (k < v.rest.size) = false := by simp; omega
        have g5 : ((k : Int) == (v.rest.size : Int)) = true := by rw [beq_iff_eq]; omega
        by_cases hk2 : k = 10
        · have g4 : ((k : Int) == 10) = true := by rw [beq_iff_eq]; omega
          have Hn := Lib.hid (HE.out 3 (numF_over 10 0 0 _ (by rw [HLl.out]; omega) (fun i hi hik => HB.out i hi (by omega))))
          clear hk hk2
          go_wp2
          go_quiet ((go_at_call 62; exact Calls.quiet_of (v_left (Hp.out.dwN _))))
          go_wp2_with fail
          refine (v_fail (Hp.out.dwN _) 3 3 rfl).mono ?_
          rintro e w1 ⟨rfl, hp1, hm1⟩
          have H1 := Lib.hid hp1; have M1 := Lib.hid hm1; clear hp1 hm1
          go_wp2
          go_ret
          obtain ⟨q1, q2⟩ := Hend.out _ _ Hn.out
          exact ⟨by rw [q1]; rfl, by rw [q2]; exact H1.out, (Frm.trans hM.out (Frm.ofBelow g (below_drewN' (Below.refl _ _) _))).trans M1.out⟩
        · have g4 : ((k : Int) == 10) = false := by rw [beq_eq_false_iff_ne]; omega
          have Hn := Lib.hid (HE.out 2 (numF_under 10 0 0 _ (by rw [HLl.out]; omega) (fun i hi => HB.out i hi (by rw [HLl.out] at hi; omega))))
          clear hk hk2
          go_wp2
          go_quiet ((go_at_call 62; exact Calls.quiet_of (v_left (Hp.out.dwN _))))
          go_wp2_with fail
          refine (v_left (Hp.out.dwN _)).mono ?_
          rintro e w1 ⟨rfl, q, rfl⟩
          go_wp2_with fail
          refine (v_fail (Hp.out.dwN _) 2 2 rfl).mono ?_
          rintro e w1 ⟨rfl, hp1, hm1⟩
          have H1 := Lib.hid hp1; have M1 := Lib.hid hm1; clear hp1 hm1
          go_wp2
          go_ret
          obtain ⟨q1, q2⟩ := Hend.out _ _ Hn.out
          exact ⟨by rw [q1]; rfl, by rw [q2]; exact H1.out, (Frm.trans hM.out (Frm.ofBelow g (below_drewN' (Below.refl _ _) _))).trans M1.out⟩
  · have hne : ¬ (v.e : Int) = 0 := by omega
    have hv : v.rd.numV = 0 := by rw [RD.numV, if_neg (show ¬ v.rd.e = 0 from he)]
    have hx : v.numX = v := by rw [RV.numX, if_neg he]
    rw [hv, hx]
    have c2 := h.1.c2
    have H := Lib.hid h
    clear hv hx h
    go_enter Try.func98, Try.ntmps98
    go_wp2
    go_ret
    exact ⟨rfl, H.out, Frm.refl _ _⟩
def RV.blobX (v : RV) (limit : Int) : RV := if v.numX.e = 0 then (if v.rd.numV ≤ 4096 ∧ (v.rd.numV : Int) ≤ limit then (if (v.numX.takeX v.rd.numV).e = 0 then v.numX.takeX v.rd.numV else { v.numX.takeX v.rd.numV with at_ := v.at_ }) else { v with e := 4 }) else v.numX
theorem RV.blobX_rd (v : RV) (limit : Int) : (v.blobX limit).rd = v.rd.blobX limit := by
  have hn := v.numX_rd
  unfold RV.blobX RD.blobX
  rw [← hn]
  have he : v.numX.rd.e = v.numX.e := rfl
  rw [he]
  by_cases h1 : v.numX.e = 0
  · rw [if_pos h1, if_pos h1]
    by_cases h2 : v.rd.numV ≤ 4096 ∧ (v.rd.numV : Int) ≤ limit
    · rw [if_pos h2, if_pos h2]
      rw [← RV.takeX_rd]
      unfold RD.back
      have he2 : (v.numX.takeX v.rd.numV).rd.e = (v.numX.takeX v.rd.numV).e := rfl
      rw [he2]
      by_cases h3 : (v.numX.takeX v.rd.numV).e = 0
      · rw [if_pos h3, if_pos h3]
      · rw [if_neg h3, if_neg h3]
        have hS : (v.numX.takeX v.rd.numV).S = v.S := by rw [RV.takeX_S, RV.numX_S]
        show RD.mk ((v.numX.takeX v.rd.numV).S.extract v.at_ (v.numX.takeX v.rd.numV).S.size) _ = RD.mk _ _
        rw [hS]; rfl
    · rw [if_neg h2, if_neg h2]; rfl
  · rw [if_neg h1, if_neg h1]
set_option maxRecDepth 100000 in
set_option maxHeartbeats 800000 in
theorem v_blobd (h : RVK w0 w g v) (limit : Int) : Calls Try.prog 101 #[.pointer (some ⟨g, 0, none⟩), .int .i64 limit] w fun r w' => r = .returned (.string (v.rd.blobS limit)) ∧ RVK w0 w' g (v.blobX limit) ∧ Frm g w w' := by
  have c1 := h.1.c1
  have h5 := h.2.2.2.2.1
  have hN := v.numX_rd
  have hNS := v.numX_S
  obtain ⟨y, hy⟩ : ∃ y, v.numX = y := ⟨_, rfl⟩
  obtain ⟨n, hn⟩ : ∃ n, v.rd.numV = n := ⟨_, rfl⟩
  obtain ⟨bs, hbs⟩ : ∃ bs, v.rd.blobS limit = bs := ⟨_, rfl⟩
  obtain ⟨bx, hbx⟩ : ∃ bx, v.blobX limit = bx := ⟨_, rfl⟩
  have hnum := v_numd h
  rw [hy, hn] at hnum
  rw [hy] at hN hNS
  have hs := hbs; have hx := hbx
  rw [RD.blobS, ← hN, hn] at hs
  rw [RV.blobX, hy, hn] at hx
  rw [hbs, hbx]
  have Hs := Lib.hid hs; have Hx := Lib.hid hx; have HNS := Lib.hid hNS
  clear hs hx hbs hbx hy hn hN hNS
  have hye : y.rd.e = y.e := rfl
  have hcase : (¬ y.e = 0) ∨ (y.e = 0 ∧ 4096 < n) ∨ (y.e = 0 ∧ n ≤ 4096 ∧ limit < (n : Int)) ∨ (y.e = 0 ∧ n ≤ 4096 ∧ (n : Int) ≤ limit) := by omega
  rcases hcase with he | ⟨he, h1⟩ | ⟨he, h1, h2⟩ | ⟨he, h1, h2⟩
  · have r1 : bs = ⟨#[]⟩ := by rw [← Hs.out, if_neg (fun c => he c.1)]
    have r2 : bx = y := by rw [← Hx.out, if_neg he]
    rw [r1, r2]
    have hne : ¬ (y.e : Int) = 0 := by omega
    clear hye
    go_enter Try.func101, Try.ntmps101
    go_wp2_with fail
    refine hnum.mono ?_
    rintro e w1 ⟨rfl, k1, k2⟩
    have d1 := k1.1.c2
    have K1 := Lib.hid k1; have K2 := Lib.hid k2; clear k1 k2 hnum h
    go_wp2
    go_ret
    exact ⟨rfl, K1.out, K2.out⟩
  · have r1 : bs = ⟨#[]⟩ := by rw [← Hs.out, if_neg (by omega)]
    have r2 : bx = { v with e := 4 } := by rw [← Hx.out, if_pos he, if_neg (by omega)]
    rw [r1, r2]
    have g1 : (4096 : Int) < (n : Int) := by omega
    have r3 : ({ y with at_ := v.at_ } : RV).fail 4 = { v with e := 4 } := by
      rw [RV.fail, if_pos (show ({ y with at_ := v.at_ } : RV).e = 0 from he)]
      show RV.mk y.S v.at_ 4 = RV.mk v.S v.at_ 4
      rw [HNS.out]
    have R3 := Lib.hid r3; clear r3 hye r1 r2
    go_enter Try.func101, Try.ntmps101
    go_wp2_with fail
    refine hnum.mono ?_
    rintro e w1 ⟨rfl, k1, k2⟩
    have d1 := k1.1.c1
    have d2 := k1.1.c2
    have f1 := k1.1.fr 1
    rw [he] at d2
    have hgo := k1.go v.at_ (by rw [HNS.out]; exact h5) (v.at_ : Int) rfl
    have K2 := Lib.hid k2; have Hgo := Lib.hid hgo; clear k1 k2 hnum h hgo
    go_wp2_with fail
    refine (v_fail Hgo.out.1 4 4 rfl).mono ?_
    rintro e w2 ⟨rfl, p1, p2⟩
    rw [R3.out] at p1
    have P1 := Lib.hid p1; have P2 := Lib.hid p2; clear p1 p2
    go_wp2
    go_ret
    exact ⟨rfl, P1.out, (K2.out.trans Hgo.out.2).trans P2.out⟩
  · have r1 : bs = ⟨#[]⟩ := by rw [← Hs.out, if_neg (by omega)]
    have r2 : bx = { v with e := 4 } := by rw [← Hx.out, if_pos he, if_neg (by omega)]
    rw [r1, r2]
    have g1 : ¬ (4096 : Int) < (n : Int) := by omega
    have g2 : wrap64 (n : Int) = (n : Int) := IntWalk.wrap64_in _ ⟨by omega, by omega⟩
    have r3 : ({ y with at_ := v.at_ } : RV).fail 4 = { v with e := 4 } := by
      rw [RV.fail, if_pos (show ({ y with at_ := v.at_ } : RV).e = 0 from he)]
      show RV.mk y.S v.at_ 4 = RV.mk v.S v.at_ 4
      rw [HNS.out]
    have R3 := Lib.hid r3; clear r3 hye r1 r2
    go_enter Try.func101, Try.ntmps101
    go_wp2_with fail
    refine hnum.mono ?_
    rintro e w1 ⟨rfl, k1, k2⟩
    have d1 := k1.1.c1
    have d2 := k1.1.c2
    have f1 := k1.1.fr 1
    rw [he] at d2
    have hgo := k1.go v.at_ (by rw [HNS.out]; exact h5) (v.at_ : Int) rfl
    have K2 := Lib.hid k2; have Hgo := Lib.hid hgo; clear k1 k2 hnum h hgo
    go_wp2_with fail
    refine (v_fail Hgo.out.1 4 4 rfl).mono ?_
    rintro e w2 ⟨rfl, p1, p2⟩
    rw [R3.out] at p1
    have P1 := Lib.hid p1; have P2 := Lib.hid p2; clear p1 p2
    go_wp2
    go_ret
    exact ⟨rfl, P1.out, (K2.out.trans Hgo.out.2).trans P2.out⟩
  · have r1 : bs = y.rd.takeS n := by rw [← Hs.out, if_pos ⟨he, h1, h2⟩]
    have r2 : bx = (if (y.takeX n).e = 0 then y.takeX n else { y.takeX n with at_ := v.at_ }) := by rw [← Hx.out, if_pos he, if_pos ⟨h1, h2⟩]
    rw [r1, r2]
    have hSz : (y.takeX n).S = v.S := by rw [RV.takeX_S, HNS.out]
    have g1 : ¬ (4096 : Int) < (n : Int) := by omega
    have g2 : wrap64 (n : Int) = (n : Int) := IntWalk.wrap64_in _ ⟨by omega, by omega⟩
    have g3 : ¬ limit < (n : Int) := by omega
    obtain ⟨Y, hY⟩ : ∃ Y, (if (y.takeX n).e = 0 then y.takeX n else { y.takeX n with at_ := v.at_ }) = Y := ⟨_, rfl⟩
    rw [hY]
    have HSz := Lib.hid hSz; have HY := Lib.hid hY
    clear hye r1 r2 hSz hY
    go_enter Try.func101, Try.ntmps101
    go_wp2_with fail
    refine hnum.mono ?_
    rintro e w1 ⟨rfl, k1, k2⟩
    have d2 := k1.1.c2
    rw [he] at d2
    have K2 := Lib.hid k2; clear k2 hnum h
    go_wp2_with fail
    refine (v_rawd k1 (n : Int)).mono ?_
    rintro e w2 ⟨rfl, p1, p2⟩
    have e1 := p1.1.c1
    have e2 := p1.1.c2
    have f1 := p1.1.fr 1
    have hgo := p1.go v.at_ (by rw [HSz.out]; exact h5) (v.at_ : Int) rfl
    have P1 := Lib.hid p1; have P2 := Lib.hid p2; have Hgo := Lib.hid hgo; clear p1 p2 hgo k1 d2
    by_cases hz : (y.takeX n).e = 0
    · have hy2 := HY.out
      rw [if_pos hz] at hy2
      rw [hz] at e2
      have Hy2 := Lib.hid hy2; clear hz hy2
      go_wp2
      go_ret
      exact ⟨rfl, by rw [← Hy2.out]; exact P1.out, K2.out.trans P2.out⟩
    · have hy2 := HY.out
      rw [if_neg hz] at hy2
      have Hy2 := Lib.hid hy2; clear hy2
      have hz2 : ¬ ((y.takeX n).e : Int) = 0 := by omega
      go_wp2
      go_ret
      exact ⟨rfl, by rw [← Hy2.out]; exact Hgo.out.1, (K2.out.trans P2.out).trans Hgo.out.2⟩
end
end Go.Proofs.Ytjmdiobnappgkaa
