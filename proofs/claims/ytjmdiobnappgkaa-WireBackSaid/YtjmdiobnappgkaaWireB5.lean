/-
  Layer 11 (wire): WireBack walked.
-/
import Derived.Test.YtjmdiobnappgkaaWireB4
import Derived.Test.YtjmdiobnappgkaaWireM
namespace Go.Proofs.Ytjmdiobnappgkaa
open Go.RowKit
set_option linter.unusedVariables false
set_option linter.unusedSimpArgs false

theorem RDK.dw {w0 w : World} {g : Nat} {x : RD} (h : RDK w0 w g x) : RDK w0 w.drew g x := h.below ((Below.refl _ _).drew)
theorem RDK.dwN {w0 w : World} {g : Nat} {x : RD} (h : RDK w0 w g x) (n : Nat) : RDK w0 (w.drewN n) g x := h.below (below_drewN' (Below.refl _ _) n)
theorem rdkb {w0 w : World} {g : Nat} {x : RD} (h : RDK w0 w g x) : Below w0.heap.size w0 w := h.2.2.1
/-- Both readers. -/
def TwoR (w0 w : World) (gr gs : Nat) (y z : RD) : Prop := RDK w0 w gr y ∧ RDK w0 w gs z
theorem TwoR.dw {w0 w : World} {gr gs : Nat} {y z : RD} (h : TwoR w0 w gr gs y z) : TwoR w0 w.drew gr gs y z := ⟨h.1.dw, h.2.dw⟩
theorem TwoR.dwN {w0 w : World} {gr gs : Nat} {y z : RD} (h : TwoR w0 w gr gs y z) (n : Nat) : TwoR w0 (w.drewN n) gr gs y z := ⟨h.1.dwN n, h.2.dwN n⟩
theorem TwoR.l {w0 w w' : World} {gr gs : Nat} {y y' z : RD} (h : TwoR w0 w gr gs y z) (hn : gr ≠ gs) (k : RDK w0 w' gr y') (m : Frm gr w w') : TwoR w0 w' gr gs y' z := ⟨k, h.2.frm k.2.2.1 m hn.symm⟩
theorem TwoR.r {w0 w w' : World} {gr gs : Nat} {y z z' : RD} (h : TwoR w0 w gr gs y z) (hn : gr ≠ gs) (k : RDK w0 w' gs z') (m : Frm gs w w') : TwoR w0 w' gr gs y z' := ⟨h.1.frm k.2.2.1 m hn, k⟩

section
variable {w0 w : World} {gr gs : Nat} {y z y' z' : RD}
theorem l_byte (h : TwoR w0 w gr gs y z) (hn : gr ≠ gs) (v : Int) (hv : (y.byteV : Int) = v) (hy : y.takeX 1 = y') : Calls Try.prog 55 #[.pointer (some ⟨gr, 0, none⟩)] w fun r w' => r = .returned (.int .i64 v) ∧ TwoR w0 w' gr gs y' z :=
  (ar_byte h.1 v hv hy).mono fun _ _ ⟨e, k, m⟩ => ⟨e, h.l hn k m⟩
theorem l_num (h : TwoR w0 w gr gs y z) (hn : gr ≠ gs) (v : Int) (hv : (y.numV : Int) = v) (hy : y.numX = y') : Calls Try.prog 56 #[.pointer (some ⟨gr, 0, none⟩)] w fun r w' => r = .returned (.int .u64 v) ∧ TwoR w0 w' gr gs y' z :=
  (ar_num h.1 v hv hy).mono fun _ _ ⟨e, k, m⟩ => ⟨e, h.l hn k m⟩
theorem l_raw (h : TwoR w0 w gr gs y z) (hn : gr ≠ gs) (n : Int) (t : ByteArray) (hv : y.takeS n = t) (hy : y.takeX n = y') : Calls Try.prog 57 #[.pointer (some ⟨gr, 0, none⟩), .int .i64 n] w fun r w' => r = .returned (.string t) ∧ TwoR w0 w' gr gs y' z :=
  (ar_raw h.1 n t hv hy).mono fun _ _ ⟨e, k, m⟩ => ⟨e, h.l hn k m⟩
theorem l_blob (h : TwoR w0 w gr gs y z) (hn : gr ≠ gs) (n : Int) (t : ByteArray) (hv : y.blobS n = t) (hy : y.blobX n = y') : Calls Try.prog 58 #[.pointer (some ⟨gr, 0, none⟩), .int .i64 n] w fun r w' => r = .returned (.string t) ∧ TwoR w0 w' gr gs y' z :=
  (ar_blob h.1 n t hv hy).mono fun _ _ ⟨e, k, m⟩ => ⟨e, h.l hn k m⟩
theorem r_byte (h : TwoR w0 w gr gs y z) (hn : gr ≠ gs) (hy : z.takeX 1 = z') : Calls Try.prog 55 #[.pointer (some ⟨gs, 0, none⟩)] w fun r w' => r = .returned (.int .i64 (z.byteV : Int)) ∧ TwoR w0 w' gr gs y z' :=
  (ar_byte h.2 _ rfl hy).mono fun _ _ ⟨e, k, m⟩ => ⟨e, h.r hn k m⟩
theorem r_num (h : TwoR w0 w gr gs y z) (hn : gr ≠ gs) (hy : z.numX = z') : Calls Try.prog 56 #[.pointer (some ⟨gs, 0, none⟩)] w fun r w' => r = .returned (.int .u64 (z.numV : Int)) ∧ TwoR w0 w' gr gs y z' :=
  (ar_num h.2 _ rfl hy).mono fun _ _ ⟨e, k, m⟩ => ⟨e, h.r hn k m⟩
theorem r_raw (h : TwoR w0 w gr gs y z) (hn : gr ≠ gs) (n : Int) (hy : z.takeX n = z') : Calls Try.prog 57 #[.pointer (some ⟨gs, 0, none⟩), .int .i64 n] w fun r w' => r = .returned (.string (z.takeS n)) ∧ TwoR w0 w' gr gs y z' :=
  (ar_raw h.2 n _ rfl hy).mono fun _ _ ⟨e, k, m⟩ => ⟨e, h.r hn k m⟩
theorem r_blob (h : TwoR w0 w gr gs y z) (hn : gr ≠ gs) (n : Int) (hy : z.blobX n = z') : Calls Try.prog 58 #[.pointer (some ⟨gs, 0, none⟩), .int .i64 n] w fun r w' => r = .returned (.string (z.blobS n)) ∧ TwoR w0 w' gr gs y z' :=
  (ar_blob h.2 n _ rfl hy).mono fun _ _ ⟨e, k, m⟩ => ⟨e, h.r hn k m⟩
end

set_option maxRecDepth 100000 in
set_option maxHeartbeats 8000000 in
theorem wireBack_walk (A : Option Addr) (len cap : Nat) (ops : Nat → PartV) (w : World) (ho : IsParts w w.heap.size A len ops) (f : Nat) (hf : f < 65536) :
    Calls Try.prog 14 #[.slice A len cap, .int .u16 (f : Int)] w fun e w' => e = .returned (.bool true) ∧ Below w.heap.size w w' := by
  have hlen : len ≤ 9223372036854775807 := ho.1
  go_enter Try.func14, Try.ntmps14
  go_wp2
  go_loopw [6, 7] (fun nv i wr => ∃ k : Nat, k ≤ len ∧ k ≤ 12 ∧ i = .int .i64 k ∧ nv = .int .i64 k ∧ (allB ops k).length ≤ 110 * k ∧ WK w wr w.heap.size ⟨allB ops k, 0⟩) (fun _ i _ => 12 - (intOf i).toNat)
  case atStart => exact ⟨0, Nat.zero_le _, Nat.zero_le _, rfl, rfl, Nat.zero_le _, wnew w⟩
  case round =>
    obtain ⟨k, hk1, hk2, rfl, rfl, hal, hp⟩ := hrel
    have hcase : (k < len ∧ k < 12) ∨ (¬ k < len) ∨ (k < len ∧ ¬ k < 12) := by omega
    rcases hcase with ⟨hlt, hlt2⟩ | hlt | ⟨hlt, hlt2⟩
    · obtain ⟨b, q, o⟩ := ho.2 k hlt
      obtain ⟨op, hop⟩ : ∃ op, ops k = op := ⟨_, rfl⟩
      rw [hop] at o
      have hput := fun s h => bk_put (s := s) hop h
      obtain ⟨K, N, S⟩ := op
      obtain ⟨rfl, hbl, c0, c1, c2, hK, hN, hS⟩ := o
      simp only at c0 c1 c2 hK hN hS
      have hpn : K = 1 → (⟨(numL N).toArray⟩ : ByteArray).data.toList = pb ⟨K, N, S⟩ := fun h => pb_num (o := ⟨K, N, S⟩) h
      have hpr : K = 2 → (⟨K, N, S⟩ : PartV).str.data.toList = pb ⟨K, N, S⟩ := fun h => pb_raw (o := ⟨K, N, S⟩) h
      have hpb : ¬ K = 0 → ¬ K = 1 → ¬ K = 2 → (blobStr (⟨K, N, S⟩ : PartV).str).data.toList = pb ⟨K, N, S⟩ := fun h0 h1 h2 => pb_blob (o := ⟨K, N, S⟩) h0 h1 h2
      have hpy : ∀ nb : Nat, K = 0 → nb = N &&& 255 → nb ≤ 255 → (byteStr (nb : Int)).data.toList = pb ⟨K, N, S⟩ := fun nb h => pb_byte (o := ⟨K, N, S⟩) h
      have hal' := allB_len hop hN hal
      have hal2 : (allB ops k).length ≤ 1500 := by omega
      have d2 := cell_belowB hp.2.1 rfl c2
      obtain ⟨m, hm⟩ : ∃ m : Nat, min S.size 100 = m := ⟨_, rfl⟩
      have hstr : (⟨K, N, S⟩ : PartV).str = S.extract 0 m := by rw [← hm]; rfl
      rw [hstr] at hpr hpb
      have hmin : ∀ wx, (Builtin.min_ #[3, 3] 3 #[.int .i64 (S.size : Int), .int .i64 100]).run Try.prog wx = .ok (.int .i64 m) wx := fun wx => run_min_int2 wx _ _ _ _ _ _ _ (by omega)
      have hm0 : (0 : Int) ≤ (m : Int) := by omega
      have hm1 : (m : Int) ≤ (S.size : Int) := by omega
      have hm2 : m ≤ S.size := by omega
      have hm6 : m ≤ 100 := by omega
      have Hput := Lib.hid hput; have Hpn := Lib.hid hpn; have Hpr := Lib.hid hpr; have Hpb := Lib.hid hpb; have Hpy := Lib.hid hpy
      have Hal := Lib.hid hal'
      clear hm ho hS hop hput hpn hpr hpb hpy hal' hal hstr hK hlen
      have HN := Lib.hid hN; clear hN
      go_wp2_with fail
      go_region_held3 (fun wx => WK w wx w.heap.size ⟨allB ops k, 0⟩ ∧ wx.cell? ⟨b, q + k * 3 + 2, none⟩ = some (.string S)) (first | exact ⟨hp.below ((Below.refl _ _).drew), d2⟩ | (go_keep; done)) (fail)
      rename_i hHeld
      have hp2 := hHeld.1
      clear hHeld hp d2 hmin
      have hss : (S.extract 0 m).size ≤ 100 := by rw [ByteArray.size_extract]; omega
      have hp3 := Hpr.out; have hp4 := Hpb.out
      clear Hpr Hpb hm0 hm1 hm2 hm6
      generalize S.extract 0 m = s at hss hp3 hp4 ⊢
      have Hpr := Lib.hid hp3; have Hpb := Lib.hid hp4; clear hp3 hp4
      have e0 := cell_belowB hp2.2.1 rfl c0
      have e1 := cell_belowB hp2.2.1 rfl c1
      clear c0 c1 c2
      have hKc : K = 0 ∨ K = 1 ∨ K = 2 ∨ (¬ K = 0 ∧ ¬ K = 1 ∧ ¬ K = 2) := by omega
      rcases hKc with rfl | rfl | rfl | ⟨hK0, hK1, hK2⟩
      · obtain ⟨nb, hnb, hand, hnb2⟩ := and_low N 255 HN.out (by decide)
        have hand' : bits BinOp.and IntKind.u64 (N : Int) 255 = (nb : Int) := hand
        have hnw : IntKind.i64.wrap (nb : Int) = (nb : Int) := by rw [IntKind.wrap_i64]; omega
        have Hx := Lib.hid (Hput.out _ (Hpy.out nb rfl hnb2 hnb) (decide (0 ≤ (nb : Int) ∧ (nb : Int) ≤ 255)) (by simp; omega) 1)
        clear hand hnb2 hnb
        go_wp2_with fail
        refine (aw_byte hp2 (nb : Int) (by show (allB ops k).length + 1 ≤ 16777216; omega) Hx.out).mono ?_
        rintro e v1 ⟨rfl, h1, s1⟩
        have Hp := Lib.hid h1; clear h1 s1 hp2 e0 e1
        go_wp2
        refine ⟨⟨k + 1, by omega, by omega, by simp, by simp, Hal.out, Hp.out⟩, ?_⟩
        simp [intOf]; omega
      · go_wp2_with fail
        refine (aw_num hp2 N (N : Int) rfl HN.out (by show (allB ops k).length + (numL N).length ≤ 16777216; have := numL_len10 N HN.out; omega) (Hput.out _ (Hpn.out (by trivial)) _ rfl _)).mono ?_
        rintro e v1 ⟨rfl, h1, s1⟩
        have Hp := Lib.hid h1; clear h1 s1 hp2 e0 e1
        go_wp2
        refine ⟨⟨k + 1, by omega, by omega, by simp, by simp, Hal.out, Hp.out⟩, ?_⟩
        simp [intOf]; omega
      · go_wp2_with fail
        refine (aw_raw hp2 s (s.size : Int) (by show (allB ops k).length + s.size ≤ 16777216; omega) (Hput.out _ (Hpr.out (by trivial)) _ (by simp) _)).mono ?_
        rintro e v1 ⟨rfl, h1, s1⟩
        have Hp := Lib.hid h1; clear h1 s1 hp2 e0 e1
        go_wp2
        refine ⟨⟨k + 1, by omega, by omega, by simp, by simp, Hal.out, Hp.out⟩, ?_⟩
        simp [intOf]; omega
      · go_wp2_with fail
        refine (aw_blob hp2 s (by omega) (by show (allB ops k).length + (blobStr s).size ≤ 16777216; have := blobStr_size s (by omega); omega) (Hput.out _ (Hpb.out hK0 hK1 hK2) _ (by simp; omega) _)).mono ?_
        rintro e v1 ⟨rfl, h1, s1⟩
        have Hp := Lib.hid h1; clear h1 s1 hp2 e0 e1
        go_wp2
        refine ⟨⟨k + 1, by omega, by omega, by simp, by simp, Hal.out, Hp.out⟩, ?_⟩
        simp [intOf]; omega
    all_goals
      obtain ⟨T, hT⟩ : ∃ T, (⟨allB ops k, 0⟩ : WS).text = T := ⟨_, rfl⟩
      have hTs := text_size ops k hT
      obtain ⟨c, hc, hc1⟩ : ∃ c : Nat, (f : Int) % ((T.size : Int) + 1) = (c : Int) ∧ c ≤ T.size := ⟨f % (T.size + 1), by push_cast; rfl, by have := Nat.mod_lt f (show 0 < T.size + 1 by omega); omega⟩
      have hc2 : (c : Int) ≤ (T.size : Int) := by omega
      have hT1 : T.size ≤ 1320 := by omega
      have hT2 : (T.size : Int) ≤ 1320 := by omega
      have hW := whole_start ops k hT
      have hSh := short_start ops k c hT
      have hcs : (T.extract 0 c).size = c := by rw [ByteArray.size_extract]; omega
      have HT := Lib.hid hT; have HTs := Lib.hid hTs
      have hwf : wrap64 (f : Int) = (f : Int) := IntWalk.wrap64_in _ ⟨by omega, by omega⟩
      have hct : (f : Int).tmod ((T.size : Int) + 1) = (c : Int) := by rw [← hc, Int.tmod_eq_emod_of_nonneg (by omega)]
      have Hf := Lib.hid hf; have Hwf := Lib.hid hwf; have Hct := Lib.hid hct; have Hc := Lib.hid hc; have Hc1 := Lib.hid hc1; have Hc2 := Lib.hid hc2
      clear hT hTs hal hlen hf hc hc1 hc2 hcs hwf hct
      go_wp2_with fail
      refine (aw_text hp T HT.out).mono ?_
      rintro e wx ⟨rfl, rfl⟩
      clear hlt
      try clear hlt2
      have hwf := Hwf.out; have hct := Hct.out; have hc1 := Hc1.out; have hc2 := Hc2.out
      go_wp2_with fail
      clear hwf hct hc1 hc2
      refine (rd_new hp.2.1 hp.2.2 T).mono ?_
      rintro e w2 ⟨rfl, r2, b2⟩
      have p2 := hp.below b2
      clear hp b2
      go_wp2_with fail
      refine (rd_new p2.2.1 p2.2.2 (T.extract 0 c)).mono ?_
      rintro e w3 ⟨rfl, s3, b3⟩
      have p3 := p2.below b3
      have hne : wr.heap.size ≠ w2.heap.size := by have := r2.1.lt; omega
      have hTw : TwoR w w3 wr.heap.size w2.heap.size _ _ := ⟨r2.below b3, s3⟩
      clear p2 b3 r2 s3
      generalize wr.heap.size = gr at *
      generalize w2.heap.size = gs at *
      go_wp2_with fail
      refine (aw_err p3 0 rfl).mono ?_
      rintro e wx ⟨rfl, rfl⟩
      clear p3
      have Hne := Lib.hid hne; clear hne
      have HoP := Lib.hid ho; clear ho
      go_wp2
      go_loopw [13] (fun i wr => ∃ (j : Nat) (y z : RD), j ≤ k ∧ i = .int .i64 j ∧ WholeI ops k j y ∧ ShortI ops c k j z ∧ TwoR w wr gr gs y z) (fun i _ => k - (intOf i).toNat)
      case atStart => exact ⟨0, _, _, Nat.zero_le _, rfl, hW, hSh, hTw⟩
      case round =>
        clear hW hSh hTw
        obtain ⟨j, y, z, hj1, rfl, hy, hz, hp⟩ := hrel
        by_cases hjk : j < k
        · have hjl : j < len := by omega
          obtain ⟨b, q, o⟩ := HoP.out.2 j hjl
          obtain ⟨op, hop⟩ : ∃ op, ops j = op := ⟨_, rfl⟩
          rw [hop] at o
          have hN : op.N < 18446744073709551616 := o.hN
          have q0 := fun hK nb => wb_byte hy hjk hop hK (nb := nb)
          have q1 := fun hK => wb_num hy hjk hop hN hK
          have q2 := fun hK => wb_raw hy hjk hop hK
          have q3 := fun h0 h1 h2 => wb_blob hy hjk hop h0 h1 h2
          have u0 := fun x hK => rp_byte hop x hK
          have u1 := fun x hK => rp_num hop x hK
          have u2 := fun x hK => rp_raw hop x hK
          have u3 := fun x h0 h1 h2 => rp_blob hop x h0 h1 h2
          have hy' := whole_step hy hjk (by rw [hop]; exact hN)
          have hz' := short_step hz hjk (by rw [hop]; exact hN)
          obtain ⟨K, N, S⟩ := op
          obtain ⟨rfl, hbl, c0, c1, c2, hK, hN', hS⟩ := o
          simp only at c0 c1 c2 hK hN' hS
          have d2 := cell_belowB hp.1.2.2.1 rfl c2
          obtain ⟨m, hm⟩ : ∃ m : Nat, min S.size 100 = m := ⟨_, rfl⟩
          have hstr : (⟨K, N, S⟩ : PartV).str = S.extract 0 m := by rw [← hm]; rfl
          rw [hstr] at q2 q3 u2
          have hmin : ∀ wx, (Builtin.min_ #[3, 3] 3 #[.int .i64 (S.size : Int), .int .i64 100]).run Try.prog wx = .ok (.int .i64 m) wx := fun wx => run_min_int2 wx _ _ _ _ _ _ _ (by omega)
          have hm0 : (0 : Int) ≤ (m : Int) := by omega
          have hm1 : (m : Int) ≤ (S.size : Int) := by omega
          have hm2 : m ≤ S.size := by omega
          have Hq0 := Lib.hid q0; have Hq1 := Lib.hid q1; have Hq2 := Lib.hid q2; have Hq3 := Lib.hid q3
          have Hu0 := Lib.hid u0; have Hu1 := Lib.hid u1; have Hu2 := Lib.hid u2; have Hu3 := Lib.hid u3
          have Hy := Lib.hid hy'; have Hz := Lib.hid hz'; have HN := Lib.hid hN
          clear hy hz hy' hz' hop q0 q1 q2 q3 u0 u1 u2 u3 hm hS hK hN hN' hstr
          go_wp2_with fail
          go_region_held3 (fun wx => TwoR w wx gr gs y z ∧ wx.cell? ⟨b, q + j * 3 + 2, none⟩ = some (.string S)) (first | exact ⟨hp.dw, d2⟩ | (go_keep; done)) (fail)
          rename_i hHeld
          have hp2 := hHeld.1
          clear hHeld hp d2 hmin
          have t2 := Hq2.out; have t3 := Hq3.out; have t4 := Hu2.out
          clear Hq2 Hq3 Hu2 hm0 hm1 hm2
          generalize S.extract 0 m = s at t2 t3 t4 ⊢
          have Hq2 := Lib.hid t2; have Hq3 := Lib.hid t3; have Hu2 := Lib.hid t4; clear t2 t3 t4
          have e0 := cell_belowB hp2.1.2.2.1 rfl c0
          have e1 := cell_belowB hp2.1.2.2.1 rfl c1
          clear c0 c2
          have hKc : K = 0 ∨ K = 1 ∨ K = 2 ∨ (¬ K = 0 ∧ ¬ K = 1 ∧ ¬ K = 2) := by omega
          rcases hKc with rfl | rfl | rfl | ⟨hK0, hK1, hK2⟩
          · obtain ⟨nb, hnb, hand, hnb2⟩ := and_low N 255 HN.out (by decide)
            have hand' : bits BinOp.and IntKind.u64 (N : Int) 255 = (nb : Int) := hand
            have hnw : IntKind.i64.wrap (nb : Int) = (nb : Int) := by rw [IntKind.wrap_i64]; omega
            have Hv := Lib.hid (Hq0.out rfl nb hnb2 hnb)
            have Hx := Lib.hid (Hu0.out y rfl)
            have Hx2 := Lib.hid (Hu0.out z rfl)
            clear hand hnb2 hnb Hq0 Hu0 Hq1 Hq2 Hq3 Hu1 Hu2 Hu3
            go_wp2_with fail
            go_region_held3 (fun wx => wx.cell? ⟨b, q + j * 3 + 1, none⟩ = some (.int .u64 (N : Int))) (first | (go_keep; done) | exact cell_belowB (rdkb (And.left (by assumption))) rfl c1)
              (first | (go_at_call 55; refine (l_byte hp2 Hne.out (nb : Int) Hv.out Hx.out).mono ?_; rintro e w' ⟨rfl, hp3⟩) | (go_at_call 55; refine (l_byte hp2.dw Hne.out (nb : Int) Hv.out Hx.out).mono ?_; rintro e w' ⟨rfl, hp3⟩))
            clear hp2 e1
            go_wp2_with fail
            refine (r_byte hp3 Hne.out Hx2.out).mono ?_
            rintro e v1 ⟨rfl, hp4⟩
            clear hp3
            have Hp := Lib.hid hp4; clear hp4 e0 c1
            go_wp2
            refine ⟨⟨j + 1, _, _, by omega, by simp, Hy.out, Hz.out, Hp.out⟩, ?_⟩
            simp [intOf]; omega
          · have Hv := Lib.hid (Hq1.out (by trivial))
            have Hx := Lib.hid (Hu1.out y (by trivial))
            have Hx2 := Lib.hid (Hu1.out z (by trivial))
            clear Hq0 Hu0 Hq1 Hq2 Hq3 Hu1 Hu2 Hu3
            go_wp2_with fail
            go_region_held3 (fun wx => wx.cell? ⟨b, q + j * 3 + 1, none⟩ = some (.int .u64 (N : Int))) (first | (go_keep; done) | exact cell_belowB (rdkb (And.left (by assumption))) rfl c1)
              (first | (go_at_call 56; refine (l_num hp2 Hne.out (N : Int) Hv.out Hx.out).mono ?_; rintro e w' ⟨rfl, hp3⟩) | (go_at_call 56; refine (l_num hp2.dw Hne.out (N : Int) Hv.out Hx.out).mono ?_; rintro e w' ⟨rfl, hp3⟩))
            clear hp2 e1
            go_wp2_with fail
            refine (r_num hp3 Hne.out Hx2.out).mono ?_
            rintro e v1 ⟨rfl, hp4⟩
            clear hp3
            have Hp := Lib.hid hp4; clear hp4 e0 c1
            go_wp2
            refine ⟨⟨j + 1, _, _, by omega, by simp, Hy.out, Hz.out, Hp.out⟩, ?_⟩
            simp [intOf]; omega
          · have Hv := Lib.hid (Hq2.out (by trivial))
            have Hx := Lib.hid (Hu2.out y (by trivial))
            have Hx2 := Lib.hid (Hu2.out z (by trivial))
            clear Hq0 Hu0 Hq1 Hq2 Hq3 Hu1 Hu2 Hu3
            go_wp2_with fail
            refine (l_raw hp2 Hne.out _ s Hv.out Hx.out).mono ?_
            rintro e v0 ⟨rfl, hp3⟩
            clear hp2 e1
            go_wp2_with fail
            refine (r_raw hp3 Hne.out _ Hx2.out).mono ?_
            rintro e v1 ⟨rfl, hp4⟩
            clear hp3
            have Hp := Lib.hid hp4; clear hp4 e0 c1
            go_wp2
            refine ⟨⟨j + 1, _, _, by omega, by simp, Hy.out, Hz.out, Hp.out⟩, ?_⟩
            simp [intOf]; omega
          · have Hv := Lib.hid (Hq3.out hK0 hK1 hK2)
            have Hx := Lib.hid (Hu3.out y hK0 hK1 hK2)
            have Hx2 := Lib.hid (Hu3.out z hK0 hK1 hK2)
            clear Hq0 Hu0 Hq1 Hq2 Hq3 Hu1 Hu2 Hu3
            go_wp2_with fail
            refine (l_blob hp2 Hne.out 100 s Hv.out Hx.out).mono ?_
            rintro e v0 ⟨rfl, hp3⟩
            clear hp2 e1
            go_wp2_with fail
            refine (r_blob hp3 Hne.out 100 Hx2.out).mono ?_
            rintro e v1 ⟨rfl, hp4⟩
            clear hp3
            have Hp := Lib.hid hp4; clear hp4 e0 c1
            go_wp2
            refine ⟨⟨j + 1, _, _, by omega, by simp, Hy.out, Hz.out, Hp.out⟩, ?_⟩
            simp [intOf]; omega
        · obtain rfl : j = k := by omega
          obtain ⟨v1, v2⟩ := whole_end hy
          have v1' : (y.endV : Int) = 0 := by omega
          have v2' : (y.s.size : Int) = 0 := by omega
          have hse := fun h => short_end hz h
          rw [← HTs.out] at hse
          have hcs : (T.extract 0 c).size = c := by rw [ByteArray.size_extract]; have := Hc1.out; omega
          have Hy := Lib.hid hy; have Hz := Lib.hid hz; have Hv1 := Lib.hid v1'; have Hv2 := Lib.hid v2'
          clear hy hz v1 v2 v1' v2' HoP
          have hcc : c = T.size ∨ c < T.size := by have := Hc1.out; omega
          rcases hcc with hcc | hcc
          · have hq : (((T.extract 0 c).size : Int) == (T.size : Int)) = true := by rw [hcs, hcc]; simp
            clear hcs hcc hse
            generalize T.extract 0 c = C at hq ⊢
            go_wp2_with fail
            refine (ar_end hp.1 0 Hv1.out).mono ?_
            rintro e wx ⟨rfl, rfl⟩
            go_wp2_with fail
            refine (ar_left hp.1 0 Hv2.out).mono ?_
            rintro e wx ⟨rfl, rfl⟩
            go_wp2_with fail
            refine (wireFixed_any _).mono ?_
            rintro e w7 ⟨rfl, hb7⟩
            have H4 := Lib.hid (below_step hb7 rfl hp.1.2.2.1)
            clear hb7 hp
            go_wp2
            go_ret
            exact ⟨rfl, H4.out⟩
          · have hse' : (z.endV : Int) = 2 := by have := hse hcc; omega
            have Hse := Lib.hid hse'
            have hq : (((T.extract 0 c).size : Int) == (T.size : Int)) = false := by rw [hcs, beq_eq_false_iff_ne]; omega
            clear hcs hcc hse hse'
            generalize T.extract 0 c = C at hq ⊢
            go_wp2_with fail
            refine (ar_end hp.1 0 Hv1.out).mono ?_
            rintro e wx ⟨rfl, rfl⟩
            go_wp2_with fail
            refine (ar_left hp.1 0 Hv2.out).mono ?_
            rintro e wx ⟨rfl, rfl⟩
            go_wp2_with fail
            refine (ar_end hp.2 2 Hse.out).mono ?_
            rintro e wx ⟨rfl, rfl⟩
            go_wp2_with fail
            refine (wireFixed_any _).mono ?_
            rintro e w7 ⟨rfl, hb7⟩
            have H4 := Lib.hid (below_step hb7 rfl hp.1.2.2.1)
            clear hb7 hp
            go_wp2
            go_ret
            exact ⟨rfl, H4.out⟩
theorem wireBack_go (A : Option Addr) (len cap : Nat) (ops : Nat → PartV) {w' : World} (ho : IsParts w' w'.heap.size A len ops) (f : Int) (hf : (Lit.int .u16 f).wf = true) :
    Calls Try.prog 14 #[.slice A len cap, .int .u16 f] w' fun e w'' => e = .returned (.bool true) ∧ Below w'.heap.size w' w'' := by
  have : ∃ m : Nat, m < 65536 ∧ f = (m : Int) := by
    simp [Lit.wf, IntKind.min, IntKind.max, IntKind.signed, IntKind.bits] at hf
    exact ⟨f.toNat, by omega, by omega⟩
  obtain ⟨m, hm, rfl⟩ := this
  exact wireBack_walk A len cap ops w' ho m hm
end Go.Proofs.Ytjmdiobnappgkaa
