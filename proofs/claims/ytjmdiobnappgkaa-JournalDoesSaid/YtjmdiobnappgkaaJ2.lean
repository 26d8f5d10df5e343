/-
  Layer 15 (journal): the walks of Frame, in the program and in the document, and of the document's first.
-/
import Derived.Test.YtjmdiobnappgkaaJ1
namespace Go.Proofs.Ytjmdiobnappgkaa
open Go.RowKit
set_option linter.unusedVariables false
set_option linter.unusedSimpArgs false

section
variable {w0 w w' : World} {g : Nat} {x : WS}
set_option maxRecDepth 100000 in
set_option maxHeartbeats 400000 in
theorem wk_putF (h : WK w0 w g x) (he : x.e = 0) (e : Nat) (ei : Int) (hei : (e : Int) = ei) (s : ByteArray) : Calls Try.prog 94 #[.pointer (some ⟨g, 0, none⟩), .bool false, .int .i64 ei, .string s] w fun r w' => r = .returned (.tuple #[]) ∧ WK w0 w' g { x with e := e } := by
  subst hei
  have hh := h
  obtain ⟨⟨v, hv⟩, hb0, h3⟩ := h
  have c0 := hv.c0
  have c1 := hv.c1
  have f1 := hv.fr 1
  have hfar := own_blk_ne hv.own hv.blk (by decide)
  rw [he] at c1
  have H := Lib.hid hv; have Hfar := Lib.hid hfar; have Hh := Lib.hid hh
  clear hv hfar hh
  go_enter Try.func94, Try.ntmps94
  go_wp2
  go_end0
  have ho : Only w.heap.size (g :: v.ownBlock.toList) w (w.setCell ⟨g, 1, none⟩ (.int .i64 (e : Int))) := (Only.refl _ _ _).setCell (p := ⟨g, 1, none⟩) (.inl (by simp)) _
  exact ⟨rfl, Hh.out.only H.out ⟨H.out.blk.set_ 1 _, H.out.hb, own_set_far (p := ⟨g, 1, none⟩) H.out.own Hfar.out _⟩ ho⟩
set_option maxRecDepth 100000 in
theorem wk_blobF (h : WK w0 w g x) (he : x.e = 0) (s : ByteArray) (h1 : 4096 < s.size) (h2 : s.size ≤ 140737488351232) : Calls Try.prog 53 #[.pointer (some ⟨g, 0, none⟩), .string s] w fun r w' => r = .returned (.tuple #[]) ∧ WK w0 w' g { x with e := 4 } := by
  have hso : decide ((s.size : Int) ≤ 4096) = false := by simp; omega
  have hn10 := numL_len10 s.size (by omega)
  obtain ⟨nb, hnb⟩ : ∃ nb : ByteArray, (⟨(numL s.size).toArray⟩ : ByteArray) = nb := ⟨_, rfl⟩
  have hnum := number_any s.size (by omega)
  have hnz : nb.size ≤ 10 := by
    have e : (⟨(numL s.size).toArray⟩ : ByteArray).size = (numL s.size).length := List.size_toArray ..
    rw [← hnb]; omega
  rw [hnb] at hnum
  have hsz2 : nb.size + s.size ≤ 9223372036854775807 := by omega
  have hsz3 : (nb.size : Int) + (s.size : Int) ≤ 9223372036854775807 := by omega
  have Hnum := Lib.hid hnum; clear hnb hnum hn10
  go_enter Try.func53, Try.ntmps53
  go_wp2_with fail
  refine (Hnum.out w).mono ?_
  rintro e w1 ⟨rfl, hb1⟩
  have h1 := h.below hb1
  go_wp2_with fail
  refine (wk_putF h1 he 4 4 rfl _).mono ?_
  rintro e w2 ⟨rfl, h1'⟩
  have H1 := Lib.hid h1'; clear h1' hb1 h1 h
  go_wp2
  go_end0
  exact ⟨rfl, H1.out⟩
end
theorem isEmpty_of {s : ByteArray} (h : s.size = 0) : s = ⟨#[]⟩ := ba_empty h
set_option maxRecDepth 100000 in
set_option maxHeartbeats 800000 in
theorem frame_any (s : ByteArray) (hs : s.size ≤ 140737488351232) (w : World) : Calls Try.prog 81 #[.string s] w fun e w' => e = .returned (.string (frameS s)) ∧ Below w.heap.size w w' := by
  have hw := wnew w
  have hcase : s.size = 0 ∨ 4096 < s.size ∨ (¬ s.size = 0 ∧ s.size ≤ 4096) := by omega
  rcases hcase with h0 | h0 | ⟨h0, h1⟩
  · rw [frameS_no (.inl h0)]
    obtain rfl := ba_empty h0
    clear h0 hs
    go_enter Try.func81, Try.ntmps81
    go_wp2_with fail
    refine (aw_blob hw (⟨#[]⟩ : ByteArray) (by decide) (by
      have := blobStr_size (⟨#[]⟩ : ByteArray) (by decide)
      show 0 + (blobStr _).size ≤ _
      have e : (⟨#[]⟩ : ByteArray).size = 0 := rfl
      omega) rfl).mono ?_
    rintro e w1 ⟨rfl, k1, -⟩
    have H := Lib.hid k1.2.1; clear k1 hw
    go_wp2
    go_ret
    exact ⟨rfl, H.out⟩
  · rw [frameS_no (.inr h0)]
    have hne := ne_toList (show ¬ s.size = 0 by omega)
    have Hs := Lib.hid hs; have H0 := Lib.hid h0
    clear hs h0
    go_enter Try.func81, Try.ntmps81
    go_wp2_with fail
    refine (wk_blobF hw rfl s H0.out Hs.out).mono ?_
    rintro e w1 ⟨rfl, k1⟩
    go_wp2_with fail
    refine (aw_err k1 4 rfl).mono ?_
    rintro e wx ⟨rfl, rfl⟩
    have H := Lib.hid k1.2.1; clear k1 hw
    go_wp2
    go_ret
    exact ⟨rfl, H.out⟩
  · rw [frameS_yes h0 (by omega)]
    have hne := ne_toList h0
    have hx : (⟨[], 0⟩ : WS).put (decide (s.size ≤ 4096)) 4 (blobStr s) = ⟨(blobStr s).data.toList, 0⟩ := by
      rw [WS.put, if_pos rfl, if_pos (by simp; omega)]; rfl
    have ht : (⟨(blobStr s).data.toList, 0⟩ : WS).text = blobStr s := by rw [WS.text, if_pos rfl]
    have hbz := blobStr_size s (by omega)
    have hlt := CrcM.on_lt 0 s.data.toList
    have hcs : crcStr s = strOfNums (putL (CrcM.on 0 s.data.toList)) := rfl
    obtain ⟨cr, hcr⟩ : ∃ cr, crcStr s = cr := ⟨_, rfl⟩
    have hcz : cr.size = 4 := by rw [← hcr]; rfl
    rw [hcr] at hcs ⊢
    obtain ⟨bs, hbs⟩ : ∃ bs, blobStr s = bs := ⟨_, rfl⟩
    rw [hbs] at hbz hx ht ⊢
    obtain ⟨on, hon⟩ : ∃ on, CrcM.on 0 s.data.toList = on := ⟨_, rfl⟩
    rw [hon] at hlt hcs
    have hz1 : bs.size + cr.size ≤ 9223372036854775807 := by omega
    have hz2 : (bs.size : Int) + (cr.size : Int) ≤ 9223372036854775807 := by omega
    have Hx := Lib.hid hx; have Ht := Lib.hid ht; have Hs := Lib.hid hs; have Hbz := Lib.hid hbz; have Hlt := Lib.hid hlt; have Hcs := Lib.hid hcs; have Hbs := Lib.hid hbs; have Hon := Lib.hid hon
    have H1 := Lib.hid h1
    clear hx ht hs hbz hlt hcs hbs hon hcr hcz h0 h1
    go_enter Try.func81, Try.ntmps81
    go_wp2_with fail
    refine (aw_blob (x' := ⟨bs.data.toList, 0⟩) hw s (by have := H1.out; omega) (by rw [Hbs.out]; have h5 := Hbz.out; have h6 := H1.out; show 0 + bs.size ≤ _; omega) (by rw [Hbs.out]; exact Hx.out)).mono ?_
    rintro e w1 ⟨rfl, k1, -⟩
    clear hw
    go_wp2_with fail
    refine (aw_err k1 0 rfl).mono ?_
    rintro e wx ⟨rfl, rfl⟩
    go_wp2_with fail
    refine (aw_text k1 bs Ht.out).mono ?_
    rintro e wx ⟨rfl, rfl⟩
    have hb1 := k1.2.1
    clear k1
    go_wp2_with fail
    refine (of_at s (on : Int) Hs.out (by rw [Hon.out]) _).mono ?_
    rintro e w2 ⟨rfl, hb2⟩
    go_wp2_with fail
    refine (put_at on Hlt.out (on : Int) rfl cr Hcs.out.symm _).mono ?_
    rintro e w3 ⟨rfl, hb3⟩
    have H := Lib.hid (bthen (bthen hb1 hb2) hb3)
    clear hb1 hb2 hb3
    go_wp2
    go_ret
    exact ⟨rfl, H.out⟩
theorem rput_at (n : Nat) (hn : n < 4294967296) (s : ByteArray) (hk : strOfNums (putL n) = s) (w : World) :
    Calls Try.prog 28 #[.int .u32 (n : Int)] w fun e w' => e = .returned (.string s) ∧ Below w.heap.size w w' := by
  subst hk; exact rput_any n hn w
set_option maxRecDepth 100000 in
set_option maxHeartbeats 800000 in
theorem rframe_any (s : ByteArray) (hs : s.size ≤ 140737488351232) (w : World) : Calls Try.prog 82 #[.string s] w fun e w' => e = .returned (.string (frameS s)) ∧ Below w.heap.size w w' := by
  have hcase : s.size = 0 ∨ 4096 < s.size ∨ (¬ s.size = 0 ∧ s.size ≤ 4096) := by omega
  rcases hcase with h0 | h0 | ⟨h0, h1⟩
  · rw [frameS_no (.inl h0)]
    obtain rfl := ba_empty h0
    clear h0 hs
    go_enter Try.func82, Try.ntmps82
    go_wp2
    go_ret
    exact ⟨rfl, Below.refl _ _⟩
  · rw [frameS_no (.inr h0)]
    have hne := ne_toList (show ¬ s.size = 0 by omega)
    have hi : (4096 : Int) < (s.size : Int) := by omega
    clear hs h0
    go_enter Try.func82, Try.ntmps82
    go_wp2
    go_ret
    exact ⟨rfl, Below.refl _ _⟩
  · rw [frameS_yes h0 (by omega)]
    have hne := ne_toList h0
    have hi : ¬ (4096 : Int) < (s.size : Int) := by omega
    have hlt := CrcM.on_lt 0 s.data.toList
    have hbz := blobStr_size s (by omega)
    have hcs : crcStr s = strOfNums (putL (CrcM.on 0 s.data.toList)) := rfl
    obtain ⟨cr, hcr⟩ : ∃ cr, crcStr s = cr := ⟨_, rfl⟩
    have hcz : cr.size = 4 := by rw [← hcr]; rfl
    rw [hcr] at hcs ⊢
    obtain ⟨nb, hnb⟩ : ∃ nb, (⟨(numL s.size).toArray⟩ : ByteArray) = nb := ⟨_, rfl⟩
    have hbs : blobStr s = nb ++ s := by rw [blobStr, hnb]
    rw [hbs] at hbz ⊢
    obtain ⟨on, hon⟩ : ∃ on, CrcM.on 0 s.data.toList = on := ⟨_, rfl⟩
    rw [hon] at hlt hcs
    have hnum := rnumber_any s.size (by omega)
    rw [hnb] at hnum
    have hz0 : (nb ++ s).size = nb.size + s.size := ByteArray.size_append
    have hz1 : nb.size + s.size + cr.size ≤ 9223372036854775807 := by omega
    have hz2 : (nb.size : Int) + (s.size : Int) + (cr.size : Int) ≤ 9223372036854775807 := by omega
    have hz3 : (nb.size : Int) + (s.size : Int) ≤ 9223372036854775807 := by omega
    have hz4 : nb.size + s.size ≤ 9223372036854775807 := by omega
    have hw : IntKind.u64.wrap (s.size : Int) = (s.size : Int) := by rw [IntKind.wrap_u64]; omega
    have Hs := Lib.hid hs; have Hlt := Lib.hid hlt; have Hcs := Lib.hid hcs; have Hon := Lib.hid hon; have Hnum := Lib.hid hnum
    clear hs hlt hcs hon hnum hbz hcr hcz h0 h1 hbs hnb hz0
    go_enter Try.func82, Try.ntmps82
    go_wp2_with fail
    refine (Hnum.out _).mono ?_
    rintro e w1 ⟨rfl, hb1⟩
    go_wp2_with fail
    refine (rof_any s Hs.out _).mono ?_
    rintro e wx ⟨rfl, rfl⟩
    rw [Hon.out]
    go_wp2_with fail
    refine (rput_at on Hlt.out cr Hcs.out.symm _).mono ?_
    rintro e w3 ⟨rfl, hb3⟩
    have H := Lib.hid (bthen hb1 hb3)
    clear hb1 hb3
    go_wp2
    go_ret
    exact ⟨rfl, H.out⟩
end Go.Proofs.Ytjmdiobnappgkaa
