/-
  Layer 15 (journal): JournalFull walked.
-/
import Derived.Test.YtjmdiobnappgkaaJQ
namespace Go.Proofs.Ytjmdiobnappgkaa
open Go.RowKit
set_option linter.unusedVariables false
set_option linter.unusedSimpArgs false

theorem st_read0 (room : Nat) (l : List ByteArray) : readR (stJ room l).d 0 = framesS l := f0_read _
theorem fine_snoc {l : List ByteArray} {s : ByteArray} (h : fine l) (hs : ¬ (frameS s).size = 0) : fine (l ++ [s]) := fun x hx => by
  rw [List.mem_append] at hx
  rcases hx with hx | hx
  · exact h x hx
  · simp at hx; subst hx; exact hs
set_option maxRecDepth 100000 in
set_option maxHeartbeats 3000000 in
theorem journalFull_walk (R : Nat) (hR : R < 256) (A : Option Addr) (cap : Nat) (L : List ByteArray) (w : World) (hL : SRead w (.slice A L.length cap) L) (hLz : ∀ s ∈ L, s.size ≤ maxLen) :
    Calls Try.prog 22 #[.int .u8 (R : Int), .slice A L.length cap] w fun e w' => e = .returned (.bool true) ∧ Below w.heap.size w w' := by
  obtain ⟨i0, hi, hz0, hz1, hz2⟩ := info_parts winfo9
  obtain ⟨A', cap', hAe, hlen, hcells⟩ := hL
  injection hAe with e1 e2 e3
  subst e1 e3
  have hlen2 : L.length ≤ 9223372036854775807 := hlen
  have hRw : wrap64 (R : Int) = (R : Int) := IntWalk.wrap64_in _ ⟨by omega, by omega⟩
  have HC := Lib.hid hcells; have HZ := Lib.hid hLz
  have hRi : (R : Int) < 256 := by omega
  clear hcells hLz e2 hlen
  go_enter Try.func22, Try.ntmps22
  go_wp2_with fail
  refine (dk_new R (by omega) w).mono ?_
  rintro e w1 ⟨rfl, h1⟩
  go_wp2_with fail
  refine (aj_open h1 _ (open_empty R)).mono ?_
  rintro e w2 ⟨gj, v2, rfl, h2, hgj, -, -, hz2', -⟩
  clear h1
  have hJ0 : JI w (w2.alloc (.cells #[] 9)) gj w.heap.size v2 (stJ R []) 0 (.slice (some ⟨w2.heap.size, 0, none⟩) 0 0) [] :=
    ⟨h2.below (alloc_below' w2 _), SOwn.new h2.sz, Ap.of (B := w2.heap.size) (fun i hi => by simp [Value.ownBlock] at hi; omega) (fun i hi => (h2.own.lt hi).2)⟩
  clear h2 hgj hz2'
  go_wp2
  generalize w2.alloc (.cells #[] 9) = w3 at *
  go_loopw [8, 9, 10] (fun ov av i wr => ∃ (k : Nat) (In : List ByteArray) (v : Value), k ≤ L.length ∧ k ≤ 20 ∧ i = .int .i64 k ∧ av = .string (framesS In) ∧ In.length ≤ k ∧ (framesS In).size ≤ R ∧ JI w wr gj w.heap.size v (stJ R In) k ov In) (fun _ _ i _ => 20 - (intOf i).toNat)
  case atStart => exact ⟨0, [], v2, Nat.zero_le _, Nat.zero_le _, rfl, rfl, Nat.le_refl _, Nat.zero_le _, hJ0⟩
  case round =>
    clear hJ0
    obtain ⟨k, In, v, hk1, hk2, rfl, rfl, hIl, hIr, hp⟩ := hrel
    have hcase : (k < L.length ∧ k < 20) ∨ (¬ k < L.length) ∨ (k < L.length ∧ ¬ k < 20) := by omega
    rcases hcase with ⟨hlt, hlt2⟩ | hlt | ⟨hlt, hlt2⟩
    · obtain ⟨b, o, rfl, hbl, hx⟩ := HC.out k hlt
      have hxz := HZ.out L[k] (List.getElem_mem hlt)
      generalize L[k] = x at hx hxz
      have d := cell_belowB hp.jk.b0 rfl hx
      obtain ⟨m, hm⟩ : ∃ m : Nat, min x.size 200 = m := ⟨_, rfl⟩
      have hmin : ∀ wx, (Builtin.min_ #[3, 3] 3 #[.int .i64 (x.size : Int), .int .i64 200]).run Try.prog wx = .ok (.int .i64 m) wx := fun wx => run_min_int2 wx _ _ _ _ _ _ _ (by omega)
      have hm0 : (0 : Int) ≤ (m : Int) := by omega
      have hm1 : (m : Int) ≤ (x.size : Int) := by omega
      have hm2 : m ≤ x.size := by omega
      have hsz : (x.extract 0 m).size ≤ 200 := by rw [ByteArray.size_extract]; omega
      have hki : (k : Int) < (L.length : Int) := by omega
      have Hsz := Lib.hid hsz; have Hp := Lib.hid hp
      clear hm hxz hx hsz hp
      go_wp2_with fail
      go_region_held3 (fun wx => JI w wx gj w.heap.size v (stJ R In) k u8 In ∧ wx.cell? ⟨b, o + k, none⟩ = some (.string x)) (first | exact ⟨Hp.out.below ((Below.refl _ _).drew), d⟩ | (go_keep; done)) (fail)
      rename_i hHeld
      have hp2 := hHeld.1
      clear hHeld Hp d hmin hm0 hm1 hm2
      have hsz := Hsz.out
      clear Hsz
      generalize x.extract 0 m = s at hsz ⊢
      go_wp2_with fail
      refine (frame_any s (by omega) _).mono ?_
      rintro e w4 ⟨rfl, b4⟩
      have hp4 := hp2.below b4
      clear hp2 b4
      have hcs : s.size = 0 ∨ (¬ s.size = 0 ∧ R - (framesS In).size < (frameS s).size) ∨ (¬ s.size = 0 ∧ (frameS s).size ≤ R - (framesS In).size) := by omega
      rcases hcs with h0 | ⟨h0, hful⟩ | ⟨h0, hful⟩
      focus
        have hs0 := ba_empty h0
        subst hs0
        have hfe : frameS ⟨#[]⟩ = ⟨#[]⟩ := frameS_no (.inl rfl)
        rw [hfe]
        clear h0 hsz
        go_wp2_with fail
        refine (ji_add hp4 (by omega) (by show In.length < 20000000; omega) _ (by decide) 1 _ (st_no (room := R) (l := In) (by rw [hfe]; rfl))).mono ?_
        rintro e w5 ⟨rfl, v5, hp5⟩
        clear hp4 hfe
        have hIl2 : In.length ≤ k + 1 := by omega
        have Hrd := Lib.hid (st_read0 R In)
        have Hsl : Hid ((stJ R In).l.length ≤ 20000000) := Lib.hid (by show In.length ≤ _; omega)
        have Hsu : Hid (((stJ R In).sure : Int) = (In.length : Int)) := Lib.hid rfl
        obtain ⟨A1, c1, hue⟩ := hp5.ow.len
        subst hue
        go_wp2_with fail
      rotate_left
      focus
        obtain ⟨f1, f2, f3⟩ := frame200 h0 hsz
        have hne := ne_toList f1
        have hb : ¬ ((framesS In).size : Int) + ((frameS s).size : Int) ≤ (R : Int) := by omega
        have Hst := Lib.hid (st_full (room := R) (l := In) f1 hful)
        clear h0 hful
        go_wp2_with fail
        refine (ji_add hp4 (by omega) (by show In.length < 20000000; omega) s (by omega) 8 _ Hst.out).mono ?_
        rintro e w5 ⟨rfl, v5, hp5⟩
        clear hp4
        have hIl2 : In.length ≤ k + 1 := by omega
        have Hrd := Lib.hid (st_read0 R In)
        have Hsl : Hid ((stJ R In).l.length ≤ 20000000) := Lib.hid (by show In.length ≤ _; omega)
        have Hsu : Hid (((stJ R In).sure : Int) = (In.length : Int)) := Lib.hid rfl
        obtain ⟨A1, c1, hue⟩ := hp5.ow.len
        subst hue
        go_wp2_with fail
      rotate_left
      focus
        obtain ⟨f1, f2, f3⟩ := frame200 h0 hsz
        have hne := ne_toList f1
        have hb : ((framesS In).size : Int) + ((frameS s).size : Int) ≤ (R : Int) := by omega
        have Hst := Lib.hid (st_put (room := R) (l := In) f1 hful)
        have hcz : (framesS In).size + (frameS s).size ≤ 9223372036854775807 := by omega
        have hci : ((framesS In).size : Int) + ((frameS s).size : Int) ≤ 9223372036854775807 := by omega
        have Hsn := Lib.hid (framesS_snoc In s)
        have hIr2 : (framesS (In ++ [s])).size ≤ R := by rw [framesS_snoc, ByteArray.size_append]; omega
        clear h0 hful
        go_wp2_with fail
        refine (ji_add hp4 (by omega) (by show In.length < 20000000; omega) s (by omega) 0 _ Hst.out).mono ?_
        rintro e w5 ⟨rfl, v5, hp5⟩
        clear hp4 Hst
        have hown := hp5.ow
        unfold SOwn at hown
        have hbase := hp5.jk.sz
        have Hp := Lib.hid hp5
        clear hp5
        go_wp2_with (at_builtin; refine wpList_append1 rfl _ _ 94 rfl w.heap.size 9 i0 (.string ⟨#[]⟩) 16 Try.underlying94 hi hz0 hz1 hz2 rfl _ _ _ rfl (hown.alloc _) w5.heap.size rfl (.string s) (by simp [go_sem]) rfl (by unfold maxLen; omega) (by omega) (by simp; omega) ?_)
        intro u' w6 hown6 hg6 hv6
        have hp5 := Hp.out.append _ hg6 hown6 (by simpa using hv6)
        clear hown6 hg6 hv6 hown Hp hIr
        have hIr := hIr2
        clear hIr2
        have hIl2 : (In ++ [s]).length ≤ k + 1 := by simp; omega
        have Hrd := Lib.hid ((st_read0 R (In ++ [s])).trans (framesS_snoc In s))
        have Hsl : Hid ((stJ R (In ++ [s])).l.length ≤ 20000000) := Lib.hid (by show (In ++ [s]).length ≤ _; omega)
        have hl1 : (In ++ [s]).length = In.length + 1 := by simp
        have Hsu : Hid (((stJ R (In ++ [s])).sure : Int) = (In.length : Int) + 1) := Lib.hid (by show (((In ++ [s]).length : Nat) : Int) = _; rw [hl1]; rfl)
        obtain ⟨A1, c1, hue⟩ := hp5.ow.len
        rw [hl1] at hue
        subst hue
        clear hl1
        go_wp2_with fail
      rotate_left
      all_goals
        try clear Hsn
        refine (at_read hp5.jk.dk 0 _ Hrd.out).mono ?_
        rintro e wx ⟨rfl, rfl⟩
        clear Hrd
        have Hlen := Lib.hid hIl2
        go_wp2_with fail
        refine (ji_records hp5 Hsl.out).mono ?_
        rintro e w7 ⟨⟨y, rfl, hy, -⟩, h7⟩
        clear hp5
        go_wp2_with fail
        refine (same_at hy (h7.ow.read (by have := Hlen.out; unfold maxLen; omega)) true (by simp [stJ])).mono ?_
        rintro e w8 ⟨rfl, b8⟩
        have h8 := h7.below b8
        clear hy h7 b8
        go_wp2_with fail
        refine (aj_sure h8.jk _ Hsu.out).mono ?_
        rintro e wx ⟨rfl, rfl⟩
        go_wp2_with fail
        refine (j_cutB h8.jk.blk false rfl).mono ?_
        rintro e wx ⟨rfl, rfl⟩
        have H8 := Lib.hid h8; clear h8
        go_wp2
        refine ⟨⟨k + 1, _, _, by omega, by omega, by simp, by first | rfl | rw [framesS_snoc], Hlen.out, hIr, H8.out⟩, ?_⟩
        simp [intOf]; omega
    all_goals
      clear HC HZ hlen2 hRw hRi
      have hb := hp.jk.b0
      clear hp
      go_wp2_with fail
      refine (journalFixed_any _).mono ?_
      rintro e w12 ⟨rfl, b12⟩
      have H := Lib.hid (below_stepB hb b12 hb.size)
      clear hb b12
      go_wp2
      go_ret
      exact ⟨rfl, H.out⟩
theorem journalFull_go (room : Int) (hr : (Lit.int .u8 room).wf = true) (A : Option Addr) (len cap : Nat) (L : List ByteArray) {w' : World} (hL : SRead w' (.slice A len cap) L ∧ ∀ s ∈ L, s.size ≤ maxLen) :
    Calls Try.prog 22 #[.int .u8 room, .slice A len cap] w' fun e w'' => e = .returned (.bool true) ∧ Below w'.heap.size w' w'' := by
  obtain ⟨h1, h2⟩ := hL
  obtain ⟨A', cap', hAe, _⟩ := id h1
  injection hAe with e1 e2 e3
  subst e1 e2 e3
  have : ∃ n : Nat, n < 256 ∧ room = (n : Int) := by
    simp [Lit.wf, IntKind.min, IntKind.max, IntKind.signed, IntKind.bits] at hr
    exact ⟨room.toNat, by omega, by omega⟩
  obtain ⟨R, hR, rfl⟩ := this
  exact journalFull_walk R hR A cap L w' h1 h2
end Go.Proofs.Ytjmdiobnappgkaa
