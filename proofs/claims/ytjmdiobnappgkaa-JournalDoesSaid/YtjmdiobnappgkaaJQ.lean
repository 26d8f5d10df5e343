/-
  Layer 15 (journal): JournalOrder and JournalFull walked.
-/
import Derived.Test.YtjmdiobnappgkaaJO
namespace Go.Proofs.Ytjmdiobnappgkaa
open Go.RowKit
set_option linter.unusedVariables false
set_option linter.unusedSimpArgs false

theorem frame200 {s : ByteArray} (h0 : ¬ s.size = 0) (h : s.size ≤ 200) : ¬ (frameS s).size = 0 ∧ (frameS s).size ≤ 214 ∧ s.size + 5 ≤ (frameS s).size := by
  have h1 : ¬ (frameS s).size = 0 := fun hz => by have := (frameS_size s).2.1.1 hz; omega
  have h2 := (frameS_size s).2.2
  exact ⟨h1, by omega, by omega⟩
/-- What holds of the records laid in the loop. -/
def Laid (In : List ByteArray) (k : Nat) : Prop := fine In ∧ In.length ≤ k ∧ (framesS In).size ≤ 214 * k
theorem Laid.zero : Laid [] 0 := ⟨fun s hs => by simp at hs, Nat.le_refl _, Nat.le_refl _⟩
theorem Laid.same {In : List ByteArray} {k : Nat} (h : Laid In k) : Laid In (k + 1) := ⟨h.1, by have := h.2.1; omega, by have := h.2.2; omega⟩
theorem Laid.add {In : List ByteArray} {k : Nat} {s : ByteArray} (h : Laid In k) (h0 : ¬ s.size = 0) (hs : s.size ≤ 200) : Laid (In ++ [s]) (k + 1) := by
  obtain ⟨f1, f2, f3⟩ := frame200 h0 hs
  refine ⟨fun x hx => ?_, by rw [List.length_append]; have := h.2.1; simp; omega, by rw [framesS_snoc, ByteArray.size_append]; have := h.2.2; omega⟩
  rw [List.mem_append] at hx
  rcases hx with hx | hx
  · exact h.1 x hx
  · simp at hx; subst hx; exact f1

theorem run_max_i {P : Program} (w : World) (ts : Array TypeId) (t : TypeId) (k1 k2 : IntKind) (x y : Int) (n : Int) (hn : max x y = n) : (Builtin.max_ ts t #[.int k1 x, .int k2 y]).run P w = .ok (.int k1 n) w := by
  subst hn
  simp [Builtin.max_, Builtin.max2]
  have e : ∀ p q : Int, (if p < q then q else p) = max p q := fun p q => by rw [Int.max_def]; split <;> split <;> omega
  simp only [e]
theorem f0_read (d : DS) : readR d 0 = d.f0 := by simp [readR, valid, DS.file]
theorem f1_read (d : DS) : readR d 1 = d.f1 := by simp [readR, valid, DS.file]
theorem openJ_read (d : DS) : (openJ d).l = (readFrom d.f0 [] 0).1 := by rw [openJ_l, recsOf, sync_read]
/-- What a crash leaves of file 0, where file 1 is empty. -/
theorem crash_f0 {d : DS} (hok : d.ok) {a : ByteArray} (h : Sure d a ⟨#[]⟩) (h1 : d.f1.size = 0) (keep : Int) (c : Nat) (hc : max 0 (min keep (looseAll d.loose : Int)) = (c : Int)) : (crashD d keep).f0 = d.f0.extract 0 (a.size + c) := by
  obtain ⟨u, v, e1, e2, e3, e4, e5, e6, e7, e8, e9, e10, e11, e12⟩ := h.crash hok keep
  rw [f0_read] at e1 e6 e8
  rw [f1_read] at e2 e7
  rw [empty_size] at e12
  have hz : u.size = a.size + c := by omega
  rw [e1, ← hz]; exact e8.symm
/-- A journal's last record is loose. -/
def loJ (room : Nat) (l : List ByteArray) (s : ByteArray) : JS := ⟨⟨framesS (l ++ [s]), ⟨#[]⟩, [(0, (frameS s).size)], room⟩, l ++ [s], l.length, false⟩
theorem st_loose {room : Nat} {l : List ByteArray} {s : ByteArray} (h : ¬ (frameS s).size = 0) (hz : (frameS s).size ≤ room - (framesS l).size) : looseR (stJ room l) s = 0 ∧ looseJ (stJ room l) s = loJ room l s := by
  have e := (st_put h hz).1
  exact ⟨e, by rw [looseJ, if_pos e, st_putD hz]; rfl⟩
theorem lo_crash {room : Nat} {l : List ByteArray} {s : ByteArray} (hf : fine l) (hs : ¬ (frameS s).size = 0) (hok : (loJ room l s).d.ok) (kk : Int) (h0 : 0 ≤ kk) (h1 : kk < (frameS s).size) : (openJ (crashD (loJ room l s).d kk)).l = l := by
  have hsure : Sure (loJ room l s).d (framesS l) ⟨#[]⟩ := by
    refine ⟨?_, ?_, ?_, ?_⟩
    · show (framesS (l ++ [s])).extract 0 _ = _
      rw [framesS_snoc, ext_app0]
    · show (framesS l).size + looseOf 0 [(0, (frameS s).size)] = (framesS (l ++ [s])).size
      rw [framesS_snoc, ByteArray.size_append]; simp [looseOf]
    · apply ba_list; rw [extract_list]; simp [loJ]
    · rfl
  have hall : looseAll (loJ room l s).d.loose = (frameS s).size := by simp [loJ, looseAll]
  have hc := crash_f0 hok hsure rfl kk kk.toNat (by rw [hall]; omega)
  have he : (framesS (l ++ [s])).extract 0 ((framesS l).size + kk.toNat) = framesS l ++ (frameS s).extract 0 kk.toNat := by
    apply ba_list
    rw [extract_list, framesS_snoc, app_list, app_list, extract_list]
    simp only [List.drop_zero, Nat.sub_zero]
    rw [List.take_append, List.take_of_length_le (by rw [list_size]; omega), list_size, Nat.add_sub_cancel_left]
  have hfin : (crashD (loJ room l s).d kk).f0 = framesS l ++ (frameS s).extract 0 kk.toNat := by rw [hc]; exact he
  rw [openJ_read, hfin, read_all hf (firstS_cut hs (by omega))]
theorem JI.disk0 {w0 w w' : World} {gj gd : Nat} {v u : Value} {j : JS} {n : Nat} {L : List ByteArray} (h : JI w0 w gj gd v j n u L) (hs : Spare [117, 120] w w') : SOwn w0.heap.size w' u L := h.ow.rows (RowsL.ofSpare hs (by decide) []) (by simp)

set_option maxRecDepth 100000 in
set_option maxHeartbeats 8000000 in
theorem journalOrder_walk (A : Option Addr) (cap : Nat) (L : List ByteArray) (rest : ByteArray) (hrest : rest.size ≤ maxLen) (keep : Int) (w : World) (hL : SRead w (.slice A L.length cap) L) (hLz : ∀ s ∈ L, s.size ≤ maxLen) :
    Calls Try.prog 21 #[.slice A L.length cap, .string rest, .int .i64 keep] w fun e w' => e = .returned (.bool true) ∧ Below w.heap.size w w' := by
  obtain ⟨i0, hi, hz0, hz1, hz2⟩ := info_parts winfo9
  obtain ⟨A', cap', hAe, hlen, hcells⟩ := hL
  injection hAe with e1 e2 e3
  subst e1 e3
  have hlen2 : L.length ≤ 9223372036854775807 := hlen
  have HC := Lib.hid hcells; have HZ := Lib.hid hLz; have Hrest := Lib.hid hrest
  clear hcells hLz e2 hlen hrest
  go_enter Try.func21, Try.ntmps21
  go_wp2_with fail
  refine (dk_new 1048576 (by decide) w).mono ?_
  rintro e w1 ⟨rfl, h1⟩
  go_wp2_with fail
  refine (aj_open h1 _ (open_empty 1048576)).mono ?_
  rintro e w2 ⟨gj, v2, rfl, h2, hgj, -, -, hz2', -⟩
  clear h1
  have hJ0 : JI w (w2.alloc (.cells #[] 9)) gj w.heap.size v2 (stJ 1048576 []) 0 (.slice (some ⟨w2.heap.size, 0, none⟩) 0 0) [] :=
    ⟨h2.below (alloc_below' w2 _), SOwn.new h2.sz, Ap.of (B := w2.heap.size) (fun i hi => by simp [Value.ownBlock] at hi; omega) (fun i hi => (h2.own.lt hi).2)⟩
  clear h2 hgj hz2'
  go_wp2
  generalize w2.alloc (.cells #[] 9) = w3 at *
  go_loopw [10, 11] (fun ov i wr => ∃ (k : Nat) (In : List ByteArray) (v : Value), k ≤ L.length ∧ k ≤ 20 ∧ i = .int .i64 k ∧ Laid In k ∧ JI w wr gj w.heap.size v (stJ 1048576 In) k ov In) (fun _ i _ => 20 - (intOf i).toNat)
  case atStart => exact ⟨0, [], v2, Nat.zero_le _, Nat.zero_le _, rfl, Laid.zero, hJ0⟩
  case round =>
    clear hJ0
    obtain ⟨k, In, v, hk1, hk2, rfl, hlaid, hp⟩ := hrel
    have hcase : (k < L.length ∧ k < 20) ∨ (¬ k < L.length) ∨ (k < L.length ∧ ¬ k < 20) := by omega
    rcases hcase with ⟨hlt, hlt2⟩ | hlt | ⟨hlt, hlt2⟩
    · obtain ⟨b, o, rfl, hbl, hx⟩ := HC.out k hlt
      have hxz := HZ.out L[k] (List.getElem_mem hlt)
      generalize L[k] = x at hx hxz
      have d := cell_belowB hp.jk.b0 rfl hx
      obtain ⟨m, hm⟩ : ∃ m : Nat, min x.size 200 = m := ⟨_, rfl⟩
      have hmin : ∀ wx, (Builtin.min_ #[3, 3] 3 #[.int .i64 (x.size : Int), .int .i64 200]).run Try.prog wx = .ok (.int .i64 m) wx := fun wx => run_min_int2 wx _ _ _ _ _ _ _ (by omega)
      have hm0 : (0 : Int) ≤ (m : Int) := by omega
      have hm1 : (m : Int) ≤ (x.size : Int) := by omega
      have hm2 : m ≤ x.size := by omega
      have hsz : (x.extract 0 m).size ≤ 200 := by rw [ByteArray.size_extract]; omega
      have hki : (k : Int) < (L.length : Int) := by omega
      have Hl := Lib.hid hlaid; have Hsz := Lib.hid hsz; have Hp := Lib.hid hp
      clear hm hxz hx hlaid hsz hp
      go_wp2_with fail
      go_region_held3 (fun wx => JI w wx gj w.heap.size v (stJ 1048576 In) k u10 In ∧ wx.cell? ⟨b, o + k, none⟩ = some (.string x)) (first | exact ⟨Hp.out.below ((Below.refl _ _).drew), d⟩ | (go_keep; done)) (fail)
      rename_i hHeld
      have hp2 := hHeld.1
      clear hHeld Hp d hmin hm0 hm1 hm2
      have hsz := Hsz.out
      clear Hsz
      generalize x.extract 0 m = s at hsz ⊢
      have hInl := Hl.out.2.1
      have hInz := Hl.out.2.2
      by_cases h0 : s.size = 0
      · have hs0 := ba_empty h0
        subst hs0
        clear h0
        go_wp2_with fail
        refine (ji_add hp2 (by omega) (by show In.length < 20000000; omega) _ (by decide) 1 _ (st_no (room := 1048576) (l := In) ((frameS_size _).2.1.2 (.inl rfl)))).mono ?_
        rintro e w5 ⟨rfl, v5, hp5⟩
        have Hp := Lib.hid hp5; clear hp5 hp2 hsz
        go_wp2
        refine ⟨⟨k + 1, In, _, by omega, by omega, by simp, Hl.out.same, Hp.out⟩, ?_⟩
        simp [intOf]; omega
      · obtain ⟨f1, f2, f3⟩ := frame200 h0 hsz
        have hne := ne_toList h0
        have Hl2 := Lib.hid (Hl.out.add h0 hsz)
        go_wp2_with fail
        refine (ji_add hp2 (by omega) (by show In.length < 20000000; omega) s (by omega) 0 _ (st_put (room := 1048576) (l := In) f1 (by omega))).mono ?_
        rintro e w5 ⟨rfl, v5, hp5⟩
        have hown := hp5.ow
        unfold SOwn at hown
        have hbase := hp5.jk.sz
        have Hp := Lib.hid hp5
        clear hp5 hp2 hsz f1 f2 f3 h0
        go_wp2_with (at_builtin; refine wpList_append1 rfl _ _ 94 rfl w.heap.size 9 i0 (.string ⟨#[]⟩) 16 Try.underlying94 hi hz0 hz1 hz2 rfl _ _ _ rfl (hown.alloc _) w5.heap.size rfl (.string s) (by simp [go_sem]) rfl (by unfold maxLen; omega) (by omega) (by simp; omega) ?_)
        intro u' w6 hown6 hg6 hv6
        have Hp6 := Lib.hid (Hp.out.append _ hg6 hown6 (by simpa using hv6))
        clear hown6 hg6 hv6 hown Hp
        go_wp2
        refine ⟨⟨k + 1, In ++ [s], _, by omega, by omega, by simp, Hl2.out, Hp6.out⟩, ?_⟩
        simp [intOf]; omega
    all_goals
      have hInl := hlaid.2.1
      have hInz := hlaid.2.2
      have hfine := hlaid.1
      obtain ⟨A1, c1, hue⟩ := hp.ow.len
      subst hue
      have hIm : In.length ≤ maxLen := by unfold maxLen; omega
      have hIn2 : In.length ≤ 100 := by omega
      have hlab : (framesS In).size ≤ 5000 := by omega
      have HC2 := HC; have HZ2 := HZ
      clear HC HZ HC2 HZ2 hlaid hInl hInz hlen2
      obtain ⟨m2, hm2e⟩ : ∃ m : Nat, min rest.size 100 = m := ⟨_, rfl⟩
      have hmin2 : ∀ wx, (Builtin.min_ #[3, 3] 3 #[.int .i64 (rest.size : Int), .int .i64 100]).run Try.prog wx = .ok (.int .i64 m2) wx := fun wx => run_min_int2 wx _ _ _ _ _ _ _ (by omega)
      have r0 : (0 : Int) ≤ (m2 : Int) := by omega
      have r1 : (m2 : Int) ≤ (rest.size : Int) := by omega
      have r2 : m2 ≤ rest.size := by omega
      have hrs : (rest.extract 0 m2).size ≤ 100 := by rw [ByteArray.size_extract]; omega
      obtain ⟨kmin, hkmin⟩ : ∃ km, min keep 9 = km := ⟨_, rfl⟩
      have hmin3 : ∀ wx, (Builtin.min_ #[3, 3] 3 #[.int .i64 keep, .int .i64 9]).run Try.prog wx = .ok (.int .i64 kmin) wx := fun wx => run_min_int2 wx _ _ _ _ _ _ _ hkmin
      obtain ⟨kk, hkk⟩ : ∃ kk, max 0 kmin = kk := ⟨_, rfl⟩
      have hmax : ∀ wx, (Builtin.max_ #[3, 3] 3 #[.int .i64 0, .int .i64 kmin]).run Try.prog wx = .ok (.int .i64 kk) wx := fun wx => run_max_i wx _ _ _ _ _ _ _ hkk
      have hk0 : 0 ≤ kk := by omega
      have hk9 : kk ≤ 9 := by omega
      have Hp := Lib.hid hp; have Hrs := Lib.hid hrs; have Hfine := Lib.hid hfine
      clear hp hm2e hkmin hkk hrs hfine
      go_wp2_with fail
      clear hlt
      try clear hlt2
      refine (ji_records Hp.out (by show In.length ≤ 20000000; omega)).mono ?_
      rintro e w5 ⟨⟨x, rfl, hx, -⟩, h5⟩
      clear Hp
      go_wp2_with fail
      refine (same_at hx (h5.ow.read hIm) true (by show decide (In = In) = true; simp)).mono ?_
      rintro e w6 ⟨rfl, b6⟩
      have h6 := h5.below b6
      clear hx h5 b6
      go_wp2_with fail
      refine (aj_sure h6.jk (In.length : Int) rfl).mono ?_
      rintro e wx ⟨rfl, rfl⟩
      have hsz1 : (⟨#[98, 101, 104, 105, 110, 100]⟩ : ByteArray).size = 6 := rfl
      have hrs := Hrs.out
      have hcat : ((⟨#[98, 101, 104, 105, 110, 100]⟩ : ByteArray).size : Int) + ((rest.extract 0 m2).size : Int) ≤ 9223372036854775807 := by rw [hsz1]; omega
      have hcat2 : (⟨#[98, 101, 104, 105, 110, 100]⟩ : ByteArray).size + (rest.extract 0 m2).size ≤ 9223372036854775807 := by rw [hsz1]; omega
      have hbz : ((⟨#[98, 101, 104, 105, 110, 100]⟩ : ByteArray) ++ rest.extract 0 m2).size = 6 + (rest.extract 0 m2).size := by rw [ByteArray.size_append, hsz1]
      clear hsz1
      have hb1 : ¬ ((⟨#[98, 101, 104, 105, 110, 100]⟩ : ByteArray) ++ rest.extract 0 m2).size = 0 := by omega
      have hb2 : ((⟨#[98, 101, 104, 105, 110, 100]⟩ : ByteArray) ++ rest.extract 0 m2).size ≤ 200 := by omega
      obtain ⟨f1, f2, f3⟩ := frame200 hb1 hb2
      have hst := st_loose (room := 1048576) (l := In) f1 (by omega)
      have hlo := fun hok => lo_crash (room := 1048576) (l := In) Hfine.out f1 hok kk hk0 (by omega)
      have Hst := Lib.hid hst; have Hlo := Lib.hid hlo; have Hb2 := Lib.hid hb2
      clear hbz hrs hb1 hb2 f1 f2 f3 hst hlo
      go_wp2_with fail
      refine (ji_loose h6 (by omega) (by show In.length < 20000000; omega) _ (by have := Hb2.out; omega) 0 _ Hst.out).mono ?_
      rintro e w7 ⟨rfl, v7, h7⟩
      clear h6 Hst hcat hcat2
      have hlo2 := Hlo.out h7.jk.dk.2.2.1
      generalize loJ 1048576 In ((⟨#[98, 101, 104, 105, 110, 100]⟩ : ByteArray) ++ rest.extract 0 m2) = J7 at *
      have Hlo2 := Lib.hid hlo2; clear hlo2 Hlo
      go_wp2_with fail
      refine (dz_crash_at (d' := crashD J7.d kk) h7.jk.dk kk (by omega) (by omega) rfl).mono ?_
      rintro e w8 ⟨rfl, d8, s8, -⟩
      have o8 := h7.disk0 s8
      clear h7 s8
      go_wp2_with fail
      refine (aj_open d8 _ rfl).mono ?_
      rintro e w9 ⟨gk, v9, rfl, h9, -, -, s9, -, hl9⟩
      have o9 := o8.rows (RowsL.ofSpare s9 (by decide) []) (by simp)
      have hl9' : (openJ (crashD J7.d kk)).l.length ≤ 20000000 := by rw [Hlo2.out]; omega
      clear d8 o8 s9 hl9
      generalize openJ (crashD J7.d kk) = J9 at *
      have Hl9 := Lib.hid hl9'; clear hl9'
      go_wp2_with fail
      refine (j_records h9 Hl9.out).mono ?_
      rintro e w10 ⟨⟨x2, rfl, ox2⟩, b10⟩
      have o10 := o9.below b10
      have hb10 := h9.b0.trans (b10.mono h9.sz)
      rw [Hlo2.out] at ox2
      clear h9 o9 b10
      go_wp2_with fail
      refine (same_at (ox2.read hIm) (o10.read hIm) true (by simp)).mono ?_
      rintro e w11 ⟨rfl, b11⟩
      have hb11 := below_stepB hb10 b11 hb10.size
      clear ox2 o10 b11 hb10
      go_wp2_with fail
      refine (journalFixed_any _).mono ?_
      rintro e w12 ⟨rfl, b12⟩
      have H := Lib.hid (below_stepB hb11 b12 hb11.size)
      clear hb11 b12
      go_wp2
      go_ret
      exact ⟨rfl, H.out⟩
theorem journalOrder_go (A : Option Addr) (len cap : Nat) (L : List ByteArray) {w' : World} (hL : SRead w' (.slice A len cap) L ∧ ∀ s ∈ L, s.size ≤ maxLen) (rest : ByteArray) (hrest : rest.size ≤ maxLen) (keep : Int) (hk : (Lit.int .i64 keep).wf = true) :
    Calls Try.prog 21 #[.slice A len cap, .string rest, .int .i64 keep] w' fun e w'' => e = .returned (.bool true) ∧ Below w'.heap.size w' w'' := by
  obtain ⟨h1, h2⟩ := hL
  obtain ⟨A', cap', hAe, _⟩ := id h1
  injection hAe with e1 e2 e3
  subst e1 e2 e3
  exact journalOrder_walk A cap L rest hrest keep w' h1 h2
end Go.Proofs.Ytjmdiobnappgkaa
