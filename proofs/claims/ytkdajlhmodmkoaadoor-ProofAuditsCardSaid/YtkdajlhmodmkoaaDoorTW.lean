/-
  Layer 8 (tree): Root walked.
-/
import Derived.Test.YtkdajlhmodmkoaaDoorTV
import Derived.Laws.EntriesVeiled
namespace Go.Proofs.YtkdajlhmodmkoaaDoor
open Go.RowKit TreeM
set_option linter.unusedVariables false
set_option linter.unusedSimpArgs false

/-- What a call of Root's closure finds in memory. -/
structure RootW (w : World) (g1 g3 : Nat) (A : Option Addr) (cap : Nat) (L : List ByteArray) : Prop where
  c1 : w.cell? ⟨g1, 0, none⟩ = some (.slice A L.length cap)
  c3 : w.cell? ⟨g3, 0, none⟩ = some (.func (.func 71) #[] #[.pointer (some ⟨g1, 0, none⟩), .pointer (some ⟨g3, 0, none⟩)])
  rd : SRead w (.slice A L.length cap) L
  tab : Tab w
theorem RootW.below {w w' : World} {g1 g3 : Nat} {A : Option Addr} {cap : Nat} {L : List ByteArray} (h : RootW w g1 g3 A cap L) (hb : Below w.heap.size w w') : RootW w' g1 g3 A cap L :=
  ⟨cell_belowB hb rfl h.c1, cell_belowB hb rfl h.c3, h.rd.below hb rfl, h.tab.below hb⟩
set_option maxRecDepth 100000 in
set_option maxHeartbeats 1000000 in
theorem rootc_aux (g1 g3 : Nat) (A : Option Addr) (cap : Nat) (L : List ByteArray) (hs : ∀ s ∈ L, s.size ≤ 80000000) (hl : L.length < 1000000) : ∀ (f a b : Nat) (w : World), b - a ≤ f → a < b → b ≤ L.length → RootW w g1 g3 A cap L →
    Calls Tryd.prog 71 #[.int .i64 (a : Int), .int .i64 (b : Int), .pointer (some ⟨g1, 0, none⟩), .pointer (some ⟨g3, 0, none⟩)] w fun e w' => e = .returned (.string (root ((L.drop a).take (b - a)))) ∧ Below w.heap.size w w' := by
  intro f
  induction f with
  | zero => intro a b w h1 h2; omega
  | succ f ih =>
    intro a b w hf hab hbl hR
    have hlt := (L.drop a).length_take (i := b - a)
    have hdl : (L.drop a).length = L.length - a := List.length_drop
    obtain ⟨m, hm⟩ : ∃ m, b - a = m := ⟨_, rfl⟩
    have e1 : IntKind.i64.wrap ((b : Int) - (a : Int)) = (m : Int) := by rw [show (b : Int) - (a : Int) = (m : Int) by omega]; exact IntWalk.i64_in _ (by omega)
    by_cases h2 : 2 ≤ m
    · have hml : ((L.drop a).take m).length = m := by rw [← hm, hlt]; omega
      have hk1 := split_pos h2
      have hk2 := split_lt h2
      have hroot := root_node ((L.drop a).take m) (by rw [hml]; exact h2)
      rw [hml] at hroot
      have hsplit := split_any m (by omega)
      obtain ⟨s, hsp⟩ : ∃ s, split m = s := ⟨_, rfl⟩
      rw [hsp] at hk1 hk2 hroot hsplit
      obtain ⟨K, hK⟩ : ∃ K, a + s = K := ⟨_, rfl⟩
      have hr1 : ((L.drop a).take m).take s = (L.drop a).take (K - a) := by rw [List.take_take]; congr 1; omega
      have hr2 : ((L.drop a).take m).drop s = (L.drop K).take (b - K) := by rw [List.drop_take, List.drop_drop, hK]; congr 1; omega
      rw [hr1, hr2] at hroot
      have i1 := fun wq (hq : Below w.heap.size w wq) => ih a K wq (by omega) (by omega) (by omega) (hR.below hq)
      have i2 := fun wq (hq : Below w.heap.size w wq) => ih K b wq (by omega) (by omega) (by omega) (hR.below hq)
      have HRoot : Hid (nodeB (root ((L.drop a).take (K - a))) (root ((L.drop K).take (b - K))) = root ((L.drop a).take (b - a))) := Lib.hid (by rw [hm]; exact hroot.symm)
      have s1 : (root ((L.drop a).take (K - a))).size ≤ 40000000 := by rw [root_length]; decide
      have s2 : (root ((L.drop K).take (b - K))).size ≤ 40000000 := by rw [root_length]; decide
      have c3 := hR.c3
      have HT0 := Lib.hid hR.tab
      clear ih hroot hr1 hr2 hR hdl hlt hml hs hsp hf
      generalize root ((L.drop a).take (b - a)) = R at *
      generalize root ((L.drop a).take (K - a)) = r1 at *
      generalize root ((L.drop K).take (b - K)) = r2 at *
      have HI1 := Lib.hid i1; have HI2 := Lib.hid i2; have HSp := Lib.hid hsplit
      clear i1 i2 hsplit
      have n1 : ((m : Int) == 1) = false := by rw [beq_eq_false_iff_ne]; omega
      have e2 : IntKind.u64.wrap (m : Int) = (m : Int) := by show (m : Int) % 18446744073709551616 = _; omega
      have e3 : IntKind.i64.wrap (s : Int) = (s : Int) := IntWalk.i64_in _ (by omega)
      have e4 : IntKind.i64.wrap ((a : Int) + (s : Int)) = (K : Int) := by rw [show (a : Int) + (s : Int) = (K : Int) by omega]; exact IntWalk.i64_in _ (by omega)
      go_enter Tryd.func71, Tryd.ntmps71
      go_wp2_with fail
      refine (HSp.out _).mono ?_
      rintro e w2 ⟨rfl, rfl⟩
      go_wp2_with fail
      rename World => w0
      have HW : Hid (Below w0.heap.size w0 w0) := Lib.hid (Below.refl _ _)
      refine wp_region_T (n := 9) (S := fun wq => Below w0.heap.size w0 wq) (by kernel_rfl) (by kernel_rfl) (below_drewN' (Below.refl _ _) 1) (fun hHeld => ?_)
      refine WalkT.take (i := 0) (oi := _) (v := ?vy1) rfl (by decide) (by kernel_rfl) (by kernel_rfl) (fun _ _ _ h => h) (Or.inl ⟨by kernel_rfl, ?hyy1⟩) (by assumption) ?ry1
      case hyy1 => (intro wq hSw; have q3 := cell_belowB hSw rfl c3; go_simp; try (with_reducible rfl))
      try simp only [Act.put, List.setIfInBounds_toArray, List.set_cons_zero, List.set_cons_succ]
      refine WalkT.take (i := 1) (oi := _) (v := ?vy2) rfl (by decide) (by kernel_rfl) (by kernel_rfl) (fun _ _ _ h => h) (Or.inl ⟨by kernel_rfl, ?hyy2⟩) (by assumption) ?ry2
      case hyy2 => (intro wq hSw; go_simp; try (with_reducible rfl))
      try simp only [Act.put, List.setIfInBounds_toArray, List.set_cons_zero, List.set_cons_succ]
      refine WalkT.take (i := 2) (oi := _) (v := ?vy3) rfl (by decide) (by kernel_rfl) (by kernel_rfl) (fun _ _ _ h => h) (Or.inl ⟨by kernel_rfl, ?hyy3⟩) (by assumption) ?ry3
      case hyy3 => (intro wq hSw; go_simp; try (with_reducible rfl))
      try simp only [Act.put, List.setIfInBounds_toArray, List.set_cons_zero, List.set_cons_succ]
      refine WalkT.take (i := 4) (oi := _) (v := ?vy4) rfl (by decide) (by kernel_rfl) (by kernel_rfl) (fun _ _ _ h => h) (Or.inl ⟨by kernel_rfl, ?hyy4⟩) (by assumption) ?ry4
      case hyy4 => (intro wq hSw; have q3 := cell_belowB hSw rfl c3; go_simp; try (with_reducible rfl))
      try simp only [Act.put, List.setIfInBounds_toArray, List.set_cons_zero, List.set_cons_succ]
      refine WalkT.take (i := 5) (oi := _) (v := ?vy5) rfl (by decide) (by kernel_rfl) (by kernel_rfl) (fun _ _ _ h => h) (Or.inl ⟨by kernel_rfl, ?hyy5⟩) (by assumption) ?ry5
      case hyy5 => (intro wq hSw; go_simp; try (with_reducible rfl))
      try simp only [Act.put, List.setIfInBounds_toArray, List.set_cons_zero, List.set_cons_succ]
      refine WalkT.take (i := 6) (oi := _) (v := ?vy6) rfl (by decide) (by kernel_rfl) (by kernel_rfl) (fun _ _ _ h => h) (Or.inl ⟨by kernel_rfl, ?hyy6⟩) (by assumption) ?ry6
      case hyy6 => (intro wq hSw; go_simp; try (with_reducible rfl))
      try simp only [Act.put, List.setIfInBounds_toArray, List.set_cons_zero, List.set_cons_succ]
      refine WalkT.one (i := 3) (o := ?oy7) (by kernel_rfl) (by decide) ?hoy7 ?hky7
      case hoy7 => (simp only [List.getElem?_toArray, List.getElem?_cons_succ, List.getElem?_cons_zero]; exact rfl)
      intro K hK
      go_simp
      refine (HI1.out _ hHeld).mono ?_
      rintro e x3 ⟨rfl, hb⟩
      have hS3 : Below w0.heap.size w0 x3 := Below.trans hHeld (Below.mono hb (Below.size hHeld))
      clear hb hHeld
      go_simp
      refine hK.out _ _ hS3 (fun hHeld => ?_)
      clear hS3
      clear hK K
      try simp only [Act.put, List.setIfInBounds_toArray, List.set_cons_zero, List.set_cons_succ]
      refine WalkT.one (i := 7) (o := ?oy8) (by kernel_rfl) (by decide) ?hoy8 ?hky8
      case hoy8 => (simp only [List.getElem?_toArray, List.getElem?_cons_succ, List.getElem?_cons_zero]; exact rfl)
      intro K hK
      go_simp
      refine (HI2.out _ hHeld).mono ?_
      rintro e x7 ⟨rfl, hb⟩
      have hS7 : Below w0.heap.size w0 x7 := Below.trans hHeld (Below.mono hb (Below.size hHeld))
      clear hb hHeld
      go_simp
      refine hK.out _ _ hS7 (fun hHeld => ?_)
      clear hS7
      clear hK K
      try simp only [Act.put, List.setIfInBounds_toArray, List.set_cons_zero, List.set_cons_succ]
      refine WalkT.one (i := 8) (o := ?oy9) (by kernel_rfl) (by decide) ?hoy9 ?hky9
      case hoy9 => (simp only [List.getElem?_toArray, List.getElem?_cons_succ, List.getElem?_cons_zero]; exact rfl)
      intro K hK
      go_simp
      refine (node_any (HT0.out.below (Below.trans HW.out (Below.mono hHeld HW.out.size))) _ _ s1 s2).mono ?_
      rintro e x8 ⟨rfl, hb⟩
      have hS8 : Below w0.heap.size w0 x8 := Below.trans hHeld (Below.mono hb (Below.size hHeld))
      clear hb hHeld
      go_simp
      refine hK.out _ _ hS8 (fun hHeld => ?_)
      clear hS8
      clear hK K
      try simp only [Act.put, List.setIfInBounds_toArray, List.set_cons_zero, List.set_cons_succ]
      refine WalkT.tail (by kernel_rfl) ?_
      have Hend := Lib.hid (Below.trans HW.out (Below.mono hHeld HW.out.size)); clear hHeld
      simp only [List.drop_succ_cons, List.drop_zero]
      go_wp2
      go_ret
      exact ⟨by rw [← HRoot.out]; rfl, Hend.out⟩
    · obtain rfl : m = 1 := by omega
      have hx := hR.rd
      obtain ⟨A', cap', he, -, hc⟩ := hx
      injection he with q1 q2 q3
      subst q1 q3
      obtain ⟨bb, o, rfl, -, hcell⟩ := hc a (by omega)
      have hone : (L.drop a).take (b - a) = [L[a]] := by
        rw [hm, List.drop_eq_getElem_cons (show a < L.length by omega)]; rfl
      rw [hone, root_one]
      have hsz := hs L[a] (List.getElem_mem _)
      have c1 := hR.c1
      have HT0 := Lib.hid hR.tab
      generalize L[a] = d at *
      have a0 : (0 : Int) ≤ (a : Int) := by omega
      have a1 : (a : Int) < (L.length : Int) := by omega
      clear ih hs hc hR hone hdl hlt
      go_enter Tryd.func71, Tryd.ntmps71
      go_wp2_with fail
      refine (leaf_any HT0.out d (by omega)).mono ?_
      rintro e w2 ⟨rfl, hb2⟩
      go_wp2
      go_ret
      exact ⟨rfl, hb2⟩
set_option maxRecDepth 100000 in
set_option maxHeartbeats 1000000 in
theorem root_any {w : World} (hT : Tab w) {v : Value} {L : List ByteArray} (h : SRead w v L) (hs : ∀ s ∈ L, s.size ≤ 80000000) (hl : L.length < 1000000) :
    Calls Tryd.prog 40 #[v] w fun e w' => e = .returned (.string (root L)) ∧ Below w.heap.size w w' := by
  obtain ⟨A, cap, rfl, hm, hc⟩ := id h
  have hb0 := alloc_below' w (.cells #[.slice A L.length cap] 25)
  have hBl : Blk (w.alloc (.cells #[.slice A L.length cap] 25)) w.heap.size 25 #[.slice A L.length cap] := Blk.new _ _ _
  have c1 := hBl.cell 0
  simp only [List.getElem?_toArray, List.getElem?_cons_succ, List.getElem?_cons_zero] at c1
  obtain ⟨V, hV⟩ : ∃ V, Value.func (.func 71) #[] #[.pointer (some ⟨w.heap.size, 0, none⟩), .pointer (some ⟨w.heap.size + 1, 0, none⟩)] = V := ⟨_, rfl⟩
  obtain ⟨W1, hW1⟩ : ∃ W1, (w.alloc (.cells #[.slice A L.length cap] 25)).alloc (.cells #[V] 86) = W1 := ⟨_, rfl⟩
  have hB1 : Below w.heap.size w W1 := by rw [← hW1]; exact hb0.trans ((alloc_below' _ _).mono (by simp))
  have hc1 : W1.cell? ⟨w.heap.size, 0, none⟩ = some (.slice A L.length cap) := by rw [← hW1]; exact cell_belowB (alloc_below' _ _) rfl c1
  have hc3 : W1.cell? ⟨w.heap.size + 1, 0, none⟩ = some V := by
    have hb : Blk ((w.alloc (.cells #[.slice A L.length cap] 25)).alloc (.cells #[V] 86)) (w.alloc (.cells #[.slice A L.length cap] 25)).heap.size 86 #[V] := Blk.new _ _ _
    rw [World.size_alloc, hW1] at hb
    exact hb.cell 0
  have hRW : RootW W1 w.heap.size (w.heap.size + 1) A cap L := ⟨hc1, by rw [hc3, hV], h.below hB1 rfl, hT.below hB1⟩
  rw [← hV] at hc3 hW1
  have hlen : L.length ≤ 9223372036854775807 := hm
  by_cases h0 : L.length = 0
  · obtain rfl := List.length_eq_zero_iff.1 h0
    rw [root_nil]
    have Hb := Lib.hid hB1; have Ht := Lib.hid hRW.tab
    clear hRW hc h hs hm hl hb0 hBl c1 hV
    simp only [List.length_nil] at hc1 hc3 hW1 ⊢
    go_enter Tryd.func40, Tryd.ntmps40
    go_wp2_with fail
    refine (sum_any Ht.out ⟨#[]⟩ (by decide)).mono ?_
    rintro e w2 ⟨rfl, hb2⟩
    go_wp2
    go_ret
    exact ⟨rfl, Hb.out.trans (hb2.mono Hb.out.size)⟩
  · have hcall := rootc_aux w.heap.size (w.heap.size + 1) A cap L hs hl L.length 0 L.length W1 (by omega) (by omega) (Nat.le_refl _) hRW
    rw [List.drop_zero, Nat.sub_zero, List.take_of_length_le (Nat.le_refl _), show ((0 : Nat) : Int) = 0 from rfl] at hcall
    have Hcall := Lib.hid hcall; have Hb := Lib.hid hB1
    have n0 : ((L.length : Int) == 0) = false := by rw [beq_eq_false_iff_ne]; omega
    clear hRW hc h hs hm hl hb0 hBl c1 hV hcall
    generalize root L = R at *
    generalize L.length = n at *
    go_enter Tryd.func40, Tryd.ntmps40
    go_wp2_with fail
    refine Hcall.out.mono ?_
    rintro e w2 ⟨rfl, hb2⟩
    go_wp2
    go_ret
    exact ⟨rfl, Hb.out.trans (hb2.mono Hb.out.size)⟩
end Go.Proofs.YtkdajlhmodmkoaaDoor
