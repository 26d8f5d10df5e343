/-
  Layer 14 (disk): the walk of Crash: what is kept to be undone, and the two loops.
-/
import Derived.Test.YtjmdiobnappgkaaDiskC
namespace Go.Proofs.Ytjmdiobnappgkaa
open Go.RowKit
set_option linter.unusedVariables false
set_option linter.unusedSimpArgs false

/-- What the first loop has laid: for each entry its copy, what stays of it, and a closure over both. -/
structure Undo (w wr : World) (bb : Nat) (l : List (Nat × Nat)) (keep : Int) (L : List (Nat × Nat)) (v : Value) : Prop where
  len : L.length = l.length
  own : wr.ownsRow (bb + 1) 1 1 v l.length (fvals bb L)
  at_ : ∀ (j : Nat) (p q : Nat × Nat) (s : Nat), l[j]? = some p → L[j]? = some q → (stays l keep)[j]? = some s → Blk wr q.1 120 #[.int .i64 (p.1 : Int), .int .i64 (p.2 : Int)] ∧ Blk wr q.2 3 #[.int .i64 (s : Int)] ∧ bb < q.1 ∧ bb < q.2
  bel : Below (bb + 1) w wr
  lt : bb < wr.heap.size

theorem Undo.start (w : World) (bb : Nat) (keep : Int) (hb : bb < w.heap.size) : Undo w w bb [] keep [] (.slice none 0 0) :=
  ⟨rfl, World.ownsRow_nil _ _ _ _, fun j p q s h => by simp at h, Below.refl _ _, hb⟩

theorem Undo.step {w wr w2 : World} {bb : Nat} {l : List (Nat × Nat)} {keep : Int} {L : List (Nat × Nat)} {v v' : Value} (h : Undo w wr bb l keep L v) (p : Nat × Nat) (f : Value)
    (hown : w2.ownsRow (bb + 1) 1 1 v' (l.length + 1) (fvals bb L ++ [fval bb (wr.heap.size, wr.heap.size + 1)]))
    (hg : (((wr.alloc (.cells #[.int .i64 (p.1 : Int), .int .i64 (p.2 : Int)] 120)).alloc (.cells #[.int .i64 (stay (kept l keep) p.2 : Int)] 3)).alloc (.cells #[f] 1)).grownBy w2 v.ownBlock) :
    Undo w w2 bb (l ++ [p]) keep (L ++ [(wr.heap.size, wr.heap.size + 1)]) v' := by
  have hlt := h.lt
  have hkeep : ∀ (g : Nat) (t : TypeId) (cs : Array Value), t ≠ 1 → Blk wr g t cs → Blk w2 g t cs := by
    intro g t cs ht hb
    refine ((((hb.alloc _).alloc _).alloc _).grown hg ?_)
    exact fun e => own_blk_ne h.own hb (Ne.symm ht) e.symm
  refine ⟨by simp [h.len], by simpa [fvals] using hown, ?_, ?_, ?_⟩
  · intro j p' q s h1 h2 h3
    rcases Nat.lt_or_ge j l.length with hj | hj
    · rw [List.getElem?_append_left hj] at h1
      rw [List.getElem?_append_left (by rw [h.len]; exact hj)] at h2
      rw [stays_snoc, List.getElem?_append_left (by rw [stays_length]; exact hj)] at h3
      obtain ⟨a, b, c, e⟩ := h.at_ j p' q s h1 h2 h3
      exact ⟨hkeep _ _ _ (by decide) a, hkeep _ _ _ (by decide) b, c, e⟩
    · have hj' : j = l.length := by
        have := (List.getElem?_eq_some_iff.1 h1).1
        simp at this; omega
      subst hj'
      rw [List.getElem?_append_right (Nat.le_refl _)] at h1
      rw [List.getElem?_append_right (by rw [h.len]; exact Nat.le_refl _), h.len] at h2
      rw [stays_snoc, List.getElem?_append_right (by rw [stays_length]; exact Nat.le_refl _), stays_length] at h3
      simp at h1 h2 h3
      subst h1 h2 h3
      have hv := own_lt h.own
      refine ⟨?_, ?_, hlt, by show bb < wr.heap.size + 1; omega⟩
      · have b1 : Blk (wr.alloc (.cells #[.int .i64 (p.1 : Int), .int .i64 (p.2 : Int)] 120)) wr.heap.size 120 #[.int .i64 (p.1 : Int), .int .i64 (p.2 : Int)] := Blk.new _ _ _
        exact ((b1.alloc _).alloc _).grown hg (fun e => by have := hv _ e.symm; omega)
      · have b1 := Blk.new (wr.alloc (.cells #[.int .i64 (p.1 : Int), .int .i64 (p.2 : Int)] 120)) 3 #[.int .i64 (stay (kept l keep) p.2 : Int)]
        have e1 : (wr.alloc (.cells #[.int .i64 (p.1 : Int), .int .i64 (p.2 : Int)] 120)).heap.size = wr.heap.size + 1 := by simp
        rw [e1] at b1
        exact (b1.alloc _).grown hg (fun e => by have := hv _ e.symm; omega)
  · refine h.bel.trans ?_
    have hz : bb + 1 ≤ wr.heap.size := hlt
    refine ((((Below.refl (bb + 1) wr).alloc hz _).alloc (by simp; omega) _).alloc (by simp; omega) _).grown hg (by simp; omega) ?_
    intro k hk
    exact (h.own.lt k hk).1
  · have := hg.size; simp at this; omega

def cutf (d : DS) (p : Nat × Nat) (s : Nat) : DS :=
  if p.1 = 0 then { d with f0 := d.f0.extract 0 (d.f0.size - p.2 + s) } else { d with f1 := d.f1.extract 0 (d.f1.size - p.2 + s) }
def undoL (d : DS) : List (Nat × Nat) → List Nat → DS
  | p :: l, s :: ss => cutf (undoL d l ss) p s
  | _, _ => d
theorem cutf_loose (d : DS) (p : Nat × Nat) (s : Nat) : (cutf d p s).loose = d.loose ∧ (cutf d p s).room = d.room := by unfold cutf; split <;> exact ⟨rfl, rfl⟩
theorem undoL_loose (d : DS) : ∀ (l : List (Nat × Nat)) (ss : List Nat), (undoL d l ss).loose = d.loose ∧ (undoL d l ss).room = d.room
  | [], _ => ⟨rfl, rfl⟩
  | _ :: _, [] => ⟨rfl, rfl⟩
  | p :: l, s :: ss => by
    have h1 := undoL_loose d l ss
    have h2 := cutf_loose (undoL d l ss) p s
    exact ⟨h2.1.trans h1.1, h2.2.trans h1.2⟩
theorem cutf_file (d : DS) (p : Nat × Nat) (s : Nat) (f : Nat) (hp : p.1 < 2) (hf : f < 2) : (cutf d p s).file f = if p.1 = f then (d.file f).extract 0 ((d.file f).size - p.2 + s) else d.file f := by
  have h1 : f = 0 ∨ f = 1 := by omega
  have h2 : p.1 = 0 ∨ p.1 = 1 := by omega
  rcases h1 with rfl | rfl <;> rcases h2 with h2 | h2 <;> simp [cutf, DS.file, h2]
theorem undo_size (d : DS) (f : Nat) (hf : f < 2) : ∀ (l : List (Nat × Nat)) (ss : List Nat), (∀ p ∈ l, p.1 < 2) → looseOf f l ≤ (d.file f).size →
    (d.file f).size ≤ ((undoL d l ss).file f).size + looseOf f l ∧ ((undoL d l ss).file f).size ≤ (d.file f).size
  | [], ss, _, _ => by cases ss <;> simp [undoL]
  | p :: l, [], _, h => by simp [undoL]
  | p :: l, s :: ss, hp, h => by
    have hsum : looseOf f (p :: l) = (if p.1 = f then p.2 else 0) + looseOf f l := by simp [looseOf]
    have ih := undo_size d f hf l ss (fun q hq => hp q (List.mem_cons_of_mem _ hq)) (by omega)
    simp only [undoL]
    rw [cutf_file _ _ _ _ (hp p (List.mem_cons_self ..)) hf]
    rw [hsum]
    split
    · rw [ByteArray.size_extract]; omega
    · omega
theorem looseOf_append (f : Nat) (a b : List (Nat × Nat)) : looseOf f (a ++ b) = looseOf f a + looseOf f b := by simp [looseOf]
theorem looseOf_split (f : Nat) (l : List (Nat × Nat)) (i : Nat) (hi : i < l.length) : looseOf f l = looseOf f (l.take i) + ((if l[i].1 = f then l[i].2 else 0) + looseOf f (l.drop (i + 1))) := by
  have h1 : looseOf f l = looseOf f (l.take i) + looseOf f (l.drop i) := by rw [← looseOf_append, List.take_append_drop]
  rw [h1, List.drop_eq_getElem_cons hi]
  simp only [looseOf, List.map_cons, List.sum_cons]
theorem undo_fits (d : DS) (hk : d.ok) (keep : Int) (i : Nat) (hi : i < d.loose.length) :
    d.loose[i].2 ≤ ((undoL d (d.loose.drop (i + 1)) ((stays d.loose keep).drop (i + 1))).file d.loose[i].1).size ∧ ((undoL d (d.loose.drop (i + 1)) ((stays d.loose keep).drop (i + 1))).file d.loose[i].1).size ≤ 16777216 := by
  have hp := hk.two d.loose[i] (List.getElem_mem _)
  have hall : ∀ f, f < 2 → looseOf f d.loose ≤ (d.file f).size := by
    intro f hf
    have : f = 0 ∨ f = 1 := by omega
    rcases this with rfl | rfl
    · exact hk.l0
    · exact hk.l1
  have h1 := hall _ hp
  have h2 := looseOf_split d.loose[i].1 d.loose i hi
  rw [if_pos rfl] at h2
  have h3 := undo_size d d.loose[i].1 hp (d.loose.drop (i + 1)) ((stays d.loose keep).drop (i + 1)) (fun p h => hk.two p (List.mem_of_mem_drop h)) (by omega)
  have h4 := file_le hk d.loose[i].1
  omega
theorem stays_le (l : List (Nat × Nat)) : ∀ (keep : Int) (i : Nat) (hi : i < l.length), (stays l keep)[i]'(by rw [stays_length]; exact hi) ≤ l[i].2 := by
  induction l with
  | nil => intro keep i hi; simp at hi
  | cons p l ih =>
    intro keep i hi
    cases i with
    | zero => exact stay_le _ _
    | succ i => exact ih _ i (by simpa using hi)
theorem blk_file {w : World} {g : Nat} {d : DS} {v : Value} (h : Blk w g 117 (dcells d v)) (f : Nat) (hf : f < 2) : w.cell? ⟨g, f, none⟩ = some (.string (d.file f)) := by
  have : f = 0 ∨ f = 1 := by omega
  rcases this with rfl | rfl
  · exact h.cell 0
  · exact h.cell 1
theorem undo_blk {w : World} {g : Nat} {d : DS} {v : Value} (h : Blk w g 117 (dcells d v)) (f n s : Nat) (hf : f < 2) : Blk (w.setCell ⟨g, f, none⟩ (.string ((d.file f).extract 0 ((d.file f).size - n + s)))).drew g 117 (dcells (cutf d (f, n) s) v) := by
  have := h.set_ f (.string ((d.file f).extract 0 ((d.file f).size - n + s)))
  have e : (dcells d v).setIfInBounds f (.string ((d.file f).extract 0 ((d.file f).size - n + s))) = dcells (cutf d (f, n) s) v := by
    have : f = 0 ∨ f = 1 := by omega
    rcases this with rfl | rfl <;> rfl
  rw [e] at this
  exact this
theorem heap3_new (w : World) (a b c : Obj) : (((w.alloc a).alloc b).alloc c).heap[w.heap.size + 1 + 1]? = some c := by
  have := heap_alloc_new ((w.alloc a).alloc b) c
  simpa using this
theorem base3 {w : World} {B : Nat} (h : B ≤ w.heap.size) (a b c : Obj) : B ≤ (((w.alloc a).alloc b).alloc c).heap.size := by simp; omega
theorem one_single {u : Value} (h : u.oneCell' = true) : ∀ x ∈ (#[u] : Array Value).toList, x.oneCell' = true := by intro x hx; simp at hx; subst hx; exact h
set_option maxRecDepth 100000 in
set_option maxHeartbeats 800000 in
theorem crash_any {base g : Nat} {v : Value} {d : DS} {w : World} (h : IsDisk w base g v d) (hk : d.ok) (keep : Int) (h1 : -9223372036854775808 ≤ keep) (h2 : keep ≤ 9223372036854775807) :
    Calls Try.prog 35 #[.pointer (some ⟨g, 0, none⟩), .int .i64 keep] w fun e w' => e = .returned (.tuple #[]) ∧ IsDisk w' base g (.slice none 0 0) (undoL d d.loose (stays d.loose keep)).sync ∧ Only w.heap.size [g] w w' := by
  obtain ⟨A, cp, rfl, hvl⟩ := own_form h.own
  have c2 := h.c2
  have hgl := h.blk.lt
  have hfew := hk.few
  obtain ⟨i0, hi, hz0, hz1, hz2⟩ := info_parts info1
  have H := Lib.hid h; clear h
  have Hvl := Lib.hid hvl; clear hvl
  have hall := hk.all
  have h00 := Undo.start (w.alloc (.cells #[.pointer (some ⟨g, 0, none⟩)] 35)) w.heap.size keep (by simp)
  go_enter Try.func35, Try.ntmps35
  go_wp2
  go_loopw [1, 4, 14] (fun kp u i wr => ∃ (k : Nat) (L : List (Nat × Nat)) (A' : Option Addr) (c' : Nat), k ≤ d.loose.length ∧ i = .int .i64 k ∧ kp = .int .i64 (kept (d.loose.take k) keep) ∧ u = .slice A' k c' ∧ Undo (w.alloc (.cells #[.pointer (some ⟨g, 0, none⟩)] 35)) wr w.heap.size (d.loose.take k) keep L (.slice A' k c')) (fun _ _ i _ => d.loose.length - (intOf i).toNat)
  case atStart => exact ⟨0, [], none, 0, Nat.zero_le _, rfl, rfl, rfl, h00⟩
  case round =>
    obtain ⟨k, L, A', c', hk', rfl, rfl, rfl, hu⟩ := hrel
    by_cases hlt : k < d.loose.length
    · have hkl : (d.loose.take k).length = k := by simp; omega
      have huo := hu.own
      rw [hkl] at huo
      have hbel := hu.bel
      have hwl := hu.lt
      obtain ⟨gr, rfl, hgr⟩ : ∃ gr, A = some ⟨gr, 0, none⟩ ∧ gr < w.heap.size := by
        rcases H.out.own.2 with ⟨e, hn⟩ | ⟨gr, cap, cur, e, _, hh, _⟩
        · omega
        · injection e with e1 e2 e3
          exact ⟨gr, e1, (Array.getElem?_eq_some_iff.1 hh).1⟩
      have hcell := H.out.own.cellAt
      have hold : ∀ i, wr.cell? ⟨gr, i, none⟩ = w.cell? ⟨gr, i, none⟩ := fun i => by
        rw [hbel.cell (by show gr < w.heap.size + 1; omega), World.cell?_alloc_lt _ _ _ (by exact hgr)]
      have hc0 : wr.cell? ⟨gr, k * 2, none⟩ = some (.int .i64 (d.loose[k].1 : Int)) := by
        rw [hold, hcell (k * 2) (by omega)]; exact (lvals_get _ k hlt).1
      have hc1 : wr.cell? ⟨gr, k * 2 + 1, none⟩ = some (.int .i64 (d.loose[k].2 : Int)) := by
        rw [hold, hcell (k * 2 + 1) (by omega)]; exact (lvals_get _ k hlt).2
      clear hold hcell
      have hkb := kept_bd (d.loose.take k) keep h1 h2
      have Hsn := Lib.hid (List.take_succ_eq_append_getElem hlt)
      have hpn : d.loose[k].2 ≤ 16777216 := by
        have := looseAll_take_le d.loose (k + 1)
        have hs := loose_snoc (d.loose.take k) d.loose[k]
        rw [← Hsn.out] at hs
        omega
      generalize hpe : d.loose[k] = p at *
      have Hpe := Lib.hid hpe; clear hpe
      have hst : stay (kept (d.loose.take k) keep) p.2 = stay (kept (d.loose.take k) keep) p.2 := rfl
      have Hkp := Lib.hid (kept_snoc (d.loose.take k) p keep)
      have HU := Lib.hid hu; clear hu hbel
      generalize hkq : kept (d.loose.take k) keep = kp at *
      have Hkq := Lib.hid hkq; clear hkq hst
      have hcase : (kp ≤ 0 ∧ (stay kp p.2 : Int) = 0) ∨ (0 < kp ∧ kp ≤ (p.2 : Int) ∧ (stay kp p.2 : Int) = kp) ∨ (0 < kp ∧ (p.2 : Int) ≤ 0 ∧ (stay kp p.2 : Int) = 0) ∨ (0 < kp ∧ 0 < (p.2 : Int) ∧ (p.2 : Int) < kp ∧ (stay kp p.2 : Int) = p.2) := by unfold stay; omega
      have hml : k + 1 ≤ maxLen := by unfold maxLen; omega
      have hby : (k + 1) * 8 ≤ 140737488355328 := by omega
      have hbs : w.heap.size + 1 ≤ wr.heap.size := hwl
      rcases hcase with ⟨hq, hst⟩ | ⟨hq, hq2, hst⟩ | ⟨hq, hq2, hst⟩ | ⟨hq, hq2, hq3, hst⟩
      all_goals
        have Hst := Lib.hid hst; clear hst
        go_wp2_with (at_builtin; refine wpList_append_el rfl _ _ 121 rfl (w.heap.size + 1) 1 i0 _ 1 8 Try.underlying121 hi hz0 hz1 hz2 rfl (by decide) _ _ _ rfl (((huo.alloc _).alloc _).alloc _) (wr.heap.size + 1 + 1) rfl _ 1 (0, 0) (heap3_new _ _ _ _) rfl (one_single rfl) hml hby (base3 hbs _ _ _) ?_)
        intro g' cap' w2 hown2 hg2 hat2
        have Hown2 := Lib.hid hown2; clear hown2
        have Hg2 := Lib.hid hg2; clear hg2
        have Hat2 := Lib.hid hat2; clear hat2
        go_wp2
        go_roundw
        case rel =>
          refine ⟨k + 1, L ++ [(wr.heap.size, wr.heap.size + 1)], some ⟨g', 0, none⟩, cap', by omega, by go_num, ?_, rfl, ?_⟩
          · exact congrArg (Value.int IntKind.i64) (by have e := Hkp.out; rw [Hst.out, ← Hsn.out] at e; omega)
          · rw [Hsn.out]
            refine Undo.step HU.out p (fval w.heap.size (wr.heap.size, wr.heap.size + 1)) (by rw [hkl]; exact Hown2.out) ?_
            rw [Hkq.out, Hst.out]; exact Hg2.out
        case measure => simp [intOf]; omega
    · obtain rfl : k = d.loose.length := by omega
      rw [List.take_length] at hu
      generalize kept (List.take d.loose.length d.loose) keep = kfin
      obtain ⟨wo, rfl⟩ : ∃ wo : World, wo = wr := ⟨_, rfl⟩
      have hwl := hu.lt
      have hbel := hu.bel
      have hbox : wo.cell? ⟨w.heap.size, 0, none⟩ = some (.pointer (some ⟨g, 0, none⟩)) := by
        rw [hbel.cell (by show w.heap.size < w.heap.size + 1; omega)]; exact (Blk.new w 35 _).cell 0
      have hblk0 : Blk wo g 117 (dcells d (.slice A d.loose.length cp)) := by
        have := (H.out.blk.alloc (.cells #[.pointer (some ⟨g, 0, none⟩)] 35))
        exact (hbel.block g (by omega)).trans this
      have hgwo : g < wo.heap.size := by omega
      have Hbel := Lib.hid hbel; clear hbel
      have HU := Lib.hid hu; clear hu
      have Hblk0 := Lib.hid hblk0
      go_wp2
      go_loopw [8] (fun i wr => ∃ j : Nat, j ≤ d.loose.length ∧ i = .int .i64 ((j : Int) - 1) ∧ Blk wr g 117 (dcells (undoL d (d.loose.drop j) ((stays d.loose keep).drop j)) (.slice A d.loose.length cp)) ∧ Only wo.heap.size [g] wo wr) (fun i _ => (intOf i + 1).toNat)
      case atStart =>
        refine ⟨d.loose.length, Nat.le_refl _, rfl, ?_, Only.refl _ _ _⟩
        rw [List.drop_length]; exact hblk0
      case round =>
        obtain ⟨j, hj, rfl, hb, ho⟩ := hrel
        have hbx2 : wr.cell? ⟨w.heap.size, 0, none⟩ = some (.pointer (some ⟨g, 0, none⟩)) := by
          rw [World.cell?_of_block (w := wo) (ho.block _ hwl (by simp; omega))]; exact hbox
        rcases Nat.eq_zero_or_pos j with rfl | hjp
        · have Hb := Lib.hid hb; clear hb
          rw [show ((0 : Nat) : Int) - 1 = -1 from rfl]
          have Ho := Lib.hid ho; clear ho
          clear hblk0 hbox
          go_wp2_with fail
          have hdd := undoL_loose d d.loose (stays d.loose keep)
          have hown' : wr.ownsRow base 120 2 (.slice A d.loose.length cp) (undoL d d.loose (stays d.loose keep)).loose.length (lvals (undoL d d.loose (stays d.loose keep)).loose) := by
            rw [hdd.1]
            have hl := own_lt H.out.own
            have hne := own_blk_ne H.out.own H.out.blk (by decide)
            refine own_only (own_only (H.out.own.alloc _) (Only.ofBelow Hbel.out []) (fun k hk => ⟨by have := hl k hk; omega, by simp⟩)) Ho.out (fun k hk => ⟨by have := hl k hk; omega, ?_⟩)
            simp only [List.mem_singleton]
            rintro rfl; exact hne hk
          have hdisk : IsDisk wr base g (.slice A d.loose.length cp) (undoL d d.loose (stays d.loose keep)) := ⟨Hb.out, H.out.hb, hown'⟩
          refine (sync_any hdisk).mono ?_
          rintro e w2 ⟨rfl, hd2, ho2⟩
          have Hd2 := Lib.hid hd2; clear hd2
          have Ho2 := Lib.hid ho2; clear ho2
          go_wp2
          go_end0
          refine ⟨rfl, Hd2.out, ?_⟩
          have h0 : Only w.heap.size [g] w wo := by
            refine Only.then ((Only.refl w.heap.size [g] w).alloc (Nat.le_refl _) (.cells #[.pointer (some ⟨g, 0, none⟩)] 35)) (Only.ofBelow Hbel.out []) (by omega) (by simp)
          exact (h0.then Ho.out (by omega) (fun k _ h => h)).then Ho2.out (by have := Ho.out.size; omega) (fun k _ h => h)
        · obtain ⟨i, rfl⟩ : ∃ i, j = i + 1 := ⟨j - 1, by omega⟩
          rw [show ((i + 1 : Nat) : Int) - 1 = (i : Int) by omega]
          obtain ⟨gu, rfl, hgu, hgul⟩ : ∃ gu, A' = some ⟨gu, 0, none⟩ ∧ w.heap.size + 1 ≤ gu ∧ gu < wo.heap.size := by
            have hlt' := HU.out.own.lt
            rcases HU.out.own.2 with ⟨e, hn⟩ | ⟨gu, cap, cur, e, hb', hh, _⟩
            · omega
            · injection e with e1 e2 e3
              exact ⟨gu, e1, hb', (Array.getElem?_eq_some_iff.1 hh).1⟩
          obtain ⟨q, hq⟩ : ∃ q, L[i]? = some q := ⟨L[i]'(by rw [HU.out.len]; omega), List.getElem?_eq_getElem _⟩
          have hp : d.loose[i]? = some d.loose[i] := List.getElem?_eq_getElem (by omega)
          have hsl : i < (stays d.loose keep).length := by rw [stays_length]; omega
          have hs := List.getElem?_eq_getElem hsl
          obtain ⟨hb1, hb2, hq1, hq2⟩ := HU.out.at_ i _ _ _ hp hq hs
          have hfc : wo.cell? ⟨gu, i, none⟩ = some (fval w.heap.size q) := by
            rw [HU.out.own.cellAt i (by omega)]
            simp [fvals, hq]
          have hfc2 : wr.cell? ⟨gu, i, none⟩ = some (fval w.heap.size q) := by
            rw [World.cell?_of_block (w := wo) (ho.block gu hgul (by simp; omega))]; exact hfc
          have hil : (i : Int) < (d.loose.length : Int) := by omega
          unfold fval at hfc2
          clear hfc
          have Hb1 := Lib.hid hb1; have Hb2 := Lib.hid hb2; clear hb1 hb2
          have Hq := Lib.hid hq; have Hp := Lib.hid hp; have Hs := Lib.hid hs; clear hq hp hs
          have Hb := Lib.hid hb; clear hb
          have Ho := Lib.hid ho; clear ho
          clear hblk0 hbox
          have hpp : d.loose[i].1 < 2 := hk.two _ (List.getElem_mem _)
          have hfit := undo_fits d hk keep i (by omega)
          have hsle := stays_le d.loose keep i (by omega)
          have hbb1 := Hb1.out.cell 0
          have hbw0 : wr.cell? ⟨q.1, 0, none⟩ = some (.int .i64 (d.loose[i].1 : Int)) := by
            rw [World.cell?_of_block (w := wo) (Ho.out.block _ Hb1.out.lt (by simp; omega))]; exact Hb1.out.cell 0
          have hbw1 : wr.cell? ⟨q.1, 1, none⟩ = some (.int .i64 (d.loose[i].2 : Int)) := by
            rw [World.cell?_of_block (w := wo) (Ho.out.block _ Hb1.out.lt (by simp; omega))]; exact Hb1.out.cell 1
          have hbs0 : wr.cell? ⟨q.2, 0, none⟩ = some (.int .i64 ((stays d.loose keep)[i] : Int)) := by
            rw [World.cell?_of_block (w := wo) (Ho.out.block _ Hb2.out.lt (by simp; omega))]; exact Hb2.out.cell 0
          have hcf := blk_file Hb.out d.loose[i].1 hpp
          have hff := Hb.out.frozen d.loose[i].1
          have HB := Lib.hid (And.intro hbw0 (And.intro hbw1 (And.intro hbs0 (And.intro hcf hff)))); clear hbw0 hbw1 hbs0 hcf hff hbb1
          have HF := Lib.hid (And.intro hpp (And.intro hfit hsle)); clear hpp hfit hsle
          go_wp2_with fail
          refine (undo_any hbx2 HB.out.1 HB.out.2.1 HB.out.2.2.1 HB.out.2.2.2.1 HB.out.2.2.2.2 HF.out.1 HF.out.2.1.1 HF.out.2.2 HF.out.2.1.2).mono ?_
          rintro e w2 ⟨rfl, rfl⟩
          have hbn := undo_blk Hb.out d.loose[i].1 d.loose[i].2 (stays d.loose keep)[i] HF.out.1
          have hon : Only wo.heap.size [g] wo (wr.setCell ⟨g, d.loose[i].1, none⟩ (.string (((undoL d (d.loose.drop (i + 1)) ((stays d.loose keep).drop (i + 1))).file d.loose[i].1).extract 0 (((undoL d (d.loose.drop (i + 1)) ((stays d.loose keep).drop (i + 1))).file d.loose[i].1).size - d.loose[i].2 + (stays d.loose keep)[i])))).drew := (Ho.out.setCell (p := ⟨g, d.loose[i].1, none⟩) (.inl (by simp)) _).drew
          generalize (wr.setCell ⟨g, d.loose[i].1, none⟩ (.string (((undoL d (d.loose.drop (i + 1)) ((stays d.loose keep).drop (i + 1))).file d.loose[i].1).extract 0 (((undoL d (d.loose.drop (i + 1)) ((stays d.loose keep).drop (i + 1))).file d.loose[i].1).size - d.loose[i].2 + (stays d.loose keep)[i])))).drew = W at *
          have Hbn := Lib.hid hbn; clear hbn
          have Hon := Lib.hid hon; clear hon
          go_wp2
          go_roundw
          case rel =>
            refine ⟨i, by omega, rfl, ?_, Hon.out⟩
            rw [List.drop_eq_getElem_cons (show i < d.loose.length by omega), List.drop_eq_getElem_cons hsl]
            exact Hbn.out
          case measure => simp [intOf]
end Go.Proofs.Ytjmdiobnappgkaa
