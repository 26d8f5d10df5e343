/-
  Layer 11 (wire): the reader: its plain model, how it lies in memory, the walk of take.
-/
import Derived.Test.YtjmdiobnappgkaaWireW
import Derived.Defers
import Derived.BigRegion
namespace Go.Proofs.Ytjmdiobnappgkaa
open Go.RowKit
set_option linter.unusedVariables false
set_option linter.unusedSimpArgs false

structure RD where
  s : ByteArray
  e : Nat
/-- Of the blocks that were there g alone may have turned. -/
def Frm (g : Nat) (w w' : World) : Prop := Only w.heap.size [g] w w'
theorem Frm.refl (g : Nat) (w : World) : Frm g w w := Only.refl _ _ _
theorem Frm.trans {g : Nat} {w w' w'' : World} (h : Frm g w w') (k : Frm g w' w'') : Frm g w w'' := Only.trans h (Only.mono k h.size (fun _ _ h => h))
theorem Frm.ofBelow (g : Nat) {w w' : World} (h : Below w.heap.size w w') : Frm g w w' := Only.ofBelow h [g]
def IsRd (w : World) (g : Nat) (x : RD) : Prop := Blk w g 127 #[.string x.s, .int .i64 (x.e : Int)]
/-- In world w block g is the reader x, made since w0. -/
def RDK (w0 w : World) (g : Nat) (x : RD) : Prop := IsRd w g x ∧ w0.heap.size ≤ g ∧ Below w0.heap.size w0 w ∧ w0.heap.size ≤ w.heap.size
section
variable {w0 w w' : World} {g : Nat} {x : RD}
theorem IsRd.c0 (h : IsRd w g x) : w.cell? ⟨g, 0, none⟩ = some (.string x.s) := Blk.cell h 0
theorem IsRd.c1 (h : IsRd w g x) : w.cell? ⟨g, 1, none⟩ = some (.int .i64 (x.e : Int)) := Blk.cell h 1
theorem IsRd.fr (h : IsRd w g x) (i : Nat) : w.frozen? ⟨g, i, none⟩ = false := Blk.frozen h i
theorem RDK.below (h : RDK w0 w g x) (hb : Below w.heap.size w w') : RDK w0 w' g x := by
  obtain ⟨h1, h2, h3, h4⟩ := h
  exact ⟨(Spare.ofBelow (T := []) hb).blk h1 (by simp), h2, h3.trans (hb.mono h4), Nat.le_trans h4 hb.size⟩
theorem RDK.spare {T : List TypeId} (h : RDK w0 w g x) (hb : Below w0.heap.size w0 w') (hs : Spare T w w') (h1 : 127 ∉ T) : RDK w0 w' g x :=
  ⟨hs.blk h.1 h1, h.2.1, hb, hb.size⟩
theorem RDK.only {x' : RD} (h : RDK w0 w g x) (hx : IsRd w' g x') (ho : Only w.heap.size [g] w w') : RDK w0 w' g x' ∧ Frm g w w' := by
  obtain ⟨h1, h2, h3, h4⟩ := h
  exact ⟨⟨hx, h2, h3.trans ((ho.mono h4 (l' := [g]) (fun k _ h => h)).below (by simp; exact h2)), Nat.le_trans h4 ho.size⟩, ho⟩
theorem RDK.frm {g' : Nat} (h : RDK w0 w g x) (hb : Below w0.heap.size w0 w') (hf : Frm g' w w') (hne : g ≠ g') : RDK w0 w' g x :=
  ⟨(hf.block g h.1.lt (by simp; exact hne)).trans h.1, h.2.1, hb, hb.size⟩
theorem Frm.spare {w w' : World} {g : Nat} {x : RD} (h : Frm g w w') (hx : IsRd w g x) : Spare [127] w w' :=
  Spare.ofOnly h (by intro k hk; simp at hk; subst hk; exact ⟨_, _, _, hx, by simp⟩)
/-- What take gives, and the reader after it. -/
def RD.takeS (x : RD) (n : Int) : ByteArray := if x.e = 0 ∧ 0 ≤ n ∧ n ≤ x.s.size then x.s.extract 0 n.toNat else ⟨#[]⟩
def RD.takeX (x : RD) (n : Int) : RD := if x.e = 0 then (if n < 0 then { x with e := 1 } else if (x.s.size : Int) < n then { x with e := 2 } else { x with s := x.s.extract n.toNat x.s.size }) else x

set_option maxRecDepth 100000 in
set_option maxHeartbeats 400000 in
theorem take1_d (b2 b3 g n : Nat) (s : ByteArray) (hn : n ≤ s.size) (u : FrameMode) (w : World) (c2 : w.cell? ⟨b2, 0, none⟩ = some (.pointer (some ⟨g, 0, none⟩))) (c3 : w.cell? ⟨b3, 0, none⟩ = some (.int .i64 (n : Int))) (c0 : w.cell? ⟨g, 0, none⟩ = some (.string s)) (f0 : w.frozen? ⟨g, 0, none⟩ = false) :
    CallsD Try.prog 108 #[.pointer (some ⟨b2, 0, none⟩), .pointer (some ⟨b3, 0, none⟩)] u w fun e u' w' => u' = u ∧ (e = .returned (.tuple #[]) ∧ w' = (w.setCell ⟨g, 0, none⟩ (.string (s.extract n s.size))).drew) := by
  have hni : (n : Int) ≤ (s.size : Int) := by omega
  go_enter_d Try.func108, Try.ntmps108
  go_wp2
  go_region
  go_end0
  exact ⟨rfl, rfl⟩
set_option maxRecDepth 100000 in
set_option maxHeartbeats 800000 in
theorem rd_take (h : RDK w0 w g x) (n : Int) : Calls Try.prog 96 #[.pointer (some ⟨g, 0, none⟩), .int .i64 n] w fun r w' => r = .returned (.string (x.takeS n)) ∧ RDK w0 w' g (x.takeX n) ∧ Frm g w w' := by
  have hmf : ∀ (fn : Fn) (first cap : Array Value) (w : World), (Instr.makeFunc fn first cap).run Try.prog w = .ok (.func fn first cap) w := fun _ _ _ _ => rfl
  have hb1 := alloc_below' w (.cells #[.pointer (some ⟨g, 0, none⟩)] 76)
  have hb2 := alloc_below' (w.alloc (.cells #[.pointer (some ⟨g, 0, none⟩)] 76)) (.cells #[.int .i64 n] 3)
  have hb := bthen hb1 hb2
  have h2 := h.below hb
  have k2 : ((w.alloc (.cells #[.pointer (some ⟨g, 0, none⟩)] 76)).alloc (.cells #[.int .i64 n] 3)).cell? ⟨w.heap.size, 0, none⟩ = some (.pointer (some ⟨g, 0, none⟩)) := ((Blk.new w 76 #[.pointer (some ⟨g, 0, none⟩)]).alloc (.cells #[.int .i64 n] 3)).cell 0
  have e1 : (w.alloc (.cells #[.pointer (some ⟨g, 0, none⟩)] 76)).heap.size = w.heap.size + 1 := by simp
  have k3 : ((w.alloc (.cells #[.pointer (some ⟨g, 0, none⟩)] 76)).alloc (.cells #[.int .i64 n] 3)).cell? ⟨w.heap.size + 1, 0, none⟩ = some (.int .i64 n) := by
    have := (Blk.new (w.alloc (.cells #[.pointer (some ⟨g, 0, none⟩)] 76)) 3 #[.int .i64 n]).cell 0
    rw [e1] at this; exact this
  have c0 := h2.1.c0
  have c1 := h2.1.c1
  have f0 := h2.1.fr 0
  have f1 := h2.1.fr 1
  have H2 := Lib.hid h2; have Hb := Lib.hid (Frm.ofBelow g hb)
  clear hb1 hb2 hb h2
  have hcase : (¬ x.e = 0) ∨ (x.e = 0 ∧ n < 0) ∨ (x.e = 0 ∧ ¬ n < 0 ∧ (x.s.size : Int) < n) ∨ (x.e = 0 ∧ 0 ≤ n ∧ n ≤ (x.s.size : Int)) := by omega
  rcases hcase with he | ⟨he, hn⟩ | ⟨he, hn, hn2⟩ | ⟨he, hn, hn2⟩
  · have hne : ¬ (x.e : Int) = 0 := by omega
    have r1 : x.takeS n = ⟨#[]⟩ := by rw [RD.takeS, if_neg (fun c => he c.1)]
    have r2 : x.takeX n = x := by rw [RD.takeX, if_neg he]
    rw [r1, r2]
    clear r1 r2
    go_enter_defers Try.func96, Try.ntmps96
    go_wp2
    exact ⟨_, results_tmp rfl _ _ _, rfl, H2.out, Hb.out⟩
  · have r1 : x.takeS n = ⟨#[]⟩ := by rw [RD.takeS, if_neg (fun c => by omega)]
    have r2 : x.takeX n = { x with e := 1 } := by rw [RD.takeX, if_pos he, if_pos hn]
    rw [r1, r2]
    rw [he] at c1
    clear r1 r2
    go_enter_defers Try.func96, Try.ntmps96
    go_wp2
    have hq := H2.out.only (x' := { x with e := 1 }) (Blk.set_ H2.out.1 1 _) ((Only.refl _ _ _).setCell (p := ⟨g, 1, none⟩) (.inl (by simp)) (.int .i64 1))
    exact ⟨_, results_tmp rfl _ _ _, rfl, hq.1, Hb.out.trans hq.2⟩
  · have r1 : x.takeS n = ⟨#[]⟩ := by rw [RD.takeS, if_neg (fun c => by omega)]
    have r2 : x.takeX n = { x with e := 2 } := by rw [RD.takeX, if_pos he, if_neg hn, if_pos hn2]
    rw [r1, r2]
    rw [he] at c1
    clear r1 r2
    go_enter_defers Try.func96, Try.ntmps96
    go_wp2
    go_quiet (fail)
    go_wp2
    have hq := fun q => H2.out.only (x' := { x with e := 2 }) (Blk.set_ (Blk.drewN H2.out.1 q) 1 _) (((Only.refl _ [g] _).drewN q).setCell (p := ⟨g, 1, none⟩) (.inl (by simp)) (.int .i64 2))
    exact ⟨_, results_tmp rfl _ _ _, rfl, (hq _).1, Hb.out.trans (hq _).2⟩
  · obtain ⟨n, rfl⟩ := Int.eq_ofNat_of_zero_le hn
    have hnn : n ≤ x.s.size := by omega
    have hn3 : ¬ (x.s.size : Int) < (n : Int) := by omega
    have r1 : x.takeS (n : Int) = x.s.extract 0 n := by rw [RD.takeS, if_pos ⟨he, hn, hn2⟩, Int.toNat_natCast]
    have r2 : x.takeX (n : Int) = { x with s := x.s.extract n x.s.size } := by rw [RD.takeX, if_pos he, if_neg (by omega), if_neg hn3, Int.toNat_natCast]
    rw [r1, r2]
    rw [he] at c1
    clear r1 r2
    go_enter_defers Try.func96, Try.ntmps96
    go_wp2
    go_quiet (fail)
    go_wp2
    go_quiet (fail)
    go_wp2
    refine leaves_cons (f := 108) (args := #[.pointer (some ⟨w.heap.size, 0, none⟩), .pointer (some ⟨w.heap.size + 1, 0, none⟩)]) (by simp) (by simp [go_sem]) ?_
    refine (take1_d _ _ g n x.s hnn .returning _ (by exact k2) (by exact k3) (by exact c0) (by exact f0)).mono ?_
    rintro e u' w'' ⟨rfl, rfl, rfl⟩
    have hq := fun q p => H2.out.only (x' := { x with s := x.s.extract n x.s.size }) (Blk.drew (Blk.set_ (Blk.drewN (Blk.drewN H2.out.1 q) p) 0 (.string (x.s.extract n x.s.size)))) (((((Only.refl _ [g] _).drewN q).drewN p).setCell (p := ⟨g, 0, none⟩) (.inl (by simp)) (.string (x.s.extract n x.s.size))).drew)
    exact ⟨_, results_tmp rfl _ _ _, rfl, (hq _ _).1, Hb.out.trans (hq _ _).2⟩
end
end Go.Proofs.Ytjmdiobnappgkaa
