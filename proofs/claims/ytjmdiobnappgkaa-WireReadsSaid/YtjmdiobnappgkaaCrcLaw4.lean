/-
  The walk of the statement CrcOne.
-/
import Derived.Test.YtjmdiobnappgkaaCrcLaw2
import Derived.Deep.QuietTactic
import Derived.BigQuiet
import Derived.Test.YtjmdiobnappgkaaOpen
namespace Go.Proofs.Ytjmdiobnappgkaa
open Go.RowKit
set_option linter.unusedVariables false
set_option linter.unusedSimpArgs false

/-- '[]byte(s)': a new block with the bytes, none of which is frozen. -/
theorem conv_bytes2 {P : Program} (w : World) (src dst e : TypeId) (s : ByteArray) (hs : P.underlying src = some .string) (hd : P.underlying dst = some (.slice e)) (he : P.underlying e = some (.int .u8)) :
    ∃ cap w2, (convert src dst (.string s)).run P w = .ok (.slice (some ⟨w.heap.size, 0, none⟩) s.size cap) w2 ∧ Below w.heap.size w w2 ∧ w2.heap.size = w.heap.size + 1 ∧ s.size ≤ cap ∧
      (∀ i (h : i < s.size), w2.cell? ⟨w.heap.size, i, none⟩ = some (.int .u8 (s[i].toNat : Int))) ∧ ∀ i, i < s.size → w2.frozen? ⟨w.heap.size, i, none⟩ = false := by
  refine ⟨_, _, run_bytes_of_string w src dst e s hs hd he, ?_, ?_, grownCap_ge _ _ _ _, ?_, ?_⟩
  · exact ((Below.refl _ _).drew).alloc (Nat.le_refl _) _
  · simp
  · intro i hi
    have h1 : w.drew.heap.size = w.heap.size := rfl
    have := World.cell?_alloc_mark w.drew (bytesRow s (grownCap w s.size 0 e)) e ((bytesRow s (grownCap w s.size 0 e)).size, (bytesRow s (grownCap w s.size 0 e)).size + 1) i
    rw [h1] at this
    rw [this]
    exact bytesRow_at s _ i hi
  · intro i hi
    have h1 : w.drew.heap.size = w.heap.size := rfl
    have := World.frozen?_alloc_mark w.drew (bytesRow s (grownCap w s.size 0 e)) e (bytesRow s (grownCap w s.size 0 e)).size ((bytesRow s (grownCap w s.size 0 e)).size + 1) i
    rw [h1] at this
    rw [this]
    have hsz : s.size ≤ (bytesRow s (grownCap w s.size 0 e)).size := by simp [bytesRow]
    simp; omega

theorem cell_belowB {w1 w2 : World} {B : Nat} {p : Addr} {v : Value} (hb : Below B w1 w2) (hB : w1.heap.size = B) (h : w1.cell? p = some v) : w2.cell? p = some v := by
  subst hB; exact (hb.cell (World.block_lt_of_cell? w1 p h)).trans h
def flipB (c : UInt8) (n : Nat) : UInt8 := c ^^^ UInt8.ofNat (1 + n % 255)
theorem flipB_ne (c : UInt8) (n : Nat) : flipB c n ≠ c := by
  intro h
  have h1 : (flipB c n).toNat = c.toNat := by rw [h]
  rw [flipB, UInt8.toNat_xor, UInt8.toNat_ofNat'] at h1
  have h2 : c.toNat ^^^ ((1 + n % 255) % 2 ^ 8) = c.toNat ^^^ 0 := by rw [h1]; simp
  have := CrcM.xor_cl h2
  omega
theorem flip_byte (c : UInt8) (n : Nat) : bits .xor .u8 (c.toNat : Int) (1 + (n : Int) % 255) = ((flipB c n).toNat : Int) := by
  have := u8_xor_nat c.toNat (1 + n % 255) c.toNat_lt (by omega)
  rw [show ((1 + n % 255 : Nat) : Int) = 1 + (n : Int) % 255 by omega] at this
  have e : (1 + n % 255) % 2 ^ 8 = 1 + n % 255 := by omega
  rw [this, flipB, UInt8.toNat_xor, UInt8.toNat_ofNat', e]
theorem flip_list (t : ByteArray) (n i : Nat) (hi : i < t.size) : ¬ CrcM.on 0 (t.data.toList.set i (flipB t[i] n)) = CrcM.on 0 t.data.toList := by
  have hl : i < t.data.toList.length := by simpa using hi
  have e1 : t.data.toList = t.data.toList.take i ++ t.data.toList[i] :: t.data.toList.drop (i + 1) := by
    rw [← List.drop_eq_getElem_cons hl, List.take_append_drop]
  have e2 : t.data.toList.set i (flipB t[i] n) = t.data.toList.take i ++ flipB t[i] n :: t.data.toList.drop (i + 1) := List.set_eq_take_append_cons_drop.trans (by rw [if_pos hl])
  rw [e2]
  conv => rhs; rhs; rw [e1]
  exact CrcM.on_one _ _ _ _ (by
    have : t.data.toList[i] = t[i] := rfl
    rw [this]; exact flipB_ne _ _)
theorem flip_world {P : Program} (src dst e : TypeId) (hs : P.underlying src = some (.slice e)) (he : P.underlying e = some (.int .u8)) (hd : P.underlying dst = some .string) (g : Nat) (w2 : World) (t : ByteArray) (n i : Nat) (hi : i < t.size) (cap : Nat)
    (hcells : ∀ j (h : j < t.size), w2.cell? ⟨g, j, none⟩ = some (.int .u8 (t[j].toNat : Int))) :
    (convert src dst (.slice (some ⟨g, 0, none⟩) t.size cap)).run P (w2.setCell ⟨g, i, none⟩ (Value.int .u8 ((flipB t[i] n).toNat : Int))).drew = .ok (.string ⟨(t.data.toList.set i (flipB t[i] n)).toArray⟩) (w2.setCell ⟨g, i, none⟩ (Value.int .u8 ((flipB t[i] n).toNat : Int))).drew := by
  have hl : (t.data.toList.set i (flipB t[i] n)).length = t.size := by simp
  rw [← hl]
  refine run_convert_bytes_back _ src dst e ⟨g, 0, none⟩ cap _ hs he hd ?_
  intro j hj
  have hjt : j < t.size := by omega
  have hadd : (⟨g, 0, none⟩ : Addr).add j = ⟨g, j, none⟩ := by unfold Addr.add; split <;> simp_all
  rw [hadd]
  show (w2.setCell ⟨g, i, none⟩ (Value.int .u8 ((flipB t[i] n).toNat : Int))).cell? ⟨g, j, none⟩ = _
  by_cases hij : i = j
  · subst hij
    have h0 := hcells i hi
    rw [World.cell?_setCell_same _ _ _ h0]
    simp
  · rw [World.cell?_setCell_other _ _ _ _ (by intro h; injection h with _ h _; exact hij h), hcells j hjt]
    simp [List.getElem_set, hij]; rfl
theorem u8_of_wf {x : Int} (h : (Lit.int .u8 x).wf = true) : ∃ n : Nat, n < 256 ∧ x = (n : Int) := by
  simp [Lit.wf, IntKind.min, IntKind.max, IntKind.signed, IntKind.bits] at h
  exact ⟨x.toNat, by omega, by omega⟩
theorem set_size (t : ByteArray) (i : Nat) (c : UInt8) : (ByteArray.mk (t.data.toList.set i c).toArray).size = t.size := by
  show (t.data.toList.set i c).toArray.size = t.data.size
  rw [List.size_toArray, List.length_set, Array.length_toList]
theorem len0 (n : Nat) (h : n = 0) : ((n : Int) == 0) = true := by subst h; rfl
theorem len1 (n : Nat) (h : ¬ n = 0) : ((n : Int) == 0) = false := by rw [beq_eq_false_iff_ne]; omega
theorem nat_ne (a b : Nat) (h : ¬ a = b) : ((a : Int) == (b : Int)) = false := by rw [beq_eq_false_iff_ne]; omega
theorem nat_ne' (a b : Nat) (h : ¬ a = b) : ((a : Int) != (b : Int)) = true := by rw [bne_iff_ne]; omega

set_option maxRecDepth 100000 in
set_option maxHeartbeats 1600000 in
theorem crcOne_walk (s : ByteArray) (hs : s.size ≤ maxLen) (k : Nat) (hk : k < 256) (n m : Nat) (hn : n < 4294967296) (hm : m < 4294967296) (w : World) :
    Calls Try.prog 5 #[.string s, .int .u8 k, .agg #[.int .u32 n, .int .u32 m]] w fun e w' => e = .returned (.bool true) ∧ Below w.heap.size w w' := by
  unfold maxLen at hs
  go_enter Try.func5, Try.ntmps5
  go_wp2
  all_goals
    (first
      | (have h200 : s.size ≤ 200 := by omega
         generalize s = t at *)
      | (have h200 := ext_le s 200
         generalize s.extract 0 200 = t at *))
    by_cases hnm : n = m
    case' neg =>
      have hne := nat_ne' n m hnm
      have hon := nat_ne _ _ (fun h => hnm (CrcM.on_inj t.data.toList n m hn hm h))
      go_region_held3 (fun wx => wx.cell? ⟨w.heap.size, 0, none⟩ = some (.int .u32 n) ∧ wx.cell? ⟨w.heap.size, 1, none⟩ = some (.int .u32 m)) (first | (go_keep; done) | (refine ⟨?_, ?_⟩ <;> (refine cell_belowB (by assumption) rfl ?_; first | (simp [*]; done) | (simp [go_sem, *]; done))))
        (first | (go_at_call 25; refine (on_any _ ?_ _ ?_ _).mono ?_; (first | exact hn | exact hm); omega; rintro e w' ⟨rfl, hb⟩))
      rename_i hHeld
      have c0 := hHeld.1
      have hbx : Below w.heap.size w w' := by repeat (first | exact ((Below.refl _ _).alloc (Nat.le_refl _) _).drew | refine below_step (by assumption) rfl ?_)
      clear hHeld hon hne
      generalize w' = W at *
    case' pos =>
      subst hnm
      go_quiet (fail)
      have c0 : (World.drewN (w.alloc (.cells #[.int .u32 (n : Int), .int .u32 (n : Int)] 29)) nq).cell? ⟨w.heap.size, 0, none⟩ = some (.int .u32 n) := by simp
      have hbx : Below w.heap.size w (World.drewN (w.alloc (.cells #[.int .u32 (n : Int), .int .u32 (n : Int)] 29)) nq) := below_drewN' ((Below.refl _ _).alloc (Nat.le_refl _) _) _
      generalize World.drewN (w.alloc (.cells #[.int .u32 (n : Int), .int .u32 (n : Int)] 29)) nq = W at *
  all_goals
    have hlt0 := World.block_lt_of_cell? W _ c0
    by_cases h0 : t.size = 0
    case' pos =>
      have hl := len0 _ h0
      have H0 := Lib.hid h0; clear h0
      go_wp2_with fail
      refine (crcFixed_any _).mono ?_
      rintro e w2 ⟨rfl, hb2⟩
      go_wp2
      go_ret
      exact ⟨rfl, below_step hb2 rfl hbx⟩
    have hl := len1 _ h0
    obtain ⟨cap, w2, hconv, hb2, hz2, hcap, hcells, hfree⟩ := conv_bytes2 (P := Try.prog) W 9 30 5 t Try.underlying9 Try.underlying30 Try.underlying5
    have hpos : 0 < t.size := by omega
    have hnl : ((t.size : Int) == 0) = false := hl
    have c02 : w2.cell? ⟨w.heap.size, 0, none⟩ = some (.int .u32 n) := (hb2.cell hlt0).trans c0
    have Hcells := Lib.hid hcells; clear hcells
    have Hfree := Lib.hid hfree; clear hfree
    have Hz2 := Lib.hid hz2; clear hz2
    clear h0
    obtain ⟨i, hi, hilt⟩ : ∃ i : Nat, (k : Int) % (t.size : Int) = (i : Int) ∧ i < t.size := ⟨k % t.size, by omega, Nat.mod_lt _ hpos⟩
    have c1 := Hcells.out i hilt
    have f1 := Hfree.out i hilt
    have hx := flip_byte t[i] n
    have hilt' : (i : Int) < (t.size : Int) := by omega
    go_wp2
    go_region
  all_goals
    have hcv3 := flip_world (P := Try.prog) 30 9 5 Try.underlying30 Try.underlying5 Try.underlying9 W.heap.size w2 t n i hilt cap Hcells.out
    have hb3 : Below W.heap.size w2 (w2.setCell ⟨W.heap.size, i, none⟩ (Value.int .u8 ((flipB t[i] n).toNat : Int))).drew := ((Below.refl _ _).setCell (p := ⟨W.heap.size, i, none⟩) (Nat.le_refl _) _).drew
    have hlist := flip_list t n i hilt
    have hlen : (ByteArray.mk (t.data.toList.set i (flipB t[i] n)).toArray).size ≤ 140737488351232 := by
      rw [set_size]; omega
    generalize (w2.setCell ⟨W.heap.size, i, none⟩ (Value.int .u8 ((flipB t[i] n).toNat : Int))).drew = W3 at *
    generalize t.data.toList.set i (flipB t[i] n) = L at *
    have hne := nat_ne' _ _ hlist
    have Hlen := Lib.hid hlen; clear hlen hlist
    have hb23 := hb2.trans hb3
    clear hb2 hb3 hx c1 f1 hconv
    go_wp2_with fail
    refine (of_any _ Hlen.out _).mono ?_
    rintro e w4 ⟨rfl, hb4⟩
    go_wp2_with fail
    refine (of_any _ (by omega) _).mono ?_
    rintro e w5 ⟨rfl, hb5⟩
    go_wp2_with fail
    refine (crcFixed_any _).mono ?_
    rintro e w6 ⟨rfl, hb6⟩
    go_wp2
    go_ret
    exact ⟨rfl, bthen (bthen (bthen (bthen hbx hb23) hb4) hb5) hb6⟩

theorem crcOne_go (s : ByteArray) (hs : s.size ≤ maxLen) (k : Int) (hk : (Lit.int .u8 k).wf = true) (a b : Int) (ha : (Lit.int .u32 a).wf = true) (hb : (Lit.int .u32 b).wf = true) (w : World) :
    Calls Try.prog 5 #[.string s, .int .u8 k, .agg #[.int .u32 a, .int .u32 b]] w fun e w' => e = .returned (.bool true) ∧ Below w.heap.size w w' := by
  obtain ⟨n, hn, rfl⟩ := u32_of_wf ha
  obtain ⟨m, hm, rfl⟩ := u32_of_wf hb
  obtain ⟨j, hj, rfl⟩ := u8_of_wf hk
  exact crcOne_walk s hs j hj n m hn hm w
end Go.Proofs.Ytjmdiobnappgkaa
