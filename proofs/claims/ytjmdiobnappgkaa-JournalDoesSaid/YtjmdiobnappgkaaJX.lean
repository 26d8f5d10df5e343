/-
  Layer 15 (journal): the calls whose answers the document fixes: the plain states.
-/
import Derived.Test.YtjmdiobnappgkaaJ9
namespace Go.Proofs.Ytjmdiobnappgkaa
open Go.RowKit
set_option linter.unusedVariables false
set_option linter.unusedSimpArgs false

theorem frame_one {s f : ByteArray} (h : s.size = 1) (hf : ((⟨#[1]⟩ : ByteArray) ++ s) ++ crcStr s = f) : frameS s = f := by
  rw [frameS_yes (by omega) (by omega), blobStr, h, numL_small (by decide)]
  exact hf
theorem first_is {t x f : ByteArray} (hb : blobOf t = x) (hf : frameS x = f) (h0 : ¬ f.size = 0) (h1 : f.size ≤ t.size) (h2 : t.extract 0 f.size = f) : firstS t = x := by
  subst hb hf; exact firstS_yes ⟨h0, h1, h2⟩
theorem first_not {t x f : ByteArray} (hb : blobOf t = x) (hf : frameS x = f) (h : ¬ (¬ f.size = 0 ∧ f.size ≤ t.size ∧ t.extract 0 f.size = f)) : (firstS t).size = 0 := by
  subst hb hf; exact firstS_zero.2 h
theorem rdf_step {s t x f : ByteArray} {l : List ByteArray} {a : Nat} (ht : s.extract a s.size = t) (hx : firstS t = x) (hf : frameS x = f) (h0 : ¬ x.size = 0) : readFrom s l a = readFrom s (l ++ [x]) (a + f.size) := by
  subst ht; rw [readFrom_step (by rw [hx]; exact h0), hx, hf]
theorem rdf_end {s t : ByteArray} {l : List ByteArray} {a : Nat} (ht : s.extract a s.size = t) (hx : (firstS t).size = 0) : readFrom s l a = (l, a) := by
  subst ht; exact readFrom_end hx
theorem open_is {d d1 d2 : DS} {s : ByteArray} {L : List ByteArray} {a k : Nat} (h1 : d.sync = d1) (hs : readR d1 0 = s) (hr : readFrom s [] 0 = (L, a)) (h2 : trimD (trimD d1 0 (a : Int)) 1 0 = d2) (hk : L.length = k) : openJ d = ⟨d2, L, k, false⟩ := by
  subst h1 hs h2 hk
  rw [openJ, openD, recsOf, hr]
def sA : ByteArray := ⟨#[97]⟩
def fA : ByteArray := ⟨#[1, 97, 232, 183, 190, 67]⟩
def sB : ByteArray := ⟨#[98]⟩
def fB : ByteArray := ⟨#[1, 98, 113, 190, 239, 249]⟩
def sZ : ByteArray := ⟨#[122]⟩
def fZ : ByteArray := ⟨#[1, 122, 98, 210, 119, 175]⟩
def sX : ByteArray := ⟨#[120]⟩
def fX : ByteArray := ⟨#[1, 120, 140, 220, 22, 131]⟩
def sY : ByteArray := ⟨#[121]⟩
def fY : ByteArray := ⟨#[1, 121, 251, 219, 38, 21]⟩
def sQ : ByteArray := ⟨#[113]⟩
def fQ : ByteArray := ⟨#[1, 113, 245, 0, 174, 39]⟩
def sC : ByteArray := ⟨#[99]⟩
def fC : ByteArray := ⟨#[1, 99, 6, 185, 223, 111]⟩
theorem frA : frameS sA = fA := frame_one rfl (by kernel_rfl)
theorem frB : frameS sB = fB := frame_one rfl (by kernel_rfl)
theorem frZ : frameS sZ = fZ := frame_one rfl (by kernel_rfl)
theorem frX : frameS sX = fX := frame_one rfl (by kernel_rfl)
theorem frY : frameS sY = fY := frame_one rfl (by kernel_rfl)
theorem frQ : frameS sQ = fQ := frame_one rfl (by kernel_rfl)
theorem frC : frameS sC = fC := frame_one rfl (by kernel_rfl)
def sE : ByteArray := ⟨#[]⟩
theorem frE : frameS sE = sE := by rw [frameS_no (.inl rfl)]; rfl
def dJ0 : DS := DS.empty 1000
def dJ1 : DS := ⟨fA, sE, [], 1000⟩
def fAB : ByteArray := ⟨#[1, 97, 232, 183, 190, 67, 1, 98, 113, 190, 239, 249]⟩
def fA3 : ByteArray := ⟨#[1, 97, 232, 183, 190, 67, 1, 98, 113]⟩
def tB3 : ByteArray := ⟨#[1, 98, 113]⟩
def fXY : ByteArray := ⟨#[1, 120, 140, 220, 22, 131, 1, 121, 251, 219, 38, 21]⟩
def dJ2 : DS := ⟨fAB, sE, [(0, 6)], 1000⟩
def dJ3 : DS := ⟨fA3, sE, [], 1000⟩
def dJ5 : DS := ⟨fXY, sE, [], 1000⟩
def dJ6 : DS := ⟨fQ, fXY, [], 1000⟩
def dJ7 : DS := ⟨fQ, sE, [], 1000⟩
def j0 : JS := ⟨dJ0, [], 0, false⟩
def j1 : JS := ⟨dJ1, [sA], 1, false⟩
def j2 : JS := ⟨dJ2, [sA, sB], 1, false⟩
def k0 : JS := ⟨dJ1, [sA], 1, false⟩
def k1 : JS := ⟨dJ5, [sX, sY], 2, false⟩
def k2 : JS := ⟨dJ6, [sX, sY], 2, true⟩
def m0 : JS := ⟨dJ7, [sQ], 1, false⟩
theorem o1 : openJ dJ0 = j0 := open_is (d1 := dJ0) (s := sE) (a := 0) rfl (by kernel_rfl) (rdf_end (t := sE) (by kernel_rfl) (first_not (x := sE) (f := sE) (by kernel_rfl) frE (fun h => h.1 rfl))) (by kernel_rfl) rfl
theorem a1 : looseR j0 sA = 0 ∧ addJ j0 sA = j1 := by
  have e : looseR j0 sA = 0 := by rw [looseR, frA]; kernel_rfl
  refine ⟨e, ?_⟩
  rw [addJ, if_pos e, frA]; kernel_rfl
theorem a2 : looseR j1 sB = 0 ∧ looseJ j1 sB = j2 := by
  have e : looseR j1 sB = 0 := by rw [looseR, frB]; kernel_rfl
  refine ⟨e, ?_⟩
  rw [looseJ, if_pos e, frB]; kernel_rfl
theorem a3 : looseR j2 sE = 1 ∧ looseJ j2 sE = j2 := looseR_no (by decide) (by rw [frE]; rfl)
theorem a4 (L : List ByteArray) (n : Int) : renewR j2 L n = 7 ∧ renewJ j2 L n = j2 := rn_state (.inr (by decide))
theorem a5 : crashD j2.d 3 = dJ3 := by kernel_rfl
theorem fs1 : firstS fA3 = sA := first_is (by kernel_rfl) frA (by decide) (by decide) (by kernel_rfl)
theorem fs2 : (firstS tB3).size = 0 := first_not (x := sB) (f := fB) (by kernel_rfl) frB (fun h => absurd h.2.1 (by decide))
theorem o2 : openJ dJ3 = k0 := open_is (d1 := dJ3) (s := fA3) (a := 6) rfl (by kernel_rfl) ((rdf_step (t := fA3) (by kernel_rfl) fs1 frA (by decide)).trans (rdf_end (t := tB3) (by kernel_rfl) fs2)) (by kernel_rfl) rfl
theorem fineXY : fine [sX, sY] := by
  intro s hs
  simp only [List.mem_cons, List.not_mem_nil, or_false] at hs
  rcases hs with rfl | rfl
  · rw [frX]; decide
  · rw [frY]; decide
theorem fsXY : framesS [sX, sY] = fXY := by rw [framesS, framesS, framesS, frX, frY]; kernel_rfl
theorem fsQ : framesS [sQ] = fQ := by rw [framesS, framesS, frQ]; kernel_rfl
theorem fineQ : fine [sQ] := by
  intro s hs
  simp only [List.mem_cons, List.not_mem_nil, or_false] at hs
  rw [hs, frQ]; decide
theorem a6 : renewR k0 [sX, sY] 4 = 0 ∧ renewJ k0 [sX, sY] 4 = k1 := by
  have h := rn_all (j := k0) (n := 4) (by decide) fineXY (by decide) (by rw [fsXY]; kernel_rfl)
  rw [fsXY] at h
  exact ⟨h.1, h.2.trans (by kernel_rfl)⟩
theorem a7 : renewR k1 [sQ] 3 = 7 ∧ renewJ k1 [sQ] 3 = k2 := by
  have h := rn_cut (j := k1) (n := 3) (by decide) fineQ (by decide) (by decide) (fun _ => by rw [fsQ]; kernel_rfl)
  rw [fsQ] at h
  exact ⟨h.1, h.2.trans (by kernel_rfl)⟩
theorem a8 : looseR k2 sC = 7 ∧ addJ k2 sC = k2 := by
  have h := (looseR_cut (j := k2) (s := sC) rfl).1
  exact ⟨h, by rw [addJ, h, if_neg (by decide)]⟩
theorem a9 : crashD k2.d 0 = dJ6 := by kernel_rfl
theorem fs3 : firstS fQ = sQ := first_is (by kernel_rfl) frQ (by decide) (by decide) (by kernel_rfl)
theorem o3 : openJ dJ6 = m0 := open_is (d1 := dJ6) (s := fQ) (a := 6) rfl (by kernel_rfl) ((rdf_step (t := fQ) (by kernel_rfl) fs3 frQ (by decide)).trans (rdf_end (t := sE) (by kernel_rfl) (first_not (x := sE) (f := sE) (by kernel_rfl) frE (fun h => h.1 rfl)))) (by kernel_rfl) rfl
theorem rd1 : readR m0.d 1 = sE := by kernel_rfl
end Go.Proofs.Ytjmdiobnappgkaa
