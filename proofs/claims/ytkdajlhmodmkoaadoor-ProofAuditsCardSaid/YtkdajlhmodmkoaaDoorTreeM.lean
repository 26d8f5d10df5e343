/-
  Plain mathematics of layer 8 (tree): where a list parts, roots, peaks, and how a leaf more is pushed. No program is mentioned here.
-/
import Derived.Test.YtkdajlhmodmkoaaDoorShaZ
namespace Go.Proofs.YtkdajlhmodmkoaaDoor.TreeM
set_option linter.unusedVariables false
set_option linter.unusedSimpArgs false
abbrev B := ByteArray

/-- Where a list of so many parts. -/
def split (n : Nat) : Nat := if n ≤ 1 then 0 else 2 ^ Nat.log2 (n - 1)
theorem split_pow {n : Nat} (h : 2 ≤ n) : split n = 2 ^ Nat.log2 (n - 1) := by unfold split; rw [if_neg (by omega)]
theorem split_pos {n : Nat} (h : 2 ≤ n) : 1 ≤ split n := by rw [split_pow h]; exact Nat.one_le_two_pow
theorem split_lt {n : Nat} (h : 2 ≤ n) : split n < n := by
  rw [split_pow h]
  have := Nat.log2_self_le (n := n - 1) (by omega)
  omega
theorem split_half {n : Nat} (h : 2 ≤ n) : n ≤ 2 * split n := by
  rw [split_pow h]
  have := Nat.lt_log2_self (n := n - 1)
  rw [Nat.pow_succ] at this
  omega
theorem split_le (n : Nat) : split n ≤ n := by
  by_cases h : 2 ≤ n
  · exact Nat.le_of_lt (split_lt h)
  · unfold split; rw [if_pos (by omega)]; omega
theorem pow_between {e f : Nat} (h1 : 2 ^ e < 2 ^ f * 2) (h2 : 2 ^ f < 2 ^ e * 2) : e = f := by
  rw [← Nat.pow_succ] at h1 h2
  have := (Nat.pow_lt_pow_iff_right (a := 2) (by decide)).1 h1
  have := (Nat.pow_lt_pow_iff_right (a := 2) (by decide)).1 h2
  omega
theorem split_uniq {n : Nat} (h : 2 ≤ n) (e : Nat) (h1 : 2 ^ e < n) (h2 : n ≤ 2 * 2 ^ e) : split n = 2 ^ e := by
  rw [split_pow h]
  have a := Nat.log2_self_le (n := n - 1) (by omega)
  have b := Nat.lt_log2_self (n := n - 1)
  rw [Nat.pow_succ] at b
  rw [pow_between (e := (n - 1).log2) (f := e) (by omega) (by omega)]

/-- The root of leaves. -/
def rootF : Nat → List B → B
  | 0, l => match l with
    | [] => sumB ⟨#[]⟩
    | d :: _ => leafB d
  | f + 1, l => if l.length ≤ 1 then (match l with
    | [] => sumB ⟨#[]⟩
    | d :: _ => leafB d) else nodeB (rootF f (l.take (split l.length))) (rootF f (l.drop (split l.length)))
def root (l : List B) : B := rootF l.length l
theorem rootF_small : ∀ (f : Nat) (l : List B), l.length ≤ 1 → rootF f l = rootF 0 l
  | 0, l, h => rfl
  | f + 1, l, h => by simp only [rootF]; rw [if_pos h]
theorem rootF_any : ∀ (f g : Nat) (l : List B), l.length ≤ f + 1 → l.length ≤ g + 1 → rootF f l = rootF g l
  | 0, g, l, h1, h2 => (rootF_small g l (by omega)).symm
  | f + 1, 0, l, h1, h2 => rootF_small (f + 1) l (by omega)
  | f + 1, g + 1, l, h1, h2 => by
    by_cases h : l.length ≤ 1
    · exact (rootF_small _ _ h).trans (rootF_small _ _ h).symm
    · simp only [rootF]
      rw [if_neg h, if_neg h]
      have a := split_lt (n := l.length) (by omega)
      have b := split_pos (n := l.length) (by omega)
      rw [rootF_any f g (l.take _) (by rw [List.length_take]; omega) (by rw [List.length_take]; omega), rootF_any f g (l.drop _) (by rw [List.length_drop]; omega) (by rw [List.length_drop]; omega)]
theorem root_nil : root [] = sumB ⟨#[]⟩ := rfl
theorem root_one (d : B) : root [d] = leafB d := rfl
theorem root_node (l : List B) (h : 2 ≤ l.length) : root l = nodeB (root (l.take (split l.length))) (root (l.drop (split l.length))) := by
  have a := split_lt h
  have b := split_pos h
  conv => lhs; unfold root; rw [rootF_any l.length (l.length - 1 + 1) l (by omega) (by omega)]
  simp only [rootF]
  rw [if_neg (by omega)]
  unfold root
  rw [rootF_any (l.length - 1) (l.take (split l.length)).length _ (by rw [List.length_take]; omega) (by omega), rootF_any (l.length - 1) (l.drop (split l.length)).length _ (by rw [List.length_drop]; omega) (by omega)]
theorem root_length (l : List B) : (root l).size = 32 := by
  by_cases h : 2 ≤ l.length
  · rw [root_node l h]; exact nodeB_size _ _
  · match l, h with
    | [], _ => exact sumB_size _
    | [d], _ => exact leafB_size _
    | _ :: _ :: _, h => simp at h

/-- How many binary digits are 1. -/
def onesF : Nat → Nat → Nat
  | 0, _ => 0
  | f + 1, n => n % 2 + onesF f (n / 2)
def ones (n : Nat) : Nat := onesF n n
theorem onesF_any : ∀ (f g n : Nat), n ≤ f → n ≤ g → onesF f n = onesF g n
  | 0, 0, n, _, _ => rfl
  | 0, g + 1, n, h, _ => by
    obtain rfl : n = 0 := by omega
    have := onesF_any 0 g 0 (by omega) (by omega)
    simp only [onesF] at this ⊢
    rw [Nat.zero_div, ← this]
  | f + 1, 0, n, _, h => by
    obtain rfl : n = 0 := by omega
    have := onesF_any f 0 0 (by omega) (by omega)
    simp only [onesF] at this ⊢
    rw [Nat.zero_div, this]
  | f + 1, g + 1, n, h1, h2 => by simp only [onesF]; rw [onesF_any f g (n / 2) (by omega) (by omega)]
theorem ones_zero : ones 0 = 0 := rfl
theorem ones_step (n : Nat) : ones n = n % 2 + ones (n / 2) := by
  unfold ones
  rw [onesF_any n (n + 1) n (by omega) (by omega)]
  simp only [onesF]
  rw [onesF_any n (n / 2) (n / 2) (by omega) (by omega)]
/-- How many binary digits are 1 at the end. -/
def trailF : Nat → Nat → Nat
  | 0, _ => 0
  | f + 1, n => if n % 2 = 1 then trailF f (n / 2) + 1 else 0
def trail (n : Nat) : Nat := trailF n n
theorem trailF_any : ∀ (f g n : Nat), n ≤ f → n ≤ g → trailF f n = trailF g n
  | 0, 0, n, _, _ => rfl
  | 0, g + 1, n, h, _ => by obtain rfl : n = 0 := by omega
                            rfl
  | f + 1, 0, n, _, h => by obtain rfl : n = 0 := by omega
                            rfl
  | f + 1, g + 1, n, h1, h2 => by simp only [trailF]; rw [trailF_any f g (n / 2) (by omega) (by omega)]
theorem trail_even {n : Nat} (h : n % 2 = 0) : trail n = 0 := by
  unfold trail
  rw [trailF_any n (n + 1) n (by omega) (by omega)]
  simp only [trailF]; rw [if_neg (by omega)]
theorem trail_odd {n : Nat} (h : n % 2 = 1) : trail n = trail (n / 2) + 1 := by
  unfold trail
  rw [trailF_any n (n + 1) n (by omega) (by omega)]
  simp only [trailF]
  rw [if_pos h, trailF_any n (n / 2) (n / 2) (by omega) (by omega)]
theorem trail_le_ones : ∀ (f n : Nat), n ≤ f → trail n ≤ ones n
  | 0, n, h => by obtain rfl : n = 0 := by omega
                  exact Nat.le_refl _
  | f + 1, n, h => by
    by_cases h2 : n % 2 = 1
    · have := trail_le_ones f (n / 2) (by omega)
      rw [trail_odd h2, ones_step n]; omega
    · rw [trail_even (by omega)]; omega
theorem trail_ones (n : Nat) : trail n ≤ ones n := trail_le_ones n n (Nat.le_refl _)
/-- A number more: as many digits go as stand at the end, and one comes. -/
theorem ones_succ : ∀ (f n : Nat), n ≤ f → ones (n + 1) + trail n = ones n + 1
  | 0, n, h => by obtain rfl : n = 0 := by omega
                  rfl
  | f + 1, n, h => by
    by_cases h2 : n % 2 = 1
    · have := ones_succ f (n / 2) (by omega)
      rw [trail_odd h2, ones_step n, ones_step (n + 1), show (n + 1) / 2 = n / 2 + 1 by omega]; omega
    · rw [trail_even (by omega), ones_step n, ones_step (n + 1), show (n + 1) / 2 = n / 2 by omega]; omega
theorem ones_top : ∀ (e m : Nat), m < 2 ^ e → ones (2 ^ e + m) = 1 + ones m
  | 0, m, h => by obtain rfl : m = 0 := by simpa using h
                  rfl
  | e + 1, m, h => by
    rw [Nat.pow_succ] at h ⊢
    rw [ones_step, ones_step m, show (2 ^ e * 2 + m) / 2 = 2 ^ e + m / 2 by omega, ones_top e (m / 2) (by omega)]; omega
theorem ones_all : ∀ (e : Nat), ones (2 ^ e - 1) = e
  | 0 => rfl
  | e + 1 => by
    have := Nat.one_le_two_pow (n := e)
    rw [Nat.pow_succ, ones_step, show (2 ^ e * 2 - 1) / 2 = 2 ^ e - 1 by omega, ones_all e]; omega
theorem trail_all : ∀ (e : Nat), trail (2 ^ e - 1) = e
  | 0 => rfl
  | e + 1 => by
    have := Nat.one_le_two_pow (n := e)
    rw [Nat.pow_succ, trail_odd (by omega), show (2 ^ e * 2 - 1) / 2 = 2 ^ e - 1 by omega, trail_all e]
theorem trail_top : ∀ (e m : Nat), m + 1 < 2 ^ e → trail (2 ^ e + m) = trail m
  | 0, m, h => by simp at h
  | e + 1, m, h => by
    rw [Nat.pow_succ] at h ⊢
    by_cases h2 : m % 2 = 1
    · rw [trail_odd (by omega), trail_odd h2, show (2 ^ e * 2 + m) / 2 = 2 ^ e + m / 2 by omega, trail_top e (m / 2) (by omega)]
    · rw [trail_even (by omega), trail_even (by omega)]

/-- So many peaks are joined with what comes, from the last one on. -/
def merge : Nat → List B → B → List B
  | 0, ps, h => ps ++ [h]
  | k + 1, ps, h => merge k ps.dropLast (nodeB (ps.getLastD ⟨#[]⟩) h)
theorem merge_cons : ∀ (k : Nat) (p : B) (ps : List B) (h : B), k ≤ ps.length → merge k (p :: ps) h = p :: merge k ps h
  | 0, p, ps, h, _ => rfl
  | k + 1, p, ps, h, hk => by
    match ps, hk with
    | q :: qs, hk =>
      simp only [merge]
      rw [show (p :: q :: qs).dropLast = p :: (q :: qs).dropLast from rfl, show (p :: q :: qs).getLastD ⟨#[]⟩ = (q :: qs).getLastD ⟨#[]⟩ from rfl]
      exact merge_cons k p _ _ (by simp at hk ⊢; omega)
theorem merge_all : ∀ (k : Nat) (ps : List B) (h : B), ps.length = k → merge k ps h = [ps.foldr nodeB h]
  | 0, ps, h, hk => by obtain rfl := List.length_eq_zero_iff.1 hk
                       rfl
  | k + 1, ps, h, hk => by
    have hne : ps ≠ [] := fun e => by subst e; simp at hk
    have e1 : ps.dropLast ++ [ps.getLastD ⟨#[]⟩] = ps := by
      rw [List.getLastD_eq_getLast?, List.getLast?_eq_some_getLast hne]
      exact List.dropLast_concat_getLast hne
    simp only [merge]
    rw [merge_all k _ _ (by simp; omega)]
    conv => rhs; rw [← e1]
    rw [List.foldr_append]; rfl
/-- The peaks of leaves, the greatest first. -/
def peaksF : Nat → List B → List B
  | 0, _ => []
  | f + 1, l => if l.length = 0 then [] else root (l.take (2 ^ l.length.log2)) :: peaksF f (l.drop (2 ^ l.length.log2))
def peaks (l : List B) : List B := peaksF l.length l
theorem peaksF_any : ∀ (f g : Nat) (l : List B), l.length ≤ f → l.length ≤ g → peaksF f l = peaksF g l
  | 0, 0, l, _, _ => rfl
  | 0, g + 1, l, h, _ => by simp only [peaksF]; rw [if_pos (by omega)]
  | f + 1, 0, l, _, h => by simp only [peaksF]; rw [if_pos (by omega)]
  | f + 1, g + 1, l, h1, h2 => by
    simp only [peaksF]
    have := Nat.one_le_two_pow (n := l.length.log2)
    rw [peaksF_any f g (l.drop (2 ^ l.length.log2)) (by rw [List.length_drop]; omega) (by rw [List.length_drop]; omega)]
theorem peaks_nil : peaks [] = [] := rfl
theorem peaks_cons (l : List B) (e : Nat) (h1 : 2 ^ e ≤ l.length) (h2 : l.length < 2 ^ e * 2) : peaks l = root (l.take (2 ^ e)) :: peaks (l.drop (2 ^ e)) := by
  have hp := Nat.one_le_two_pow (n := e)
  have he : l.length.log2 = e := (Nat.log2_eq_iff (by omega)).2 ⟨h1, by rw [Nat.pow_succ]; exact h2⟩
  unfold peaks
  rw [peaksF_any l.length (l.length - 1 + 1) l (by omega) (by omega)]
  simp only [peaksF]
  rw [if_neg (by omega), he, peaksF_any (l.length - 1) (l.drop (2 ^ e)).length _ (by rw [List.length_drop]; omega) (by omega)]
theorem peaks_one (l : List B) (e : Nat) (h : l.length = 2 ^ e) : peaks l = [root l] := by
  rw [peaks_cons l e (by omega) (by have := Nat.one_le_two_pow (n := e); omega), List.take_of_length_le (by omega), List.drop_eq_nil_of_le (by omega)]; rfl
theorem exists_pow (n : Nat) (h : 1 ≤ n) : ∃ e, 2 ^ e ≤ n ∧ n < 2 ^ e * 2 := ⟨n.log2, Nat.log2_self_le (by omega), by rw [← Nat.pow_succ]; exact Nat.lt_log2_self⟩
theorem peaks_length : ∀ (f : Nat) (l : List B), l.length ≤ f → (peaks l).length = ones l.length
  | 0, l, h => by obtain rfl := List.length_eq_zero_iff.1 (Nat.le_zero.1 h)
                  rfl
  | f + 1, l, h => by
    by_cases h0 : l.length = 0
    · obtain rfl := List.length_eq_zero_iff.1 h0
      rfl
    · obtain ⟨e, h1, h2⟩ := exists_pow l.length (by omega)
      have hp := Nat.one_le_two_pow (n := e)
      rw [peaks_cons l e h1 h2, List.length_cons, peaks_length f _ (by rw [List.length_drop]; omega), List.length_drop]
      conv => rhs; rw [show l.length = 2 ^ e + (l.length - 2 ^ e) by omega]
      rw [ones_top e _ (by omega)]; omega
theorem peaks_wide : ∀ (f : Nat) (l : List B), l.length ≤ f → ∀ p ∈ peaks l, p.size = 32
  | 0, l, h, p, hp => by obtain rfl := List.length_eq_zero_iff.1 (Nat.le_zero.1 h)
                         cases hp
  | f + 1, l, h, p, hp => by
    by_cases h0 : l.length = 0
    · obtain rfl := List.length_eq_zero_iff.1 h0
      cases hp
    · obtain ⟨e, h1, h2⟩ := exists_pow l.length (by omega)
      have hq := Nat.one_le_two_pow (n := e)
      rw [peaks_cons l e h1 h2] at hp
      rcases List.mem_cons.1 hp with rfl | hp
      · exact root_length _
      · exact peaks_wide f _ (by rw [List.length_drop]; omega) p hp
/-- The top of peaks is the leaves' root. -/
theorem peaks_top : ∀ (f : Nat) (l : List B), l.length ≤ f → 1 ≤ l.length → (peaks l).dropLast.foldr nodeB ((peaks l).getLastD ⟨#[]⟩) = root l
  | 0, l, h, h' => by omega
  | f + 1, l, h, h' => by
    obtain ⟨e, h1, h2⟩ := exists_pow l.length h'
    have hp := Nat.one_le_two_pow (n := e)
    by_cases he : l.length = 2 ^ e
    · rw [peaks_one l e he]; rfl
    · have hd : (l.drop (2 ^ e)).length = l.length - 2 ^ e := List.length_drop
      have ih := peaks_top f (l.drop (2 ^ e)) (by omega) (by omega)
      have hl := peaks_length _ (l.drop (2 ^ e)) (Nat.le_refl _)
      rw [peaks_cons l e h1 h2]
      cases hq : peaks (l.drop (2 ^ e)) with
      | nil =>
        exfalso
        obtain ⟨e', h3, h4⟩ := exists_pow (l.drop (2 ^ e)).length (by omega)
        rw [peaks_cons _ e' h3 h4] at hq
        cases hq
      | cons q qs =>
        rw [hq] at ih
        rw [show (root (l.take (2 ^ e)) :: q :: qs).dropLast = root (l.take (2 ^ e)) :: (q :: qs).dropLast from rfl, show (root (l.take (2 ^ e)) :: q :: qs).getLastD ⟨#[]⟩ = (q :: qs).getLastD ⟨#[]⟩ from rfl, List.foldr_cons, ih, root_node l (by omega), split_uniq (by omega) e (by omega) (by omega)]
/-- A leaf more. -/
theorem push_peaks : ∀ (f : Nat) (l : List B) (d : B), l.length ≤ f → merge (trail l.length) (peaks l) (leafB d) = peaks (l ++ [d])
  | 0, l, d, h => by obtain rfl := List.length_eq_zero_iff.1 (Nat.le_zero.1 h)
                     rfl
  | f + 1, l, d, h => by
    by_cases h0 : l.length = 0
    · obtain rfl := List.length_eq_zero_iff.1 h0
      rfl
    · obtain ⟨e, h1, h2⟩ := exists_pow l.length (by omega)
      have hp := Nat.one_le_two_pow (n := e)
      have hd : (l.drop (2 ^ e)).length = l.length - 2 ^ e := List.length_drop
      have ih := push_peaks f (l.drop (2 ^ e)) d (by omega)
      have hl := peaks_length _ (l.drop (2 ^ e)) (Nat.le_refl _)
      have hla : (l ++ [d]).length = l.length + 1 := by simp
      rw [peaks_cons l e h1 h2]
      rw [hd] at ih hl
      by_cases hm : l.length - 2 ^ e + 1 < 2 ^ e
      · have ht : trail l.length = trail (l.length - 2 ^ e) := by
          conv => lhs; rw [show l.length = 2 ^ e + (l.length - 2 ^ e) by omega]
          exact trail_top e _ hm
        rw [ht, merge_cons _ _ _ _ (by rw [hl]; exact trail_ones _), ih,
          peaks_cons (l ++ [d]) e (by omega) (by omega), List.take_append_of_le_length h1, List.drop_append_of_le_length h1]
      · have hm' : l.length - 2 ^ e = 2 ^ e - 1 := by omega
        have hk : l.length = 2 ^ (e + 1) - 1 := by rw [Nat.pow_succ]; omega
        rw [hm', ones_all] at hl
        rw [hm', trail_all, merge_all _ _ _ hl] at ih
        rw [peaks_one (List.drop (2 ^ e) l ++ [d]) e (by rw [List.length_append, hd]; simp; omega)] at ih
        have ih' := (List.cons.inj ih).1
        rw [hk, trail_all, merge_all (e + 1) _ _ (by simp [hl]), List.foldr_cons, ih', peaks_one (l ++ [d]) (e + 1) (by rw [hla, Nat.pow_succ]; omega), root_node (l ++ [d]) (by omega), split_uniq (by omega) e (by omega) (by omega),
          List.take_append_of_le_length h1, List.drop_append_of_le_length h1]
end Go.Proofs.YtkdajlhmodmkoaaDoor.TreeM
