/-
  Several texts of this seat as one (for the limit of files): PM, PS, PA, PI, PB, PC, PC2, PC3, PN, PD, PE, PF, PG.
-/
import Derived.Test.YtkdajlhmodmkoaaDoorTRS
import Derived.Test.YtkdajlhmodmkoaaDoorTT
import Derived.Test.YtkdajlhmodmkoaaDoorShaO2
import Derived.Test.YtkdajlhmodmkoaaDoorShaL1
import Derived.ScopeJumps
import Derived.WalkMore
/-
  Plain mathematics of layer 9 (proof): the steps of a bridge, the bridge, the two roots that one tells, a leaf's path, and where two texts clash. No program is mentioned here.
-/
namespace Go.Proofs.YtkdajlhmodmkoaaDoor.TreeM
set_option linter.unusedVariables false
set_option linter.unusedSimpArgs false

/-- The steps from the root down: whether the first ones lie in the first part, and where it parts. -/
def stepsF : Nat → Nat → Nat → List (Bool × Nat)
  | 0, _, _ => []
  | f + 1, m, n => if m < n then (if m ≤ split n then (true, split n) :: stepsF f m (split n) else (false, split n) :: stepsF f (m - split n) (n - split n)) else []
def steps (m n : Nat) : List (Bool × Nat) := stepsF n m n
theorem stepsF_any : ∀ (f g m n : Nat), 1 ≤ m → n ≤ f → n ≤ g → stepsF f m n = stepsF g m n
  | 0, 0, m, n, _, _, _ => rfl
  | 0, g + 1, m, n, h0, h, _ => by simp only [stepsF]; rw [if_neg (by omega)]
  | f + 1, 0, m, n, h0, _, h => by simp only [stepsF]; rw [if_neg (by omega)]
  | f + 1, g + 1, m, n, h0, h1, h2 => by
    simp only [stepsF]
    by_cases h : m < n
    · have a := split_lt (n := n) (by omega)
      have b := split_pos (n := n) (by omega)
      rw [if_pos h, if_pos h]
      by_cases hk : m ≤ split n
      · rw [if_pos hk, if_pos hk, stepsF_any f g m (split n) h0 (by omega) (by omega)]
      · rw [if_neg hk, if_neg hk, stepsF_any f g (m - split n) (n - split n) (by omega) (by omega) (by omega)]
    · rw [if_neg h, if_neg h]
theorem steps_end {m n : Nat} (h : n ≤ m) : steps m n = [] := by
  unfold steps
  cases n with
  | zero => rfl
  | succ n => simp only [stepsF]; rw [if_neg (by omega)]
theorem steps_first {m n : Nat} (h0 : 1 ≤ m) (h : m < n) (hk : m ≤ split n) : steps m n = (true, split n) :: steps m (split n) := by
  have a := split_lt (n := n) (by omega)
  unfold steps
  rw [stepsF_any n (n - 1 + 1) m n h0 (by omega) (by omega)]
  simp only [stepsF]
  rw [if_pos h, if_pos hk, stepsF_any (n - 1) (split n) m (split n) h0 (by omega) (by omega)]
theorem steps_rest {m n : Nat} (h : m < n) (hk : split n < m) : steps m n = (false, split n) :: steps (m - split n) (n - split n) := by
  have a := split_lt (n := n) (by omega)
  unfold steps
  rw [stepsF_any n (n - 1 + 1) m n (by omega) (by omega) (by omega)]
  simp only [stepsF]
  by_cases h2 : 2 ≤ n
  · have b := split_pos (n := n) (by omega)
    rw [if_pos h, if_neg (by omega), stepsF_any (n - 1) (n - split n) (m - split n) (n - split n) (by omega) (by omega) (by omega)]
  · omega
/-- The ways on from the root: one step, by cases. -/
theorem steps_ind {P : Nat → Nat → Prop} (hend : ∀ n, 1 ≤ n → P n n)
    (hfirst : ∀ m n, 1 ≤ m → m < n → m ≤ split n → P m (split n) → P m n)
    (hrest : ∀ m n, m < n → split n < m → P (m - split n) (n - split n) → P m n) : ∀ (f m n : Nat), n ≤ f → 1 ≤ m → m ≤ n → P m n
  | 0, m, n, h, h1, h2 => by omega
  | f + 1, m, n, h, h1, h2 => by
    by_cases he : m = n
    · subst he; exact hend m h1
    · have a := split_lt (n := n) (by omega)
      have b := split_pos (n := n) (by omega)
      by_cases hk : m ≤ split n
      · exact hfirst m n h1 (by omega) hk (steps_ind hend hfirst hrest f m (split n) (by omega) h1 hk)
      · exact hrest m n (by omega) (by omega) (steps_ind hend hfirst hrest f (m - split n) (n - split n) (by omega) (by omega) (by omega))
/-- So many steps at most. -/
theorem steps_short : ∀ (e m n : Nat), n ≤ 2 ^ e → 1 ≤ m → (steps m n).length ≤ e
  | 0, m, n, h, h0 => by rw [steps_end (by simp at h; omega)]; exact Nat.le_refl _
  | e + 1, m, n, h, h0 => by
    rw [Nat.pow_succ] at h
    by_cases hm : m < n
    · have a := split_lt (n := n) (by omega)
      have b := split_pos (n := n) (by omega)
      have c := split_half (n := n) (by omega)
      have hs : split n ≤ 2 ^ e := by
        rw [split_pow (by omega)]
        refine Nat.pow_le_pow_right (by decide) ?_
        have : (n - 1).log2 < e + 1 := (Nat.log2_lt (by omega)).2 (by rw [Nat.pow_succ]; omega)
        omega
      by_cases hk : m ≤ split n
      · rw [steps_first h0 hm hk, List.length_cons]
        have := steps_short e m (split n) hs h0
        omega
      · rw [steps_rest hm (by omega), List.length_cons]
        have := steps_short e (m - split n) (n - split n) (by omega) (by omega)
        omega
    · rw [steps_end (by omega)]; exact Nat.zero_le _
theorem steps_pos {m n : Nat} (h0 : 1 ≤ m) (h : m < n) : 1 ≤ (steps m n).length := by
  by_cases hk : m ≤ split n
  · rw [steps_first h0 h hk]; simp
  · rw [steps_rest h (by omega)]; simp
/-- The steps of a leaf's path. -/
def sidesF : Nat → Nat → Nat → List (Bool × Nat)
  | 0, _, _ => []
  | f + 1, i, n => if 1 < n then (if i < split n then (true, split n) :: sidesF f i (split n) else (false, split n) :: sidesF f (i - split n) (n - split n)) else []
def sides (i n : Nat) : List (Bool × Nat) := sidesF n i n
theorem sidesF_any : ∀ (f g i n : Nat), n ≤ f → n ≤ g → sidesF f i n = sidesF g i n
  | 0, 0, i, n, _, _ => rfl
  | 0, g + 1, i, n, h, _ => by simp only [sidesF]; rw [if_neg (by omega)]
  | f + 1, 0, i, n, _, h => by simp only [sidesF]; rw [if_neg (by omega)]
  | f + 1, g + 1, i, n, h1, h2 => by
    simp only [sidesF]
    by_cases h : 1 < n
    · have a := split_lt (n := n) (by omega)
      have b := split_pos (n := n) (by omega)
      rw [if_pos h, if_pos h]
      by_cases hk : i < split n
      · rw [if_pos hk, if_pos hk, sidesF_any f g i (split n) (by omega) (by omega)]
      · rw [if_neg hk, if_neg hk, sidesF_any f g (i - split n) (n - split n) (by omega) (by omega)]
    · rw [if_neg h, if_neg h]
theorem sides_end {i n : Nat} (h : n ≤ 1) : sides i n = [] := by
  unfold sides
  cases n with
  | zero => rfl
  | succ n => simp only [sidesF]; rw [if_neg (by omega)]
theorem sides_first {i n : Nat} (h : 1 < n) (hk : i < split n) : sides i n = (true, split n) :: sides i (split n) := by
  have a := split_lt (n := n) (by omega)
  unfold sides
  rw [sidesF_any n (n - 1 + 1) i n (by omega) (by omega)]
  simp only [sidesF]
  rw [if_pos h, if_pos hk, sidesF_any (n - 1) (split n) i (split n) (by omega) (by omega)]
theorem sides_rest {i n : Nat} (h : 1 < n) (hk : split n ≤ i) : sides i n = (false, split n) :: sides (i - split n) (n - split n) := by
  have a := split_lt (n := n) (by omega)
  have b := split_pos (n := n) (by omega)
  unfold sides
  rw [sidesF_any n (n - 1 + 1) i n (by omega) (by omega)]
  simp only [sidesF]
  rw [if_pos h, if_neg (by omega), sidesF_any (n - 1) (n - split n) (i - split n) (n - split n) (by omega) (by omega)]
theorem sides_short : ∀ (e i n : Nat), n ≤ 2 ^ e → (sides i n).length ≤ e
  | 0, i, n, h => by rw [sides_end (by simpa using h)]; exact Nat.le_refl _
  | e + 1, i, n, h => by
    rw [Nat.pow_succ] at h
    by_cases hm : 1 < n
    · have a := split_lt (n := n) (by omega)
      have b := split_pos (n := n) (by omega)
      have c := split_half (n := n) (by omega)
      have hs : split n ≤ 2 ^ e := by
        rw [split_pow (by omega)]
        refine Nat.pow_le_pow_right (by decide) ?_
        have : (n - 1).log2 < e + 1 := (Nat.log2_lt (by omega)).2 (by rw [Nat.pow_succ]; omega)
        omega
      by_cases hk : i < split n
      · rw [sides_first hm hk, List.length_cons]
        have := sides_short e i (split n) hs
        omega
      · rw [sides_rest hm (by omega), List.length_cons]
        have := sides_short e (i - split n) (n - split n) (by omega)
        omega
    · rw [sides_end (by omega)]; exact Nat.zero_le _
theorem sides_ind {P : Nat → Nat → Prop} (hend : P 0 1)
    (hfirst : ∀ i n, 1 < n → i < split n → P i (split n) → P i n)
    (hrest : ∀ i n, 1 < n → i < n → split n ≤ i → P (i - split n) (n - split n) → P i n) : ∀ (f i n : Nat), n ≤ f → i < n → P i n
  | 0, i, n, h, h1 => by omega
  | f + 1, i, n, h, h1 => by
    by_cases he : n = 1
    · subst he; obtain rfl : i = 0 := by omega
      exact hend
    · have a := split_lt (n := n) (by omega)
      have b := split_pos (n := n) (by omega)
      by_cases hk : i < split n
      · exact hfirst i n (by omega) hk (sides_ind hend hfirst hrest f i (split n) (by omega) hk)
      · exact hrest i n (by omega) h1 (by omega) (sides_ind hend hfirst hrest f (i - split n) (n - split n) (by omega) (by omega))

/-- The hashes of a bridge, from the root down; the bridge has them the other way round. -/
def bridgeD : List (Bool × Nat) → List B → List B
  | [], l => [root l]
  | (true, k) :: ss, l => root (l.drop k) :: bridgeD ss (l.take k)
  | (false, k) :: ss, l => root (l.take k) :: bridgeD ss (l.drop k)
def auditD : List (Bool × Nat) → List B → List B
  | [], l => []
  | (true, k) :: ss, l => root (l.drop k) :: auditD ss (l.take k)
  | (false, k) :: ss, l => root (l.take k) :: auditD ss (l.drop k)
def bridge (m : Nat) (l : List B) : List B := (bridgeD (steps m l.length) l).reverse
def audit (i : Nat) (l : List B) : List B := (auditD (sides i l.length) l).reverse
theorem bridgeD_length : ∀ (ss : List (Bool × Nat)) (l : List B), (bridgeD ss l).length = ss.length + 1
  | [], l => rfl
  | (true, k) :: ss, l => by simp [bridgeD, bridgeD_length ss]
  | (false, k) :: ss, l => by simp [bridgeD, bridgeD_length ss]
theorem auditD_length : ∀ (ss : List (Bool × Nat)) (l : List B), (auditD ss l).length = ss.length
  | [], l => rfl
  | (true, k) :: ss, l => by simp [auditD, auditD_length ss]
  | (false, k) :: ss, l => by simp [auditD, auditD_length ss]
theorem bridgeD_wide : ∀ (ss : List (Bool × Nat)) (l : List B), ∀ h ∈ bridgeD ss l, h.size = 32
  | [], l, h, hm => by simp [bridgeD] at hm; subst hm; exact root_length _
  | (true, k) :: ss, l, h, hm => by
    rcases List.mem_cons.1 hm with rfl | hm
    · exact root_length _
    · exact bridgeD_wide ss _ h hm
  | (false, k) :: ss, l, h, hm => by
    rcases List.mem_cons.1 hm with rfl | hm
    · exact root_length _
    · exact bridgeD_wide ss _ h hm
theorem auditD_wide : ∀ (ss : List (Bool × Nat)) (l : List B), ∀ h ∈ auditD ss l, h.size = 32
  | [], l, h, hm => by simp [auditD] at hm
  | (true, k) :: ss, l, h, hm => by
    rcases List.mem_cons.1 hm with rfl | hm
    · exact root_length _
    · exact auditD_wide ss _ h hm
  | (false, k) :: ss, l, h, hm => by
    rcases List.mem_cons.1 hm with rfl | hm
    · exact root_length _
    · exact auditD_wide ss _ h hm
/-- The first hash, or none. -/
def hd (q : List B) : B := q.headD ⟨#[]⟩
/-- The two roots that hashes tell (from the last one on). -/
def imp : List (Bool × Nat) → List B → B × B
  | [], q => (hd q, hd q)
  | (true, _) :: ss, q => ((imp ss q.tail).1, nodeB (imp ss q.tail).2 (hd q))
  | (false, _) :: ss, q => (nodeB (hd q) (imp ss q.tail).1, nodeB (hd q) (imp ss q.tail).2)
/-- The root that a leaf's path leads to (from the last hash on). -/
def up : List (Bool × Nat) → B → List B → B
  | [], leaf, _ => leaf
  | (true, _) :: ss, leaf, q => nodeB (up ss leaf q.tail) (hd q)
  | (false, _) :: ss, leaf, q => nodeB (hd q) (up ss leaf q.tail)
theorem imp_wide : ∀ (ss : List (Bool × Nat)) (q : List B), (∀ h ∈ q, h.size = 32) → q.length = ss.length + 1 → (imp ss q).1.size = 32 ∧ (imp ss q).2.size = 32
  | [], q, hw, hl => by
    match q, hl with
    | [h], _ => exact ⟨hw h (by simp), hw h (by simp)⟩
  | (true, k) :: ss, q, hw, hl => by
    match q, hl with
    | h :: q, hl =>
      have := imp_wide ss q (fun x hx => hw x (List.mem_cons_of_mem _ hx)) (by simpa using hl)
      exact ⟨this.1, nodeB_size _ _⟩
  | (false, k) :: ss, q, hw, hl => ⟨nodeB_size _ _, nodeB_size _ _⟩
theorem up_wide : ∀ (ss : List (Bool × Nat)) (leaf : B) (q : List B), leaf.size = 32 → (up ss leaf q).size = 32
  | [], leaf, q, h => h
  | (true, k) :: ss, leaf, q, h => nodeB_size _ _
  | (false, k) :: ss, leaf, q, h => nodeB_size _ _
/-- Where the first ones go beyond the first part, it is their first part too. -/
theorem split_first {m n : Nat} (h : m ≤ n) (hk : split n < m) (hn : 2 ≤ n) : split m = split n := by
  have a := split_pos hn
  have b := split_half hn
  rw [split_pow hn] at hk b ⊢
  exact split_uniq (by have := Nat.one_le_two_pow (n := (n - 1).log2); omega) _ hk (by omega)
/-- A bridge tells the roots. -/
theorem imp_bridge : ∀ (f m n : Nat), n ≤ f → 1 ≤ m → m ≤ n → ∀ l : List B, l.length = n → imp (steps m n) (bridgeD (steps m n) l) = (root (l.take m), root l) := by
  refine steps_ind ?_ ?_ ?_
  · intro n hn l hl
    rw [steps_end (Nat.le_refl _)]
    simp only [imp, bridgeD, hd, List.headD_cons]
    rw [List.take_of_length_le (by omega)]
  · intro m n h1 hm hk ih l hl
    have a := split_lt (n := n) (by omega)
    have := ih (l.take (split n)) (by rw [List.length_take]; omega)
    rw [steps_first h1 hm hk]
    simp only [imp, bridgeD, hd, List.headD_cons, List.tail_cons]
    rw [this]
    simp only
    rw [List.take_take, Nat.min_eq_left hk, root_node l (by omega), hl]
  · intro m n hm hk ih l hl
    have a := split_lt (n := n) (by omega)
    have b := split_pos (n := n) (by omega)
    have := ih (l.drop (split n)) (by rw [List.length_drop]; omega)
    rw [steps_rest hm hk]
    simp only [imp, bridgeD, hd, List.headD_cons, List.tail_cons]
    rw [this]
    simp only
    have hsp := split_first (Nat.le_of_lt hm) hk (by omega)
    have htl : (l.take m).length = m := by rw [List.length_take]; omega
    rw [root_node l (by omega), hl]
    congr 1
    rw [root_node (l.take m) (by omega), htl, hsp, List.take_take, Nat.min_eq_left (by omega), List.drop_take]
/-- A leaf's path leads from it to the root. -/
theorem up_audit : ∀ (f i n : Nat), n ≤ f → i < n → ∀ l : List B, l.length = n → up (sides i n) (leafB (l.getD i ⟨#[]⟩)) (auditD (sides i n) l) = root l := by
  refine sides_ind ?_ ?_ ?_
  · intro l hl
    match l, hl with
    | [d], _ => rfl
  · intro i n hn hk ih l hl
    have a := split_lt (n := n) (by omega)
    have := ih (l.take (split n)) (by rw [List.length_take]; omega)
    rw [sides_first hn hk]
    simp only [up, auditD, hd, List.headD_cons, List.tail_cons]
    rw [root_node l (by omega), hl, ← this]
    congr 3
    simp only [List.getD_eq_getElem?_getD]
    rw [List.getElem?_take_of_lt hk]
  · intro i n hn hi hk ih l hl
    have a := split_lt (n := n) (by omega)
    have := ih (l.drop (split n)) (by rw [List.length_drop]; omega)
    rw [sides_rest hn hk]
    simp only [up, auditD, hd, List.headD_cons, List.tail_cons]
    rw [root_node l (by omega), hl, ← this]
    congr 3
    simp only [List.getD_eq_getElem?_getD]
    rw [List.getElem?_drop, show split n + (i - split n) = i by omega]

/-- What a node hashes. -/
def text (a b : B) : B := ⟨#[1]⟩ ++ a ++ b
theorem text_sum (a b : B) : sumB (text a b) = nodeB a b := (nodeB_sum a b).symm
theorem text_inj {a b c d : B} (h1 : a.size = c.size) : text a b = text c d ↔ a = c ∧ b = d := by
  constructor
  · intro h
    have h2 : (text a b).data.toList = (text c d).data.toList := by rw [h]
    have e : ∀ x y : B, (text x y).data.toList = 1 :: (x.data.toList ++ y.data.toList) := fun x y => by
      unfold text; rw [ba_append, ba_append]; rfl
    rw [e, e] at h2
    have h3 := (List.cons.inj h2).2
    have hl : a.data.toList.length = c.data.toList.length := by rw [Array.length_toList, Array.length_toList]; exact h1
    obtain ⟨p, q⟩ := List.append_inj h3 hl
    exact ⟨ba_eq p, ba_eq q⟩
  · rintro ⟨rfl, rfl⟩; rfl
/-- What is told to be hashed at a step. -/
def told (b : Bool) (ss : List (Bool × Nat)) (q : List B) : B × B := if b = true then ((imp ss q.tail).2, hd q) else (hd q, (imp ss q.tail).2)
def own (k : Nat) (l : List B) : B × B := (root (l.take k), root (l.drop k))
/-- From the root down, the first step at which what is hashed is not the same. -/
def clash : List (Bool × Nat) → List B → List B → Option ((B × B) × (B × B))
  | [], _, _ => none
  | (b, k) :: ss, l, q => if told b ss q = own k l then clash ss (if b = true then l.take k else l.drop k) q.tail else some (told b ss q, own k l)
/-- Where hashes lead to the root, but not from that of the first ones, two texts with one sum are found. -/
theorem clash_sound : ∀ (f m n : Nat), n ≤ f → 1 ≤ m → m ≤ n → ∀ (l q : List B), l.length = n → (imp (steps m n) q).2 = root l → (imp (steps m n) q).1 ≠ root (l.take m) →
    ∃ t o, clash (steps m n) l q = some (t, o) ∧ t ≠ o ∧ nodeB t.1 t.2 = nodeB o.1 o.2 := by
  refine steps_ind ?_ ?_ ?_
  · intro n hn l q hl h1 h2
    rw [steps_end (Nat.le_refl _)] at h1 h2
    simp only [imp] at h1 h2
    rw [List.take_of_length_le (by omega)] at h2
    exact absurd h1 h2
  · intro m n h1 hm hk ih l q hl e1 e2
    have a := split_lt (n := n) (by omega)
    rw [steps_first h1 hm hk] at e1 e2 ⊢
    simp only [imp] at e1 e2
    simp only [clash]
    have hown : nodeB (own (split n) l).1 (own (split n) l).2 = root l := by rw [root_node l (by omega), hl]; rfl
    have htold : nodeB (told true (steps m (split n)) q).1 (told true (steps m (split n)) q).2 = root l := by rw [← e1]; rfl
    by_cases he : told true (steps m (split n)) q = own (split n) l
    · rw [if_pos he]
      have h3 := congrArg Prod.fst he
      simp only [told, own, if_pos rfl] at h3
      refine ih (l.take (split n)) q.tail (by rw [List.length_take]; omega) h3 ?_
      rw [List.take_take, Nat.min_eq_left hk]; exact e2
    · rw [if_neg he]
      exact ⟨_, _, rfl, he, htold.trans hown.symm⟩
  · intro m n hm hk ih l q hl e1 e2
    have a := split_lt (n := n) (by omega)
    have b := split_pos (n := n) (by omega)
    rw [steps_rest hm hk] at e1 e2 ⊢
    simp only [imp] at e1 e2
    simp only [clash]
    have hown : nodeB (own (split n) l).1 (own (split n) l).2 = root l := by rw [root_node l (by omega), hl]; rfl
    have htold : nodeB (told false (steps (m - split n) (n - split n)) q).1 (told false (steps (m - split n) (n - split n)) q).2 = root l := by rw [← e1]; rfl
    by_cases he : told false (steps (m - split n) (n - split n)) q = own (split n) l
    · rw [if_pos he]
      have h3 := congrArg Prod.snd he
      have h4 := congrArg Prod.fst he
      simp only [told, own] at h3 h4
      rw [if_neg (by decide)] at h3 h4
      refine ih (l.drop (split n)) q.tail (by rw [List.length_drop]; omega) h3 (fun h5 => e2 ?_)
      have hsp := split_first (Nat.le_of_lt hm) hk (by omega)
      have htl : (l.take m).length = m := by rw [List.length_take]; omega
      rw [root_node (l.take m) (by omega), htl, hsp, List.take_take, Nat.min_eq_left (by omega), List.drop_take, ← h5]
      simp only at h4
      rw [h4]
    · rw [if_neg he]
      exact ⟨_, _, rfl, he, htold.trans hown.symm⟩
theorem told_true (ss : List (Bool × Nat)) (q : List B) : told true ss q = ((imp ss q.tail).2, hd q) := rfl
theorem told_false (ss : List (Bool × Nat)) (q : List B) : told false ss q = (hd q, (imp ss q.tail).2) := rfl
theorem clash_true (k : Nat) (ss : List (Bool × Nat)) (l q : List B) : clash ((true, k) :: ss) l q = if told true ss q = own k l then clash ss (l.take k) q.tail else some (told true ss q, own k l) := rfl
theorem clash_false (k : Nat) (ss : List (Bool × Nat)) (l q : List B) : clash ((false, k) :: ss) l q = if told false ss q = own k l then clash ss (l.drop k) q.tail else some (told false ss q, own k l) := rfl
/-- A bridge of the leaves never clashes. -/
theorem clash_bridge : ∀ (f m n : Nat), n ≤ f → 1 ≤ m → m ≤ n → ∀ (l : List B), l.length = n → clash (steps m n) l (bridgeD (steps m n) l) = none := by
  refine steps_ind ?_ ?_ ?_
  · intro n hn l hl
    rw [steps_end (Nat.le_refl _)]; rfl
  · intro m n h1 hm hk ih l hl
    have a := split_lt (n := n) (by omega)
    have hi := imp_bridge _ m (split n) (Nat.le_refl _) h1 hk (l.take (split n)) (by rw [List.length_take]; omega)
    rw [steps_first h1 hm hk, clash_true]
    have ht : told true (steps m (split n)) (bridgeD ((true, split n) :: steps m (split n)) l) = own (split n) l := by
      rw [told_true]
      show ((imp (steps m (split n)) (bridgeD (steps m (split n)) (l.take (split n)))).2, root (l.drop (split n))) = _
      rw [hi]; rfl
    rw [if_pos ht]
    exact ih (l.take (split n)) (by rw [List.length_take]; omega)
  · intro m n hm hk ih l hl
    have a := split_lt (n := n) (by omega)
    have hi := imp_bridge _ (m - split n) (n - split n) (Nat.le_refl _) (by omega) (by omega) (l.drop (split n)) (by rw [List.length_drop]; omega)
    rw [steps_rest hm hk, clash_false]
    have ht : told false (steps (m - split n) (n - split n)) (bridgeD ((false, split n) :: steps (m - split n) (n - split n)) l) = own (split n) l := by
      rw [told_false]
      show (root (l.take (split n)), (imp (steps (m - split n) (n - split n)) (bridgeD (steps (m - split n) (n - split n)) (l.drop (split n)))).2) = _
      rw [hi]; rfl
    rw [if_pos ht]
    exact ih (l.drop (split n)) (by rw [List.length_drop]; omega)
end Go.Proofs.YtkdajlhmodmkoaaDoor.TreeM

/-
  Layer 9 (proof): steps, as rows of structs; the code's steps from the root down.
-/
namespace Go.Proofs.YtkdajlhmodmkoaaDoor
open Go.RowKit TreeM
set_option linter.unusedVariables false
set_option linter.unusedSimpArgs false

/-- Steps as cells. -/
def stvals (ss : List (Bool × Nat)) : List Value := ss.flatMap fun s => [.bool s.1, .int .u64 (s.2 : Int)]
theorem stvals_append (a b : List (Bool × Nat)) : stvals (a ++ b) = stvals a ++ stvals b := by simp [stvals]
theorem stvals_snoc (ss : List (Bool × Nat)) (b : Bool) (k : Nat) : stvals (ss ++ [(b, k)]) = stvals ss ++ [.bool b, .int .u64 (k : Int)] := by simp [stvals]
theorem stvals_length : ∀ (ss : List (Bool × Nat)), (stvals ss).length = ss.length * 2
  | [] => rfl
  | s :: ss => by
    show (stvals ([s] ++ ss)).length = _
    rw [stvals_append, List.length_append, stvals_length ss]
    simp [stvals]; omega
theorem stvals_get : ∀ (ss : List (Bool × Nat)) (i : Nat) (h : i < ss.length), (stvals ss)[i * 2]? = some (.bool ss[i].1) ∧ (stvals ss)[i * 2 + 1]? = some (.int .u64 (ss[i].2 : Int))
  | s :: ss, 0, _ => ⟨rfl, rfl⟩
  | s :: ss, i + 1, h => by
    have := stvals_get ss i (by simpa using h)
    have e : stvals (s :: ss) = .bool s.1 :: .int .u64 (s.2 : Int) :: stvals ss := rfl
    rw [e, show (i + 1) * 2 = i * 2 + 1 + 1 by omega]
    simpa using this
theorem stvals_one (ss : List (Bool × Nat)) : ∀ u ∈ stvals ss, u.oneCell' = true := by
  intro u hu
  simp only [stvals, List.mem_flatMap] at hu
  obtain ⟨s, -, hs⟩ := hu
  simp at hs
  rcases hs with rfl | rfl <;> rfl
theorem winfo94 : (Tryd.prog.info? 94).map (fun i => (i.zero, i.size, i.bytes)) = some (some (.agg #[.bool false, .int .u64 0]), 2, 16) := by kernel_rfl
/-- A row of steps of the call's own. -/
def StOwn (base : Nat) (w : World) (v : Value) (ss : List (Bool × Nat)) : Prop := w.ownsRow base 94 2 v ss.length (stvals ss)
/-- In world w the slice v reads as the steps ss. -/
def StRead (w : World) (v : Value) (ss : List (Bool × Nat)) : Prop := ∃ (A : Option Addr) (cap : Nat), v = .slice A ss.length cap ∧ ss.length ≤ maxLen ∧ ∀ i (h : i < ss.length), ∃ b o, A = some ⟨b, o, none⟩ ∧ (b < w.heap.size ∧ ss.length ≤ cap) ∧ w.cell? ⟨b, o + i * 2, none⟩ = some (.bool ss[i].1) ∧ w.cell? ⟨b, o + i * 2 + 1, none⟩ = some (.int .u64 (ss[i].2 : Int))
theorem StRead.below {w w' : World} {v : Value} {ss : List (Bool × Nat)} {B : Nat} (h : StRead w v ss) (hb : Below B w w') (hB : w.heap.size = B) : StRead w' v ss := by
  obtain ⟨A, cap, hv, hm, hc⟩ := h
  refine ⟨A, cap, hv, hm, fun i hi => ?_⟩
  obtain ⟨b, o, h1, h2, h3, h4⟩ := hc i hi
  exact ⟨b, o, h1, ⟨Nat.lt_of_lt_of_le h2.1 hb.size, h2.2⟩, cell_belowB hb hB h3, cell_belowB hb hB h4⟩
theorem StOwn.read {base : Nat} {w : World} {v : Value} {ss : List (Bool × Nat)} (h : StOwn base w v ss) (hm : ss.length ≤ maxLen) : StRead w v ss := by
  rcases h.2 with ⟨hv, hn⟩ | ⟨g, cap, cur, hv, hg, hh, hn, hmx, hcs, htk⟩
  · have h0 : ss = [] := List.eq_nil_of_length_eq_zero hn
    exact ⟨none, 0, by rw [hv, hn], hm, fun i hi => by omega⟩
  · refine ⟨some ⟨g, 0, none⟩, cap, hv, hm, fun i hi => ?_⟩
    obtain ⟨e1, e2⟩ := stvals_get ss i hi
    subst hv
    have c1 := h.cells rfl _ _ e1
    have c2 := h.cells rfl _ _ e2
    rw [Addr.add_lit] at c1 c2
    exact ⟨g, 0, rfl, ⟨(Array.getElem?_eq_some_iff.1 hh).1, hn⟩, c1, by rw [Nat.add_assoc]; exact c2⟩
theorem StOwn.nil (base : Nat) (w : World) : StOwn base w (.slice none 0 0) [] := World.ownsRow_nil _ _ _ _
theorem StOwn.below {base : Nat} {w w' : World} {v : Value} {ss : List (Bool × Nat)} (h : StOwn base w v ss) (hb : Below w.heap.size w w') : StOwn base w' v ss := own_below h hb
/-- A scope in which the run jumps back to one label: what holds at the label is shown once. -/
theorem wp_scope_jumps2 {P : Program} {a : Act} {w : World} {Q : Exit → Act → World → Prop} {c rest : Code} (l : Nat) (J : Act → World → Prop) (μ : Act → World → Nat) (hf : findLabel c l = some (.seq .skip rest))
    (pass : ∀ a w, J a w → rest.wp P (Exit.jump l (fun a' w' => J a' w' ∧ μ a' w' < μ a w) Q) a w)
    (first : (∀ a w, J a w → rest.wp P (Exit.jump l J Q) a w) → c.wp P (Exit.jump l J Q) a w) : (Code.scope c).wp P Q a w := by
  refine wp_scope_jumps l J μ hf (first fun a w h => wp_mono (pass a w h) fun e a' w' hq => ?_) (fun a w h => wp_seq (wp_skip (pass a w h)))
  cases e with
  | goto l' => exact ⟨hq.1, hq.2.1⟩
  | normal => exact hq
  | exit id => exact hq
  | ret => exact hq
  | panic ch => exact hq
  | outgrown => exact hq
set_option maxRecDepth 100000 in
set_option maxHeartbeats 4000000 in
theorem csteps_any {w : World} (m0 n0 : Nat) (h10 : 1 ≤ m0) (hmn0 : m0 ≤ n0) (hn0 : n0 ≤ 1099511627776) :
    Calls Tryd.prog 79 #[.int .u64 (m0 : Int), .int .u64 (n0 : Int)] w fun e w' => (∃ v, e = .returned v ∧ StOwn w.heap.size w' v (steps m0 n0)) ∧ Below w.heap.size w w' := by
  obtain ⟨R, hR0⟩ : ∃ R, steps m0 n0 = R := ⟨_, rfl⟩
  rw [hR0]
  have hRl : R.length ≤ 64 := by rw [← hR0]; have := steps_short 40 m0 n0 (by omega) h10; omega
  have HR0 := Lib.hid hR0; have HRl := Lib.hid hRl; clear hR0 hRl
  obtain ⟨i94, hj, hy0, hy1, hy2⟩ := info_parts winfo94
  go_enter Tryd.func79, Tryd.ntmps79
  go_wp2
  refine wp_scope_jumps2 0 (fun a' w' => ∃ (m n : Nat) (out : List (Bool × Nat)) (v u2 u3 u4 u6 u7 u8 u9 u10 u11 u12 u13 u14 u15 u16 u17 u18 u19 u20 u21 u22 u23 u24 u25 u26 u27 u28 u29 u30 : Value), a' = { tmps := #[.int .u64 (m : Int), .int .u64 (n : Int), u2, u3, u4, v, u6, u7, u8, u9, u10, u11, u12, u13, u14, u15, u16, u17, u18, u19, u20, u21, u22, u23, u24, u25, u26, u27, u28, u29, u30], defers := [] } ∧ 1 ≤ m ∧ m ≤ n ∧ n ≤ 1099511627776 ∧ out ++ steps m n = R ∧ StOwn w.heap.size w' v out ∧ Below w.heap.size w w') (fun a' _ => (intOf (a'.tmps.getD 1 undef)).toNat) rfl ?_ ?_
  rotate_left
  · intro hpass
    go_wp2
    go_step3
    rename_i K hK
    exact hK _ _ (hpass _ _ ⟨m0, n0, [], .slice none 0 0, _, _, _, _, _, _, _, _, _, _, _, _, _, _, _, _, _, _, _, _, _, _, _, _, _, _, _, _, rfl, h10, hmn0, hn0, HR0.out, StOwn.nil _ _, Below.refl _ _⟩)
  · rintro a' wr ⟨m, n, out, v, u2, u3, u4, u6, u7, u8, u9, u10, u11, u12, u13, u14, u15, u16, u17, u18, u19, u20, u21, u22, u23, u24, u25, u26, u27, u28, u29, u30, rfl, h1, hmn, hnb, hR, hown, hbel⟩
    have Hol : Hid (out.length ≤ 64) := Lib.hid (by have := HRl.out; rw [← hR, List.length_append] at this; omega)
    have HR := Lib.hid hR; have Hown := Lib.hid hown; have Hbel := Lib.hid hbel
    obtain ⟨Av, cv, rfl, -, -⟩ := id (hown.read (by have := Hol.out; unfold maxLen; omega))
    clear hR hown hbel HR0 h10 hmn0 hn0
    by_cases hlt : m < n
    · have l1 : ((m : Int) < (n : Int)) = True := eq_true (by omega)
      have hk2 := split_lt (n := n) (by omega)
      have hk1 := split_pos (n := n) (by omega)
      have hsp := split_any n (by omega) wr
      obtain ⟨k, hke⟩ : ∃ k, split n = k := ⟨_, rfl⟩
      rw [hke] at hk1 hk2 hsp
      have Hsp := Lib.hid hsp; clear hsp
      have hol : out.length ≤ 64 := Hol.out
      by_cases hk : m ≤ split n
      · rw [hke] at hk
        have Hre : Hid ((out ++ [(true, k)]) ++ steps m k = R) := Lib.hid (by rw [← HR.out, List.append_assoc, steps_first h1 hlt (by rw [hke]; exact hk), hke]; rfl)
        have l2 : ((m : Int) ≤ (k : Int)) = True := eq_true (by omega)
        have Hbig := Lib.hid (And.intro hk1 (And.intro hk2 hke)); clear hk1 hk2 hke
        have hnew := Blk.new wr 94 #[.bool true, .int .u64 (k : Int)]
        have hown1 := own_alloc' Hown.out (.cells #[.bool true, .int .u64 (k : Int)] 94)
        have hbel1 := Hbel.out.alloc Hbel.out.size (.cells #[.bool true, .int .u64 (k : Int)] 94)
        have hol := Hol.out
        go_wp2_with fail
        refine Hsp.out.mono ?_
        rintro e _ ⟨rfl, rfl⟩
        go_wp2_with (at_builtin; refine wpList_append_el rfl _ _ 91 rfl w.heap.size 94 i94 _ 2 16 Tryd.underlying91 hj hy0 hy1 hy2 rfl (by decide) _ _ _ rfl hown1 _ rfl _ 94 (0, 0) hnew rfl (by intro v hv; simp at hv; rcases hv with rfl | rfl <;> rfl) (by unfold maxLen; omega) (by omega) hbel1.size ?_)
        intro g' cap' w4 hown4 hg4 hat4
        have hb4 : Below w.heap.size w w4 := hbel1.grown hg4 hbel1.size (fun i hi => (World.ownsRow.lt hown1 i hi).1)
        have ho4 : StOwn w.heap.size w4 (.slice (some ⟨g', 0, none⟩) (out.length + 1) cap') (out ++ [(true, k)]) := by unfold StOwn; rw [List.length_append, stvals_snoc]; exact hown4
        have H4 := Lib.hid (And.intro ho4 hb4)
        clear hb4 ho4 hown4 hg4 hat4 hown1 hbel1 hnew Hown Hbel
        go_wp2
        go_step3
        refine ⟨rfl, ⟨m, k, out ++ [(true, k)], _, _, _, _, _, _, _, _, _, _, _, _, _, _, _, _, _, _, _, _, _, _, _, _, _, _, _, _, _, rfl, h1, hk, by have := Hbig.out; omega, Hre.out, H4.out⟩, ?_⟩
        simp [intOf]; have := Hbig.out; omega
      · rw [hke] at hk
        obtain ⟨dm, hdm⟩ : ∃ dm, m - k = dm := ⟨_, rfl⟩
        obtain ⟨dn, hdn⟩ : ∃ dn, n - k = dn := ⟨_, rfl⟩
        have e1 : IntKind.u64.wrap ((m : Int) - (k : Int)) = (dm : Int) := by rw [show (m : Int) - (k : Int) = (dm : Int) by omega]; show (dm : Int) % 18446744073709551616 = _; omega
        have e2 : IntKind.u64.wrap ((n : Int) - (k : Int)) = (dn : Int) := by rw [show (n : Int) - (k : Int) = (dn : Int) by omega]; show (dn : Int) % 18446744073709551616 = _; omega
        have Hre : Hid ((out ++ [(false, k)]) ++ steps dm dn = R) := Lib.hid (by rw [← HR.out, List.append_assoc, steps_rest hlt (by omega), hke, hdm, hdn]; rfl)
        have l2 : ((m : Int) ≤ (k : Int)) = False := eq_false (by omega)
        have Hbig := Lib.hid (And.intro hk1 (And.intro hk2 hke)); clear hk1 hk2 hke
        have hnew := Blk.new wr 94 #[.bool false, .int .u64 (k : Int)]
        have hown1 := own_alloc' Hown.out (.cells #[.bool false, .int .u64 (k : Int)] 94)
        have hbel1 := Hbel.out.alloc Hbel.out.size (.cells #[.bool false, .int .u64 (k : Int)] 94)
        have hol := Hol.out
        go_wp2_with fail
        refine Hsp.out.mono ?_
        rintro e _ ⟨rfl, rfl⟩
        go_wp2_with (at_builtin; refine wpList_append_el rfl _ _ 91 rfl w.heap.size 94 i94 _ 2 16 Tryd.underlying91 hj hy0 hy1 hy2 rfl (by decide) _ _ _ rfl hown1 _ rfl _ 94 (0, 0) hnew rfl (by intro v hv; simp at hv; rcases hv with rfl | rfl <;> rfl) (by unfold maxLen; omega) (by omega) hbel1.size ?_)
        intro g' cap' w4 hown4 hg4 hat4
        have hb4 : Below w.heap.size w w4 := hbel1.grown hg4 hbel1.size (fun i hi => (World.ownsRow.lt hown1 i hi).1)
        have ho4 : StOwn w.heap.size w4 (.slice (some ⟨g', 0, none⟩) (out.length + 1) cap') (out ++ [(false, k)]) := by unfold StOwn; rw [List.length_append, stvals_snoc]; exact hown4
        have H4 := Lib.hid (And.intro ho4 hb4)
        clear hb4 ho4 hown4 hg4 hat4 hown1 hbel1 hnew Hown Hbel
        go_wp2
        go_step3
        refine ⟨rfl, ⟨dm, dn, out ++ [(false, k)], _, _, _, _, _, _, _, _, _, _, _, _, _, _, _, _, _, _, _, _, _, _, _, _, _, _, _, _, _, rfl, by omega, by omega, by omega, Hre.out, H4.out⟩, ?_⟩
        simp [intOf]; have := Hbig.out; omega
    · have l1 : ((m : Int) < (n : Int)) = False := eq_false (by omega)
      have hend : out = R := by rw [← HR.out, steps_end (by omega), List.append_nil]
      have Hend := Lib.hid hend; clear hend
      go_wp2
      simp only [Exit.jump]
      go_ret
      exact ⟨⟨_, rfl, by rw [← Hend.out]; exact Hown.out⟩, Hbel.out⟩
end Go.Proofs.YtkdajlhmodmkoaaDoor

/-
  Layer 9 (proof): may, whole, sides, Steps, long, text walked: the code's and the document's.
-/
namespace Go.Proofs.YtkdajlhmodmkoaaDoor
open Go.RowKit TreeM
set_option linter.unusedVariables false
set_option linter.unusedSimpArgs false

/-- May there be so many first ones? -/
def mayB (m n : Nat) : Bool := decide (1 ≤ m) && decide (m ≤ n) && decide (n ≤ 1099511627776)
theorem may_yes {m n : Nat} (h : mayB m n = true) : 1 ≤ m ∧ m ≤ n ∧ n ≤ 1099511627776 := by
  unfold mayB at h; simp only [Bool.and_eq_true, decide_eq_true_eq] at h; exact ⟨h.1.1, h.1.2, h.2⟩
/-- How many hashes a bridge has. -/
def stepsN (m n : Nat) : Nat := if mayB m n = true then (steps m n).length + 1 else 0
theorem stepsN_yes {m n : Nat} (h : mayB m n = true) : stepsN m n = (steps m n).length + 1 := by unfold stepsN; rw [if_pos h]
theorem stepsN_le (m n : Nat) : stepsN m n ≤ 41 := by
  unfold stepsN
  split
  · rename_i h
    obtain ⟨h1, h2, h3⟩ := may_yes h
    have := steps_short 40 m n (by omega) h1
    omega
  · omega
/-- Has a list so many hashes? -/
def wholeB (L : List ByteArray) (k : Nat) : Bool := decide (L.length = k) && wideB L
theorem whole_yes {L : List ByteArray} {k : Nat} (h : wholeB L k = true) : L.length = k ∧ ∀ s ∈ L, s.size = 32 := by
  unfold wholeB wideB at h
  simp only [Bool.and_eq_true, decide_eq_true_eq, List.all_eq_true, beq_iff_eq] at h
  exact h
set_option maxRecDepth 100000 in
theorem cmay_any (m n : Nat) (w : World) : Calls Tryd.prog 82 #[.int .u64 (m : Int), .int .u64 (n : Int)] w fun e w' => e = .returned (.bool (mayB m n)) ∧ w' = w := by
  unfold mayB
  by_cases h1 : 1 ≤ m
  · have l1 : ((1 : Int) ≤ (m : Int)) = True := eq_true (by omega)
    by_cases h2 : m ≤ n
    · have l2 : ((m : Int) ≤ (n : Int)) = True := eq_true (by omega)
      by_cases h3 : n ≤ 1099511627776
      · have l3 : ((n : Int) ≤ 1099511627776) = True := eq_true (by omega)
        rw [decide_eq_true h1, decide_eq_true h2, decide_eq_true h3]
        go_enter Tryd.func82, Tryd.ntmps82
        go_wp2
        go_ret
        exact ⟨rfl, rfl⟩
      · have l3 : ((n : Int) ≤ 1099511627776) = False := eq_false (by omega)
        rw [decide_eq_true h1, decide_eq_true h2, decide_eq_false h3]
        go_enter Tryd.func82, Tryd.ntmps82
        go_wp2
        go_ret
        exact ⟨rfl, rfl⟩
    · have l2 : ((m : Int) ≤ (n : Int)) = False := eq_false (by omega)
      rw [decide_eq_true h1, decide_eq_false h2]
      go_enter Tryd.func82, Tryd.ntmps82
      go_wp2
      go_ret
      exact ⟨rfl, rfl⟩
  · have l1 : ((1 : Int) ≤ (m : Int)) = False := eq_false (by omega)
    rw [decide_eq_false h1]
    go_enter Tryd.func82, Tryd.ntmps82
    go_wp2
    go_ret
    exact ⟨rfl, rfl⟩
set_option maxRecDepth 100000 in
theorem rmay_any (m n : Nat) (w : World) : Calls Tryd.prog 85 #[.int .u64 (m : Int), .int .u64 (n : Int)] w fun e w' => e = .returned (.bool (mayB m n)) ∧ w' = w := by
  unfold mayB
  by_cases h1 : 1 ≤ m
  · have l1 : ((1 : Int) ≤ (m : Int)) = True := eq_true (by omega)
    by_cases h2 : m ≤ n
    · have l2 : ((m : Int) ≤ (n : Int)) = True := eq_true (by omega)
      by_cases h3 : n ≤ 1099511627776
      · have l3 : ((n : Int) ≤ 1099511627776) = True := eq_true (by omega)
        rw [decide_eq_true h1, decide_eq_true h2, decide_eq_true h3]
        go_enter Tryd.func85, Tryd.ntmps85
        go_wp2
        go_ret
        exact ⟨rfl, rfl⟩
      · have l3 : ((n : Int) ≤ 1099511627776) = False := eq_false (by omega)
        rw [decide_eq_true h1, decide_eq_true h2, decide_eq_false h3]
        go_enter Tryd.func85, Tryd.ntmps85
        go_wp2
        go_ret
        exact ⟨rfl, rfl⟩
    · have l2 : ((m : Int) ≤ (n : Int)) = False := eq_false (by omega)
      rw [decide_eq_true h1, decide_eq_false h2]
      go_enter Tryd.func85, Tryd.ntmps85
      go_wp2
      go_ret
      exact ⟨rfl, rfl⟩
  · have l1 : ((1 : Int) ≤ (m : Int)) = False := eq_false (by omega)
    rw [decide_eq_false h1]
    go_enter Tryd.func85, Tryd.ntmps85
    go_wp2
    go_ret
    exact ⟨rfl, rfl⟩
set_option maxRecDepth 100000 in
theorem cwhole_any {w : World} {v : Value} {L : List ByteArray} (h : SRead w v L) (k : Nat) :
    Calls Tryd.prog 83 #[v, .int .i64 (k : Int)] w fun e w' => e = .returned (.bool (wholeB L k)) ∧ w' = w := by
  have h' := h
  obtain ⟨A, cap, rfl, hm, hc⟩ := h
  clear hm hc
  unfold wholeB
  obtain ⟨R, hR⟩ : ∃ R, wideB L = R := ⟨_, rfl⟩
  have HR := Lib.hid hR
  rw [hR]
  clear hR
  by_cases hk : L.length = k
  · have l1 : ((L.length : Int) == (k : Int)) = true := by rw [beq_iff_eq]; omega
    rw [decide_eq_true hk]
    clear hk
    go_enter Tryd.func83, Tryd.ntmps83
    go_wp2_with fail
    refine (contains101_any h').mono ?_
    rintro e w2 ⟨rfl, rfl⟩
    rw [HR.out]
    clear h'
    cases R
    · go_wp2
      go_ret
      exact ⟨rfl, rfl⟩
    · go_wp2
      go_ret
      exact ⟨rfl, rfl⟩
  · have l1 : ((L.length : Int) == (k : Int)) = false := by rw [beq_eq_false_iff_ne]; omega
    rw [decide_eq_false hk]
    clear hk h'
    go_enter Tryd.func83, Tryd.ntmps83
    go_wp2
    go_ret
    exact ⟨rfl, rfl⟩
set_option maxRecDepth 100000 in
theorem rwhole_any {w : World} {v : Value} {L : List ByteArray} (h : SRead w v L) (k : Nat) :
    Calls Tryd.prog 86 #[v, .int .i64 (k : Int)] w fun e w' => e = .returned (.bool (wholeB L k)) ∧ w' = w := by
  obtain ⟨A, cap, rfl, hm, hc⟩ := h
  have hl1 : L.length ≤ 9223372036854775807 := hm
  have Hc := Lib.hid hc
  clear hc hm
  obtain ⟨RR, hRR⟩ : ∃ R, wholeB L k = R := ⟨_, rfl⟩
  rw [hRR]
  have HRR := Lib.hid hRR; clear hRR
  go_enter Tryd.func86, Tryd.ntmps86
  go_wp2
  go_loopw [5] (fun i wx => ∃ q : Nat, q ≤ L.length ∧ i = .int .i64 (q : Int) ∧ wideB (L.take q) = true ∧ wx = w) (fun i _ => L.length - (intOf i).toNat)
  case atStart => exact ⟨0, Nat.zero_le _, rfl, rfl, rfl⟩
  case round =>
    obtain ⟨q, hq, rfl, hw, rfl⟩ := hrel
    have Hw := Lib.hid hw; clear hw
    by_cases hlt : q < L.length
    · obtain ⟨b, o, rfl, _, hx⟩ := Hc.out q hlt
      have hk1 : (q : Int) < (L.length : Int) := by omega
      have hst := wide_succ hlt Hw.out
      have hno := wide_not hlt
      generalize L[q] = S at *
      have Hst := Lib.hid hst; have Hno := Lib.hid hno
      clear hst hno
      by_cases hS : S.size = 32
      · have hb : ((S.size : Int) != 32) = false := by rw [bne_eq_false_iff_eq]; omega
        go_wp2
        go_roundw
        case rel => exact ⟨q + 1, by omega, by go_num, Hst.out hS, by trivial⟩
        case measure => simp [intOf]; omega
      · have hb : ((S.size : Int) != 32) = true := by rw [bne_iff_ne]; omega
        have hR : RR = false := by rw [← HRR.out]; unfold wholeB; rw [Hno.out hS, Bool.and_false]
        have HR := Lib.hid hR; clear hR
        go_wp2
        go_ret
        exact ⟨by rw [HR.out]; rfl, rfl⟩
    · have hall : wideB L = true := by have := Hw.out; rwa [List.take_of_length_le (by omega)] at this
      have hk1 : ¬ (q : Int) < (L.length : Int) := by omega
      have hR : RR = decide (L.length = k) := by rw [← HRR.out]; unfold wholeB; rw [hall, Bool.and_true]
      have HR := Lib.hid hR; clear hR hall
      by_cases hk : L.length = k
      · have l1 : ((L.length : Int) == (k : Int)) = true := by rw [beq_iff_eq]; omega
        have HR2 : Hid (RR = true) := Lib.hid (by rw [HR.out, decide_eq_true hk])
        clear hk
        go_wp2
        go_ret
        exact ⟨by rw [HR2.out]; rfl, rfl⟩
      · have l1 : ((L.length : Int) == (k : Int)) = false := by rw [beq_eq_false_iff_ne]; omega
        have HR2 : Hid (RR = false) := Lib.hid (by rw [HR.out, decide_eq_false hk])
        clear hk
        go_wp2
        go_ret
        exact ⟨by rw [HR2.out]; rfl, rfl⟩
set_option maxRecDepth 100000 in
theorem cStepsN_any {w : World} (m n : Nat) : Calls Tryd.prog 56 #[.int .u64 (m : Int), .int .u64 (n : Int)] w fun e w' => e = .returned (.int .i64 (stepsN m n : Int)) ∧ Below w.heap.size w w' := by
  unfold stepsN
  cases hm : mayB m n with
  | false =>
    have h82 := cmay_any m n w
    rw [hm] at h82
    clear hm
    go_enter Tryd.func56, Tryd.ntmps56
    go_wp2_with fail
    refine h82.mono ?_
    rintro e w2 ⟨rfl, rfl⟩
    go_wp2
    go_ret
    exact ⟨rfl, Below.refl _ _⟩
  | true =>
    have h82 := cmay_any m n w
    rw [hm] at h82
    obtain ⟨h1, h2, h3⟩ := may_yes hm
    have hs := steps_short 40 m n (by omega) h1
    have h79 := csteps_any (w := w) m n h1 h2 h3
    have e1 : IntKind.i64.wrap (((steps m n).length : Int) + 1) = ((steps m n).length : Int) + 1 := IntWalk.i64_in _ (by omega)
    have H79 := Lib.hid h79
    clear hm h79
    go_enter Tryd.func56, Tryd.ntmps56
    go_wp2_with fail
    refine h82.mono ?_
    rintro e w2 ⟨rfl, rfl⟩
    go_wp2_with fail
    refine H79.out.mono ?_
    rintro e w3 ⟨⟨v3, rfl, ho3⟩, hb3⟩
    obtain ⟨A3, c3, rfl, -, -⟩ := id (ho3.read (by unfold maxLen; omega))
    clear ho3
    go_wp2
    go_ret
    exact ⟨rfl, hb3⟩
set_option maxRecDepth 100000 in
set_option maxHeartbeats 1000000 in
theorem rStepsN_aux : ∀ (f m n : Nat), n ≤ f → 1 ≤ m → m ≤ n → n ≤ 1099511627776 → ∀ w, Calls Tryd.prog 57 #[.int .u64 (m : Int), .int .u64 (n : Int)] w fun e w' => e = .returned (.int .i64 (((steps m n).length + 1 : Nat) : Int)) ∧ w' = w := by
  refine steps_ind ?_ ?_ ?_
  · intro n hn hb w
    have h85 := rmay_any n n w
    rw [show mayB n n = true by unfold mayB; simp [hn, hb]] at h85
    rw [steps_end (Nat.le_refl _)]
    go_enter Tryd.func57, Tryd.ntmps57
    go_wp2_with fail
    refine h85.mono ?_
    rintro e w2 ⟨rfl, rfl⟩
    go_wp2
    go_ret
    exact ⟨rfl, rfl⟩
  · intro m n h1 hm hk ih hb w
    have a := split_lt (n := n) (by omega)
    have b := split_pos (n := n) (by omega)
    have h85 := rmay_any m n w
    rw [show mayB m n = true by unfold mayB; simp [h1, hb]; omega] at h85
    have hs := steps_short 40 m (split n) (by omega) h1
    have h39 := rsplit_all n (by omega) w
    have ih2 := ih (by omega) w
    rw [steps_first h1 hm hk, List.length_cons]
    obtain ⟨k, hke⟩ : ∃ k, split n = k := ⟨_, rfl⟩
    obtain ⟨l, hle⟩ : ∃ l, (steps m (split n)).length = l := ⟨_, rfl⟩
    rw [hle] at hs ih2 ⊢
    rw [hke] at hk a b h39 ih2
    have hne : ((m : Int) == (n : Int)) = false := by rw [beq_eq_false_iff_ne]; omega
    have l2 : ((m : Int) ≤ (k : Int)) = True := eq_true (by omega)
    have e1 : IntKind.i64.wrap (((l + 1 : Nat) : Int) + 1) = ((l + 1 + 1 : Nat) : Int) := by rw [show ((l + 1 : Nat) : Int) + 1 = ((l + 1 + 1 : Nat) : Int) by omega]; exact IntWalk.i64_in _ (by omega)
    generalize l + 1 + 1 = r at *
    generalize l + 1 = q at *
    have H39 := Lib.hid h39; have IH2 := Lib.hid ih2
    clear ih ih2 h39 hke hle hs
    go_enter Tryd.func57, Tryd.ntmps57
    go_wp2_with fail
    refine h85.mono ?_
    rintro e w2 ⟨rfl, rfl⟩
    go_wp2_with fail
    refine H39.out.mono ?_
    rintro e w2 ⟨rfl, rfl⟩
    go_wp2_with fail
    refine IH2.out.mono ?_
    rintro e w2 ⟨rfl, rfl⟩
    go_wp2
    go_ret
    exact ⟨rfl, rfl⟩
  · intro m n hm hk ih hb w
    have a := split_lt (n := n) (by omega)
    have b := split_pos (n := n) (by omega)
    have h85 := rmay_any m n w
    rw [show mayB m n = true by unfold mayB; simp [hb]; omega] at h85
    have hs := steps_short 40 (m - split n) (n - split n) (by omega) (by omega)
    have h39 := rsplit_all n (by omega) w
    have ih2 := ih (by omega) w
    rw [steps_rest hm hk, List.length_cons]
    obtain ⟨k, hke⟩ : ∃ k, split n = k := ⟨_, rfl⟩
    obtain ⟨l, hle⟩ : ∃ l, (steps (m - split n) (n - split n)).length = l := ⟨_, rfl⟩
    rw [hle] at hs ih2 ⊢
    rw [hke] at hk a b h39 ih2
    obtain ⟨dm, hdm⟩ : ∃ dm, m - k = dm := ⟨_, rfl⟩
    obtain ⟨dn, hdn⟩ : ∃ dn, n - k = dn := ⟨_, rfl⟩
    rw [hdm, hdn] at ih2
    have q1 : IntKind.u64.wrap ((m : Int) - (k : Int)) = (dm : Int) := by rw [show (m : Int) - (k : Int) = (dm : Int) by omega]; show (dm : Int) % 18446744073709551616 = _; omega
    have q2 : IntKind.u64.wrap ((n : Int) - (k : Int)) = (dn : Int) := by rw [show (n : Int) - (k : Int) = (dn : Int) by omega]; show (dn : Int) % 18446744073709551616 = _; omega
    have hne : ((m : Int) == (n : Int)) = false := by rw [beq_eq_false_iff_ne]; omega
    have l2 : ((m : Int) ≤ (k : Int)) = False := eq_false (by omega)
    have e1 : IntKind.i64.wrap (((l + 1 : Nat) : Int) + 1) = ((l + 1 + 1 : Nat) : Int) := by rw [show ((l + 1 : Nat) : Int) + 1 = ((l + 1 + 1 : Nat) : Int) by omega]; exact IntWalk.i64_in _ (by omega)
    generalize l + 1 + 1 = r at *
    generalize l + 1 = q at *
    have H39 := Lib.hid h39; have IH2 := Lib.hid ih2
    clear ih ih2 h39 hke hle hs hdm hdn
    go_enter Tryd.func57, Tryd.ntmps57
    go_wp2_with fail
    refine h85.mono ?_
    rintro e w2 ⟨rfl, rfl⟩
    go_wp2_with fail
    refine H39.out.mono ?_
    rintro e w2 ⟨rfl, rfl⟩
    go_wp2_with fail
    refine IH2.out.mono ?_
    rintro e w2 ⟨rfl, rfl⟩
    go_wp2
    go_ret
    exact ⟨rfl, rfl⟩
set_option maxRecDepth 100000 in
theorem rStepsN_any (m n : Nat) (w : World) : Calls Tryd.prog 57 #[.int .u64 (m : Int), .int .u64 (n : Int)] w fun e w' => e = .returned (.int .i64 (stepsN m n : Int)) ∧ w' = w := by
  unfold stepsN
  cases hm : mayB m n with
  | false =>
    have h85 := rmay_any m n w
    rw [hm] at h85
    clear hm
    go_enter Tryd.func57, Tryd.ntmps57
    go_wp2_with fail
    refine h85.mono ?_
    rintro e w2 ⟨rfl, rfl⟩
    go_wp2
    go_ret
    exact ⟨rfl, rfl⟩
  | true =>
    obtain ⟨h1, h2, h3⟩ := may_yes hm
    exact rStepsN_aux n m n (Nat.le_refl _) h1 h2 h3 w
set_option maxRecDepth 100000 in
set_option maxHeartbeats 1000000 in
theorem rlong_aux : ∀ (f i n : Nat), n ≤ f → i < n → n ≤ 1099511627776 → ∀ w, Calls Tryd.prog 91 #[.int .u64 (i : Int), .int .u64 (n : Int)] w fun e w' => e = .returned (.int .i64 ((sides i n).length : Int)) ∧ w' = w := by
  refine sides_ind ?_ ?_ ?_
  · intro hb w
    rw [sides_end (Nat.le_refl _)]
    go_enter Tryd.func91, Tryd.ntmps91
    go_wp2
    go_ret
    exact ⟨rfl, rfl⟩
  · intro i n h1 hk ih hb w
    have a := split_lt (n := n) (by omega)
    have b := split_pos (n := n) (by omega)
    have hs := sides_short 40 i (split n) (by omega)
    have h39 := rsplit_all n (by omega) w
    have ih2 := ih (by omega) w
    rw [sides_first h1 hk, List.length_cons]
    obtain ⟨k, hke⟩ : ∃ k, split n = k := ⟨_, rfl⟩
    obtain ⟨l, hle⟩ : ∃ l, (sides i (split n)).length = l := ⟨_, rfl⟩
    rw [hle] at hs ih2 ⊢
    rw [hke] at hk a b h39 ih2
    have hne : ((n : Int) == 1) = false := by rw [beq_eq_false_iff_ne]; omega
    have l2 : ((i : Int) < (k : Int)) = True := eq_true (by omega)
    have e1 : IntKind.i64.wrap ((l : Int) + 1) = ((l + 1 : Nat) : Int) := by rw [show (l : Int) + 1 = ((l + 1 : Nat) : Int) by omega]; exact IntWalk.i64_in _ (by omega)
    generalize l + 1 = r at *
    have H39 := Lib.hid h39; have IH2 := Lib.hid ih2
    clear ih ih2 h39 hke hle hs
    go_enter Tryd.func91, Tryd.ntmps91
    go_wp2_with fail
    refine H39.out.mono ?_
    rintro e w2 ⟨rfl, rfl⟩
    go_wp2_with fail
    refine IH2.out.mono ?_
    rintro e w2 ⟨rfl, rfl⟩
    go_wp2
    go_ret
    exact ⟨rfl, rfl⟩
  · intro i n h1 hi hk ih hb w
    have a := split_lt (n := n) (by omega)
    have b := split_pos (n := n) (by omega)
    have hs := sides_short 40 (i - split n) (n - split n) (by omega)
    have h39 := rsplit_all n (by omega) w
    have ih2 := ih (by omega) w
    rw [sides_rest h1 hk, List.length_cons]
    obtain ⟨k, hke⟩ : ∃ k, split n = k := ⟨_, rfl⟩
    obtain ⟨l, hle⟩ : ∃ l, (sides (i - split n) (n - split n)).length = l := ⟨_, rfl⟩
    rw [hle] at hs ih2 ⊢
    rw [hke] at hk a b h39 ih2
    obtain ⟨dm, hdm⟩ : ∃ dm, i - k = dm := ⟨_, rfl⟩
    obtain ⟨dn, hdn⟩ : ∃ dn, n - k = dn := ⟨_, rfl⟩
    rw [hdm, hdn] at ih2
    have q1 : IntKind.u64.wrap ((i : Int) - (k : Int)) = (dm : Int) := by rw [show (i : Int) - (k : Int) = (dm : Int) by omega]; show (dm : Int) % 18446744073709551616 = _; omega
    have q2 : IntKind.u64.wrap ((n : Int) - (k : Int)) = (dn : Int) := by rw [show (n : Int) - (k : Int) = (dn : Int) by omega]; show (dn : Int) % 18446744073709551616 = _; omega
    have hne : ((n : Int) == 1) = false := by rw [beq_eq_false_iff_ne]; omega
    have l2 : ((i : Int) < (k : Int)) = False := eq_false (by omega)
    have e1 : IntKind.i64.wrap ((l : Int) + 1) = ((l + 1 : Nat) : Int) := by rw [show (l : Int) + 1 = ((l + 1 : Nat) : Int) by omega]; exact IntWalk.i64_in _ (by omega)
    generalize l + 1 = r at *
    have H39 := Lib.hid h39; have IH2 := Lib.hid ih2
    clear ih ih2 h39 hke hle hs hdm hdn
    go_enter Tryd.func91, Tryd.ntmps91
    go_wp2_with fail
    refine H39.out.mono ?_
    rintro e w2 ⟨rfl, rfl⟩
    go_wp2_with fail
    refine IH2.out.mono ?_
    rintro e w2 ⟨rfl, rfl⟩
    go_wp2
    go_ret
    exact ⟨rfl, rfl⟩
set_option maxRecDepth 100000 in
theorem text_any (a b : ByteArray) (ha : a.size ≤ 1000000) (hb : b.size ≤ 1000000) (w : World) : Calls Tryd.prog 93 #[.agg #[.string a, .string b]] w fun e w' => e = .returned (.string (text a b)) ∧ Below w.heap.size w w' := by
  have hB : Blk (w.alloc (.cells #[.string a, .string b] 106)) w.heap.size 106 #[.string a, .string b] := Blk.new _ _ _
  have c0 := hB.cell 0; have c1 := hB.cell 1
  simp only [List.getElem?_toArray, List.getElem?_cons_succ, List.getElem?_cons_zero] at c0 c1
  have hw := alloc_below' w (.cells #[.string a, .string b] 106)
  have q1 : ¬ 9223372036854775807 < 1 + a.size := by omega
  have q2 : ¬ 9223372036854775807 < 1 + a.size + b.size := by omega
  clear hB ha hb
  go_enter Tryd.func93, Tryd.ntmps93
  go_wp2
  go_ret
  exact ⟨rfl, hw⟩
theorem hashes_any {w : World} {v : Value} {L : List ByteArray} (h : SRead w v L) :
    Calls Tryd.prog 51 #[v] w fun e w' => (∃ v', e = .returned v' ∧ SOwn w.heap.size w' v' (cutL L 50)) ∧ Below w.heap.size w w' := by
  have h' := h
  obtain ⟨A, cap, rfl, hm, hc⟩ := h
  clear hm hc
  go_enter Tryd.func51, Tryd.ntmps51
  go_wp2_with fail
  refine (cut_any h' 50 (by decide)).mono ?_
  rintro e w2 ⟨⟨v2, rfl, ho⟩, hb⟩
  have H := Lib.hid (And.intro ho hb)
  clear ho hb h'
  go_wp2
  go_ret
  exact ⟨⟨_, rfl, H.out.1⟩, H.out.2⟩
end Go.Proofs.YtkdajlhmodmkoaaDoor

/-
  Layer 9 (proof): slices.Backward over steps: what the iterator hands to a loop's body.
-/
namespace Go.Proofs.YtkdajlhmodmkoaaDoor
open Go.RowKit Go.Shelf TreeM
set_option linter.unusedVariables false
set_option linter.unusedSimpArgs false
attribute [local go_sem] Oper.semAt_some

/-- A place and a step. -/
abbrev NSt := Nat × (Bool × Nat)
abbrev BackP (p : NSt → Prop) := { x : NSt // p x }
def backP {p : NSt → Prop} (L : List (Bool × Nat)) (hp : ∀ q (h : q < L.length), p (q, L[q])) (d : BackP p) (k : Nat) : BackP p :=
  if h : L.length - 1 - k < L.length then ⟨(L.length - 1 - k, L[L.length - 1 - k]), hp _ h⟩ else d
theorem backP_at {p : NSt → Prop} (L : List (Bool × Nat)) (hp : ∀ q (h : q < L.length), p (q, L[q])) (d : BackP p) (q : Nat) (h : q < L.length) : backP L hp d (L.length - (q + 1)) = ⟨(q, L[q]), hp q h⟩ := by
  have e : L.length - 1 - (L.length - (q + 1)) = q := by omega
  unfold backP
  simp only [e]
  rw [dif_pos h]
theorem upto_backP {p : NSt → Prop} (L : List (Bool × Nat)) (hp : ∀ q (h : q < L.length), p (q, L[q])) (d : BackP p) (q : Nat) (h : q < L.length) : upto (backP L hp d) (L.length - q) = upto (backP L hp d) (L.length - (q + 1)) ++ [⟨(q, L[q]), hp q h⟩] := by
  rw [show L.length - q = (L.length - (q + 1)) + 1 by omega, upto_succ, backP_at L hp d q h]
/-- A slice's cells, in a block below n₀. -/
def Cells94 (n₀ g1 g2 : Nat) (W : World) (A : Option Addr) (L : List (Bool × Nat)) : Prop := ∀ i (h : i < L.length), ∃ b o, A = some ⟨b, o, none⟩ ∧ (b < n₀ ∧ b ≠ g1 ∧ b ≠ g2) ∧ W.cell? ⟨b, o + i * 2, none⟩ = some (.bool L[i].1) ∧ W.cell? ⟨b, o + i * 2 + 1, none⟩ = some (.int .u64 (L[i].2 : Int))
/-- What lay below n₀ is kept, but for two blocks. -/
def KX (n₀ g1 g2 : Nat) (W W' : World) : Prop := ∀ k, k < n₀ → k ≠ g1 → k ≠ g2 → W'.heap[k]? = W.heap[k]?
theorem KX.refl (n₀ g1 g2 : Nat) (W : World) : KX n₀ g1 g2 W W := fun _ _ _ _ => rfl
theorem KX.trans {n₀ g1 g2 : Nat} {A B C : World} (h : KX n₀ g1 g2 A B) (k : KX n₀ g1 g2 B C) : KX n₀ g1 g2 A C := fun i h1 h2 h3 => (k i h1 h2 h3).trans (h i h1 h2 h3)
theorem KX.of_below {n₀ g1 g2 m : Nat} {W W' : World} (h : Below m W W') (hm : n₀ ≤ m) : KX n₀ g1 g2 W W' := fun i h1 _ _ => h.block i (Nat.lt_of_lt_of_le h1 hm)
theorem KX.set1 {n₀ g1 g2 : Nat} (W : World) (v : Value) : KX n₀ g1 g2 W (W.setCell ⟨g1, 0, none⟩ v) := fun i _ h2 _ => Below.heap_setCell W ⟨g1, 0, none⟩ v i h2
theorem KX.set2 {n₀ g1 g2 : Nat} (W : World) (v : Value) : KX n₀ g1 g2 W (W.setCell ⟨g2, 0, none⟩ v) := fun i _ _ h3 => Below.heap_setCell W ⟨g2, 0, none⟩ v i h3
theorem KX.cell {n₀ g1 g2 : Nat} {W W' : World} (h : KX n₀ g1 g2 W W') {b o : Nat} (h1 : b < n₀) (h2 : b ≠ g1) (h3 : b ≠ g2) : W'.cell? ⟨b, o, none⟩ = W.cell? ⟨b, o, none⟩ := World.cell?_congr (h b h1 h2 h3)
theorem KX.put {n₀ g1 g2 : Nat} (W : World) (l : Nat) (o' : Obj) (hl : n₀ ≤ l) : KX n₀ g1 g2 W (W.putObj l o') := fun i h1 _ _ => World.putObj_heap_other (by omega)
theorem Cells94.kept {n₀ g1 g2 : Nat} {W W' : World} {A : Option Addr} {L : List (Bool × Nat)} (h : Cells94 n₀ g1 g2 W A L) (hb : KX n₀ g1 g2 W W') : Cells94 n₀ g1 g2 W' A L := fun i hi => by
  obtain ⟨b, o, h1, h2, h3, h4⟩ := h i hi
  exact ⟨b, o, h1, h2, (hb.cell h2.1 h2.2.1 h2.2.2).trans h3, (hb.cell h2.1 h2.2.1 h2.2.2).trans h4⟩
set_option maxRecDepth 100000 in
set_option maxHeartbeats 2000000 in
theorem backP1_in {p : NSt → Prop} (F : Fence) (n : Nat) (h8 : F.fn 102) (hro : F.round = none) (hn : 1 ≤ n) (l Bs n₀ g1 g2 cap : Nat) (hB1 : Bs < n₀) (hB2 : Bs ≠ g1) (hB3 : Bs ≠ g2) (A : Option Addr) (L : List (Bool × Nat)) (hm : L.length ≤ maxLen) (hp : ∀ q (h : q < L.length), p (q, L[q])) (d : BackP p) (J Jx : List (BackP p) → World → Prop)
    (hY : ∀ pre x W, J pre W → pre.length < L.length → YieldAt F (n - 1) Tryd.prog l #[.int .i64 (x.1.1 : Int), .agg #[.bool x.1.2.1, .int .u64 (x.1.2.2 : Int)]] W fun e W' =>
      (e = .returned (.bool true) ∧ J (pre ++ [x]) W' ∧ KX n₀ g1 g2 W W') ∨ (e = .returned (.bool false) ∧ Jx (pre ++ [x]) W'))
    (W : World) (hBs : W.cell? ⟨Bs, 0, none⟩ = some (.slice A L.length cap)) (hc : Cells94 n₀ g1 g2 W A L) (h0 : J [] W) :
    CallsIn F n Tryd.prog 102 #[.func (.yield l) #[] #[], .pointer (some ⟨Bs, 0, none⟩)] W fun e W' => (∃ v, e = .returned v) ∧
      ((∃ ys, ys = upto (backP L hp d) L.length ∧ J ys W') ∨ (∃ pre, (∃ k, k ≤ L.length ∧ pre = upto (backP L hp d) k) ∧ Jx pre W')) := by
  have hlen : L.length ≤ 9223372036854775807 := hm
  refine callsIn_of_wp Tryd.func102 rfl h8 ?_ hro
  simp only [Tryd.ntmps102, List.size_toArray, List.length_cons, List.length_nil, Nat.reduceAdd, Nat.reduceSub, Array.replicate_succ, Array.replicate_zero, List.push_toArray, List.append_toArray, List.nil_append, List.cons_append]
  have e0 : IntKind.i64.wrap ((L.length : Int) - 1) = (L.length : Int) - 1 := IntWalk.i64_in _ (by omega)
  gi_wp2
  gi_loopw [3] (fun i wr => ∃ m : Nat, m ≤ L.length ∧ i = .int .i64 ((m : Int) - 1) ∧ J (upto (backP L hp d) (L.length - m)) wr ∧ KX n₀ g1 g2 W wr)
    (fun i _ => (intOf i + 1).toNat)
  case atStart => exact ⟨L.length, Nat.le_refl _, rfl, by rw [Nat.sub_self]; exact h0, KX.refl _ _ _ _⟩
  case round =>
    obtain ⟨m, hk, rfl, hJs, hnx⟩ := hrel
    have hbs := (hnx.cell (o := 0) hB1 hB2 hB3).trans hBs
    cases m with
    | zero =>
      gi_wp2
      go_end0
      exact ⟨⟨_, rfl⟩, .inl ⟨_, rfl, hJs⟩⟩
    | succ q =>
      have hq : ((q + 1 : Nat) : Int) - 1 = (q : Int) := by omega
      rw [hq]
      obtain ⟨b, o, rfl, hb, hx, hx2⟩ := hc q (by omega)
      have hcx : wr.cell? ⟨b, o + q * 2, none⟩ = some (.bool L[q].1) := (hnx.cell hb.1 hb.2.1 hb.2.2).trans hx
      have hcx2 : wr.cell? ⟨b, o + q * 2 + 1, none⟩ = some (.int .u64 (L[q].2 : Int)) := (hnx.cell hb.1 hb.2.1 hb.2.2).trans hx2
      have q0 : (0 : Int) ≤ (q : Int) := by omega
      have q1 : (q : Int) < (L.length : Int) := by omega
      obtain ⟨fn, tmps, assign, body, hy, hR⟩ := hY _ ⟨(q, L[q]), hp q (by omega)⟩ wr hJs (by rw [upto_length]; omega)
      dsimp only at hy
      gi_wp2
      refine hR.mono ?_
      rintro e W3 (⟨rfl, hJ3, hk3⟩ | ⟨rfl, hJx3⟩)
      · gi_wp2
        go_roundw
        case rel => exact ⟨q, by omega, by go_num, by rw [upto_backP L hp d q (by omega)]; exact hJ3, hnx.trans hk3⟩
        case measure => simp [intOf]
      · gi_wp2
        refine bodyPost_ret (results_none rfl _ _ _) rfl ?_
        exact ⟨⟨_, rfl⟩, .inr ⟨_, ⟨L.length - q, by omega, (upto_backP L hp d q (by omega)).symm⟩, hJx3⟩⟩
set_option maxHeartbeats 1000000 in
theorem backwardP_in (F : Fence) (n : Nat) (h6 : F.fn 84) (hro : F.round = none) (a : Option Addr) (len cap : Nat) (w : World) :
    CallsIn F n Tryd.prog 84 #[.slice a len cap] w fun e w' => e = .returned (.func (.func 102) #[] #[.pointer (some ⟨w.heap.size, 0, none⟩)]) ∧ w' = w.alloc (.cells #[.slice a len cap] 91) := by
  refine callsIn_of_wp Tryd.func84 rfl h6 ?_ hro
  simp only [Tryd.ntmps84, List.size_toArray, List.length_cons, List.length_nil, Nat.reduceAdd, Nat.reduceSub, Array.replicate_succ, Array.replicate_zero, List.push_toArray, List.append_toArray, List.nil_append, List.cons_append]
  gi_wp2
  go_ret
  exact ⟨rfl, rfl⟩
theorem backP_stops {p : NSt → Prop} (F : Fence) (n : Nat) (h8 : F.fn 102) (hro : F.round = none) (hn : 1 ≤ n) (Bs n₀ g1 g2 cap : Nat) (hB1 : Bs < n₀) (hB2 : Bs ≠ g1) (hB3 : Bs ≠ g2) (A : Option Addr) (L : List (Bool × Nat)) (hm : L.length ≤ maxLen) (hp : ∀ q (h : q < L.length), p (q, L[q])) (d : BackP p) (w : World) (hn₀ : n₀ ≤ w.heap.size)
    (hcB : w.cell? ⟨Bs, 0, none⟩ = some (.slice A L.length cap)) (hc : Cells94 n₀ g1 g2 w A L) :
    SeqStopsK F n Tryd.prog 102 #[.pointer (some ⟨Bs, 0, none⟩)] (fun x : BackP p => #[Value.int .i64 (x.1.1 : Int), Value.agg #[.bool x.1.2.1, .int .u64 (x.1.2.2 : Int)]]) (KX n₀ g1 g2) (fun ys => ys = upto (backP L hp d) L.length)
      (fun pre => ∃ k, k ≤ L.length ∧ pre = upto (backP L hp d) k) L.length w := fun l J Jx W hW _ _ hY h0 =>
  backP1_in F n h8 hro hn l Bs n₀ g1 g2 cap hB1 hB2 hB3 A L hm hp d J Jx hY W ((hW.cell (p := ⟨Bs, 0, none⟩) (Nat.lt_of_lt_of_le hB1 hn₀)).trans hcB) (hc.kept (KX.of_below hW hn₀)) h0

/-- What a round of Implied makes of the two roots. -/
def impStep (q : List ByteArray) (rs : ByteArray × ByteArray) (x : NSt) : ByteArray × ByteArray :=
  if x.2.1 = true then (rs.1, nodeB rs.2 (q.getD x.1 ⟨#[]⟩)) else (nodeB (q.getD x.1 ⟨#[]⟩) rs.1, nodeB (q.getD x.1 ⟨#[]⟩) rs.2)
def foldI {p : NSt → Prop} (q : List ByteArray) (rs : ByteArray × ByteArray) (pre : List (BackP p)) : ByteArray × ByteArray := pre.foldl (fun rs x => impStep q rs x.1) rs
theorem foldI_snoc {p : NSt → Prop} (q : List ByteArray) (rs : ByteArray × ByteArray) (pre : List (BackP p)) (x : BackP p) : foldI q rs (pre ++ [x]) = impStep q (foldI q rs pre) x.1 := by simp [foldI]
theorem impStep_wide (q : List ByteArray) (rs : ByteArray × ByteArray) (x : NSt) (h : rs.1.size = 32 ∧ rs.2.size = 32) : (impStep q rs x).1.size = 32 ∧ (impStep q rs x).2.size = 32 := by
  unfold impStep; split
  · exact ⟨h.1, nodeB_size _ _⟩
  · exact ⟨nodeB_size _ _, nodeB_size _ _⟩
theorem foldI_wide {p : NSt → Prop} (q : List ByteArray) : ∀ (pre : List (BackP p)) (rs : ByteArray × ByteArray), rs.1.size = 32 ∧ rs.2.size = 32 → (foldI q rs pre).1.size = 32 ∧ (foldI q rs pre).2.size = 32
  | [], rs, h => h
  | x :: pre, rs, h => foldI_wide q pre _ (impStep_wide q rs x.1 h)
theorem foldI_all {p : NSt → Prop} (L : List (Bool × Nat)) (hp : ∀ q (h : q < L.length), p (q, L[q])) (d : BackP p) (q : List ByteArray) (hq : q.length = L.length + 1) (h : ByteArray) (hh : q[L.length]? = some h) : foldI q (h, h) (upto (backP L hp d) L.length) = imp L q := by
  have : ∀ m, m ≤ L.length → foldI q (h, h) (upto (backP L hp d) (L.length - m)) = imp (L.drop m) (q.drop m) := by
    intro m
    generalize hk : L.length - m = k
    induction k generalizing m with
    | zero =>
      intro hm
      obtain rfl : m = L.length := by omega
      rw [List.drop_eq_nil_of_le (Nat.le_refl _)]
      have : hd (q.drop L.length) = h := by unfold hd; rw [List.headD_eq_head?_getD, List.head?_drop, hh]; rfl
      simp only [imp, this]; rfl
    | succ k ih =>
      intro hm
      have h1 := ih (m + 1) (by omega) (by omega)
      have hu := upto_backP L hp d m (by omega)
      rw [show L.length - m = k + 1 by omega, show L.length - (m + 1) = k by omega] at hu
      rw [hu, foldI_snoc, h1, List.drop_eq_getElem_cons (show m < L.length by omega)]
      have hg : q.getD m ⟨#[]⟩ = hd (q.drop m) := by unfold hd; rw [List.headD_eq_head?_getD, List.head?_drop, List.getD_eq_getElem?_getD]
      have ht : q.drop (m + 1) = (q.drop m).tail := by rw [List.tail_drop]
      show impStep q (imp (L.drop (m + 1)) (q.drop (m + 1))) (m, L[m]) = _
      clear hu h1 ih
      generalize L[m] = x
      obtain ⟨b, k'⟩ := x
      cases b
      · simp only [impStep, imp]; rw [hg, ht]; simp
      · simp only [impStep, imp]; rw [hg, ht]; simp
  have h := this 0 (Nat.zero_le _)
  rwa [Nat.sub_zero, List.drop_zero, List.drop_zero] at h
end Go.Proofs.YtkdajlhmodmkoaaDoor

/-
  Layer 9 (proof): slices.Reverse walked, over strings and over steps.
-/
namespace Go.Proofs.YtkdajlhmodmkoaaDoor
open Go.RowKit TreeM
set_option linter.unusedVariables false
set_option linter.unusedSimpArgs false

/-- The first i, and those beyond j, have been turned round. -/
def Turned {α : Type} (L M : List α) (i : Nat) (j : Int) : Prop := M.length = L.length ∧ (i : Int) + j + 1 = (L.length : Int) ∧ ∀ q : Nat, q < L.length → M[q]? = if (q < i ∨ j < (q : Int)) then L[L.length - 1 - q]? else L[q]?
theorem Turned.start {α : Type} (L : List α) (j : Int) (h : j + 1 = (L.length : Int)) : Turned L L 0 j :=
  ⟨rfl, by omega, fun q hq => by rw [if_neg (by omega)]⟩
theorem Turned.step {α : Type} {L M : List α} {i j : Nat} (h : Turned L M i (j : Int)) (x y : α) (hij : i < j) (hj : j < L.length) (hx : M[i]? = some x) (hy : M[j]? = some y) : Turned L ((M.set i y).set j x) (i + 1) ((j : Int) - 1) := by
  obtain ⟨hl, hs, hq⟩ := h
  refine ⟨by simp [hl], by omega, fun q hql => ?_⟩
  have hxi := hq i (by omega)
  have hyj := hq j hj
  rw [if_neg (by omega), hx] at hxi
  rw [if_neg (by omega), hy] at hyj
  by_cases h1 : q = j
  · subst h1
    rw [List.getElem?_set_self (by simp; omega), if_pos (by omega), hxi]
    congr 1; omega
  · rw [List.getElem?_set_ne (fun e => h1 e.symm)]
    by_cases h2 : q = i
    · subst h2
      rw [List.getElem?_set_self (by omega), if_pos (by omega), hyj]
      congr 1; omega
    · rw [List.getElem?_set_ne (fun e => h2 e.symm), hq q hql]
      by_cases h3 : q < i ∨ (j : Int) < (q : Int)
      · rw [if_pos h3, if_pos (by omega)]
      · rw [if_neg h3, if_neg (by omega)]
theorem Turned.end_ {α : Type} {L M : List α} {i : Nat} {j : Int} (h : Turned L M i j) (hj : -1 ≤ j + 1) (hij : ¬ (i : Int) < j) : M = L.reverse := by
  obtain ⟨hl, hs, hq⟩ := h
  refine List.ext_getElem? (fun q => ?_)
  by_cases hql : q < L.length
  · rw [hq q hql, List.getElem?_reverse hql]
    by_cases h3 : q < i ∨ (j : Int) < (q : Int)
    · rw [if_pos h3]
    · rw [if_neg h3]
      congr 1; omega
  · rw [List.getElem?_eq_none (by omega), List.getElem?_eq_none (by simp; omega)]
theorem svals_set (M : List ByteArray) (i : Nat) (y : ByteArray) : svals (M.set i y) = (svals M).set i (.string y) := by simp [svals, List.map_set]
theorem set_take (cur : Array Value) (n i : Nat) (u : Value) (hi : i < n) : (cur.setIfInBounds i u).toList.take n = (cur.toList.take n).set i u := by
  rw [Array.toList_setIfInBounds, List.take_set]
theorem crevS_facts {base g n cap : Nat} {wr : World} {L M : List ByteArray} (hown : SOwn base wr (.slice (some ⟨g, 0, none⟩) n cap) M) (hLn : L.length = n) (hML : M.length = L.length) (i j : Nat) (x y : ByteArray) (hx : M[i]? = some x) (hy : M[j]? = some y) (hij : i < j) (hi : i < n) (hj : j < n) :
    (wr.cell? ⟨g, i, none⟩ = some (.string x)) ∧ (wr.cell? ⟨g, j, none⟩ = some (.string y)) ∧ (wr.frozen? ⟨g, i, none⟩ = false) ∧ (wr.frozen? ⟨g, j, none⟩ = false) ∧
    ((wr.setCell ⟨g, i, none⟩ (.string y)).cell? ⟨g, j, none⟩ = some (.string y)) ∧ ((wr.setCell ⟨g, i, none⟩ (.string y)).frozen? ⟨g, j, none⟩ = false) ∧
    SOwn base ((wr.setCell ⟨g, i, none⟩ (.string y)).setCell ⟨g, j, none⟩ (.string x)) (.slice (some ⟨g, 0, none⟩) n cap) ((M.set i y).set j x) := by
  rcases hown.2 with ⟨hv, h0⟩ | ⟨g', cap', cur, hv, hg, hh, hn, hmx, hcs, htk⟩
  · cases hv
  · injection hv with a1 a2 a3
    injection a1 with a1; injection a1 with a1 _ _
    subst a1 a3
    have hB : Blk wr g 9 cur := hh
    rw [Nat.mul_one] at htk hcs
    have cell : ∀ q z, q < n → M[q]? = some z → cur[q]? = some (.string z) := fun q z hq hz => by
      have h1 : (cur.toList.take M.length)[q]? = some (.string z) := by rw [htk]; simp [svals, hz]
      rw [List.getElem?_take_of_lt (by omega)] at h1
      simpa using h1
    have hci := cell i x hi hx
    have hcj := cell j y hj hy
    have hB1 := hB.set_ i (.string y)
    have hB2 := hB1.set_ j (.string x)
    refine ⟨(hB.cell _).trans hci, (hB.cell _).trans hcj, hB.frozen _, hB.frozen _, ?_, hB1.frozen _, ?_⟩
    · rw [hB1.cell, Array.getElem?_setIfInBounds_ne (by omega)]; exact hcj
    · refine ⟨by rw [svals_length, Nat.mul_one], .inr ⟨g, cap, _, by rw [show ((M.set i y).set j x).length = n by simp; omega], hg, hB2, by simp; omega, hmx, by rw [Array.size_setIfInBounds, Array.size_setIfInBounds, Nat.mul_one]; exact hcs, ?_⟩⟩
      rw [Nat.mul_one, show ((M.set i y).set j x).length = M.length by simp, set_take _ _ _ _ (by omega), set_take _ _ _ _ (by omega), htk, svals_set, svals_set]
theorem stvals_set : ∀ (M : List (Bool × Nat)) (i : Nat) (y : Bool × Nat), i < M.length → stvals (M.set i y) = ((stvals M).set (i * 2) (.bool y.1)).set (i * 2 + 1) (.int .u64 (y.2 : Int))
  | s :: M, 0, y, _ => rfl
  | s :: M, i + 1, y, h => by
    have := stvals_set M i y (by simpa using h)
    have e : ∀ (t : Bool × Nat) (R : List (Bool × Nat)), stvals (t :: R) = .bool t.1 :: .int .u64 (t.2 : Int) :: stvals R := fun _ _ => rfl
    rw [List.set_cons_succ, e, e, this, show (i + 1) * 2 = i * 2 + 1 + 1 by omega]
    rfl
theorem crevT_facts {base g n cap : Nat} {wr : World} {L M : List (Bool × Nat)} (hown : StOwn base wr (.slice (some ⟨g, 0, none⟩) n cap) M) (hLn : L.length = n) (hML : M.length = L.length) (i j : Nat) (x y : Bool × Nat) (hx : M[i]? = some x) (hy : M[j]? = some y) (hij : i < j) (hi : i < n) (hj : j < n) :
    (wr.cell? ⟨g, i * 2, none⟩ = some (.bool x.1) ∧ wr.cell? ⟨g, i * 2 + 1, none⟩ = some (.int .u64 (x.2 : Int))) ∧ (wr.cell? ⟨g, j * 2, none⟩ = some (.bool y.1) ∧ wr.cell? ⟨g, j * 2 + 1, none⟩ = some (.int .u64 (y.2 : Int))) ∧
    (wr.frozen? ⟨g, i * 2, none⟩ = false ∧ wr.frozen? ⟨g, i * 2 + 1, none⟩ = false) ∧ (wr.frozen? ⟨g, j * 2, none⟩ = false ∧ wr.frozen? ⟨g, j * 2 + 1, none⟩ = false) ∧
    (((wr.setCell ⟨g, i * 2, none⟩ (.bool y.1)).setCell ⟨g, i * 2 + 1, none⟩ (.int .u64 (y.2 : Int))).cell? ⟨g, j * 2, none⟩ = some (.bool y.1) ∧ ((wr.setCell ⟨g, i * 2, none⟩ (.bool y.1)).setCell ⟨g, i * 2 + 1, none⟩ (.int .u64 (y.2 : Int))).cell? ⟨g, j * 2 + 1, none⟩ = some (.int .u64 (y.2 : Int))) ∧
    (((wr.setCell ⟨g, i * 2, none⟩ (.bool y.1)).setCell ⟨g, i * 2 + 1, none⟩ (.int .u64 (y.2 : Int))).frozen? ⟨g, j * 2, none⟩ = false ∧ ((wr.setCell ⟨g, i * 2, none⟩ (.bool y.1)).setCell ⟨g, i * 2 + 1, none⟩ (.int .u64 (y.2 : Int))).frozen? ⟨g, j * 2 + 1, none⟩ = false) ∧
    StOwn base ((((wr.setCell ⟨g, i * 2, none⟩ (.bool y.1)).setCell ⟨g, i * 2 + 1, none⟩ (.int .u64 (y.2 : Int))).setCell ⟨g, j * 2, none⟩ (.bool x.1)).setCell ⟨g, j * 2 + 1, none⟩ (.int .u64 (x.2 : Int))) (.slice (some ⟨g, 0, none⟩) n cap) ((M.set i y).set j x) := by
  rcases hown.2 with ⟨hv, h0⟩ | ⟨g', cap', cur, hv, hg, hh, hn, hmx, hcs, htk⟩
  · cases hv
  · injection hv with a1 a2 a3
    injection a1 with a1; injection a1 with a1 _ _
    subst a1 a3
    have hB : Blk wr g 94 cur := hh
    have cell : ∀ q z, q < n → M[q]? = some z → cur[q * 2]? = some (.bool z.1) ∧ cur[q * 2 + 1]? = some (.int .u64 (z.2 : Int)) := fun q z hq hz => by
      obtain ⟨hqM, hz2⟩ := List.getElem?_eq_some_iff.1 hz
      obtain ⟨e1, e2⟩ := stvals_get M q hqM
      rw [hz2, ← htk, List.getElem?_take_of_lt (by omega)] at e1 e2
      exact ⟨by simpa using e1, by simpa using e2⟩
    have hci := cell i x hi hx
    have hcj := cell j y hj hy
    have hB1 := (hB.set_ (i * 2) (.bool y.1)).set_ (i * 2 + 1) (.int .u64 (y.2 : Int))
    have hB2 := (hB1.set_ (j * 2) (.bool x.1)).set_ (j * 2 + 1) (.int .u64 (x.2 : Int))
    refine ⟨⟨(hB.cell _).trans hci.1, (hB.cell _).trans hci.2⟩, ⟨(hB.cell _).trans hcj.1, (hB.cell _).trans hcj.2⟩, ⟨hB.frozen _, hB.frozen _⟩, ⟨hB.frozen _, hB.frozen _⟩, ⟨?_, ?_⟩, ⟨hB1.frozen _, hB1.frozen _⟩, ?_⟩
    · rw [hB1.cell, Array.getElem?_setIfInBounds_ne (by omega), Array.getElem?_setIfInBounds_ne (by omega)]; exact hcj.1
    · rw [hB1.cell, Array.getElem?_setIfInBounds_ne (by omega), Array.getElem?_setIfInBounds_ne (by omega)]; exact hcj.2
    · refine ⟨by rw [stvals_length], .inr ⟨g, cap, _, by rw [show ((M.set i y).set j x).length = n by simp; omega], hg, hB2, by simp; omega, hmx, by simp only [Array.size_setIfInBounds]; exact hcs, ?_⟩⟩
      rw [show ((M.set i y).set j x).length = M.length by simp, set_take _ _ _ _ (by omega), set_take _ _ _ _ (by omega), set_take _ _ _ _ (by omega), set_take _ _ _ _ (by omega), htk, stvals_set _ _ _ (by simp; omega), stvals_set _ _ _ (by omega)]
set_option maxRecDepth 100000 in
set_option maxHeartbeats 4000000 in
theorem crevS {base : Nat} {w : World} {v : Value} {L : List ByteArray} (h : SOwn base w v L) (hm : L.length ≤ maxLen) :
    Calls Tryd.prog 80 #[v] w fun e w' => (∃ u, e = .returned u) ∧ SOwn base w' v L.reverse ∧ Below base w w' := by
  have hx0 : ∃ A cap, v = .slice A L.length cap ∧ (1 ≤ L.length → ∃ g, A = some ⟨g, 0, none⟩ ∧ base ≤ g) := by
    rcases h.2 with ⟨hv, h0⟩ | ⟨g, cap, cur, hv, hg, hh, hn, _⟩
    · exact ⟨none, 0, by rw [hv, h0], fun hl => absurd hl (by omega)⟩
    · exact ⟨some ⟨g, 0, none⟩, cap, hv, fun _ => ⟨g, rfl, hg⟩⟩
  obtain ⟨A, cap, rfl, hA⟩ := hx0
  have hl1 : L.length ≤ 9223372036854775807 := hm
  have HA := Lib.hid hA; have H0 := Lib.hid h
  obtain ⟨n, hn⟩ : ∃ n, L.length = n := ⟨_, rfl⟩
  rw [hn] at HA H0 hl1 ⊢
  have HN := Lib.hid hn
  have e1 : IntKind.i64.wrap ((n : Int) - 1) = (n : Int) - 1 := IntWalk.i64_in _ (by omega)
  clear h hm hA hn
  go_enter Tryd.func80, Tryd.ntmps80
  go_wp2
  go_loopw [2, 3] (fun iv jv wr => ∃ (i : Nat) (j : Int) (M : List ByteArray), iv = .int .i64 (i : Int) ∧ jv = .int .i64 j ∧ (i : Int) + j + 1 = (n : Int) ∧ -1 ≤ j ∧ Turned L M i j ∧ SOwn base wr (.slice A n cap) M ∧ Below base w wr) (fun iv jv _ => (intOf jv + 1 - intOf iv).toNat)
  case atStart => exact ⟨0, (n : Int) - 1, L, rfl, rfl, by omega, by omega, Turned.start L _ (by have := HN.out; omega), H0.out, Below.refl _ _⟩
  case round =>
    obtain ⟨i, jz, M, rfl, rfl, hsum, hjz, hturn, hown, hbel⟩ := hrel
    by_cases hlt : (i : Int) < jz
    · obtain ⟨j, rfl⟩ : ∃ j : Nat, jz = (j : Int) := ⟨jz.toNat, by omega⟩
      have hij : i < j := by omega
      have hML := hturn.1
      have hLn := HN.out
      obtain ⟨g, rfl, hgb⟩ := HA.out (by omega)
      obtain ⟨x, hx⟩ : ∃ x, M[i]? = some x := ⟨_, List.getElem?_eq_getElem (by omega)⟩
      obtain ⟨y, hy⟩ : ∃ y, M[j]? = some y := ⟨_, List.getElem?_eq_getElem (by omega)⟩
      have hstep := hturn.step x y hij (by omega) hx hy
      obtain ⟨hci, hcj, hfi, hfj, hW1, hfj1, hown2⟩ := crevS_facts hown hLn hML i j x y hx hy hij (by omega) (by omega)
      have hb2 : Below base w ((wr.setCell ⟨g, i, none⟩ (.string y)).setCell ⟨g, j, none⟩ (.string x)) := by
        have := hbel
        exact (this.setCell (p := ⟨g, i, none⟩) hgb _).setCell (p := ⟨g, j, none⟩) hgb _
      have HW1 := Lib.hid hW1; have Hn := Lib.hid (And.intro hstep (And.intro hown2 hb2))
      have q0 : (0 : Int) ≤ (i : Int) := by omega
      have q1 : (i : Int) < (n : Int) := by omega
      have q2 : (0 : Int) ≤ (j : Int) := by omega
      have q3 : (j : Int) < (n : Int) := by omega
      have e2 : IntKind.i64.wrap ((j : Int) - 1) = (j : Int) - 1 := IntWalk.i64_in _ (by omega)
      have hbk := hW1
      have cj1 := hW1; have ci := hci; have cj := hcj
      clear hstep hown2 hb2 hown hbel hturn hML hx hy hLn hW1 hbk
      go_wp2
      refine wp_region_T (n := 14) (S := (fun wq => wq.cell? ⟨g, j, none⟩ = some (.string y))) (by kernel_rfl) (by kernel_rfl) (by exact hcj) (fun hHeld => ?_)
      · -- the walk
        refine WalkT.take (i := 0) (oi := _) (v := ?vr1) rfl (by decide) (by kernel_rfl) (by kernel_rfl) (fun _ _ _ h => h) (Or.inl ⟨by kernel_rfl, ?hyr1⟩) (by assumption) ?rr1
        case hyr1 => (intro wq hSw; go_simp; try (with_reducible rfl))
        try simp only [Act.put, List.setIfInBounds_toArray, List.set_cons_zero, List.set_cons_succ]
        refine WalkT.take (i := 1) (oi := _) (v := ?vr2) rfl (by decide) (by kernel_rfl) (by kernel_rfl) (fun _ _ _ h => h) (Or.inl ⟨by kernel_rfl, ?hyr2⟩) (by assumption) ?rr2
        case hyr2 => (intro wq hSw; go_simp; try (with_reducible rfl))
        try simp only [Act.put, List.setIfInBounds_toArray, List.set_cons_zero, List.set_cons_succ]
        refine WalkT.take (i := 2) (oi := _) (v := ?vr3) rfl (by decide) (by kernel_rfl) (by kernel_rfl) (fun _ _ _ h => h) (Or.inl ⟨by kernel_rfl, ?hyr3⟩) (by assumption) ?rr3
        case hyr3 => (intro wq hSw; go_simp; try (with_reducible rfl))
        try simp only [Act.put, List.setIfInBounds_toArray, List.set_cons_zero, List.set_cons_succ]
        refine WalkT.take (i := 3) (oi := _) (v := ?vr4) rfl (by decide) (by kernel_rfl) (by kernel_rfl) (fun _ _ _ h => h) (Or.inl ⟨by kernel_rfl, ?hyr4⟩) (by assumption) ?rr4
        case hyr4 => (intro wq hSw; go_simp; try (with_reducible rfl))
        try simp only [Act.put, List.setIfInBounds_toArray, List.set_cons_zero, List.set_cons_succ]
        refine WalkT.take (i := 4) (oi := _) (v := ?vr5) rfl (by decide) (by kernel_rfl) (by kernel_rfl) (fun _ _ _ h => h) (Or.inl ⟨by kernel_rfl, ?hyr5⟩) (by assumption) ?rr5
        case hyr5 => (intro wq hSw; go_simp; try (with_reducible rfl))
        try simp only [Act.put, List.setIfInBounds_toArray, List.set_cons_zero, List.set_cons_succ]
        refine WalkT.take (i := 5) (oi := _) (v := ?vr6) rfl (by decide) (by kernel_rfl) (by kernel_rfl) (fun _ _ _ h => h) (Or.inl ⟨by kernel_rfl, ?hyr6⟩) (by assumption) ?rr6
        case hyr6 => (intro wq hSw; go_simp; try (with_reducible rfl))
        try simp only [Act.put, List.setIfInBounds_toArray, List.set_cons_zero, List.set_cons_succ]
        refine WalkT.take (i := 6) (oi := _) (v := ?vr7) rfl (by decide) (by kernel_rfl) (by kernel_rfl) (fun _ _ _ h => h) (Or.inl ⟨by kernel_rfl, ?hyr7⟩) (by assumption) ?rr7
        case hyr7 => (intro wq hSw; go_simp; try (with_reducible rfl))
        try simp only [Act.put, List.setIfInBounds_toArray, List.set_cons_zero, List.set_cons_succ]
        refine WalkT.take (i := 7) (oi := _) (v := ?vr8) rfl (by decide) (by kernel_rfl) (by kernel_rfl) (fun _ _ _ h => h) (Or.inl ⟨by kernel_rfl, ?hyr8⟩) (by assumption) ?rr8
        case hyr8 => (intro wq hSw; have q9 := hSw; go_simp; try (with_reducible rfl))
        try simp only [Act.put, List.setIfInBounds_toArray, List.set_cons_zero, List.set_cons_succ]
        refine WalkT.take (i := 8) (oi := _) (v := ?vr9) rfl (by decide) (by kernel_rfl) (by kernel_rfl) (fun _ _ _ h => h) (Or.inl ⟨by kernel_rfl, ?hyr9⟩) (by assumption) ?rr9
        case hyr9 => (intro wq hSw; go_simp; try (with_reducible rfl))
        try simp only [Act.put, List.setIfInBounds_toArray, List.set_cons_zero, List.set_cons_succ]
        refine WalkT.take (i := 9) (oi := _) (v := ?vr10) rfl (by decide) (by kernel_rfl) (by kernel_rfl) (fun _ _ _ h => h) (Or.inl ⟨by kernel_rfl, ?hyr10⟩) (by assumption) ?rr10
        case hyr10 => (intro wq hSw; go_simp; try (with_reducible rfl))
        try simp only [Act.put, List.setIfInBounds_toArray, List.set_cons_zero, List.set_cons_succ]
        refine WalkT.take (i := 10) (oi := _) (v := ?vr11) rfl (by decide) (by kernel_rfl) (by kernel_rfl) (fun _ _ _ h => h) (Or.inl ⟨by kernel_rfl, ?hyr11⟩) (by assumption) ?rr11
        case hyr11 => (intro wq hSw; go_simp; try (with_reducible rfl))
        try simp only [Act.put, List.setIfInBounds_toArray, List.set_cons_zero, List.set_cons_succ]
        refine WalkT.one (i := 11) (o := ?or12) (by kernel_rfl) (by decide) ?hor12 ?hkr12
        case hor12 => (simp only [List.getElem?_toArray, List.getElem?_cons_succ, List.getElem?_cons_zero]; exact rfl)
        intro K hK
        go_simp
        refine hK.out _ _ hHeld (fun hHeld => ?_)
        clear hK K
        try simp only [Act.put, List.setIfInBounds_toArray, List.set_cons_zero, List.set_cons_succ]
        refine WalkT.take (i := 12) (oi := _) (v := ?vr13) rfl (by decide) (by kernel_rfl) (by kernel_rfl) (fun _ _ _ h => h) (Or.inl ⟨by kernel_rfl, ?hyr13⟩) (by assumption) ?rr13
        case hyr13 => (intro wq hSw; go_simp; try (with_reducible rfl))
        try simp only [Act.put, List.setIfInBounds_toArray, List.set_cons_zero, List.set_cons_succ]
        refine WalkT.one (i := 13) (o := ?or14) (by kernel_rfl) (by decide) ?hor14 ?hkr14
        case hor14 => (simp only [List.getElem?_toArray, List.getElem?_cons_succ, List.getElem?_cons_zero]; exact rfl)
        intro K hK
        go_simp
        refine hK.out _ _ (by exact HW1.out) (fun hHeld => ?_)
        clear hK K
        try simp only [Act.put, List.setIfInBounds_toArray, List.set_cons_zero, List.set_cons_succ]
        refine WalkT.tail (by kernel_rfl) ?_
        clear hHeld
        simp only [List.drop_succ_cons, List.drop_zero]
        go_wp2
        go_roundw
        case rel => exact ⟨i + 1, (j : Int) - 1, (M.set i y).set j x, by go_num, rfl, by omega, by omega, Hn.out.1, Hn.out.2.1, Hn.out.2.2.drew⟩
        case measure => simp [intOf]; omega
    · have hend := hturn.end_ (by have := HN.out; omega) (by omega)
      have Hend : Hid (SOwn base wr (.slice A n cap) L.reverse ∧ Below base w wr) := Lib.hid ⟨by rw [← hend]; exact hown, hbel⟩
      clear hend hturn hown hbel
      go_wp2
      go_end0
      exact ⟨⟨_, rfl⟩, Hend.out.1, Hend.out.2⟩
set_option maxRecDepth 100000 in
set_option maxHeartbeats 4000000 in
theorem crevT {base : Nat} {w : World} {v : Value} {L : List (Bool × Nat)} (h : StOwn base w v L) (hm : L.length ≤ maxLen) :
    Calls Tryd.prog 90 #[v] w fun e w' => (∃ u, e = .returned u) ∧ StOwn base w' v L.reverse ∧ Below base w w' := by
  have hx0 : ∃ A cap, v = .slice A L.length cap ∧ (1 ≤ L.length → ∃ g, A = some ⟨g, 0, none⟩ ∧ base ≤ g) := by
    rcases h.2 with ⟨hv, h0⟩ | ⟨g, cap, cur, hv, hg, hh, hn, _⟩
    · exact ⟨none, 0, by rw [hv, h0], fun hl => absurd hl (by omega)⟩
    · exact ⟨some ⟨g, 0, none⟩, cap, hv, fun _ => ⟨g, rfl, hg⟩⟩
  obtain ⟨A, cap, rfl, hA⟩ := hx0
  have hl1 : L.length ≤ 9223372036854775807 := hm
  have HA := Lib.hid hA; have H0 := Lib.hid h
  obtain ⟨n, hn⟩ : ∃ n, L.length = n := ⟨_, rfl⟩
  rw [hn] at HA H0 hl1 ⊢
  have HN := Lib.hid hn
  have e1 : IntKind.i64.wrap ((n : Int) - 1) = (n : Int) - 1 := IntWalk.i64_in _ (by omega)
  clear h hm hA hn
  go_enter Tryd.func90, Tryd.ntmps90
  go_wp2
  go_loopw [2, 3] (fun iv jv wr => ∃ (i : Nat) (j : Int) (M : List (Bool × Nat)), iv = .int .i64 (i : Int) ∧ jv = .int .i64 j ∧ (i : Int) + j + 1 = (n : Int) ∧ -1 ≤ j ∧ Turned L M i j ∧ StOwn base wr (.slice A n cap) M ∧ Below base w wr) (fun iv jv _ => (intOf jv + 1 - intOf iv).toNat)
  case atStart => exact ⟨0, (n : Int) - 1, L, rfl, rfl, by omega, by omega, Turned.start L _ (by have := HN.out; omega), H0.out, Below.refl _ _⟩
  case round =>
    obtain ⟨i, jz, M, rfl, rfl, hsum, hjz, hturn, hown, hbel⟩ := hrel
    by_cases hlt : (i : Int) < jz
    · obtain ⟨j, rfl⟩ : ∃ j : Nat, jz = (j : Int) := ⟨jz.toNat, by omega⟩
      have hij : i < j := by omega
      have hML := hturn.1
      have hLn := HN.out
      obtain ⟨g, rfl, hgb⟩ := HA.out (by omega)
      obtain ⟨x, hx⟩ : ∃ x, M[i]? = some x := ⟨_, List.getElem?_eq_getElem (by omega)⟩
      obtain ⟨y, hy⟩ : ∃ y, M[j]? = some y := ⟨_, List.getElem?_eq_getElem (by omega)⟩
      have hstep := hturn.step x y hij (by omega) hx hy
      obtain ⟨hci, hcj, hfi, hfj, hW1, hfj1, hown2⟩ := crevT_facts hown hLn hML i j x y hx hy hij (by omega) (by omega)
      have hb2 : Below base w ((((wr.setCell ⟨g, i * 2, none⟩ (.bool y.1)).setCell ⟨g, i * 2 + 1, none⟩ (.int .u64 (y.2 : Int))).setCell ⟨g, j * 2, none⟩ (.bool x.1)).setCell ⟨g, j * 2 + 1, none⟩ (.int .u64 (x.2 : Int))) := by
        have := hbel
        exact (((this.setCell (p := ⟨g, i * 2, none⟩) hgb _).setCell (p := ⟨g, i * 2 + 1, none⟩) hgb _).setCell (p := ⟨g, j * 2, none⟩) hgb _).setCell (p := ⟨g, j * 2 + 1, none⟩) hgb _
      have HW1 := Lib.hid hW1; have Hn := Lib.hid (And.intro hstep (And.intro hown2 hb2))
      have q0 : (0 : Int) ≤ (i : Int) := by omega
      have q1 : (i : Int) < (n : Int) := by omega
      have q2 : (0 : Int) ≤ (j : Int) := by omega
      have q3 : (j : Int) < (n : Int) := by omega
      have e2 : IntKind.i64.wrap ((j : Int) - 1) = (j : Int) - 1 := IntWalk.i64_in _ (by omega)
      have hbk := hW1
      have cj1 := hW1.1; have ck1 := hW1.2; have ci := hci.1; have ci2 := hci.2; have fi := hfi.1; have fi2 := hfi.2; have fj := hfj.1; have fj2 := hfj.2; have fk := hfj1.1; have fk2 := hfj1.2
      clear hstep hown2 hb2 hown hbel hturn hML hx hy hLn hW1 hbk
      go_wp2
      refine wp_region_T (n := 14) (S := (fun wq => wq.cell? ⟨g, j * 2, none⟩ = some (.bool y.1) ∧ wq.cell? ⟨g, j * 2 + 1, none⟩ = some (.int .u64 (y.2 : Int)))) (by kernel_rfl) (by kernel_rfl) (by exact hcj) (fun hHeld => ?_)
      · -- the walk
        refine WalkT.take (i := 0) (oi := _) (v := ?vr1) rfl (by decide) (by kernel_rfl) (by kernel_rfl) (fun _ _ _ h => h) (Or.inl ⟨by kernel_rfl, ?hyr1⟩) (by assumption) ?rr1
        case hyr1 => (intro wq hSw; go_simp; try (with_reducible rfl))
        try simp only [Act.put, List.setIfInBounds_toArray, List.set_cons_zero, List.set_cons_succ]
        refine WalkT.take (i := 1) (oi := _) (v := ?vr2) rfl (by decide) (by kernel_rfl) (by kernel_rfl) (fun _ _ _ h => h) (Or.inl ⟨by kernel_rfl, ?hyr2⟩) (by assumption) ?rr2
        case hyr2 => (intro wq hSw; go_simp; try (with_reducible rfl))
        try simp only [Act.put, List.setIfInBounds_toArray, List.set_cons_zero, List.set_cons_succ]
        refine WalkT.take (i := 2) (oi := _) (v := ?vr3) rfl (by decide) (by kernel_rfl) (by kernel_rfl) (fun _ _ _ h => h) (Or.inl ⟨by kernel_rfl, ?hyr3⟩) (by assumption) ?rr3
        case hyr3 => (intro wq hSw; go_simp; try (with_reducible rfl))
        try simp only [Act.put, List.setIfInBounds_toArray, List.set_cons_zero, List.set_cons_succ]
        refine WalkT.take (i := 3) (oi := _) (v := ?vr4) rfl (by decide) (by kernel_rfl) (by kernel_rfl) (fun _ _ _ h => h) (Or.inl ⟨by kernel_rfl, ?hyr4⟩) (by assumption) ?rr4
        case hyr4 => (intro wq hSw; go_simp; try (with_reducible rfl))
        try simp only [Act.put, List.setIfInBounds_toArray, List.set_cons_zero, List.set_cons_succ]
        refine WalkT.take (i := 4) (oi := _) (v := ?vr5) rfl (by decide) (by kernel_rfl) (by kernel_rfl) (fun _ _ _ h => h) (Or.inl ⟨by kernel_rfl, ?hyr5⟩) (by assumption) ?rr5
        case hyr5 => (intro wq hSw; go_simp; try (with_reducible rfl))
        try simp only [Act.put, List.setIfInBounds_toArray, List.set_cons_zero, List.set_cons_succ]
        refine WalkT.take (i := 5) (oi := _) (v := ?vr6) rfl (by decide) (by kernel_rfl) (by kernel_rfl) (fun _ _ _ h => h) (Or.inl ⟨by kernel_rfl, ?hyr6⟩) (by assumption) ?rr6
        case hyr6 => (intro wq hSw; go_simp; try (with_reducible rfl))
        try simp only [Act.put, List.setIfInBounds_toArray, List.set_cons_zero, List.set_cons_succ]
        refine WalkT.take (i := 6) (oi := _) (v := ?vr7) rfl (by decide) (by kernel_rfl) (by kernel_rfl) (fun _ _ _ h => h) (Or.inl ⟨by kernel_rfl, ?hyr7⟩) (by assumption) ?rr7
        case hyr7 => (intro wq hSw; go_simp; try (with_reducible rfl))
        try simp only [Act.put, List.setIfInBounds_toArray, List.set_cons_zero, List.set_cons_succ]
        refine WalkT.take (i := 7) (oi := _) (v := ?vr8) rfl (by decide) (by kernel_rfl) (by kernel_rfl) (fun _ _ _ h => h) (Or.inl ⟨by kernel_rfl, ?hyr8⟩) (by assumption) ?rr8
        case hyr8 => (intro wq hSw; have q9 := hSw.1; have q8 := hSw.2; go_simp; try (with_reducible rfl))
        try simp only [Act.put, List.setIfInBounds_toArray, List.set_cons_zero, List.set_cons_succ]
        refine WalkT.take (i := 8) (oi := _) (v := ?vr9) rfl (by decide) (by kernel_rfl) (by kernel_rfl) (fun _ _ _ h => h) (Or.inl ⟨by kernel_rfl, ?hyr9⟩) (by assumption) ?rr9
        case hyr9 => (intro wq hSw; go_simp; try (with_reducible rfl))
        try simp only [Act.put, List.setIfInBounds_toArray, List.set_cons_zero, List.set_cons_succ]
        refine WalkT.take (i := 9) (oi := _) (v := ?vr10) rfl (by decide) (by kernel_rfl) (by kernel_rfl) (fun _ _ _ h => h) (Or.inl ⟨by kernel_rfl, ?hyr10⟩) (by assumption) ?rr10
        case hyr10 => (intro wq hSw; go_simp; try (with_reducible rfl))
        try simp only [Act.put, List.setIfInBounds_toArray, List.set_cons_zero, List.set_cons_succ]
        refine WalkT.take (i := 10) (oi := _) (v := ?vr11) rfl (by decide) (by kernel_rfl) (by kernel_rfl) (fun _ _ _ h => h) (Or.inl ⟨by kernel_rfl, ?hyr11⟩) (by assumption) ?rr11
        case hyr11 => (intro wq hSw; go_simp; try (with_reducible rfl))
        try simp only [Act.put, List.setIfInBounds_toArray, List.set_cons_zero, List.set_cons_succ]
        refine WalkT.one (i := 11) (o := ?or12) (by kernel_rfl) (by decide) ?hor12 ?hkr12
        case hor12 => (simp only [List.getElem?_toArray, List.getElem?_cons_succ, List.getElem?_cons_zero]; exact rfl)
        intro K hK
        go_simp
        refine hK.out _ _ hHeld (fun hHeld => ?_)
        clear hK K
        try simp only [Act.put, List.setIfInBounds_toArray, List.set_cons_zero, List.set_cons_succ]
        refine WalkT.take (i := 12) (oi := _) (v := ?vr13) rfl (by decide) (by kernel_rfl) (by kernel_rfl) (fun _ _ _ h => h) (Or.inl ⟨by kernel_rfl, ?hyr13⟩) (by assumption) ?rr13
        case hyr13 => (intro wq hSw; go_simp; try (with_reducible rfl))
        try simp only [Act.put, List.setIfInBounds_toArray, List.set_cons_zero, List.set_cons_succ]
        refine WalkT.one (i := 13) (o := ?or14) (by kernel_rfl) (by decide) ?hor14 ?hkr14
        case hor14 => (simp only [List.getElem?_toArray, List.getElem?_cons_succ, List.getElem?_cons_zero]; exact rfl)
        intro K hK
        go_simp
        refine hK.out _ _ (by exact HW1.out) (fun hHeld => ?_)
        clear hK K
        try simp only [Act.put, List.setIfInBounds_toArray, List.set_cons_zero, List.set_cons_succ]
        refine WalkT.tail (by kernel_rfl) ?_
        clear hHeld
        simp only [List.drop_succ_cons, List.drop_zero]
        go_wp2
        go_roundw
        case rel => exact ⟨i + 1, (j : Int) - 1, (M.set i y).set j x, by go_num, rfl, by omega, by omega, Hn.out.1, Hn.out.2.1, Hn.out.2.2.drew⟩
        case measure => simp [intOf]; omega
    · have hend := hturn.end_ (by have := HN.out; omega) (by omega)
      have Hend : Hid (StOwn base wr (.slice A n cap) L.reverse ∧ Below base w wr) := Lib.hid ⟨by rw [← hend]; exact hown, hbel⟩
      clear hend hturn hown hbel
      go_wp2
      go_end0
      exact ⟨⟨_, rfl⟩, Hend.out.1, Hend.out.2⟩
end Go.Proofs.YtkdajlhmodmkoaaDoor

/-
  Layer 9 (proof): sides, Bridge and Audit walked.
-/
namespace Go.Proofs.YtkdajlhmodmkoaaDoor
open Go.RowKit TreeM
set_option linter.unusedVariables false
set_option linter.unusedSimpArgs false

/-- What is left of the steps, at so many leaves. -/
def StepsFit (d : List (Bool × Nat)) (n : Nat) : Prop := ∃ m, 1 ≤ m ∧ m ≤ n ∧ d = steps m n
def SidesFit (d : List (Bool × Nat)) (n : Nat) : Prop := ∃ i, i < n ∧ d = sides i n
theorem StepsFit.cons {b : Bool} {k n : Nat} {d : List (Bool × Nat)} (h : StepsFit ((b, k) :: d) n) : 1 ≤ k ∧ k < n ∧ (b = true → StepsFit d k) ∧ (b = false → StepsFit d (n - k)) := by
  obtain ⟨m, h1, h2, he⟩ := h
  by_cases hm : m < n
  · have a := split_lt (n := n) (by omega)
    have c := split_pos (n := n) (by omega)
    by_cases hk : m ≤ split n
    · rw [steps_first h1 hm hk] at he
      injection he with e1 e2
      injection e1 with e3 e4
      subst e3 e4 e2
      exact ⟨c, a, fun _ => ⟨m, h1, hk, rfl⟩, (fun h => by cases h)⟩
    · rw [steps_rest hm (by omega)] at he
      injection he with e1 e2
      injection e1 with e3 e4
      subst e3 e4 e2
      exact ⟨c, a, (fun h => by cases h), fun _ => ⟨m - split n, by omega, by omega, rfl⟩⟩
  · rw [steps_end (by omega)] at he; cases he
theorem SidesFit.cons {b : Bool} {k n : Nat} {d : List (Bool × Nat)} (h : SidesFit ((b, k) :: d) n) : 1 ≤ k ∧ k < n ∧ (b = true → SidesFit d k) ∧ (b = false → SidesFit d (n - k)) := by
  obtain ⟨m, h2, he⟩ := h
  by_cases hm : 1 < n
  · have a := split_lt (n := n) (by omega)
    have c := split_pos (n := n) (by omega)
    by_cases hk : m < split n
    · rw [sides_first hm hk] at he
      injection he with e1 e2
      injection e1 with e3 e4
      subst e3 e4 e2
      exact ⟨c, a, fun _ => ⟨m, hk, rfl⟩, (fun h => by cases h)⟩
    · rw [sides_rest hm (by omega)] at he
      injection he with e1 e2
      injection e1 with e3 e4
      subst e3 e4 e2
      exact ⟨c, a, (fun h => by cases h), fun _ => ⟨m - split n, by omega, rfl⟩⟩
  · rw [sides_end (by omega)] at he; cases he
theorem StOwn.grown {base b2 : Nat} {w w' : World} {v u : Value} {ss : List (Bool × Nat)} {L : List ByteArray} (h : StOwn base w u ss) (ho : SOwn b2 w v L) (hg : w.grownBy w' v.ownBlock) : StOwn base w' u ss := by
  refine ⟨h.1, ?_⟩
  rcases h.2 with h2 | ⟨g, cap, cur, rfl, hgb, hh, r⟩
  · exact .inl h2
  · have hB : Blk w g 94 cur := hh
    exact .inr ⟨g, cap, cur, rfl, hgb, (hg.block g hB.lt (ho.ne hB (by decide))).trans hh, r⟩
set_option maxRecDepth 100000 in
set_option maxHeartbeats 4000000 in
theorem csides_any {w : World} (m0 n0 : Nat) (hmn0 : m0 < n0) (hn0 : n0 ≤ 1099511627776) :
    Calls Tryd.prog 88 #[.int .u64 (m0 : Int), .int .u64 (n0 : Int)] w fun e w' => (∃ v, e = .returned v ∧ StOwn w.heap.size w' v (sides m0 n0)) ∧ Below w.heap.size w w' := by
  obtain ⟨R, hR0⟩ : ∃ R, sides m0 n0 = R := ⟨_, rfl⟩
  rw [hR0]
  have hRl : R.length ≤ 64 := by rw [← hR0]; have := sides_short 40 m0 n0 (by omega); omega
  have HR0 := Lib.hid hR0; have HRl := Lib.hid hRl; clear hR0 hRl
  obtain ⟨i94, hj, hy0, hy1, hy2⟩ := info_parts winfo94
  go_enter Tryd.func88, Tryd.ntmps88
  go_wp2
  go_loopw [0, 1, 5, 6] (fun iv nv v _ wr => ∃ (i n : Nat) (out : List (Bool × Nat)), iv = .int .u64 (i : Int) ∧ nv = .int .u64 (n : Int) ∧ i < n ∧ n ≤ 1099511627776 ∧ out ++ sides i n = R ∧ StOwn w.heap.size wr v out ∧ Below w.heap.size w wr) (fun _ nv _ _ _ => (intOf nv).toNat)
  case atStart => exact ⟨m0, n0, [], rfl, rfl, hmn0, hn0, HR0.out, StOwn.nil _ _, Below.refl _ _⟩
  case round =>
    obtain ⟨i, n, out, rfl, rfl, hin, hnb, hR, hown, hbel⟩ := hrel
    have hol : out.length ≤ 64 := by have := HRl.out; rw [← hR, List.length_append] at this; omega
    have HR := Lib.hid hR; have Hown := Lib.hid hown; have Hbel := Lib.hid hbel
    obtain ⟨Av, cv, rfl, -, -⟩ := id (hown.read (by unfold maxLen; omega))
    clear hR hown hbel HR0 hmn0 hn0
    by_cases hlt : 1 < n
    · have l1 : ((1 : Int) < (n : Int)) = True := eq_true (by omega)
      have hk2 := split_lt (n := n) (by omega)
      have hk1 := split_pos (n := n) (by omega)
      have hsp := split_any n (by omega) wr
      obtain ⟨k, hke⟩ : ∃ k, split n = k := ⟨_, rfl⟩
      rw [hke] at hk1 hk2 hsp
      have Hsp := Lib.hid hsp; clear hsp
      by_cases hk : i < split n
      · rw [hke] at hk
        have Hre : Hid ((out ++ [(true, k)]) ++ sides i k = R) := Lib.hid (by rw [← HR.out, List.append_assoc, sides_first hlt (by rw [hke]; exact hk), hke]; rfl)
        have l2 : ((i : Int) < (k : Int)) = True := eq_true (by omega)
        have Hbig := Lib.hid (And.intro hk1 (And.intro hk2 hke)); clear hk1 hk2 hke
        have hnew := Blk.new wr 94 #[.bool true, .int .u64 (k : Int)]
        have hown1 := own_alloc' Hown.out (.cells #[.bool true, .int .u64 (k : Int)] 94)
        have hbel1 := Hbel.out.alloc Hbel.out.size (.cells #[.bool true, .int .u64 (k : Int)] 94)
        go_wp2_with fail
        refine Hsp.out.mono ?_
        rintro e _ ⟨rfl, rfl⟩
        go_wp2_with (at_builtin; refine wpList_append_el rfl _ _ 91 rfl w.heap.size 94 i94 _ 2 16 Tryd.underlying91 hj hy0 hy1 hy2 rfl (by decide) _ _ _ rfl hown1 _ rfl _ 94 (0, 0) hnew rfl (by intro v hv; simp at hv; rcases hv with rfl | rfl <;> rfl) (by unfold maxLen; omega) (by omega) hbel1.size ?_)
        intro g' cap' w4 hown4 hg4 hat4
        have hb4 : Below w.heap.size w w4 := hbel1.grown hg4 hbel1.size (fun i hi => (World.ownsRow.lt hown1 i hi).1)
        have ho4 : StOwn w.heap.size w4 (.slice (some ⟨g', 0, none⟩) (out.length + 1) cap') (out ++ [(true, k)]) := by unfold StOwn; rw [List.length_append, stvals_snoc]; exact hown4
        have H4 := Lib.hid (And.intro ho4 hb4)
        clear hb4 ho4 hown4 hg4 hat4 hown1 hbel1 hnew Hown Hbel
        go_wp2
        go_roundw
        case rel => exact ⟨i, k, out ++ [(true, k)], by trivial, by trivial, hk, by have := Hbig.out; omega, Hre.out, H4.out⟩
        case measure => simp [intOf]; have := Hbig.out; omega
      · rw [hke] at hk
        obtain ⟨di, hdm⟩ : ∃ dm, i - k = dm := ⟨_, rfl⟩
        obtain ⟨dn, hdn⟩ : ∃ dn, n - k = dn := ⟨_, rfl⟩
        have e1 : IntKind.u64.wrap ((i : Int) - (k : Int)) = (di : Int) := by rw [show (i : Int) - (k : Int) = (di : Int) by omega]; show (di : Int) % 18446744073709551616 = _; omega
        have e2 : IntKind.u64.wrap ((n : Int) - (k : Int)) = (dn : Int) := by rw [show (n : Int) - (k : Int) = (dn : Int) by omega]; show (dn : Int) % 18446744073709551616 = _; omega
        have Hre : Hid ((out ++ [(false, k)]) ++ sides di dn = R) := Lib.hid (by rw [← HR.out, List.append_assoc, sides_rest hlt (by omega), hke, hdm, hdn]; rfl)
        have l2 : ((i : Int) < (k : Int)) = False := eq_false (by omega)
        have Hbig := Lib.hid (And.intro hk1 (And.intro hk2 hke)); clear hk1 hk2 hke
        have hnew := Blk.new wr 94 #[.bool false, .int .u64 (k : Int)]
        have hown1 := own_alloc' Hown.out (.cells #[.bool false, .int .u64 (k : Int)] 94)
        have hbel1 := Hbel.out.alloc Hbel.out.size (.cells #[.bool false, .int .u64 (k : Int)] 94)
        go_wp2_with fail
        refine Hsp.out.mono ?_
        rintro e _ ⟨rfl, rfl⟩
        go_wp2_with (at_builtin; refine wpList_append_el rfl _ _ 91 rfl w.heap.size 94 i94 _ 2 16 Tryd.underlying91 hj hy0 hy1 hy2 rfl (by decide) _ _ _ rfl hown1 _ rfl _ 94 (0, 0) hnew rfl (by intro v hv; simp at hv; rcases hv with rfl | rfl <;> rfl) (by unfold maxLen; omega) (by omega) hbel1.size ?_)
        intro g' cap' w4 hown4 hg4 hat4
        have hb4 : Below w.heap.size w w4 := hbel1.grown hg4 hbel1.size (fun i hi => (World.ownsRow.lt hown1 i hi).1)
        have ho4 : StOwn w.heap.size w4 (.slice (some ⟨g', 0, none⟩) (out.length + 1) cap') (out ++ [(false, k)]) := by unfold StOwn; rw [List.length_append, stvals_snoc]; exact hown4
        have H4 := Lib.hid (And.intro ho4 hb4)
        clear hb4 ho4 hown4 hg4 hat4 hown1 hbel1 hnew Hown Hbel
        go_wp2
        go_roundw
        case rel => exact ⟨di, dn, out ++ [(false, k)], by trivial, by trivial, by omega, by omega, Hre.out, H4.out⟩
        case measure => simp [intOf]; have := Hbig.out; omega
    · have l1 : ((1 : Int) < (n : Int)) = False := eq_false (by omega)
      have hend : out = R := by rw [← HR.out, sides_end (by omega), List.append_nil]
      have Hend := Lib.hid hend; clear hend
      go_wp2
      go_ret
      exact ⟨⟨_, rfl, by rw [← Hend.out]; exact Hown.out⟩, Hbel.out⟩
end Go.Proofs.YtkdajlhmodmkoaaDoor

/-
  Layer 9 (proof): Bridge walked.
-/
namespace Go.Proofs.YtkdajlhmodmkoaaDoor
open Go.RowKit TreeM
set_option linter.unusedVariables false
set_option linter.unusedSimpArgs false

set_option maxRecDepth 100000 in
set_option maxHeartbeats 1000000 in
theorem cbridge_yes {w : World} (hT : Tab w) {v : Value} {L : List ByteArray} (h : SRead w v L) (hs : ∀ s ∈ L, s.size ≤ 80000000) (hl : L.length < 1000000) (m : Nat) (hm : 1 ≤ m ∧ m ≤ L.length) :
    Calls Tryd.prog 52 #[.int .i64 (m : Int), v] w fun e w' => (∃ u, e = .returned (.tuple #[u, .int .i64 0]) ∧ SOwn w.heap.size w' u (bridge m L)) ∧ Below w.heap.size w w' := by
  obtain ⟨ss, hss⟩ : ∃ ss, steps m L.length = ss := ⟨_, rfl⟩
  obtain ⟨R, hR0⟩ : ∃ R, bridgeD ss L = R := ⟨_, rfl⟩
  have hres : bridge m L = R.reverse := by unfold bridge; rw [hss, hR0]
  rw [hres]
  have hssl : ss.length ≤ 64 := by rw [← hss]; have := steps_short 40 m L.length (by omega) (by omega); omega
  have hfit0 : StepsFit ss L.length := ⟨m, hm.1, hm.2, hss.symm⟩
  have hcall := csteps_any (w := w) m L.length hm.1 hm.2 (by omega)
  rw [hss] at hcall
  have HT := Lib.hid hT; have H0 := Lib.hid (And.intro h (And.intro hs (And.intro hfit0 hR0))); have Hcall := Lib.hid hcall
  obtain ⟨A0, cap0, rfl, hmx, -⟩ := id h
  obtain ⟨i9, hj, hy0, hy1, hy2⟩ := info_parts winfo9
  obtain ⟨n0, hn0⟩ : ∃ n, L.length = n := ⟨_, rfl⟩
  rw [hn0] at hl hm H0 Hcall ⊢
  have Hn0 := Lib.hid hn0
  have e1 : IntKind.u64.wrap (m : Int) = (m : Int) := by show (m : Int) % 18446744073709551616 = _; omega
  have e2 : IntKind.u64.wrap (n0 : Int) = (n0 : Int) := by show (n0 : Int) % 18446744073709551616 = _; omega
  have l1 : ((m : Int) < 1) = False := eq_false (by omega)
  have l2 : ((n0 : Int) < (m : Int)) = False := eq_false (by omega)
  clear hT h hs hss hR0 hres hfit0 hcall hmx hn0
  go_enter Tryd.func52, Tryd.ntmps52
  go_wp2_with fail
  refine Hcall.out.mono ?_
  rintro e wa ⟨⟨sv, rfl, hsto⟩, hba⟩
  obtain ⟨As, cs, rfl, -, -⟩ := id (hsto.read (by unfold maxLen; omega))
  have H1 := Lib.hid (And.intro hsto hba)
  clear hsto hba Hcall
  obtain ⟨sn, hsn⟩ : ∃ n, ss.length = n := ⟨_, rfl⟩
  rw [hsn] at hssl H1 ⊢
  have Hsn := Lib.hid hsn; clear hsn
  go_wp2
  go_loopw [1, 6, 24] (fun lv v iv wr => ∃ (i : Nat) (out lc : List ByteArray) (Al : Option Addr) (cl : Nat), iv = .int .i64 (i : Int) ∧ lv = .slice Al lc.length cl ∧ out.length = i ∧ i ≤ sn ∧ SRead w (.slice Al lc.length cl) lc ∧ (∀ s ∈ lc, s.size ≤ 80000000) ∧ lc.length < 1000000 ∧ StepsFit (ss.drop i) lc.length ∧ out ++ bridgeD (ss.drop i) lc = R ∧ SOwn w.heap.size wr v out ∧ StOwn w.heap.size wr (.slice As sn cs) ss ∧ Below w.heap.size w wr) (fun _ _ iv _ => sn - (intOf iv).toNat)
  case atStart => exact ⟨0, [], L, A0, cap0, rfl, by rw [Hn0.out], rfl, Nat.zero_le _, by rw [Hn0.out]; exact H0.out.1, H0.out.2.1, by rw [Hn0.out]; exact hl, by rw [Hn0.out]; exact H0.out.2.2.1, H0.out.2.2.2, SOwn.nil _ _, H1.out.1, H1.out.2⟩
  case round =>
    obtain ⟨i, out, lc, Al, cl, rfl, rfl, hol, hisn, hlr, hsz, hlc, hfit, hR, hown, hst, hbel⟩ := hrel
    clear H0 H1
    by_cases hlt : i < sn
    · have l3 : (i : Int) < (sn : Int) := by omega
      have hlts : i < ss.length := by rw [Hsn.out]; exact hlt
      obtain ⟨b, k, hbk⟩ : ∃ b k, ss[i] = (b, k) := ⟨_, _, rfl⟩
      have hdrop : ss.drop i = (b, k) :: ss.drop (i + 1) := by rw [List.drop_eq_getElem_cons hlts, hbk]
      obtain ⟨hk1, hk2, hft, hff⟩ := StepsFit.cons (hdrop ▸ hfit)
      have hst' := hst.read (by have := Hsn.out; unfold maxLen; omega)
      obtain ⟨As', cs', hse, -, hsc⟩ := hst'
      injection hse with q1 q2 q3
      subst q1 q3
      obtain ⟨bs, os, rfl, -, cb, ck⟩ := hsc i hlts
      clear hsc q2
      rw [hbk] at cb ck
      dsimp only at cb ck
      have hlr' := hlr
      obtain ⟨Al', cl', hle, -, hlcell⟩ := hlr'
      injection hle with q1 _ q3
      subst q1 q3
      obtain ⟨bl, ol, rfl, ⟨-, hcapl⟩, -⟩ := hlcell 0 (by omega)
      clear hlcell
      have i0 : (0 : Int) ≤ (i : Int) := by omega
      obtain ⟨Nl, hNl⟩ : ∃ n, lc.length = n := ⟨_, rfl⟩
      obtain ⟨dn, hdn⟩ : ∃ n, Nl - k = n := ⟨_, rfl⟩
      have q0 : (0 : Int) ≤ (k : Int) := by omega
      have q1 : (k : Int) ≤ (lc.length : Int) := by omega
      have q2 : (k : Int) ≤ (cl : Int) := by omega
      have q3 : k ≤ lc.length := by omega
      have q4 : k ≤ cl := by omega
      have q5 : ¬ cl = k := by omega
      rw [hNl] at q1 q3 hk2 hlc hcapl ⊢
      skip
      have hNlk : Nl - k = dn := hdn
      cases b
      · have hFit2 : StepsFit (ss.drop (i + 1)) dn := by rw [← hdn, ← hNl]; exact hff rfl
        have Hfit2 := Lib.hid hFit2; clear hFit2
        have hD2 : (out ++ [root (lc.take k)]) ++ bridgeD (ss.drop (i + 1)) (lc.drop k) = R := by rw [← hR, hdrop, List.append_assoc]; rfl
        have HD2 := Lib.hid hD2; clear hD2
        have hroot : ∀ wq, Below w.heap.size w wq → Calls Tryd.prog 40 #[(.slice (some ⟨bl, ol, none⟩) k cl)] wq fun e w' => e = .returned (.string (root (lc.take k))) ∧ Below wq.heap.size wq w' := fun wq hq => root_any (HT.out.below hq) ((hlr.take k (by omega)).below hq rfl) (fun s hs => hsz s (List.mem_of_mem_take hs)) (by rw [List.length_take]; omega)
        have hsz2 : ∀ s ∈ lc.drop k, s.size ≤ 80000000 := fun s hs => hsz s (List.mem_of_mem_drop hs)
        have hlen2 : (lc.drop k).length = dn := by rw [List.length_drop]; omega
        have hl2 : SRead w (.slice (some ⟨bl, ol + k, none⟩) (lc.drop k).length (cl - k)) (lc.drop k) := by rw [hlen2, ← hdn, ← hNl]; exact hlr.drop k (by omega)
        have hlv : (Value.slice (some ⟨bl, ol + k, none⟩) dn (cl - k)) = .slice (some ⟨bl, ol + k, none⟩) (lc.drop k).length (cl - k) := by rw [hlen2]
        skip
        have Hroot := Lib.hid hroot; have Hl2 := Lib.hid (And.intro hl2 (And.intro hsz2 hlen2)); have Hlv := Lib.hid hlv; clear hroot hl2 hsz2 hlen2 hlv
        obtain ⟨r, hr⟩ : ∃ r, root (lc.take k) = r := ⟨_, rfl⟩
        rw [hr] at Hroot HD2; clear hr
        have hB1 := Blk.new wr 94 #[.bool false, .int .u64 (k : Int)]
        have hba := alloc_below' wr (.cells #[.bool false, .int .u64 (k : Int)] 94)
        have hown1 := SOwn.below hown hba
        have hst1 := StOwn.below hst hba
        have hbel1 := hbel.trans (hba.mono hbel.size)
        obtain ⟨g8, hg8⟩ : ∃ g, wr.heap.size = g := ⟨_, rfl⟩
        obtain ⟨w1, hw1⟩ : ∃ w1, wr.alloc (.cells #[.bool false, .int .u64 (k : Int)] 94) = w1 := ⟨_, rfl⟩
        rw [hw1] at hB1 hown1 hst1 hbel1; rw [hg8] at hB1
        have HB1 := Lib.hid hB1; have Hown1 := Lib.hid hown1; have Hst1 := Lib.hid hst1; have Hbel1 := Lib.hid hbel1
        clear hB1 hba hown1 hst1 hbel1 hown hst hbel hR hft hff hfit hdrop hlr hsz hbk
        go_upto_region 7 with fail
        clear hw1 hg8 cb ck
        have d0 := HB1.out.cell 0; have d1 := HB1.out.cell 1
        simp only [List.getElem?_toArray, List.getElem?_cons_succ, List.getElem?_cons_zero] at d0 d1
        go_wp2_with fail
        refine (Hroot.out _ Hbel1.out).mono ?_
        rintro e w2 ⟨rfl, hb2⟩
        have hB2 : Blk w2 g8 94 _ := (hb2.block _ HB1.out.lt).trans HB1.out
        have hown2 := SOwn.below Hown1.out hb2; have hst2 := StOwn.below Hst1.out hb2; have hbel2 := Hbel1.out.trans (hb2.mono Hbel1.out.size)
        have hne2 := hown2.ne hB2 (by decide)
        have hB3 := hB2.alloc (.cells #[.string r] 9)
        have hba := alloc_below' w2 (.cells #[.string r] 9)
        have hown3 : (w2.alloc (.cells #[.string r] 9)).ownsRow w.heap.size 9 1 u6 i (svals out) := by have := SOwn.below hown2 hba; unfold SOwn at this; rwa [hol] at this
        have hst3 := StOwn.below hst2 hba; have hbel3 := hbel2.trans (hba.mono hbel2.size); have hownS := SOwn.below hown2 hba
        have HB3 := Lib.hid hB3; have Hst3 := Lib.hid hst3; have Hbel3 := Lib.hid hbel3; have Hne2 := Lib.hid hne2; have HownS := Lib.hid hownS
        clear hB2 hown2 hst2 hbel2 hne2 hba hst3 hbel3 hB3 hownS HB1 Hown1 Hst1 Hbel1 hb2 d0 d1
        go_wp2_with (at_builtin; refine wpList_appendN rfl _ _ 25 rfl w.heap.size 9 i9 (.string ⟨#[]⟩) 16 Tryd.underlying25 hj hy0 hy1 hy2 rfl _ _ _ rfl hown3 w2.heap.size 1 rfl #[.string r] _ _ (heap_alloc_new _ _) rfl (by decide) (by intro u hu; simp at hu; rcases hu with rfl; rfl) (by unfold maxLen; omega) (by omega) Hbel3.out.size ?_)
        intro v' w4 ho hg hv
        have hB4 : Blk w4 g8 94 _ := HB3.out.grown hg Hne2.out
        have hbel4 : Below w.heap.size w w4 := Hbel3.out.grown hg Hbel3.out.size (fun k hk => (hown3.lt k hk).1)
        have hst4 := StOwn.grown Hst3.out HownS.out hg
        have hown4 : SOwn w.heap.size w4 v' (out ++ [r]) := by unfold SOwn; rw [svals_append, List.length_append, hol]; exact ho
        have d0 := hB4.cell 0; have d1 := hB4.cell 1
        simp only [List.getElem?_toArray, List.getElem?_cons_succ, List.getElem?_cons_zero] at d0 d1
        have H4 := Lib.hid (And.intro hown4 (And.intro hst4 hbel4))
        clear hB4 hbel4 hst4 hown4 ho hg hv hown3 HB3 Hst3 Hbel3 Hne2 HownS
        go_wp2
        go_roundw
        case rel => exact ⟨i + 1, out ++ [r], lc.drop k, some ⟨bl, ol + k, none⟩, cl - k, by go_num, Hlv.out, by rw [List.length_append, hol]; rfl, by omega, Hl2.out.1, Hl2.out.2.1, by rw [Hl2.out.2.2]; omega, by rw [Hl2.out.2.2]; exact Hfit2.out, HD2.out, H4.out⟩
        case measure => simp [intOf]; omega
      · have hFit2 : StepsFit (ss.drop (i + 1)) k := hft rfl
        have Hfit2 := Lib.hid hFit2; clear hFit2
        have hD2 : (out ++ [root (lc.drop k)]) ++ bridgeD (ss.drop (i + 1)) (lc.take k) = R := by rw [← hR, hdrop, List.append_assoc]; rfl
        have HD2 := Lib.hid hD2; clear hD2
        have hroot : ∀ wq, Below w.heap.size w wq → Calls Tryd.prog 40 #[(.slice (some ⟨bl, ol + k, none⟩) (lc.length - k) (cl - k))] wq fun e w' => e = .returned (.string (root (lc.drop k))) ∧ Below wq.heap.size wq w' := fun wq hq => root_any (HT.out.below hq) ((hlr.drop k (by omega)).below hq rfl) (fun s hs => hsz s (List.mem_of_mem_drop hs)) (by rw [List.length_drop]; omega)
        have hsz2 : ∀ s ∈ lc.take k, s.size ≤ 80000000 := fun s hs => hsz s (List.mem_of_mem_take hs)
        have hlen2 : (lc.take k).length = k := by rw [List.length_take]; omega
        have hl2 : SRead w (.slice (some ⟨bl, ol, none⟩) (lc.take k).length (cl)) (lc.take k) := by rw [hlen2]; exact hlr.take k (by omega)
        have hlv : (Value.slice (some ⟨bl, ol, none⟩) k (cl)) = .slice (some ⟨bl, ol, none⟩) (lc.take k).length (cl) := by rw [hlen2]
        rw [hNl, hdn] at hroot
        have Hroot := Lib.hid hroot; have Hl2 := Lib.hid (And.intro hl2 (And.intro hsz2 hlen2)); have Hlv := Lib.hid hlv; clear hroot hl2 hsz2 hlen2 hlv
        obtain ⟨r, hr⟩ : ∃ r, root (lc.drop k) = r := ⟨_, rfl⟩
        rw [hr] at Hroot HD2; clear hr
        have hB1 := Blk.new wr 94 #[.bool true, .int .u64 (k : Int)]
        have hba := alloc_below' wr (.cells #[.bool true, .int .u64 (k : Int)] 94)
        have hown1 := SOwn.below hown hba
        have hst1 := StOwn.below hst hba
        have hbel1 := hbel.trans (hba.mono hbel.size)
        obtain ⟨g8, hg8⟩ : ∃ g, wr.heap.size = g := ⟨_, rfl⟩
        obtain ⟨w1, hw1⟩ : ∃ w1, wr.alloc (.cells #[.bool true, .int .u64 (k : Int)] 94) = w1 := ⟨_, rfl⟩
        rw [hw1] at hB1 hown1 hst1 hbel1; rw [hg8] at hB1
        have HB1 := Lib.hid hB1; have Hown1 := Lib.hid hown1; have Hst1 := Lib.hid hst1; have Hbel1 := Lib.hid hbel1
        clear hB1 hba hown1 hst1 hbel1 hown hst hbel hR hft hff hfit hdrop hlr hsz hbk
        go_upto_region 7 with fail
        clear hw1 hg8 cb ck
        have d0 := HB1.out.cell 0; have d1 := HB1.out.cell 1
        simp only [List.getElem?_toArray, List.getElem?_cons_succ, List.getElem?_cons_zero] at d0 d1
        go_wp2_with fail
        refine (Hroot.out _ Hbel1.out).mono ?_
        rintro e w2 ⟨rfl, hb2⟩
        have hB2 : Blk w2 g8 94 _ := (hb2.block _ HB1.out.lt).trans HB1.out
        have hown2 := SOwn.below Hown1.out hb2; have hst2 := StOwn.below Hst1.out hb2; have hbel2 := Hbel1.out.trans (hb2.mono Hbel1.out.size)
        have hne2 := hown2.ne hB2 (by decide)
        have hB3 := hB2.alloc (.cells #[.string r] 9)
        have hba := alloc_below' w2 (.cells #[.string r] 9)
        have hown3 : (w2.alloc (.cells #[.string r] 9)).ownsRow w.heap.size 9 1 u6 i (svals out) := by have := SOwn.below hown2 hba; unfold SOwn at this; rwa [hol] at this
        have hst3 := StOwn.below hst2 hba; have hbel3 := hbel2.trans (hba.mono hbel2.size); have hownS := SOwn.below hown2 hba
        have HB3 := Lib.hid hB3; have Hst3 := Lib.hid hst3; have Hbel3 := Lib.hid hbel3; have Hne2 := Lib.hid hne2; have HownS := Lib.hid hownS
        clear hB2 hown2 hst2 hbel2 hne2 hba hst3 hbel3 hB3 hownS HB1 Hown1 Hst1 Hbel1 hb2 d0 d1
        go_wp2_with (at_builtin; refine wpList_appendN rfl _ _ 25 rfl w.heap.size 9 i9 (.string ⟨#[]⟩) 16 Tryd.underlying25 hj hy0 hy1 hy2 rfl _ _ _ rfl hown3 w2.heap.size 1 rfl #[.string r] _ _ (heap_alloc_new _ _) rfl (by decide) (by intro u hu; simp at hu; rcases hu with rfl; rfl) (by unfold maxLen; omega) (by omega) Hbel3.out.size ?_)
        intro v' w4 ho hg hv
        have hB4 : Blk w4 g8 94 _ := HB3.out.grown hg Hne2.out
        have hbel4 : Below w.heap.size w w4 := Hbel3.out.grown hg Hbel3.out.size (fun k hk => (hown3.lt k hk).1)
        have hst4 := StOwn.grown Hst3.out HownS.out hg
        have hown4 : SOwn w.heap.size w4 v' (out ++ [r]) := by unfold SOwn; rw [svals_append, List.length_append, hol]; exact ho
        have d0 := hB4.cell 0; have d1 := hB4.cell 1
        simp only [List.getElem?_toArray, List.getElem?_cons_succ, List.getElem?_cons_zero] at d0 d1
        have H4 := Lib.hid (And.intro hown4 (And.intro hst4 hbel4))
        clear hB4 hbel4 hst4 hown4 ho hg hv hown3 HB3 Hst3 Hbel3 Hne2 HownS
        go_wp2
        go_roundw
        case rel => exact ⟨i + 1, out ++ [r], lc.take k, some ⟨bl, ol, none⟩, cl, by go_num, Hlv.out, by rw [List.length_append, hol]; rfl, by omega, Hl2.out.1, Hl2.out.2.1, by rw [Hl2.out.2.2]; omega, by rw [Hl2.out.2.2]; exact Hfit2.out, HD2.out, H4.out⟩
        case measure => simp [intOf]; omega
    · obtain rfl : i = sn := by omega
      have l3 : ¬ (i : Int) < (i : Int) := by omega
      have hdr : ss.drop i = [] := List.drop_eq_nil_of_le (by have := Hsn.out; omega)
      rw [hdr] at hfit hR
      have hroot : ∀ wq, Below w.heap.size w wq → Calls Tryd.prog 40 #[.slice Al lc.length cl] wq fun e w' => e = .returned (.string (root lc)) ∧ Below wq.heap.size wq w' := fun wq hq => root_any (HT.out.below hq) (hlr.below hq rfl) hsz hlc
      have Hroot := Lib.hid hroot; have Hown := Lib.hid hown; have Hbel := Lib.hid hbel
      have HR1 : Hid (out ++ [root lc] = R) := Lib.hid hR
      obtain ⟨r, hr⟩ : ∃ r, root lc = r := ⟨_, rfl⟩
      rw [hr] at Hroot HR1; clear hr
      clear hroot hown hbel hfit hR hlr hsz hst hdr
      go_wp2_with fail
      refine (Hroot.out _ Hbel.out).mono ?_
      rintro e w2 ⟨rfl, hb2⟩
      have hown2 := SOwn.below Hown.out hb2; have hbel2 := Hbel.out.trans (hb2.mono Hbel.out.size)
      have hba := alloc_below' w2 (.cells #[.string r] 9)
      have hown3 : (w2.alloc (.cells #[.string r] 9)).ownsRow w.heap.size 9 1 u6 i (svals out) := by have := SOwn.below hown2 hba; unfold SOwn at this; rwa [hol] at this
      have hbel3 := hbel2.trans (hba.mono hbel2.size)
      have Hbel3 := Lib.hid hbel3
      clear hown2 hbel2 hba hbel3 hb2 Hown Hbel
      go_wp2_with (at_builtin; refine wpList_appendN rfl _ _ 25 rfl w.heap.size 9 i9 (.string ⟨#[]⟩) 16 Tryd.underlying25 hj hy0 hy1 hy2 rfl _ _ _ rfl hown3 w2.heap.size 1 rfl #[.string r] _ _ (heap_alloc_new _ _) rfl (by decide) (by intro u hu; simp at hu; rcases hu with rfl; rfl) (by unfold maxLen; omega) (by omega) Hbel3.out.size ?_)
      intro v' w4 ho hg hv
      have hbel4 : Below w.heap.size w w4 := Hbel3.out.grown hg Hbel3.out.size (fun k hk => (hown3.lt k hk).1)
      have hown4 : SOwn w.heap.size w4 v' R := by rw [← HR1.out]; unfold SOwn; rw [svals_append, List.length_append, hol]; exact ho
      have hRl : R.length ≤ maxLen := by rw [← HR1.out, List.length_append, hol]; simp; unfold maxLen; omega
      have Hown4 := Lib.hid hown4; have Hbel4 := Lib.hid hbel4; have HRl := Lib.hid hRl
      clear hbel4 hown4 ho hg hv hown3 Hbel3 hRl
      go_wp2_with fail
      refine (crevS Hown4.out HRl.out).mono ?_
      rintro e w5 ⟨⟨ru, rfl⟩, ho5, hb5⟩
      have hb6 := Hbel4.out.trans hb5
      have H6 := Lib.hid (And.intro ho5 hb6)
      clear ho5 hb5 hb6
      go_wp2
      go_ret2
      exact ⟨⟨_, rfl, H6.out.1⟩, H6.out.2⟩
end Go.Proofs.YtkdajlhmodmkoaaDoor

/-
  Layer 9 (proof): Audit walked.
-/
namespace Go.Proofs.YtkdajlhmodmkoaaDoor
open Go.RowKit TreeM
set_option linter.unusedVariables false
set_option linter.unusedSimpArgs false

set_option maxRecDepth 100000 in
set_option maxHeartbeats 1000000 in
theorem caudit_yes {w : World} (hT : Tab w) {v : Value} {L : List ByteArray} (h : SRead w v L) (hs : ∀ s ∈ L, s.size ≤ 80000000) (hl : L.length < 1000000) (m : Nat) (hm : m < L.length) :
    Calls Tryd.prog 59 #[.int .i64 (m : Int), v] w fun e w' => (∃ u, e = .returned (.tuple #[u, .int .i64 0]) ∧ SOwn w.heap.size w' u (audit m L)) ∧ Below w.heap.size w w' := by
  obtain ⟨ss, hss⟩ : ∃ ss, sides m L.length = ss := ⟨_, rfl⟩
  obtain ⟨R, hR0⟩ : ∃ R, auditD ss L = R := ⟨_, rfl⟩
  have hres : audit m L = R.reverse := by unfold audit; rw [hss, hR0]
  rw [hres]
  have hssl : ss.length ≤ 64 := by rw [← hss]; have := sides_short 40 m L.length (by omega); omega
  have hfit0 : SidesFit ss L.length := ⟨m, hm, hss.symm⟩
  have hcall := csides_any (w := w) m L.length hm (by omega)
  rw [hss] at hcall
  have HT := Lib.hid hT; have H0 := Lib.hid (And.intro h (And.intro hs (And.intro hfit0 hR0))); have Hcall := Lib.hid hcall
  obtain ⟨A0, cap0, rfl, hmx, -⟩ := id h
  obtain ⟨i9, hj, hy0, hy1, hy2⟩ := info_parts winfo9
  obtain ⟨n0, hn0⟩ : ∃ n, L.length = n := ⟨_, rfl⟩
  rw [hn0] at hl hm H0 Hcall ⊢
  have Hn0 := Lib.hid hn0
  have e1 : IntKind.u64.wrap (m : Int) = (m : Int) := by show (m : Int) % 18446744073709551616 = _; omega
  have e2 : IntKind.u64.wrap (n0 : Int) = (n0 : Int) := by show (n0 : Int) % 18446744073709551616 = _; omega
  have l1 : ((m : Int) < 0) = False := eq_false (by omega)
  have l2 : ((n0 : Int) ≤ (m : Int)) = False := eq_false (by omega)
  clear hT h hs hss hR0 hres hfit0 hcall hmx hn0
  go_enter Tryd.func59, Tryd.ntmps59
  go_wp2_with fail
  refine Hcall.out.mono ?_
  rintro e wa ⟨⟨sv, rfl, hsto⟩, hba⟩
  obtain ⟨As, cs, rfl, -, -⟩ := id (hsto.read (by unfold maxLen; omega))
  have H1 := Lib.hid (And.intro hsto hba)
  clear hsto hba Hcall
  obtain ⟨sn, hsn⟩ : ∃ n, ss.length = n := ⟨_, rfl⟩
  rw [hsn] at hssl H1 ⊢
  have Hsn := Lib.hid hsn; clear hsn
  go_wp2
  go_loopw [1, 6, 24] (fun lv v iv wr => ∃ (i : Nat) (out lc : List ByteArray) (Al : Option Addr) (cl : Nat), iv = .int .i64 (i : Int) ∧ lv = .slice Al lc.length cl ∧ out.length = i ∧ i ≤ sn ∧ SRead w (.slice Al lc.length cl) lc ∧ (∀ s ∈ lc, s.size ≤ 80000000) ∧ lc.length < 1000000 ∧ SidesFit (ss.drop i) lc.length ∧ out ++ auditD (ss.drop i) lc = R ∧ SOwn w.heap.size wr v out ∧ StOwn w.heap.size wr (.slice As sn cs) ss ∧ Below w.heap.size w wr) (fun _ _ iv _ => sn - (intOf iv).toNat)
  case atStart => exact ⟨0, [], L, A0, cap0, rfl, by rw [Hn0.out], rfl, Nat.zero_le _, by rw [Hn0.out]; exact H0.out.1, H0.out.2.1, by rw [Hn0.out]; exact hl, by rw [Hn0.out]; exact H0.out.2.2.1, H0.out.2.2.2, SOwn.nil _ _, H1.out.1, H1.out.2⟩
  case round =>
    obtain ⟨i, out, lc, Al, cl, rfl, rfl, hol, hisn, hlr, hsz, hlc, hfit, hR, hown, hst, hbel⟩ := hrel
    clear H0 H1
    by_cases hlt : i < sn
    · have l3 : (i : Int) < (sn : Int) := by omega
      have hlts : i < ss.length := by rw [Hsn.out]; exact hlt
      obtain ⟨b, k, hbk⟩ : ∃ b k, ss[i] = (b, k) := ⟨_, _, rfl⟩
      have hdrop : ss.drop i = (b, k) :: ss.drop (i + 1) := by rw [List.drop_eq_getElem_cons hlts, hbk]
      obtain ⟨hk1, hk2, hft, hff⟩ := SidesFit.cons (hdrop ▸ hfit)
      have hst' := hst.read (by have := Hsn.out; unfold maxLen; omega)
      obtain ⟨As', cs', hse, -, hsc⟩ := hst'
      injection hse with q1 q2 q3
      subst q1 q3
      obtain ⟨bs, os, rfl, -, cb, ck⟩ := hsc i hlts
      clear hsc q2
      rw [hbk] at cb ck
      dsimp only at cb ck
      have hlr' := hlr
      obtain ⟨Al', cl', hle, -, hlcell⟩ := hlr'
      injection hle with q1 _ q3
      subst q1 q3
      obtain ⟨bl, ol, rfl, ⟨-, hcapl⟩, -⟩ := hlcell 0 (by omega)
      clear hlcell
      have i0 : (0 : Int) ≤ (i : Int) := by omega
      obtain ⟨Nl, hNl⟩ : ∃ n, lc.length = n := ⟨_, rfl⟩
      obtain ⟨dn, hdn⟩ : ∃ n, Nl - k = n := ⟨_, rfl⟩
      have q0 : (0 : Int) ≤ (k : Int) := by omega
      have q1 : (k : Int) ≤ (lc.length : Int) := by omega
      have q2 : (k : Int) ≤ (cl : Int) := by omega
      have q3 : k ≤ lc.length := by omega
      have q4 : k ≤ cl := by omega
      have q5 : ¬ cl = k := by omega
      rw [hNl] at q1 q3 hk2 hlc hcapl ⊢
      skip
      have hNlk : Nl - k = dn := hdn
      cases b
      · have hFit2 : SidesFit (ss.drop (i + 1)) dn := by rw [← hdn, ← hNl]; exact hff rfl
        have Hfit2 := Lib.hid hFit2; clear hFit2
        have hD2 : (out ++ [root (lc.take k)]) ++ auditD (ss.drop (i + 1)) (lc.drop k) = R := by rw [← hR, hdrop, List.append_assoc]; rfl
        have HD2 := Lib.hid hD2; clear hD2
        have hroot : ∀ wq, Below w.heap.size w wq → Calls Tryd.prog 40 #[(.slice (some ⟨bl, ol, none⟩) k cl)] wq fun e w' => e = .returned (.string (root (lc.take k))) ∧ Below wq.heap.size wq w' := fun wq hq => root_any (HT.out.below hq) ((hlr.take k (by omega)).below hq rfl) (fun s hs => hsz s (List.mem_of_mem_take hs)) (by rw [List.length_take]; omega)
        have hsz2 : ∀ s ∈ lc.drop k, s.size ≤ 80000000 := fun s hs => hsz s (List.mem_of_mem_drop hs)
        have hlen2 : (lc.drop k).length = dn := by rw [List.length_drop]; omega
        have hl2 : SRead w (.slice (some ⟨bl, ol + k, none⟩) (lc.drop k).length (cl - k)) (lc.drop k) := by rw [hlen2, ← hdn, ← hNl]; exact hlr.drop k (by omega)
        have hlv : (Value.slice (some ⟨bl, ol + k, none⟩) dn (cl - k)) = .slice (some ⟨bl, ol + k, none⟩) (lc.drop k).length (cl - k) := by rw [hlen2]
        skip
        have Hroot := Lib.hid hroot; have Hl2 := Lib.hid (And.intro hl2 (And.intro hsz2 hlen2)); have Hlv := Lib.hid hlv; clear hroot hl2 hsz2 hlen2 hlv
        obtain ⟨r, hr⟩ : ∃ r, root (lc.take k) = r := ⟨_, rfl⟩
        rw [hr] at Hroot HD2; clear hr
        have hB1 := Blk.new wr 94 #[.bool false, .int .u64 (k : Int)]
        have hba := alloc_below' wr (.cells #[.bool false, .int .u64 (k : Int)] 94)
        have hown1 := SOwn.below hown hba
        have hst1 := StOwn.below hst hba
        have hbel1 := hbel.trans (hba.mono hbel.size)
        obtain ⟨g8, hg8⟩ : ∃ g, wr.heap.size = g := ⟨_, rfl⟩
        obtain ⟨w1, hw1⟩ : ∃ w1, wr.alloc (.cells #[.bool false, .int .u64 (k : Int)] 94) = w1 := ⟨_, rfl⟩
        rw [hw1] at hB1 hown1 hst1 hbel1; rw [hg8] at hB1
        have HB1 := Lib.hid hB1; have Hown1 := Lib.hid hown1; have Hst1 := Lib.hid hst1; have Hbel1 := Lib.hid hbel1
        clear hB1 hba hown1 hst1 hbel1 hown hst hbel hR hft hff hfit hdrop hlr hsz hbk
        go_upto_region 7 with fail
        clear hw1 hg8 cb ck
        have d0 := HB1.out.cell 0; have d1 := HB1.out.cell 1
        simp only [List.getElem?_toArray, List.getElem?_cons_succ, List.getElem?_cons_zero] at d0 d1
        go_wp2_with fail
        refine (Hroot.out _ Hbel1.out).mono ?_
        rintro e w2 ⟨rfl, hb2⟩
        have hB2 : Blk w2 g8 94 _ := (hb2.block _ HB1.out.lt).trans HB1.out
        have hown2 := SOwn.below Hown1.out hb2; have hst2 := StOwn.below Hst1.out hb2; have hbel2 := Hbel1.out.trans (hb2.mono Hbel1.out.size)
        have hne2 := hown2.ne hB2 (by decide)
        have hB3 := hB2.alloc (.cells #[.string r] 9)
        have hba := alloc_below' w2 (.cells #[.string r] 9)
        have hown3 : (w2.alloc (.cells #[.string r] 9)).ownsRow w.heap.size 9 1 u6 i (svals out) := by have := SOwn.below hown2 hba; unfold SOwn at this; rwa [hol] at this
        have hst3 := StOwn.below hst2 hba; have hbel3 := hbel2.trans (hba.mono hbel2.size); have hownS := SOwn.below hown2 hba
        have HB3 := Lib.hid hB3; have Hst3 := Lib.hid hst3; have Hbel3 := Lib.hid hbel3; have Hne2 := Lib.hid hne2; have HownS := Lib.hid hownS
        clear hB2 hown2 hst2 hbel2 hne2 hba hst3 hbel3 hB3 hownS HB1 Hown1 Hst1 Hbel1 hb2 d0 d1
        go_wp2_with (at_builtin; refine wpList_appendN rfl _ _ 25 rfl w.heap.size 9 i9 (.string ⟨#[]⟩) 16 Tryd.underlying25 hj hy0 hy1 hy2 rfl _ _ _ rfl hown3 w2.heap.size 1 rfl #[.string r] _ _ (heap_alloc_new _ _) rfl (by decide) (by intro u hu; simp at hu; rcases hu with rfl; rfl) (by unfold maxLen; omega) (by omega) Hbel3.out.size ?_)
        intro v' w4 ho hg hv
        have hB4 : Blk w4 g8 94 _ := HB3.out.grown hg Hne2.out
        have hbel4 : Below w.heap.size w w4 := Hbel3.out.grown hg Hbel3.out.size (fun k hk => (hown3.lt k hk).1)
        have hst4 := StOwn.grown Hst3.out HownS.out hg
        have hown4 : SOwn w.heap.size w4 v' (out ++ [r]) := by unfold SOwn; rw [svals_append, List.length_append, hol]; exact ho
        have d0 := hB4.cell 0; have d1 := hB4.cell 1
        simp only [List.getElem?_toArray, List.getElem?_cons_succ, List.getElem?_cons_zero] at d0 d1
        have H4 := Lib.hid (And.intro hown4 (And.intro hst4 hbel4))
        clear hB4 hbel4 hst4 hown4 ho hg hv hown3 HB3 Hst3 Hbel3 Hne2 HownS
        go_wp2
        go_roundw
        case rel => exact ⟨i + 1, out ++ [r], lc.drop k, some ⟨bl, ol + k, none⟩, cl - k, by go_num, Hlv.out, by rw [List.length_append, hol]; rfl, by omega, Hl2.out.1, Hl2.out.2.1, by rw [Hl2.out.2.2]; omega, by rw [Hl2.out.2.2]; exact Hfit2.out, HD2.out, H4.out⟩
        case measure => simp [intOf]; omega
      · have hFit2 : SidesFit (ss.drop (i + 1)) k := hft rfl
        have Hfit2 := Lib.hid hFit2; clear hFit2
        have hD2 : (out ++ [root (lc.drop k)]) ++ auditD (ss.drop (i + 1)) (lc.take k) = R := by rw [← hR, hdrop, List.append_assoc]; rfl
        have HD2 := Lib.hid hD2; clear hD2
        have hroot : ∀ wq, Below w.heap.size w wq → Calls Tryd.prog 40 #[(.slice (some ⟨bl, ol + k, none⟩) (lc.length - k) (cl - k))] wq fun e w' => e = .returned (.string (root (lc.drop k))) ∧ Below wq.heap.size wq w' := fun wq hq => root_any (HT.out.below hq) ((hlr.drop k (by omega)).below hq rfl) (fun s hs => hsz s (List.mem_of_mem_drop hs)) (by rw [List.length_drop]; omega)
        have hsz2 : ∀ s ∈ lc.take k, s.size ≤ 80000000 := fun s hs => hsz s (List.mem_of_mem_take hs)
        have hlen2 : (lc.take k).length = k := by rw [List.length_take]; omega
        have hl2 : SRead w (.slice (some ⟨bl, ol, none⟩) (lc.take k).length (cl)) (lc.take k) := by rw [hlen2]; exact hlr.take k (by omega)
        have hlv : (Value.slice (some ⟨bl, ol, none⟩) k (cl)) = .slice (some ⟨bl, ol, none⟩) (lc.take k).length (cl) := by rw [hlen2]
        rw [hNl, hdn] at hroot
        have Hroot := Lib.hid hroot; have Hl2 := Lib.hid (And.intro hl2 (And.intro hsz2 hlen2)); have Hlv := Lib.hid hlv; clear hroot hl2 hsz2 hlen2 hlv
        obtain ⟨r, hr⟩ : ∃ r, root (lc.drop k) = r := ⟨_, rfl⟩
        rw [hr] at Hroot HD2; clear hr
        have hB1 := Blk.new wr 94 #[.bool true, .int .u64 (k : Int)]
        have hba := alloc_below' wr (.cells #[.bool true, .int .u64 (k : Int)] 94)
        have hown1 := SOwn.below hown hba
        have hst1 := StOwn.below hst hba
        have hbel1 := hbel.trans (hba.mono hbel.size)
        obtain ⟨g8, hg8⟩ : ∃ g, wr.heap.size = g := ⟨_, rfl⟩
        obtain ⟨w1, hw1⟩ : ∃ w1, wr.alloc (.cells #[.bool true, .int .u64 (k : Int)] 94) = w1 := ⟨_, rfl⟩
        rw [hw1] at hB1 hown1 hst1 hbel1; rw [hg8] at hB1
        have HB1 := Lib.hid hB1; have Hown1 := Lib.hid hown1; have Hst1 := Lib.hid hst1; have Hbel1 := Lib.hid hbel1
        clear hB1 hba hown1 hst1 hbel1 hown hst hbel hR hft hff hfit hdrop hlr hsz hbk
        go_upto_region 7 with fail
        clear hw1 hg8 cb ck
        have d0 := HB1.out.cell 0; have d1 := HB1.out.cell 1
        simp only [List.getElem?_toArray, List.getElem?_cons_succ, List.getElem?_cons_zero] at d0 d1
        go_wp2_with fail
        refine (Hroot.out _ Hbel1.out).mono ?_
        rintro e w2 ⟨rfl, hb2⟩
        have hB2 : Blk w2 g8 94 _ := (hb2.block _ HB1.out.lt).trans HB1.out
        have hown2 := SOwn.below Hown1.out hb2; have hst2 := StOwn.below Hst1.out hb2; have hbel2 := Hbel1.out.trans (hb2.mono Hbel1.out.size)
        have hne2 := hown2.ne hB2 (by decide)
        have hB3 := hB2.alloc (.cells #[.string r] 9)
        have hba := alloc_below' w2 (.cells #[.string r] 9)
        have hown3 : (w2.alloc (.cells #[.string r] 9)).ownsRow w.heap.size 9 1 u6 i (svals out) := by have := SOwn.below hown2 hba; unfold SOwn at this; rwa [hol] at this
        have hst3 := StOwn.below hst2 hba; have hbel3 := hbel2.trans (hba.mono hbel2.size); have hownS := SOwn.below hown2 hba
        have HB3 := Lib.hid hB3; have Hst3 := Lib.hid hst3; have Hbel3 := Lib.hid hbel3; have Hne2 := Lib.hid hne2; have HownS := Lib.hid hownS
        clear hB2 hown2 hst2 hbel2 hne2 hba hst3 hbel3 hB3 hownS HB1 Hown1 Hst1 Hbel1 hb2 d0 d1
        go_wp2_with (at_builtin; refine wpList_appendN rfl _ _ 25 rfl w.heap.size 9 i9 (.string ⟨#[]⟩) 16 Tryd.underlying25 hj hy0 hy1 hy2 rfl _ _ _ rfl hown3 w2.heap.size 1 rfl #[.string r] _ _ (heap_alloc_new _ _) rfl (by decide) (by intro u hu; simp at hu; rcases hu with rfl; rfl) (by unfold maxLen; omega) (by omega) Hbel3.out.size ?_)
        intro v' w4 ho hg hv
        have hB4 : Blk w4 g8 94 _ := HB3.out.grown hg Hne2.out
        have hbel4 : Below w.heap.size w w4 := Hbel3.out.grown hg Hbel3.out.size (fun k hk => (hown3.lt k hk).1)
        have hst4 := StOwn.grown Hst3.out HownS.out hg
        have hown4 : SOwn w.heap.size w4 v' (out ++ [r]) := by unfold SOwn; rw [svals_append, List.length_append, hol]; exact ho
        have d0 := hB4.cell 0; have d1 := hB4.cell 1
        simp only [List.getElem?_toArray, List.getElem?_cons_succ, List.getElem?_cons_zero] at d0 d1
        have H4 := Lib.hid (And.intro hown4 (And.intro hst4 hbel4))
        clear hB4 hbel4 hst4 hown4 ho hg hv hown3 HB3 Hst3 Hbel3 Hne2 HownS
        go_wp2
        go_roundw
        case rel => exact ⟨i + 1, out ++ [r], lc.take k, some ⟨bl, ol, none⟩, cl, by go_num, Hlv.out, by rw [List.length_append, hol]; rfl, by omega, Hl2.out.1, Hl2.out.2.1, by rw [Hl2.out.2.2]; omega, by rw [Hl2.out.2.2]; exact Hfit2.out, HD2.out, H4.out⟩
        case measure => simp [intOf]; omega
    · obtain rfl : i = sn := by omega
      have l3 : ¬ (i : Int) < (i : Int) := by omega
      have hdr : ss.drop i = [] := List.drop_eq_nil_of_le (by have := Hsn.out; omega)
      rw [hdr] at hfit hR
      have HR1 : Hid (out = R) := Lib.hid (by rw [← hR]; show out = out ++ []; rw [List.append_nil])
      have Hown4 : Hid (SOwn w.heap.size wr u6 R) := Lib.hid (by rw [← HR1.out]; exact hown); have Hbel4 := Lib.hid hbel; have HRl : Hid (R.length ≤ maxLen) := Lib.hid (by rw [← HR1.out, hol]; unfold maxLen; omega)
      clear hown hbel hfit hR hlr hsz hst hdr
      go_wp2_with fail
      refine (crevS Hown4.out HRl.out).mono ?_
      rintro e w5 ⟨⟨ru, rfl⟩, ho5, hb5⟩
      have hb6 := Hbel4.out.trans hb5
      have H6 := Lib.hid (And.intro ho5 hb6)
      clear ho5 hb5 hb6
      go_wp2
      go_ret2
      exact ⟨⟨_, rfl, H6.out.1⟩, H6.out.2⟩
end Go.Proofs.YtkdajlhmodmkoaaDoor

/-
  Plain mathematics of layer 9 (proof): what Implied, Up, Bridge, Audit and Clash answer, errors too.
-/
namespace Go.Proofs.YtkdajlhmodmkoaaDoor
open Go.RowKit TreeM
set_option linter.unusedVariables false
set_option linter.unusedSimpArgs false

/-- What Implied answers: the two roots and the error. -/
def impE (m n : Nat) (P : List ByteArray) : Int := if mayB m n = true then (if wholeB P (stepsN m n) = true then 0 else 11) else 1
def impA (m n : Nat) (P : List ByteArray) : ByteArray := if impE m n P = 0 then (imp (steps m n) P.reverse).1 else ⟨#[]⟩
def impB (m n : Nat) (P : List ByteArray) : ByteArray := if impE m n P = 0 then (imp (steps m n) P.reverse).2 else ⟨#[]⟩
theorem impE_may {m n : Nat} {P : List ByteArray} (h : mayB m n = false) : impE m n P = 1 ∧ impA m n P = ⟨#[]⟩ ∧ impB m n P = ⟨#[]⟩ := by
  have e : impE m n P = 1 := by unfold impE; rw [h]; rfl
  refine ⟨e, ?_, ?_⟩
  · unfold impA; rw [e]; rfl
  · unfold impB; rw [e]; rfl
theorem impE_whole {m n : Nat} {P : List ByteArray} (h : mayB m n = true) (h2 : wholeB P (stepsN m n) = false) : impE m n P = 11 ∧ impA m n P = ⟨#[]⟩ ∧ impB m n P = ⟨#[]⟩ := by
  have e : impE m n P = 11 := by unfold impE; rw [h, h2]; rfl
  refine ⟨e, ?_, ?_⟩
  · unfold impA; rw [e]; rfl
  · unfold impB; rw [e]; rfl
theorem impE_yes {m n : Nat} {P : List ByteArray} (h : mayB m n = true) (h2 : wholeB P (stepsN m n) = true) : impE m n P = 0 ∧ impA m n P = (imp (steps m n) P.reverse).1 ∧ impB m n P = (imp (steps m n) P.reverse).2 := by
  have e : impE m n P = 0 := by unfold impE; rw [h, h2]; rfl
  refine ⟨e, ?_, ?_⟩
  · unfold impA; rw [e]; rfl
  · unfold impB; rw [e]; rfl
theorem impE_ok {m n : Nat} {P : List ByteArray} (h : impE m n P = 0) : mayB m n = true ∧ P.length = (steps m n).length + 1 ∧ (∀ s ∈ P, s.size = 32) ∧ impA m n P = (imp (steps m n) P.reverse).1 ∧ impB m n P = (imp (steps m n) P.reverse).2 := by
  unfold impE at h
  cases hm : mayB m n with
  | false => rw [hm] at h; simp at h
  | true =>
    cases hw : wholeB P (stepsN m n) with
    | false => rw [hm, hw] at h; simp at h
    | true =>
      obtain ⟨h1, h2⟩ := whole_yes hw
      rw [stepsN_yes hm] at h1
      exact ⟨rfl, h1, h2, (impE_yes hm hw).2⟩
theorem impE_mk {m n : Nat} {P : List ByteArray} (hm : mayB m n = true) (hl : P.length = (steps m n).length + 1) (hw : ∀ s ∈ P, s.size = 32) : impE m n P = 0 := by
  refine (impE_yes hm ?_).1
  unfold wholeB wideB
  rw [stepsN_yes hm]
  simp only [Bool.and_eq_true, decide_eq_true_eq, List.all_eq_true, beq_iff_eq]
  exact ⟨hl, hw⟩
theorem may_mk {m n : Nat} (h1 : 1 ≤ m) (h2 : m ≤ n) (h3 : n ≤ 1099511627776) : mayB m n = true := by
  unfold mayB; simp [h1, h2, h3]
theorem impE_cases (m n : Nat) (P : List ByteArray) : (impE m n P = 0 ∧ (impA m n P).size = 32 ∧ (impB m n P).size = 32) ∨ ((impE m n P = 1 ∨ impE m n P = 11) ∧ impA m n P = ⟨#[]⟩ ∧ impB m n P = ⟨#[]⟩) := by
  cases hm : mayB m n with
  | false => exact .inr ⟨.inl (impE_may hm).1, (impE_may hm).2⟩
  | true =>
    cases hw : wholeB P (stepsN m n) with
    | false => exact .inr ⟨.inr (impE_whole hm hw).1, (impE_whole hm hw).2⟩
    | true =>
      obtain ⟨h1, h2, h3⟩ := impE_yes hm hw
      obtain ⟨h4, h5⟩ := whole_yes hw
      rw [stepsN_yes hm] at h4
      have := imp_wide (steps m n) P.reverse (fun h hh => h5 h (List.mem_reverse.1 hh)) (by rw [List.length_reverse]; exact h4)
      rw [← h2, ← h3] at this
      exact .inl ⟨h1, this⟩
/-- What Up answers. -/
def upOk (i n : Nat) (leaf : ByteArray) : Bool := decide (i < n) && decide (n ≤ 1099511627776) && decide (leaf.size = 32)
def upE (i n : Nat) (leaf : ByteArray) (P : List ByteArray) : Int := if upOk i n leaf = true then (if wholeB P (sides i n).length = true then 0 else 11) else 1
def upS (i n : Nat) (leaf : ByteArray) (P : List ByteArray) : ByteArray := if upE i n leaf P = 0 then up (sides i n) leaf P.reverse else ⟨#[]⟩
theorem upE_arg {i n : Nat} {leaf : ByteArray} {P : List ByteArray} (h : upOk i n leaf = false) : upE i n leaf P = 1 ∧ upS i n leaf P = ⟨#[]⟩ := by
  have e : upE i n leaf P = 1 := by unfold upE; rw [h]; rfl
  refine ⟨e, ?_⟩
  unfold upS; rw [e]; rfl
theorem upE_whole {i n : Nat} {leaf : ByteArray} {P : List ByteArray} (h : upOk i n leaf = true) (h2 : wholeB P (sides i n).length = false) : upE i n leaf P = 11 ∧ upS i n leaf P = ⟨#[]⟩ := by
  have e : upE i n leaf P = 11 := by unfold upE; rw [h, h2]; rfl
  refine ⟨e, ?_⟩
  unfold upS; rw [e]; rfl
theorem upE_yes {i n : Nat} {leaf : ByteArray} {P : List ByteArray} (h : upOk i n leaf = true) (h2 : wholeB P (sides i n).length = true) : upE i n leaf P = 0 ∧ upS i n leaf P = up (sides i n) leaf P.reverse := by
  have e : upE i n leaf P = 0 := by unfold upE; rw [h, h2]; rfl
  refine ⟨e, ?_⟩
  unfold upS; rw [e]; rfl
/-- What Bridge and Audit answer. -/
def brOk (m : Int) (n : Nat) : Bool := decide (1 ≤ m) && decide (m ≤ (n : Int))
def brE (m : Int) (n : Nat) : Int := if brOk m n = true then 0 else 1
def brL (m : Int) (L : List ByteArray) : List ByteArray := if brOk m L.length = true then bridge m.toNat L else []
def auOk (m : Int) (n : Nat) : Bool := decide (0 ≤ m) && decide (m < (n : Int))
def auE (m : Int) (n : Nat) : Int := if auOk m n = true then 0 else 1
def auL (m : Int) (L : List ByteArray) : List ByteArray := if auOk m L.length = true then audit m.toNat L else []
/-- What Clash answers. -/
def clOk (m : Int) (L P : List ByteArray) : Bool := brOk m L.length && decide (impE m.toNat L.length P = 0) && decide (impB m.toNat L.length P = root L) && !decide (impA m.toNat L.length P = root (L.take m.toNat))
def clOut (o : Option ((ByteArray × ByteArray) × (ByteArray × ByteArray))) : ByteArray × ByteArray × Bool :=
  match o with | none => (⟨#[]⟩, ⟨#[]⟩, false) | some (t, o) => (text t.1 t.2, text o.1 o.2, true)
def clR (m : Int) (L P : List ByteArray) : ByteArray × ByteArray × Bool := if clOk m L P = true then clOut (clash (steps m.toNat L.length) L P.reverse) else (⟨#[]⟩, ⟨#[]⟩, false)
theorem bridge_length (m : Nat) (l : List ByteArray) : (bridge m l).length = (steps m l.length).length + 1 := by unfold bridge; rw [List.length_reverse, bridgeD_length]
theorem bridge_wide (m : Nat) (l : List ByteArray) : ∀ h ∈ bridge m l, h.size = 32 := by
  intro h hh; unfold bridge at hh; exact bridgeD_wide _ _ h (List.mem_reverse.1 hh)
theorem audit_length (m : Nat) (l : List ByteArray) : (audit m l).length = (sides m l.length).length := by unfold audit; rw [List.length_reverse, auditD_length]
theorem audit_wide (m : Nat) (l : List ByteArray) : ∀ h ∈ audit m l, h.size = 32 := by
  intro h hh; unfold audit at hh; exact auditD_wide _ _ h (List.mem_reverse.1 hh)
/-- The bridge of leaves tells both roots. -/
theorem imp_of_bridge (m : Nat) (l : List ByteArray) (h1 : 1 ≤ m) (h2 : m ≤ l.length) (h3 : l.length ≤ 1099511627776) : impE m l.length (bridge m l) = 0 ∧ impA m l.length (bridge m l) = root (l.take m) ∧ impB m l.length (bridge m l) = root l := by
  have e := impE_mk (may_mk h1 h2 h3) (bridge_length m l) (bridge_wide m l)
  obtain ⟨-, -, -, h4, h5⟩ := impE_ok e
  have h6 := imp_bridge l.length m l.length (Nat.le_refl _) h1 h2 l rfl
  refine ⟨e, ?_, ?_⟩
  · rw [h4]; unfold bridge; rw [List.reverse_reverse, h6]
  · rw [h5]; unfold bridge; rw [List.reverse_reverse, h6]
theorem up_of_audit (i : Nat) (l : List ByteArray) (h1 : i < l.length) (h3 : l.length ≤ 1099511627776) : upE i l.length (leafB (l.getD i ⟨#[]⟩)) (audit i l) = 0 ∧ upS i l.length (leafB (l.getD i ⟨#[]⟩)) (audit i l) = root l := by
  have hok : upOk i l.length (leafB (l.getD i ⟨#[]⟩)) = true := by unfold upOk; simp [h1, h3, leafB_size]
  have hw : wholeB (audit i l) (sides i l.length).length = true := by
    unfold wholeB wideB
    simp only [Bool.and_eq_true, decide_eq_true_eq, List.all_eq_true, beq_iff_eq]
    exact ⟨audit_length i l, audit_wide i l⟩
  obtain ⟨e, h⟩ := upE_yes hok hw
  refine ⟨e, ?_⟩
  rw [h]; unfold audit; rw [List.reverse_reverse]
  exact up_audit l.length i l.length (Nat.le_refl _) h1 l rfl
theorem clR_no {m : Int} {L P : List ByteArray} (h : clOk m L P = false) : clR m L P = (⟨#[]⟩, ⟨#[]⟩, false) := by unfold clR; rw [h]; rfl
/-- A bridge of the leaves clashes with nothing. -/
theorem clR_bridge (m : Nat) (l : List ByteArray) (h1 : 1 ≤ m) (h2 : m ≤ l.length) (h3 : l.length ≤ 1099511627776) : clR (m : Int) l (bridge m l) = (⟨#[]⟩, ⟨#[]⟩, false) := by
  obtain ⟨h4, h5, h6⟩ := imp_of_bridge m l h1 h2 h3
  refine clR_no ?_
  unfold clOk
  rw [Int.toNat_natCast, h5]
  simp
theorem clash_sizes : ∀ (ss : List (Bool × Nat)) (l q : List ByteArray), (∀ s ∈ q, s.size = 32) → q.length = ss.length + 1 → ∀ t o, clash ss l q = some (t, o) → t.1.size = 32 ∧ t.2.size = 32 ∧ o.1.size = 32 ∧ o.2.size = 32
  | [], l, q, _, _, t, o, h => by simp [clash] at h
  | (b, k) :: ss, l, q, hw, hl, t, o, h => by
    match q, hl with
    | x :: q, hl =>
      have hw' : ∀ s ∈ q, s.size = 32 := fun s hs => hw s (List.mem_cons_of_mem _ hs)
      have hi := imp_wide ss q hw' (by simpa using hl)
      have hx : x.size = 32 := hw x (List.mem_cons_self ..)
      unfold clash at h
      split at h
      · exact clash_sizes ss _ q hw' (by simpa using hl) t o h
      · simp only [Option.some.injEq, Prod.mk.injEq] at h
        obtain ⟨rfl, rfl⟩ := h
        have h0 : (own k l).1.size = 32 ∧ (own k l).2.size = 32 := ⟨root_length _, root_length _⟩
        unfold told
        split
        · exact ⟨hi.2, hx, h0.1, h0.2⟩
        · exact ⟨hx, hi.2, h0.1, h0.2⟩
/-- Where hashes lead to leaves' root, but not from that of the first ones: two texts with one sum. -/
theorem clR_sound {m : Nat} {L P : List ByteArray} (h : clOk (m : Int) L P = true) : (clR (m : Int) L P).2.2 = true ∧ (clR (m : Int) L P).1 ≠ (clR (m : Int) L P).2.1 ∧ sumB (clR (m : Int) L P).1 = sumB (clR (m : Int) L P).2.1 ∧ (clR (m : Int) L P).1.size ≤ 65 ∧ (clR (m : Int) L P).2.1.size ≤ 65 := by
  have h' := h
  unfold clOk brOk at h
  simp only [Int.toNat_natCast, Bool.and_eq_true, decide_eq_true_eq, Bool.not_eq_true', decide_eq_false_iff_not] at h
  obtain ⟨⟨⟨⟨h1, h2⟩, h3⟩, h4⟩, h5⟩ := h
  obtain ⟨hm, hl, hw, e1, e2⟩ := impE_ok h3
  obtain ⟨t, o, hc, hne, hsum⟩ := clash_sound L.length m L.length (Nat.le_refl _) (by omega) (by omega) L P.reverse rfl (by rw [← e2]; exact h4) (by rw [← e1]; exact h5)
  have hsz := clash_sizes (steps m L.length) L P.reverse (fun s hs => hw s (List.mem_reverse.1 hs)) (by rw [List.length_reverse]; exact hl) _ _ hc
  unfold clR
  rw [h', if_pos rfl, Int.toNat_natCast, hc]
  have ts : ∀ a b : ByteArray, a.size = 32 → b.size = 32 → (text a b).size ≤ 65 := fun a b ha hb => by unfold text; rw [ByteArray.size_append, ByteArray.size_append, ha, hb]; decide
  refine ⟨rfl, ?_, ?_, ts _ _ hsz.1 hsz.2.1, ts _ _ hsz.2.2.1 hsz.2.2.2⟩
  · intro he
    refine hne (Prod.ext_iff.2 ((text_inj ?_).1 he))
    rw [hsz.1, hsz.2.2.1]
  · show sumB (text t.1 t.2) = sumB (text o.1 o.2)
    rw [text_sum, text_sum, hsum]
end Go.Proofs.YtkdajlhmodmkoaaDoor

/-
  Layer 9 (proof): the document's Bridge and Audit walked.
-/
namespace Go.Proofs.YtkdajlhmodmkoaaDoor
open Go.RowKit TreeM
set_option linter.unusedVariables false
set_option linter.unusedSimpArgs false
theorem bridge_end (l : List ByteArray) : bridge l.length l = [root l] := by unfold bridge; rw [steps_end (Nat.le_refl _)]; rfl
theorem bridge_first {m : Nat} {l : List ByteArray} (h1 : 1 ≤ m) (hm : m < l.length) (hk : m ≤ split l.length) : bridge m l = bridge m (l.take (split l.length)) ++ [root (l.drop (split l.length))] := by
  have a := split_lt (n := l.length) (by omega)
  unfold bridge
  rw [steps_first h1 hm hk, List.length_take, Nat.min_eq_left (by omega)]
  simp [bridgeD]
theorem bridge_rest {m : Nat} {l : List ByteArray} (hm : m < l.length) (hk : split l.length < m) : bridge m l = bridge (m - split l.length) (l.drop (split l.length)) ++ [root (l.take (split l.length))] := by
  unfold bridge
  rw [steps_rest hm hk, List.length_drop]
  simp [bridgeD]
theorem audit_end {i : Nat} {l : List ByteArray} (h : l.length = 1) : audit i l = [] := by unfold audit; rw [sides_end (by omega)]; rfl
theorem audit_first {m : Nat} {l : List ByteArray} (hm : 1 < l.length) (hk : m < split l.length) : audit m l = audit m (l.take (split l.length)) ++ [root (l.drop (split l.length))] := by
  have a := split_lt (n := l.length) (by omega)
  unfold audit
  rw [sides_first hm hk, List.length_take, Nat.min_eq_left (by omega)]
  simp [auditD]
theorem audit_rest {m : Nat} {l : List ByteArray} (hm : 1 < l.length) (hk : split l.length ≤ m) : audit m l = audit (m - split l.length) (l.drop (split l.length)) ++ [root (l.take (split l.length))] := by
  unfold audit
  rw [sides_rest hm hk, List.length_drop]
  simp [auditD]
theorem SRead.slice {w : World} {v : Value} {L : List ByteArray} {n : Nat} (h : SRead w v L) (hl : L.length = n) (hn : 1 ≤ n) : ∃ b o cap, v = .slice (some ⟨b, o, none⟩) n cap ∧ n ≤ cap := by
  obtain ⟨A, cap, hv, hm, hc⟩ := h
  obtain ⟨b, o, rfl, h2, -⟩ := hc 0 (by omega)
  exact ⟨b, o, cap, by rw [hv, hl], by omega⟩
theorem SRead.any {w : World} {v : Value} {L : List ByteArray} {n : Nat} (h : SRead w v L) (hl : L.length = n) : ∃ A cap, v = .slice A n cap := by
  obtain ⟨A, cap, hv, hm, hc⟩ := h
  exact ⟨A, cap, by rw [hv, hl]⟩
set_option maxRecDepth 100000 in
set_option maxHeartbeats 4000000 in
theorem rbridge_aux : ∀ (f m n : Nat), n ≤ f → 1 ≤ m → m ≤ n → ∀ (L : List ByteArray) (w : World) (v : Value), L.length = n → SRead w v L → (∀ s ∈ L, s.size ≤ 80000000) → n < 1000000 →
    Calls Tryd.prog 81 #[.int .i64 (m : Int), v] w fun e w' => (∃ u, e = .returned u ∧ SOwn w.heap.size w' u (bridge m L)) ∧ Below w.heap.size w w' := by
  refine steps_ind ?_ ?_ ?_
  · intro n hn L w v hl h hs hb
    have hr := rroot_any h hs (by omega)
    obtain ⟨b, o, cap, rfl, hcap⟩ := h.slice hl hn
    obtain ⟨r, hre⟩ : ∃ r, root L = r := ⟨_, rfl⟩
    have hS : bridge n L = [r] := by rw [← hl, bridge_end, hre]
    rw [hS]
    rw [hre] at hr
    have Hr := Lib.hid hr
    clear hr h hs hl hS hre
    go_enter Tryd.func81, Tryd.ntmps81
    go_wp2_with fail
    refine Hr.out.mono ?_
    rintro e w2 ⟨rfl, hb2⟩
    go_wp2
    go_ret
    exact ⟨⟨_, rfl, SOwn.made [r] hb2.size (by simp [maxLen])⟩, hb2.trans ((alloc_below' w2 _).mono hb2.size)⟩
  · intro m n h1 hm hk ih L w v hl h hs hb
    have hk2 := split_lt (n := n) (by omega)
    have hk1 := split_pos (n := n) (by omega)
    have hS := bridge_first (m := m) (l := L) h1 (by omega) (by rw [hl]; exact hk)
    rw [hl] at hS
    have h39 := rsplit_all n (by omega)
    obtain ⟨k, hke⟩ : ∃ k, split n = k := ⟨_, rfl⟩
    rw [hke] at hk hk1 hk2 hS h39 ih
    obtain ⟨b, o, cap, rfl, hcap⟩ := h.slice hl (by omega)
    have htk := h.take k (by omega)
    have hdr := h.drop k (by omega)
    rw [hl] at hdr
    obtain ⟨dm, hdm⟩ : ∃ dm, m - k = dm := ⟨_, rfl⟩
    obtain ⟨dn, hdn⟩ : ∃ dn, n - k = dn := ⟨_, rfl⟩
    obtain ⟨r, hr⟩ : ∃ r, root (L.drop k) = r := ⟨_, rfl⟩
    obtain ⟨T, hT⟩ : ∃ T, bridge m (L.take k) = T := ⟨_, rfl⟩
    have hTl : T.length ≤ 1000000 := by rw [← hT, bridge_length]; have := steps_short 40 m (L.take k).length (by rw [List.length_take]; omega) (by omega); omega
    rw [hS, hr, hT]
    have HI : Hid (∀ wq, Below w.heap.size w wq → Calls Tryd.prog 81 #[.int .i64 (m : Int), .slice (some ⟨b, o, none⟩) k cap] wq fun e w' => (∃ u, e = .returned u ∧ SOwn wq.heap.size w' u T) ∧ Below wq.heap.size wq w') :=
      Lib.hid fun wq hq => by
        rw [← hT]
        exact ih _ wq _ (by rw [List.length_take]; omega) (htk.below hq rfl) (fun s hs' => hs s (List.mem_of_mem_take hs')) (by omega)
    have HR : Hid (∀ wq, Below w.heap.size w wq → Calls Tryd.prog 37 #[.slice (some ⟨b, o + k, none⟩) (n - k) (cap - k)] wq fun e w' => e = .returned (.string r) ∧ Below wq.heap.size wq w') :=
      Lib.hid fun wq hq => by
        rw [← hr]
        exact rroot_any (hdr.below hq rfl) (fun s hs' => hs s (List.mem_of_mem_drop hs')) (by rw [List.length_drop]; omega)
    have H39 := Lib.hid h39
    obtain ⟨i9, hj, hy0, hy1, hy2⟩ := info_parts winfo9
    have n0 : ((m : Int) == (n : Int)) = false := by rw [beq_eq_false_iff_ne]; omega
    have n1 : ((n : Int) == 1) = false := by rw [beq_eq_false_iff_ne]; omega
    have e1 : IntKind.u64.wrap (n : Int) = (n : Int) := by show (n : Int) % 18446744073709551616 = _; omega
    have e2 : IntKind.i64.wrap (k : Int) = (k : Int) := IntWalk.i64_in _ (by omega)
    have e3 : IntKind.i64.wrap ((m : Int) - (k : Int)) = (m : Int) - (k : Int) := IntWalk.i64_in _ (by omega)
    have l2 : ((m : Int) ≤ (k : Int)) = True := eq_true (by omega)
    have q0 : (0 : Int) ≤ (k : Int) := by omega
    have q1 : (k : Int) ≤ (n : Int) := by omega
    have q2 : (k : Int) ≤ (cap : Int) := by omega
    have q3 : k ≤ n := by omega
    have q4 : k ≤ cap := by omega
    have q5 : ¬ cap = k := by omega
    clear ih hs h h39 htk hdr hS hr hT hl hke hdn hdm
    go_enter Tryd.func81, Tryd.ntmps81
    go_wp2_with fail
    refine (H39.out _).mono ?_
    rintro e wq ⟨rfl, hwq⟩
    replace hwq := hwq.symm; subst hwq
    go_wp2_with fail
    have hb0 := alloc_below' w (.cells #[] 9)
    generalize w.alloc (.cells #[] 9) = w1 at *
    skip
    refine (HI.out _ hb0).mono ?_
    rintro e w2 ⟨⟨u, rfl, ho⟩, hb2⟩
    have ho2 := SOwn.base ho hb0.size
    have hbl2 := hb0.trans (hb2.mono hb0.size)
    have Ho2 := Lib.hid ho2; have Hb2 := Lib.hid hbl2
    clear ho hb2 hb0 ho2 hbl2 HI
    go_wp2_with fail
    refine (HR.out _ Hb2.out).mono ?_
    rintro e w3 ⟨rfl, hb3⟩
    have hown3 := SOwn.below Ho2.out hb3; have hbel3 := Hb2.out.trans (hb3.mono Hb2.out.size)
    have hba := alloc_below' w3 (.cells #[.string r] 9)
    have hown4 : (w3.alloc (.cells #[.string r] 9)).ownsRow w.heap.size 9 1 u T.length (svals T) := SOwn.below hown3 hba
    have hbel4 := hbel3.trans (hba.mono hbel3.size)
    have Hbel4 := Lib.hid hbel4
    clear hown3 hbel3 hba hbel4 hb3 Ho2 Hb2 HR
    go_wp2_with (at_builtin; refine wpList_appendN rfl _ _ 25 rfl w.heap.size 9 i9 (.string ⟨#[]⟩) 16 Tryd.underlying25 hj hy0 hy1 hy2 rfl _ _ _ rfl hown4 w3.heap.size 1 rfl #[.string r] _ _ (heap_alloc_new _ _) rfl (by decide) (by intro u hu; simp at hu; rcases hu with rfl; rfl) (by unfold maxLen; omega) (by omega) Hbel4.out.size ?_)
    intro v' w5 ho5 hg5 hv5
    have hbel5 : Below w.heap.size w w5 := Hbel4.out.grown hg5 Hbel4.out.size (fun k hk => (hown4.lt k hk).1)
    have hown5 : SOwn w.heap.size w5 v' (T ++ [r]) := by unfold SOwn; rw [svals_append, List.length_append]; exact ho5
    have H5 := Lib.hid (And.intro hown5 hbel5)
    clear hbel5 hown5 ho5 hg5 hv5 hown4 Hbel4
    go_wp2
    go_ret
    exact ⟨⟨_, rfl, H5.out.1⟩, H5.out.2⟩
  · intro m n hm hk ih L w v hl h hs hb
    have hk2 := split_lt (n := n) (by omega)
    have hk1 := split_pos (n := n) (by omega)
    have hS := bridge_rest (m := m) (l := L) (by omega) (by rw [hl]; exact hk)
    rw [hl] at hS
    have h39 := rsplit_all n (by omega)
    obtain ⟨k, hke⟩ : ∃ k, split n = k := ⟨_, rfl⟩
    rw [hke] at hk hk1 hk2 hS h39 ih
    obtain ⟨b, o, cap, rfl, hcap⟩ := h.slice hl (by omega)
    have htk := h.take k (by omega)
    have hdr := h.drop k (by omega)
    rw [hl] at hdr
    obtain ⟨dm, hdm⟩ : ∃ dm, m - k = dm := ⟨_, rfl⟩
    obtain ⟨dn, hdn⟩ : ∃ dn, n - k = dn := ⟨_, rfl⟩
    obtain ⟨r, hr⟩ : ∃ r, root (L.take k) = r := ⟨_, rfl⟩
    obtain ⟨T, hT⟩ : ∃ T, bridge (m - k) (L.drop k) = T := ⟨_, rfl⟩
    have hTl : T.length ≤ 1000000 := by rw [← hT, bridge_length]; have := steps_short 40 (m - k) (L.drop k).length (by rw [List.length_drop]; omega) (by omega); omega
    rw [hS, hr, hT]
    have HI : Hid (∀ wq, Below w.heap.size w wq → Calls Tryd.prog 81 #[.int .i64 (dm : Int), .slice (some ⟨b, o + k, none⟩) (n - k) (cap - k)] wq fun e w' => (∃ u, e = .returned u ∧ SOwn wq.heap.size w' u T) ∧ Below wq.heap.size wq w') :=
      Lib.hid fun wq hq => by
        rw [← hT]; subst hdm
        exact ih _ wq _ (by rw [List.length_drop, hl]) (hdr.below hq rfl) (fun s hs' => hs s (List.mem_of_mem_drop hs')) (by omega)
    have HR : Hid (∀ wq, Below w.heap.size w wq → Calls Tryd.prog 37 #[.slice (some ⟨b, o, none⟩) k cap] wq fun e w' => e = .returned (.string r) ∧ Below wq.heap.size wq w') :=
      Lib.hid fun wq hq => by
        rw [← hr]
        exact rroot_any (htk.below hq rfl) (fun s hs' => hs s (List.mem_of_mem_take hs')) (by rw [List.length_take]; omega)
    have H39 := Lib.hid h39
    obtain ⟨i9, hj, hy0, hy1, hy2⟩ := info_parts winfo9
    have n0 : ((m : Int) == (n : Int)) = false := by rw [beq_eq_false_iff_ne]; omega
    have n1 : ((n : Int) == 1) = false := by rw [beq_eq_false_iff_ne]; omega
    have e1 : IntKind.u64.wrap (n : Int) = (n : Int) := by show (n : Int) % 18446744073709551616 = _; omega
    have e2 : IntKind.i64.wrap (k : Int) = (k : Int) := IntWalk.i64_in _ (by omega)
    have e3 : IntKind.i64.wrap ((m : Int) - (k : Int)) = (m : Int) - (k : Int) := IntWalk.i64_in _ (by omega)
    have l2 : ((m : Int) ≤ (k : Int)) = False := eq_false (by omega)
    have q0 : (0 : Int) ≤ (k : Int) := by omega
    have q1 : (k : Int) ≤ (n : Int) := by omega
    have q2 : (k : Int) ≤ (cap : Int) := by omega
    have q3 : k ≤ n := by omega
    have q4 : k ≤ cap := by omega
    have q5 : ¬ cap = k := by omega
    have e4 : (m : Int) - (k : Int) = (dm : Int) := by omega
    clear ih hs h h39 htk hdr hS hr hT hl hke hdn hdm
    go_enter Tryd.func81, Tryd.ntmps81
    go_wp2_with fail
    refine (H39.out _).mono ?_
    rintro e wq ⟨rfl, hwq⟩
    replace hwq := hwq.symm; subst hwq
    go_wp2_with fail
    have hb0 := alloc_below' w (.cells #[] 9)
    generalize w.alloc (.cells #[] 9) = w1 at *
    first | rw [e4] | skip
    refine (HI.out _ hb0).mono ?_
    rintro e w2 ⟨⟨u, rfl, ho⟩, hb2⟩
    have ho2 := SOwn.base ho hb0.size
    have hbl2 := hb0.trans (hb2.mono hb0.size)
    have Ho2 := Lib.hid ho2; have Hb2 := Lib.hid hbl2
    clear ho hb2 hb0 ho2 hbl2 HI
    go_wp2_with fail
    refine (HR.out _ Hb2.out).mono ?_
    rintro e w3 ⟨rfl, hb3⟩
    have hown3 := SOwn.below Ho2.out hb3; have hbel3 := Hb2.out.trans (hb3.mono Hb2.out.size)
    have hba := alloc_below' w3 (.cells #[.string r] 9)
    have hown4 : (w3.alloc (.cells #[.string r] 9)).ownsRow w.heap.size 9 1 u T.length (svals T) := SOwn.below hown3 hba
    have hbel4 := hbel3.trans (hba.mono hbel3.size)
    have Hbel4 := Lib.hid hbel4
    clear hown3 hbel3 hba hbel4 hb3 Ho2 Hb2 HR
    go_wp2_with (at_builtin; refine wpList_appendN rfl _ _ 25 rfl w.heap.size 9 i9 (.string ⟨#[]⟩) 16 Tryd.underlying25 hj hy0 hy1 hy2 rfl _ _ _ rfl hown4 w3.heap.size 1 rfl #[.string r] _ _ (heap_alloc_new _ _) rfl (by decide) (by intro u hu; simp at hu; rcases hu with rfl; rfl) (by unfold maxLen; omega) (by omega) Hbel4.out.size ?_)
    intro v' w5 ho5 hg5 hv5
    have hbel5 : Below w.heap.size w w5 := Hbel4.out.grown hg5 Hbel4.out.size (fun k hk => (hown4.lt k hk).1)
    have hown5 : SOwn w.heap.size w5 v' (T ++ [r]) := by unfold SOwn; rw [svals_append, List.length_append]; exact ho5
    have H5 := Lib.hid (And.intro hown5 hbel5)
    clear hbel5 hown5 ho5 hg5 hv5 hown4 Hbel4
    go_wp2
    go_ret
    exact ⟨⟨_, rfl, H5.out.1⟩, H5.out.2⟩
set_option maxRecDepth 100000 in
set_option maxHeartbeats 1000000 in
theorem rBridge_any {w : World} {v : Value} {L : List ByteArray} (h : SRead w v L) (hs : ∀ s ∈ L, s.size ≤ 80000000) (hl : L.length < 1000000) (m : Int) :
    Calls Tryd.prog 53 #[.int .i64 m, v] w fun e w' => (∃ u, e = .returned (.tuple #[u, .int .i64 (brE m L.length)]) ∧ SOwn w.heap.size w' u (brL m L)) ∧ Below w.heap.size w w' := by
  obtain ⟨n, hn⟩ : ∃ n, L.length = n := ⟨_, rfl⟩
  unfold brE brL
  rw [hn] at hl ⊢
  cases hok : brOk m n with
  | false =>
    obtain ⟨A, cap, rfl⟩ := h.any hn
    rw [if_neg (by decide), if_neg (by decide)]
    unfold brOk at hok
    clear h hs hn
    by_cases h1 : m < 1
    · have l1 : (m < 1) = True := eq_true h1
      clear hok h1
      go_enter Tryd.func53, Tryd.ntmps53
      go_wp2
      go_ret2
      exact ⟨⟨_, rfl, SOwn.nil _ _⟩, Below.refl _ _⟩
    · have l1 : (m < 1) = False := eq_false h1
      have l2 : ((n : Int) < m) = True := eq_true (by simp at hok; omega)
      clear hok h1
      go_enter Tryd.func53, Tryd.ntmps53
      go_wp2
      go_ret2
      exact ⟨⟨_, rfl, SOwn.nil _ _⟩, Below.refl _ _⟩
  | true =>
    rw [if_pos rfl, if_pos rfl]
    have hok' : 1 ≤ m ∧ m ≤ (n : Int) := by unfold brOk at hok; simpa using hok
    obtain ⟨j, rfl⟩ : ∃ j : Nat, m = (j : Int) := ⟨m.toNat, by omega⟩
    have hc := rbridge_aux n j n (Nat.le_refl _) (by omega) (by omega) L w v hn h hs hl
    obtain ⟨A, cap, rfl⟩ := h.any hn
    have l1 : ((j : Int) < 1) = False := eq_false (by omega)
    have l2 : ((n : Int) < (j : Int)) = False := eq_false (by omega)
    rw [Int.toNat_natCast]
    have Hc := Lib.hid hc
    clear hc h hs hn hok hok'
    go_enter Tryd.func53, Tryd.ntmps53
    go_wp2_with fail
    refine Hc.out.mono ?_
    rintro e w2 ⟨⟨u, rfl, ho⟩, hb⟩
    go_wp2
    go_ret2
    exact ⟨⟨_, rfl, ho⟩, hb⟩
set_option maxRecDepth 100000 in
set_option maxHeartbeats 4000000 in
theorem raudit_aux : ∀ (f m n : Nat), n ≤ f → m < n → ∀ (L : List ByteArray) (w : World) (v : Value), L.length = n → SRead w v L → (∀ s ∈ L, s.size ≤ 80000000) → n < 1000000 →
    Calls Tryd.prog 89 #[.int .i64 (m : Int), v] w fun e w' => (∃ u, e = .returned u ∧ SOwn w.heap.size w' u (audit m L)) ∧ Below w.heap.size w w' := by
  refine sides_ind ?_ ?_ ?_
  · intro L w v hl h hs hb
    obtain ⟨b, o, cap, rfl, hcap⟩ := h.slice hl (by omega)
    rw [audit_end hl]
    clear h hs hl
    go_enter Tryd.func89, Tryd.ntmps89
    go_wp2
    go_ret
    exact ⟨⟨_, rfl, SOwn.new (Nat.le_refl _)⟩, alloc_below' w _⟩
  · intro m n hm hk ih L w v hl h hs hb
    have hk2 := split_lt (n := n) (by omega)
    have hk1 := split_pos (n := n) (by omega)
    have hS := audit_first (m := m) (l := L) (by omega) (by rw [hl]; exact hk)
    rw [hl] at hS
    have h39 := rsplit_all n (by omega)
    obtain ⟨k, hke⟩ : ∃ k, split n = k := ⟨_, rfl⟩
    rw [hke] at hk hk1 hk2 hS h39 ih
    obtain ⟨b, o, cap, rfl, hcap⟩ := h.slice hl (by omega)
    have htk := h.take k (by omega)
    have hdr := h.drop k (by omega)
    rw [hl] at hdr
    obtain ⟨dm, hdm⟩ : ∃ dm, m - k = dm := ⟨_, rfl⟩
    obtain ⟨dn, hdn⟩ : ∃ dn, n - k = dn := ⟨_, rfl⟩
    obtain ⟨r, hr⟩ : ∃ r, root (L.drop k) = r := ⟨_, rfl⟩
    obtain ⟨T, hT⟩ : ∃ T, audit m (L.take k) = T := ⟨_, rfl⟩
    have hTl : T.length ≤ 1000000 := by rw [← hT, audit_length]; have := sides_short 40 m (L.take k).length (by rw [List.length_take]; omega); omega
    rw [hS, hr, hT]
    have HI : Hid (∀ wq, Below w.heap.size w wq → Calls Tryd.prog 89 #[.int .i64 (m : Int), .slice (some ⟨b, o, none⟩) k cap] wq fun e w' => (∃ u, e = .returned u ∧ SOwn wq.heap.size w' u T) ∧ Below wq.heap.size wq w') :=
      Lib.hid fun wq hq => by
        rw [← hT]
        exact ih _ wq _ (by rw [List.length_take]; omega) (htk.below hq rfl) (fun s hs' => hs s (List.mem_of_mem_take hs')) (by omega)
    have HR : Hid (∀ wq, Below w.heap.size w wq → Calls Tryd.prog 37 #[.slice (some ⟨b, o + k, none⟩) (n - k) (cap - k)] wq fun e w' => e = .returned (.string r) ∧ Below wq.heap.size wq w') :=
      Lib.hid fun wq hq => by
        rw [← hr]
        exact rroot_any (hdr.below hq rfl) (fun s hs' => hs s (List.mem_of_mem_drop hs')) (by rw [List.length_drop]; omega)
    have H39 := Lib.hid h39
    obtain ⟨i9, hj, hy0, hy1, hy2⟩ := info_parts winfo9
    have n0 : ((m : Int) == (n : Int)) = false := by rw [beq_eq_false_iff_ne]; omega
    have n1 : ((n : Int) == 1) = false := by rw [beq_eq_false_iff_ne]; omega
    have e1 : IntKind.u64.wrap (n : Int) = (n : Int) := by show (n : Int) % 18446744073709551616 = _; omega
    have e2 : IntKind.i64.wrap (k : Int) = (k : Int) := IntWalk.i64_in _ (by omega)
    have e3 : IntKind.i64.wrap ((m : Int) - (k : Int)) = (m : Int) - (k : Int) := IntWalk.i64_in _ (by omega)
    have l2 : ((m : Int) < (k : Int)) = True := eq_true (by omega)
    have q0 : (0 : Int) ≤ (k : Int) := by omega
    have q1 : (k : Int) ≤ (n : Int) := by omega
    have q2 : (k : Int) ≤ (cap : Int) := by omega
    have q3 : k ≤ n := by omega
    have q4 : k ≤ cap := by omega
    have q5 : ¬ cap = k := by omega
    clear ih hs h h39 htk hdr hS hr hT hl hke hdn hdm
    go_enter Tryd.func89, Tryd.ntmps89
    go_upto_region 2 with fail
    have hb0 := alloc_below' w (.cells #[] 9)
    generalize w.alloc (.cells #[] 9) = w1 at *
    go_wp2_with fail
    refine (H39.out _).mono ?_
    rintro e wq ⟨rfl, hwq⟩
    replace hwq := hwq.symm; subst hwq
    go_wp2_with fail
    skip
    refine (HI.out _ hb0).mono ?_
    rintro e w2 ⟨⟨u, rfl, ho⟩, hb2⟩
    have ho2 := SOwn.base ho hb0.size
    have hbl2 := hb0.trans (hb2.mono hb0.size)
    have Ho2 := Lib.hid ho2; have Hb2 := Lib.hid hbl2
    clear ho hb2 hb0 ho2 hbl2 HI
    go_wp2_with fail
    refine (HR.out _ Hb2.out).mono ?_
    rintro e w3 ⟨rfl, hb3⟩
    have hown3 := SOwn.below Ho2.out hb3; have hbel3 := Hb2.out.trans (hb3.mono Hb2.out.size)
    have hba := alloc_below' w3 (.cells #[.string r] 9)
    have hown4 : (w3.alloc (.cells #[.string r] 9)).ownsRow w.heap.size 9 1 u T.length (svals T) := SOwn.below hown3 hba
    have hbel4 := hbel3.trans (hba.mono hbel3.size)
    have Hbel4 := Lib.hid hbel4
    clear hown3 hbel3 hba hbel4 hb3 Ho2 Hb2 HR
    go_wp2_with (at_builtin; refine wpList_appendN rfl _ _ 25 rfl w.heap.size 9 i9 (.string ⟨#[]⟩) 16 Tryd.underlying25 hj hy0 hy1 hy2 rfl _ _ _ rfl hown4 w3.heap.size 1 rfl #[.string r] _ _ (heap_alloc_new _ _) rfl (by decide) (by intro u hu; simp at hu; rcases hu with rfl; rfl) (by unfold maxLen; omega) (by omega) Hbel4.out.size ?_)
    intro v' w5 ho5 hg5 hv5
    have hbel5 : Below w.heap.size w w5 := Hbel4.out.grown hg5 Hbel4.out.size (fun k hk => (hown4.lt k hk).1)
    have hown5 : SOwn w.heap.size w5 v' (T ++ [r]) := by unfold SOwn; rw [svals_append, List.length_append]; exact ho5
    have H5 := Lib.hid (And.intro hown5 hbel5)
    clear hbel5 hown5 ho5 hg5 hv5 hown4 Hbel4
    go_wp2
    go_ret
    exact ⟨⟨_, rfl, H5.out.1⟩, H5.out.2⟩
  · intro m n hm hi hk ih L w v hl h hs hb
    have hk2 := split_lt (n := n) (by omega)
    have hk1 := split_pos (n := n) (by omega)
    have hS := audit_rest (m := m) (l := L) (by omega) (by rw [hl]; exact hk)
    rw [hl] at hS
    have h39 := rsplit_all n (by omega)
    obtain ⟨k, hke⟩ : ∃ k, split n = k := ⟨_, rfl⟩
    rw [hke] at hk hk1 hk2 hS h39 ih
    obtain ⟨b, o, cap, rfl, hcap⟩ := h.slice hl (by omega)
    have htk := h.take k (by omega)
    have hdr := h.drop k (by omega)
    rw [hl] at hdr
    obtain ⟨dm, hdm⟩ : ∃ dm, m - k = dm := ⟨_, rfl⟩
    obtain ⟨dn, hdn⟩ : ∃ dn, n - k = dn := ⟨_, rfl⟩
    obtain ⟨r, hr⟩ : ∃ r, root (L.take k) = r := ⟨_, rfl⟩
    obtain ⟨T, hT⟩ : ∃ T, audit (m - k) (L.drop k) = T := ⟨_, rfl⟩
    have hTl : T.length ≤ 1000000 := by rw [← hT, audit_length]; have := sides_short 40 (m - k) (L.drop k).length (by rw [List.length_drop]; omega); omega
    rw [hS, hr, hT]
    have HI : Hid (∀ wq, Below w.heap.size w wq → Calls Tryd.prog 89 #[.int .i64 (dm : Int), .slice (some ⟨b, o + k, none⟩) (n - k) (cap - k)] wq fun e w' => (∃ u, e = .returned u ∧ SOwn wq.heap.size w' u T) ∧ Below wq.heap.size wq w') :=
      Lib.hid fun wq hq => by
        rw [← hT]; subst hdm
        exact ih _ wq _ (by rw [List.length_drop, hl]) (hdr.below hq rfl) (fun s hs' => hs s (List.mem_of_mem_drop hs')) (by omega)
    have HR : Hid (∀ wq, Below w.heap.size w wq → Calls Tryd.prog 37 #[.slice (some ⟨b, o, none⟩) k cap] wq fun e w' => e = .returned (.string r) ∧ Below wq.heap.size wq w') :=
      Lib.hid fun wq hq => by
        rw [← hr]
        exact rroot_any (htk.below hq rfl) (fun s hs' => hs s (List.mem_of_mem_take hs')) (by rw [List.length_take]; omega)
    have H39 := Lib.hid h39
    obtain ⟨i9, hj, hy0, hy1, hy2⟩ := info_parts winfo9
    have n0 : ((m : Int) == (n : Int)) = false := by rw [beq_eq_false_iff_ne]; omega
    have n1 : ((n : Int) == 1) = false := by rw [beq_eq_false_iff_ne]; omega
    have e1 : IntKind.u64.wrap (n : Int) = (n : Int) := by show (n : Int) % 18446744073709551616 = _; omega
    have e2 : IntKind.i64.wrap (k : Int) = (k : Int) := IntWalk.i64_in _ (by omega)
    have e3 : IntKind.i64.wrap ((m : Int) - (k : Int)) = (m : Int) - (k : Int) := IntWalk.i64_in _ (by omega)
    have l2 : ((m : Int) < (k : Int)) = False := eq_false (by omega)
    have q0 : (0 : Int) ≤ (k : Int) := by omega
    have q1 : (k : Int) ≤ (n : Int) := by omega
    have q2 : (k : Int) ≤ (cap : Int) := by omega
    have q3 : k ≤ n := by omega
    have q4 : k ≤ cap := by omega
    have q5 : ¬ cap = k := by omega
    have e4 : (m : Int) - (k : Int) = (dm : Int) := by omega
    clear ih hs h h39 htk hdr hS hr hT hl hke hdn hdm
    go_enter Tryd.func89, Tryd.ntmps89
    go_upto_region 2 with fail
    have hb0 := alloc_below' w (.cells #[] 9)
    generalize w.alloc (.cells #[] 9) = w1 at *
    go_wp2_with fail
    refine (H39.out _).mono ?_
    rintro e wq ⟨rfl, hwq⟩
    replace hwq := hwq.symm; subst hwq
    go_wp2_with fail
    first | rw [e4] | skip
    refine (HI.out _ hb0).mono ?_
    rintro e w2 ⟨⟨u, rfl, ho⟩, hb2⟩
    have ho2 := SOwn.base ho hb0.size
    have hbl2 := hb0.trans (hb2.mono hb0.size)
    have Ho2 := Lib.hid ho2; have Hb2 := Lib.hid hbl2
    clear ho hb2 hb0 ho2 hbl2 HI
    go_wp2_with fail
    refine (HR.out _ Hb2.out).mono ?_
    rintro e w3 ⟨rfl, hb3⟩
    have hown3 := SOwn.below Ho2.out hb3; have hbel3 := Hb2.out.trans (hb3.mono Hb2.out.size)
    have hba := alloc_below' w3 (.cells #[.string r] 9)
    have hown4 : (w3.alloc (.cells #[.string r] 9)).ownsRow w.heap.size 9 1 u T.length (svals T) := SOwn.below hown3 hba
    have hbel4 := hbel3.trans (hba.mono hbel3.size)
    have Hbel4 := Lib.hid hbel4
    clear hown3 hbel3 hba hbel4 hb3 Ho2 Hb2 HR
    go_wp2_with (at_builtin; refine wpList_appendN rfl _ _ 25 rfl w.heap.size 9 i9 (.string ⟨#[]⟩) 16 Tryd.underlying25 hj hy0 hy1 hy2 rfl _ _ _ rfl hown4 w3.heap.size 1 rfl #[.string r] _ _ (heap_alloc_new _ _) rfl (by decide) (by intro u hu; simp at hu; rcases hu with rfl; rfl) (by unfold maxLen; omega) (by omega) Hbel4.out.size ?_)
    intro v' w5 ho5 hg5 hv5
    have hbel5 : Below w.heap.size w w5 := Hbel4.out.grown hg5 Hbel4.out.size (fun k hk => (hown4.lt k hk).1)
    have hown5 : SOwn w.heap.size w5 v' (T ++ [r]) := by unfold SOwn; rw [svals_append, List.length_append]; exact ho5
    have H5 := Lib.hid (And.intro hown5 hbel5)
    clear hbel5 hown5 ho5 hg5 hv5 hown4 Hbel4
    go_wp2
    go_ret
    exact ⟨⟨_, rfl, H5.out.1⟩, H5.out.2⟩
set_option maxRecDepth 100000 in
set_option maxHeartbeats 1000000 in
theorem rAudit_any {w : World} {v : Value} {L : List ByteArray} (h : SRead w v L) (hs : ∀ s ∈ L, s.size ≤ 80000000) (hl : L.length < 1000000) (m : Int) :
    Calls Tryd.prog 60 #[.int .i64 m, v] w fun e w' => (∃ u, e = .returned (.tuple #[u, .int .i64 (auE m L.length)]) ∧ SOwn w.heap.size w' u (auL m L)) ∧ Below w.heap.size w w' := by
  obtain ⟨n, hn⟩ : ∃ n, L.length = n := ⟨_, rfl⟩
  unfold auE auL
  rw [hn] at hl ⊢
  cases hok : auOk m n with
  | false =>
    obtain ⟨A, cap, rfl⟩ := h.any hn
    rw [if_neg (by decide), if_neg (by decide)]
    unfold auOk at hok
    clear h hs hn
    by_cases h1 : m < 0
    · have l1 : (m < 0) = True := eq_true h1
      clear hok h1
      go_enter Tryd.func60, Tryd.ntmps60
      go_wp2
      go_ret2
      exact ⟨⟨_, rfl, SOwn.nil _ _⟩, Below.refl _ _⟩
    · have l1 : (m < 0) = False := eq_false h1
      have l2 : ((n : Int) ≤ m) = True := eq_true (by simp at hok; omega)
      clear hok h1
      go_enter Tryd.func60, Tryd.ntmps60
      go_wp2
      go_ret2
      exact ⟨⟨_, rfl, SOwn.nil _ _⟩, Below.refl _ _⟩
  | true =>
    rw [if_pos rfl, if_pos rfl]
    have hok' : 0 ≤ m ∧ m < (n : Int) := by unfold auOk at hok; simpa using hok
    obtain ⟨j, rfl⟩ : ∃ j : Nat, m = (j : Int) := ⟨m.toNat, by omega⟩
    have hc := raudit_aux n j n (Nat.le_refl _) (by omega) L w v hn h hs hl
    obtain ⟨A, cap, rfl⟩ := h.any hn
    have l1 : ((j : Int) < 0) = False := eq_false (by omega)
    have l2 : ((n : Int) ≤ (j : Int)) = False := eq_false (by omega)
    rw [Int.toNat_natCast]
    have Hc := Lib.hid hc
    clear hc h hs hn hok hok'
    go_enter Tryd.func60, Tryd.ntmps60
    go_wp2_with fail
    refine Hc.out.mono ?_
    rintro e w2 ⟨⟨u, rfl, ho⟩, hb⟩
    go_wp2
    go_ret2
    exact ⟨⟨_, rfl, ho⟩, hb⟩
end Go.Proofs.YtkdajlhmodmkoaaDoor

/-
  Layer 9 (proof): the document's Implied and Up walked.
-/
namespace Go.Proofs.YtkdajlhmodmkoaaDoor
open Go.RowKit TreeM
set_option linter.unusedVariables false
set_option linter.unusedSimpArgs false
theorem SRead.snoc {w : World} {v : Value} {Q : List ByteArray} {h : ByteArray} (hr : SRead w v (Q ++ [h])) : ∃ b o cap, v = .slice (some ⟨b, o, none⟩) (Q.length + 1) cap ∧ Q.length + 1 ≤ cap ∧ b < w.heap.size ∧ w.cell? ⟨b, o + Q.length, none⟩ = some (.string h) ∧ SRead w (.slice (some ⟨b, o, none⟩) Q.length cap) Q ∧ Q.length + 1 ≤ maxLen := by
  have hr' := hr
  obtain ⟨A, cap, rfl, hm, hc⟩ := hr'
  obtain ⟨b, o, rfl, h2, h3⟩ := hc Q.length (by simp)
  have ht := hr.take Q.length (by simp)
  rw [List.take_left'  rfl] at ht
  simp only [List.length_append, List.length_singleton] at h2 hm ⊢
  refine ⟨b, o, cap, rfl, by omega, h2.1, ?_, ht, hm⟩
  simpa using h3
theorem snoc_of_pos {Q : List ByteArray} (h : 1 ≤ Q.length) : ∃ Q' h', Q = Q' ++ [h'] := by
  have hne : Q ≠ [] := fun e => by subst e; simp at h
  exact ⟨Q.dropLast, Q.getLast hne, (List.dropLast_concat_getLast hne).symm⟩
theorem imp_first {k : Nat} {ss : List (Bool × Nat)} {h : ByteArray} {q : List ByteArray} : imp ((true, k) :: ss) (h :: q) = ((imp ss q).1, nodeB (imp ss q).2 h) := rfl
theorem imp_rest {k : Nat} {ss : List (Bool × Nat)} {h : ByteArray} {q : List ByteArray} : imp ((false, k) :: ss) (h :: q) = (nodeB h (imp ss q).1, nodeB h (imp ss q).2) := rfl
theorem up_first {k : Nat} {ss : List (Bool × Nat)} {l h : ByteArray} {q : List ByteArray} : up ((true, k) :: ss) l (h :: q) = nodeB (up ss l q) h := rfl
theorem up_rest {k : Nat} {ss : List (Bool × Nat)} {l h : ByteArray} {q : List ByteArray} : up ((false, k) :: ss) l (h :: q) = nodeB h (up ss l q) := rfl
set_option maxRecDepth 100000 in
set_option maxHeartbeats 4000000 in
theorem rimplied_aux : ∀ (f m n : Nat), n ≤ f → 1 ≤ m → m ≤ n → ∀ (Q : List ByteArray) (h : ByteArray) (w : World) (v : Value), Q.length = (steps m n).length → SRead w v (Q ++ [h]) → (∀ s ∈ Q, s.size = 32) → h.size = 32 → n ≤ 1099511627776 →
    Calls Tryd.prog 87 #[.int .u64 (m : Int), .int .u64 (n : Int), v] w fun e w' => e = .returned (.tuple #[.string (imp (steps m n) (h :: Q.reverse)).1, .string (imp (steps m n) (h :: Q.reverse)).2]) ∧ Below w.heap.size w w' := by
  refine steps_ind ?_ ?_ ?_
  · intro n hn Q h w v hl hr hw hh hb
    obtain ⟨b, o, cap, rfl, hcap, hbw, hcell, hsub, hmx⟩ := hr.snoc
    rw [steps_end (Nat.le_refl _)] at hl ⊢
    show Calls _ _ _ _ fun e w' => e = .returned (.tuple #[.string h, .string h]) ∧ Below w.heap.size w w'
    have hmx' : Q.length + 1 ≤ 9223372036854775807 := hmx
    obtain ⟨q, hq⟩ : ∃ q, Q.length = q := ⟨_, rfl⟩
    rw [hq] at hcell hcap hmx' ⊢
    obtain ⟨N, hN⟩ : ∃ N, q + 1 = N := ⟨_, rfl⟩
    rw [hN] at hcap hmx' ⊢
    have e1 : IntKind.i64.wrap ((N : Int) - 1) = (q : Int) := by rw [show (N : Int) - 1 = (q : Int) by omega]; exact IntWalk.i64_in _ (by omega)
    have q0 : (0 : Int) ≤ (q : Int) := by omega
    have q1 : (q : Int) < (N : Int) := by omega
    clear hl hr hw hh hsub hmx hq hN
    go_enter Tryd.func87, Tryd.ntmps87
    go_wp2
    go_ret2
    exact ⟨rfl, Below.refl _ _⟩
  · intro m n h1 hm hk ih Q h w v hl hr hw hh hb
    have hk2 := split_lt (n := n) (by omega)
    have hk1 := split_pos (n := n) (by omega)
    have hS := steps_first h1 hm hk
    have h39 := rsplit_all n (by omega)
    obtain ⟨k, hke⟩ : ∃ k, split n = k := ⟨_, rfl⟩
    rw [hke] at hk hk1 hk2 hS h39 ih
    rw [hS] at hl ⊢
    rw [List.length_cons] at hl
    rw [imp_first]
    obtain ⟨b, o, cap, rfl, hcap, hbw, hcell, hsub, hmx⟩ := hr.snoc
    obtain ⟨Q', h', rfl⟩ := snoc_of_pos (Q := Q) (by omega)
    obtain ⟨dm, hdm⟩ : ∃ dm, m - k = dm := ⟨_, rfl⟩
    obtain ⟨dn, hdn⟩ : ∃ dn, n - k = dn := ⟨_, rfl⟩
    skip
    have hw' : ∀ s ∈ Q', s.size = 32 := fun s hs => hw s (List.mem_append_left _ hs)
    have hh' : h'.size = 32 := hw h' (by simp)
    have hlen : Q'.length = (steps m k).length := by simp at hl; omega
    have hrev : (Q' ++ [h']).reverse = h' :: Q'.reverse := by simp
    rw [hrev]
    have hwd := imp_wide (steps m k) (h' :: Q'.reverse) (fun s hs => (List.mem_cons.1 hs).elim (fun e => e ▸ hh') (fun hs => hw' s (List.mem_reverse.1 hs))) (by simp [hlen])
    obtain ⟨I, hI⟩ : ∃ I, imp (steps m k) (h' :: Q'.reverse) = I := ⟨_, rfl⟩
    have HI : Hid (∀ wq, Below w.heap.size w wq → Calls Tryd.prog 87 #[.int .u64 (m : Int), .int .u64 (k : Int), .slice (some ⟨b, o, none⟩) (Q' ++ [h']).length cap] wq fun e w' => e = .returned (.tuple #[.string I.1, .string I.2]) ∧ Below wq.heap.size wq w') :=
      Lib.hid fun wq hq => by
        rw [← hI]
        exact ih Q' h' wq _ hlen (hsub.below hq rfl) hw' hh' (by omega)
    rw [hI] at hwd ⊢
    obtain ⟨i1, i2⟩ := I
    dsimp only at hwd HI ⊢
    have H39 := Lib.hid h39
    have hmx' : (Q' ++ [h']).length + 1 ≤ 9223372036854775807 := hmx
    obtain ⟨q, hq⟩ : ∃ q, (Q' ++ [h']).length = q := ⟨_, rfl⟩
    rw [hq] at hcell hcap hmx' HI ⊢
    obtain ⟨N, hN⟩ : ∃ N, q + 1 = N := ⟨_, rfl⟩
    rw [hN] at hcap hmx' ⊢
    have Hs := Lib.hid (And.intro hwd.1 (And.intro hwd.2 hh))
    have e1 : IntKind.i64.wrap ((N : Int) - 1) = (q : Int) := by rw [show (N : Int) - 1 = (q : Int) by omega]; exact IntWalk.i64_in _ (by omega)
    have q0 : (0 : Int) ≤ (q : Int) := by omega
    have q1 : (q : Int) < (N : Int) := by omega
    have q2 : (q : Int) ≤ (N : Int) := by omega
    have q3 : (q : Int) ≤ (cap : Int) := by omega
    have q4 : q ≤ N := by omega
    have q5 : q ≤ cap := by omega
    have n0 : ((m : Int) == (n : Int)) = false := by rw [beq_eq_false_iff_ne]; omega
    have l2 : ((m : Int) ≤ (k : Int)) = True := eq_true (by omega)
    skip
    skip
    clear ih hr hw hh hb hsub hmx hq hN hl hlen hrev hwd hI hw' hh' h39 hke hS hdm hdn
    go_enter Tryd.func87, Tryd.ntmps87
    go_wp2_with fail
    refine (H39.out _).mono ?_
    rintro e wq ⟨rfl, hwq⟩
    replace hwq := hwq.symm; subst hwq
    go_wp2_with fail
    refine (HI.out _ (Below.refl _ _)).mono ?_
    rintro e w2 ⟨rfl, hb2⟩
    go_wp2_with fail
    refine (rnodeB _ _ (by have := Hs.out.2.1; omega) (by have := Hs.out.2.2; omega) _).mono ?_
    rintro e w3 ⟨rfl, hb3⟩
    go_wp2
    go_ret2
    exact ⟨rfl, hb2.trans (hb3.mono hb2.size)⟩
  · intro m n hm hk ih Q h w v hl hr hw hh hb
    have hk2 := split_lt (n := n) (by omega)
    have hk1 := split_pos (n := n) (by omega)
    have hS := steps_rest hm hk
    have h39 := rsplit_all n (by omega)
    obtain ⟨k, hke⟩ : ∃ k, split n = k := ⟨_, rfl⟩
    rw [hke] at hk hk1 hk2 hS h39 ih
    rw [hS] at hl ⊢
    rw [List.length_cons] at hl
    rw [imp_rest]
    obtain ⟨b, o, cap, rfl, hcap, hbw, hcell, hsub, hmx⟩ := hr.snoc
    obtain ⟨Q', h', rfl⟩ := snoc_of_pos (Q := Q) (by omega)
    obtain ⟨dm, hdm⟩ : ∃ dm, m - k = dm := ⟨_, rfl⟩
    obtain ⟨dn, hdn⟩ : ∃ dn, n - k = dn := ⟨_, rfl⟩
    rw [hdm, hdn] at ih hl ⊢
    have hw' : ∀ s ∈ Q', s.size = 32 := fun s hs => hw s (List.mem_append_left _ hs)
    have hh' : h'.size = 32 := hw h' (by simp)
    have hlen : Q'.length = (steps dm dn).length := by simp at hl; omega
    have hrev : (Q' ++ [h']).reverse = h' :: Q'.reverse := by simp
    rw [hrev]
    have hwd := imp_wide (steps dm dn) (h' :: Q'.reverse) (fun s hs => (List.mem_cons.1 hs).elim (fun e => e ▸ hh') (fun hs => hw' s (List.mem_reverse.1 hs))) (by simp [hlen])
    obtain ⟨I, hI⟩ : ∃ I, imp (steps dm dn) (h' :: Q'.reverse) = I := ⟨_, rfl⟩
    have HI : Hid (∀ wq, Below w.heap.size w wq → Calls Tryd.prog 87 #[.int .u64 (dm : Int), .int .u64 (dn : Int), .slice (some ⟨b, o, none⟩) (Q' ++ [h']).length cap] wq fun e w' => e = .returned (.tuple #[.string I.1, .string I.2]) ∧ Below wq.heap.size wq w') :=
      Lib.hid fun wq hq => by
        rw [← hI]
        exact ih Q' h' wq _ hlen (hsub.below hq rfl) hw' hh' (by omega)
    rw [hI] at hwd ⊢
    obtain ⟨i1, i2⟩ := I
    dsimp only at hwd HI ⊢
    have H39 := Lib.hid h39
    have hmx' : (Q' ++ [h']).length + 1 ≤ 9223372036854775807 := hmx
    obtain ⟨q, hq⟩ : ∃ q, (Q' ++ [h']).length = q := ⟨_, rfl⟩
    rw [hq] at hcell hcap hmx' HI ⊢
    obtain ⟨N, hN⟩ : ∃ N, q + 1 = N := ⟨_, rfl⟩
    rw [hN] at hcap hmx' ⊢
    have Hs := Lib.hid (And.intro hwd.1 (And.intro hwd.2 hh))
    have e1 : IntKind.i64.wrap ((N : Int) - 1) = (q : Int) := by rw [show (N : Int) - 1 = (q : Int) by omega]; exact IntWalk.i64_in _ (by omega)
    have q0 : (0 : Int) ≤ (q : Int) := by omega
    have q1 : (q : Int) < (N : Int) := by omega
    have q2 : (q : Int) ≤ (N : Int) := by omega
    have q3 : (q : Int) ≤ (cap : Int) := by omega
    have q4 : q ≤ N := by omega
    have q5 : q ≤ cap := by omega
    have n0 : ((m : Int) == (n : Int)) = false := by rw [beq_eq_false_iff_ne]; omega
    have l2 : ((m : Int) ≤ (k : Int)) = False := eq_false (by omega)
    have e2 : IntKind.u64.wrap ((m : Int) - (k : Int)) = (dm : Int) := by rw [show (m : Int) - (k : Int) = (dm : Int) by omega]; show (dm : Int) % 18446744073709551616 = _; omega
    have e3 : IntKind.u64.wrap ((n : Int) - (k : Int)) = (dn : Int) := by rw [show (n : Int) - (k : Int) = (dn : Int) by omega]; show (dn : Int) % 18446744073709551616 = _; omega
    clear ih hr hw hh hb hsub hmx hq hN hl hlen hrev hwd hI hw' hh' h39 hke hS hdm hdn
    go_enter Tryd.func87, Tryd.ntmps87
    go_wp2_with fail
    refine (H39.out _).mono ?_
    rintro e wq ⟨rfl, hwq⟩
    replace hwq := hwq.symm; subst hwq
    go_wp2_with fail
    refine (HI.out _ (Below.refl _ _)).mono ?_
    rintro e w2 ⟨rfl, hb2⟩
    go_wp2_with fail
    refine (rnodeB _ _ (by have := Hs.out.2.2; omega) (by have := Hs.out.1; omega) _).mono ?_
    rintro e w3 ⟨rfl, hb3⟩
    have hb3' := hb2.trans (hb3.mono hb2.size)
    go_wp2_with fail
    refine (rnodeB _ _ (by have := Hs.out.2.2; omega) (by have := Hs.out.2.1; omega) _).mono ?_
    rintro e w4 ⟨rfl, hb4⟩
    go_wp2
    go_ret2
    exact ⟨rfl, hb3'.trans (hb4.mono hb3'.size)⟩
set_option maxRecDepth 100000 in
set_option maxHeartbeats 1000000 in
theorem rImplied_any {w : World} {v : Value} {P : List ByteArray} (h : SRead w v P) (m n : Nat) :
    Calls Tryd.prog 55 #[.int .u64 (m : Int), .int .u64 (n : Int), v] w fun e w' => e = .returned (.tuple #[.string (impA m n P), .string (impB m n P), .int .i64 (impE m n P)]) ∧ Below w.heap.size w w' := by
  have h85 := rmay_any m n w
  obtain ⟨A, cap, rfl⟩ := h.any rfl
  cases hm : mayB m n with
  | false =>
    obtain ⟨e1, e2, e3⟩ := impE_may (P := P) hm
    rw [e1, e2, e3]
    rw [hm] at h85
    clear hm e1 e2 e3 h
    go_enter Tryd.func55, Tryd.ntmps55
    go_wp2_with fail
    refine h85.mono ?_
    rintro e wq ⟨rfl, hwq⟩
    replace hwq := hwq.symm; subst hwq
    go_wp2
    go_ret3
    exact ⟨rfl, Below.refl _ _⟩
  | true =>
    have h57 := rStepsN_any m n w
    rw [hm] at h85
    cases hw : wholeB P (stepsN m n) with
    | false =>
      obtain ⟨e1, e2, e3⟩ := impE_whole hm hw
      rw [e1, e2, e3]
      have h86 := rwhole_any h (stepsN m n)
      rw [hw] at h86
      have H57 := Lib.hid h57; have H86 := Lib.hid h86
      clear hm e1 e2 e3 h hw h57 h86
      generalize stepsN m n = k at *
      generalize P.length = pl at *
      go_enter Tryd.func55, Tryd.ntmps55
      go_wp2_with fail
      refine h85.mono ?_
      rintro e wq ⟨rfl, hwq⟩
      replace hwq := hwq.symm; subst hwq
      go_wp2_with fail
      refine H57.out.mono ?_
      rintro e wq ⟨rfl, hwq⟩
      replace hwq := hwq.symm; subst hwq
      go_wp2_with fail
      refine H86.out.mono ?_
      rintro e wq ⟨rfl, hwq⟩
      replace hwq := hwq.symm; subst hwq
      go_wp2
      go_ret3
      exact ⟨rfl, Below.refl _ _⟩
    | true =>
      obtain ⟨e1, e2, e3⟩ := impE_yes hm hw
      rw [e1, e2, e3]
      have h86 := rwhole_any h (stepsN m n)
      rw [hw] at h86
      obtain ⟨w1, w2⟩ := whole_yes hw
      obtain ⟨m1, m2, m3⟩ := may_yes hm
      rw [stepsN_yes hm] at w1
      obtain ⟨Q, x, rfl⟩ := snoc_of_pos (Q := P) (by omega)
      have h87 := rimplied_aux n m n (Nat.le_refl _) m1 m2 Q x w _ (by simp at w1; omega) h (fun s hs => w2 s (List.mem_append_left _ hs)) (w2 x (by simp)) m3
      rw [show (Q ++ [x]).reverse = x :: Q.reverse by simp]
      have H57 := Lib.hid h57; have H86 := Lib.hid h86; have H87 := Lib.hid h87
      clear hm e1 e2 e3 h hw h57 h86 h87 w1 w2 m1 m2 m3
      generalize imp (steps m n) (x :: Q.reverse) = I at *
      generalize stepsN m n = k at *
      generalize (Q ++ [x]).length = pl at *
      go_enter Tryd.func55, Tryd.ntmps55
      go_wp2_with fail
      refine h85.mono ?_
      rintro e wq ⟨rfl, hwq⟩
      replace hwq := hwq.symm; subst hwq
      go_wp2_with fail
      refine H57.out.mono ?_
      rintro e wq ⟨rfl, hwq⟩
      replace hwq := hwq.symm; subst hwq
      go_wp2_with fail
      refine H86.out.mono ?_
      rintro e wq ⟨rfl, hwq⟩
      replace hwq := hwq.symm; subst hwq
      go_wp2_with fail
      refine H87.out.mono ?_
      rintro e w4 ⟨rfl, hb4⟩
      go_wp2
      go_ret3
      exact ⟨rfl, hb4⟩
set_option maxRecDepth 100000 in
set_option maxHeartbeats 4000000 in
theorem rup_aux (leaf : ByteArray) (hleaf : leaf.size = 32) : ∀ (f i n : Nat), n ≤ f → i < n → ∀ (P : List ByteArray) (w : World) (v : Value), P.length = (sides i n).length → SRead w v P → (∀ s ∈ P, s.size = 32) → n ≤ 1099511627776 →
    Calls Tryd.prog 92 #[.int .u64 (i : Int), .int .u64 (n : Int), .string leaf, v] w fun e w' => e = .returned (.string (up (sides i n) leaf P.reverse)) ∧ Below w.heap.size w w' := by
  refine sides_ind ?_ ?_ ?_
  · intro P w v hl hr hw hb
    obtain ⟨A, cap, rfl⟩ := hr.any rfl
    rw [sides_end (Nat.le_refl _)]
    show Calls _ _ _ _ fun e w' => e = .returned (.string leaf) ∧ Below w.heap.size w w'
    generalize P.length = pl at *
    clear hl hr hw
    go_enter Tryd.func92, Tryd.ntmps92
    go_wp2
    go_ret
    exact ⟨rfl, Below.refl _ _⟩
  · intro m n hm hk ih Q0 w v hl hr hw hb
    have hk2 := split_lt (n := n) (by omega)
    have hk1 := split_pos (n := n) (by omega)
    have hS := sides_first hm hk
    have h39 := rsplit_all n (by omega)
    obtain ⟨k, hke⟩ : ∃ k, split n = k := ⟨_, rfl⟩
    rw [hke] at hk hk1 hk2 hS h39 ih
    rw [hS] at hl ⊢
    rw [List.length_cons] at hl
    obtain ⟨Q, h, rfl⟩ := snoc_of_pos (Q := Q0) (by omega)
    rw [show (Q ++ [h]).reverse = h :: Q.reverse by simp, up_first]
    obtain ⟨b, o, cap, rfl, hcap, hbw, hcell, hsub, hmx⟩ := hr.snoc
    obtain ⟨dm, hdm⟩ : ∃ dm, m - k = dm := ⟨_, rfl⟩
    obtain ⟨dn, hdn⟩ : ∃ dn, n - k = dn := ⟨_, rfl⟩
    skip
    have hw' : ∀ s ∈ Q, s.size = 32 := fun s hs => hw s (List.mem_append_left _ hs)
    have hh : h.size = 32 := hw h (by simp)
    have hlen : Q.length = (sides m k).length := by simp at hl; omega
    have hwd := up_wide (sides m k) leaf Q.reverse hleaf
    obtain ⟨I, hI⟩ : ∃ I, up (sides m k) leaf Q.reverse = I := ⟨_, rfl⟩
    have HI : Hid (∀ wq, Below w.heap.size w wq → Calls Tryd.prog 92 #[.int .u64 (m : Int), .int .u64 (k : Int), .string leaf, .slice (some ⟨b, o, none⟩) Q.length cap] wq fun e w' => e = .returned (.string I) ∧ Below wq.heap.size wq w') :=
      Lib.hid fun wq hq => by
        rw [← hI]
        exact ih Q wq _ hlen (hsub.below hq rfl) hw' (by omega)
    rw [hI] at hwd ⊢
    have H39 := Lib.hid h39
    have hmx' : Q.length + 1 ≤ 9223372036854775807 := hmx
    obtain ⟨q, hq⟩ : ∃ q, Q.length = q := ⟨_, rfl⟩
    rw [hq] at hcell hcap hmx' HI ⊢
    obtain ⟨N, hN⟩ : ∃ N, q + 1 = N := ⟨_, rfl⟩
    rw [hN] at hcap hmx' ⊢
    have Hs := Lib.hid (And.intro hwd hh)
    have e1 : IntKind.i64.wrap ((N : Int) - 1) = (q : Int) := by rw [show (N : Int) - 1 = (q : Int) by omega]; exact IntWalk.i64_in _ (by omega)
    have q0 : (0 : Int) ≤ (q : Int) := by omega
    have q1 : (q : Int) < (N : Int) := by omega
    have q2 : (q : Int) ≤ (N : Int) := by omega
    have q3 : (q : Int) ≤ (cap : Int) := by omega
    have q4 : q ≤ N := by omega
    have q5 : q ≤ cap := by omega
    have n0 : ((n : Int) == 1) = false := by rw [beq_eq_false_iff_ne]; omega
    have l2 : ((m : Int) < (k : Int)) = True := eq_true (by omega)
    skip
    skip
    have Hcell := Lib.hid (And.intro hbw hcell)
    clear ih hr hw hb hsub hmx hq hN hl hlen hwd hI hw' hh h39 hke hS hdm hdn hbw hcell
    go_enter Tryd.func92, Tryd.ntmps92
    go_wp2_with fail
    refine (H39.out _).mono ?_
    rintro e wq ⟨rfl, hwq⟩
    replace hwq := hwq.symm; subst hwq
    go_wp2_with fail
    refine wp_region_T (n := 12) (S := fun wq => Below w.heap.size w wq) (by kernel_rfl) (by kernel_rfl) (below_drewN' (Below.refl _ _) 1) (fun hHeld => ?_)
    refine WalkT.take (i := 0) (oi := _) (v := ?vb1) rfl (by decide) (by kernel_rfl) (by kernel_rfl) (fun _ _ _ h => h) (Or.inl ⟨by kernel_rfl, ?hyb1⟩) (by assumption) ?rb1
    case hyb1 => (intro wq hSw; go_simp; try (with_reducible rfl))
    try simp only [Act.put, List.setIfInBounds_toArray, List.set_cons_zero, List.set_cons_succ]
    refine WalkT.take (i := 1) (oi := _) (v := ?vb2) rfl (by decide) (by kernel_rfl) (by kernel_rfl) (fun _ _ _ h => h) (Or.inl ⟨by kernel_rfl, ?hyb2⟩) (by assumption) ?rb2
    case hyb2 => (intro wq hSw; go_simp; try (with_reducible rfl))
    try simp only [Act.put, List.setIfInBounds_toArray, List.set_cons_zero, List.set_cons_succ]
    refine WalkT.take (i := 2) (oi := _) (v := ?vb3) rfl (by decide) (by kernel_rfl) (by kernel_rfl) (fun _ _ _ h => h) (Or.inl ⟨by kernel_rfl, ?hyb3⟩) (by assumption) ?rb3
    case hyb3 => (intro wq hSw; go_simp; try (with_reducible rfl))
    try simp only [Act.put, List.setIfInBounds_toArray, List.set_cons_zero, List.set_cons_succ]
    refine WalkT.take (i := 3) (oi := _) (v := ?vb4) rfl (by decide) (by kernel_rfl) (by kernel_rfl) (fun _ _ _ h => h) (Or.inl ⟨by kernel_rfl, ?hyb4⟩) (by assumption) ?rb4
    case hyb4 => (intro wq hSw; go_simp; try (with_reducible rfl))
    try simp only [Act.put, List.setIfInBounds_toArray, List.set_cons_zero, List.set_cons_succ]
    refine WalkT.take (i := 4) (oi := _) (v := ?vb5) rfl (by decide) (by kernel_rfl) (by kernel_rfl) (fun _ _ _ h => h) (Or.inl ⟨by kernel_rfl, ?hyb5⟩) (by assumption) ?rb5
    case hyb5 => (intro wq hSw; go_simp; try (with_reducible rfl))
    try simp only [Act.put, List.setIfInBounds_toArray, List.set_cons_zero, List.set_cons_succ]
    refine WalkT.take (i := 5) (oi := _) (v := ?vb6) rfl (by decide) (by kernel_rfl) (by kernel_rfl) (fun _ _ _ h => h) (Or.inl ⟨by kernel_rfl, ?hyb6⟩) (by assumption) ?rb6
    case hyb6 => (intro wq hSw; go_simp; try (with_reducible rfl))
    try simp only [Act.put, List.setIfInBounds_toArray, List.set_cons_zero, List.set_cons_succ]
    refine WalkT.take (i := 7) (oi := _) (v := ?vb7) rfl (by decide) (by kernel_rfl) (by kernel_rfl) (fun _ _ _ h => h) (Or.inl ⟨by kernel_rfl, ?hyb7⟩) (by assumption) ?rb7
    case hyb7 => (intro wq hSw; go_simp; try (with_reducible rfl))
    try simp only [Act.put, List.setIfInBounds_toArray, List.set_cons_zero, List.set_cons_succ]
    refine WalkT.take (i := 8) (oi := _) (v := ?vb8) rfl (by decide) (by kernel_rfl) (by kernel_rfl) (fun _ _ _ h => h) (Or.inl ⟨by kernel_rfl, ?hyb8⟩) (by assumption) ?rb8
    case hyb8 => (intro wq hSw; go_simp; try (with_reducible rfl))
    try simp only [Act.put, List.setIfInBounds_toArray, List.set_cons_zero, List.set_cons_succ]
    refine WalkT.take (i := 9) (oi := _) (v := ?vb9) rfl (by decide) (by kernel_rfl) (by kernel_rfl) (fun _ _ _ h => h) (Or.inl ⟨by kernel_rfl, ?hyb9⟩) (by assumption) ?rb9
    case hyb9 => (intro wq hSw; go_simp; try (with_reducible rfl))
    try simp only [Act.put, List.setIfInBounds_toArray, List.set_cons_zero, List.set_cons_succ]
    refine WalkT.take (i := 10) (oi := _) (v := ?vb10) rfl (by decide) (by kernel_rfl) (by kernel_rfl) (fun _ _ _ h => h) (Or.inl ⟨by kernel_rfl, ?hyb10⟩) (by assumption) ?rb10
    case hyb10 => (intro wq hSw; have q9 := cell_belowB hSw rfl Hcell.out.2; go_simp; try (with_reducible rfl))
    try simp only [Act.put, List.setIfInBounds_toArray, List.set_cons_zero, List.set_cons_succ]
    refine WalkT.one (i := 6) (o := ?ob11) (by kernel_rfl) (by decide) ?hob11 ?hkb11
    case hob11 => (simp only [List.getElem?_toArray, List.getElem?_cons_succ, List.getElem?_cons_zero]; exact rfl)
    intro K hK
    go_simp
    refine (HI.out _ hHeld).mono ?_
    rintro e y6 ⟨rfl, hb⟩
    have hS6 : Below w.heap.size w y6 := Below.trans hHeld (Below.mono hb (Below.size hHeld))
    clear hb hHeld
    go_simp
    refine hK.out _ _ hS6 (fun hHeld => ?_)
    clear hS6
    clear hK K
    try simp only [Act.put, List.setIfInBounds_toArray, List.set_cons_zero, List.set_cons_succ]
    refine WalkT.one (i := 11) (o := ?ob12) (by kernel_rfl) (by decide) ?hob12 ?hkb12
    case hob12 => (simp only [List.getElem?_toArray, List.getElem?_cons_succ, List.getElem?_cons_zero]; exact rfl)
    intro K hK
    go_simp
    refine (rnodeB _ _ (by have := Hs.out.1; omega) (by have := Hs.out.2; omega) _).mono ?_
    rintro e y11 ⟨rfl, hb⟩
    have hS11 : Below w.heap.size w y11 := Below.trans hHeld (Below.mono hb (Below.size hHeld))
    clear hb hHeld
    go_simp
    refine hK.out _ _ hS11 (fun hHeld => ?_)
    clear hS11
    clear hK K
    try simp only [Act.put, List.setIfInBounds_toArray, List.set_cons_zero, List.set_cons_succ]
    refine WalkT.tail (by kernel_rfl) ?_
    have Hend := Lib.hid hHeld; clear hHeld
    simp only [List.drop_succ_cons, List.drop_zero]
    go_wp2
    go_ret
    exact ⟨rfl, Hend.out⟩
  · intro m n hm hi hk ih Q0 w v hl hr hw hb
    have hk2 := split_lt (n := n) (by omega)
    have hk1 := split_pos (n := n) (by omega)
    have hS := sides_rest hm hk
    have h39 := rsplit_all n (by omega)
    obtain ⟨k, hke⟩ : ∃ k, split n = k := ⟨_, rfl⟩
    rw [hke] at hk hk1 hk2 hS h39 ih
    rw [hS] at hl ⊢
    rw [List.length_cons] at hl
    obtain ⟨Q, h, rfl⟩ := snoc_of_pos (Q := Q0) (by omega)
    rw [show (Q ++ [h]).reverse = h :: Q.reverse by simp, up_rest]
    obtain ⟨b, o, cap, rfl, hcap, hbw, hcell, hsub, hmx⟩ := hr.snoc
    obtain ⟨dm, hdm⟩ : ∃ dm, m - k = dm := ⟨_, rfl⟩
    obtain ⟨dn, hdn⟩ : ∃ dn, n - k = dn := ⟨_, rfl⟩
    rw [hdm, hdn] at ih hl ⊢
    have hw' : ∀ s ∈ Q, s.size = 32 := fun s hs => hw s (List.mem_append_left _ hs)
    have hh : h.size = 32 := hw h (by simp)
    have hlen : Q.length = (sides dm dn).length := by simp at hl; omega
    have hwd := up_wide (sides dm dn) leaf Q.reverse hleaf
    obtain ⟨I, hI⟩ : ∃ I, up (sides dm dn) leaf Q.reverse = I := ⟨_, rfl⟩
    have HI : Hid (∀ wq, Below w.heap.size w wq → Calls Tryd.prog 92 #[.int .u64 (dm : Int), .int .u64 (dn : Int), .string leaf, .slice (some ⟨b, o, none⟩) Q.length cap] wq fun e w' => e = .returned (.string I) ∧ Below wq.heap.size wq w') :=
      Lib.hid fun wq hq => by
        rw [← hI]
        exact ih Q wq _ hlen (hsub.below hq rfl) hw' (by omega)
    rw [hI] at hwd ⊢
    have H39 := Lib.hid h39
    have hmx' : Q.length + 1 ≤ 9223372036854775807 := hmx
    obtain ⟨q, hq⟩ : ∃ q, Q.length = q := ⟨_, rfl⟩
    rw [hq] at hcell hcap hmx' HI ⊢
    obtain ⟨N, hN⟩ : ∃ N, q + 1 = N := ⟨_, rfl⟩
    rw [hN] at hcap hmx' ⊢
    have Hs := Lib.hid (And.intro hwd hh)
    have e1 : IntKind.i64.wrap ((N : Int) - 1) = (q : Int) := by rw [show (N : Int) - 1 = (q : Int) by omega]; exact IntWalk.i64_in _ (by omega)
    have q0 : (0 : Int) ≤ (q : Int) := by omega
    have q1 : (q : Int) < (N : Int) := by omega
    have q2 : (q : Int) ≤ (N : Int) := by omega
    have q3 : (q : Int) ≤ (cap : Int) := by omega
    have q4 : q ≤ N := by omega
    have q5 : q ≤ cap := by omega
    have n0 : ((n : Int) == 1) = false := by rw [beq_eq_false_iff_ne]; omega
    have l2 : ((m : Int) < (k : Int)) = False := eq_false (by omega)
    have e2 : IntKind.u64.wrap ((m : Int) - (k : Int)) = (dm : Int) := by rw [show (m : Int) - (k : Int) = (dm : Int) by omega]; show (dm : Int) % 18446744073709551616 = _; omega
    have e3 : IntKind.u64.wrap ((n : Int) - (k : Int)) = (dn : Int) := by rw [show (n : Int) - (k : Int) = (dn : Int) by omega]; show (dn : Int) % 18446744073709551616 = _; omega
    have Hcell := Lib.hid (And.intro hbw hcell)
    clear ih hr hw hb hsub hmx hq hN hl hlen hwd hI hw' hh h39 hke hS hdm hdn hbw hcell
    go_enter Tryd.func92, Tryd.ntmps92
    go_wp2_with fail
    refine (H39.out _).mono ?_
    rintro e wq ⟨rfl, hwq⟩
    replace hwq := hwq.symm; subst hwq
    go_wp2_with fail
    refine wp_region_T (n := 16) (S := fun wq => Below w.heap.size w wq) (by kernel_rfl) (by kernel_rfl) (below_drewN' (Below.refl _ _) 1) (fun hHeld => ?_)
    refine WalkT.take (i := 0) (oi := _) (v := ?vc1) rfl (by decide) (by kernel_rfl) (by kernel_rfl) (fun _ _ _ h => h) (Or.inl ⟨by kernel_rfl, ?hyc1⟩) (by assumption) ?rc1
    case hyc1 => (intro wq hSw; go_simp; try (with_reducible rfl))
    try simp only [Act.put, List.setIfInBounds_toArray, List.set_cons_zero, List.set_cons_succ]
    refine WalkT.take (i := 1) (oi := _) (v := ?vc2) rfl (by decide) (by kernel_rfl) (by kernel_rfl) (fun _ _ _ h => h) (Or.inl ⟨by kernel_rfl, ?hyc2⟩) (by assumption) ?rc2
    case hyc2 => (intro wq hSw; go_simp; try (with_reducible rfl))
    try simp only [Act.put, List.setIfInBounds_toArray, List.set_cons_zero, List.set_cons_succ]
    refine WalkT.take (i := 2) (oi := _) (v := ?vc3) rfl (by decide) (by kernel_rfl) (by kernel_rfl) (fun _ _ _ h => h) (Or.inl ⟨by kernel_rfl, ?hyc3⟩) (by assumption) ?rc3
    case hyc3 => (intro wq hSw; go_simp; try (with_reducible rfl))
    try simp only [Act.put, List.setIfInBounds_toArray, List.set_cons_zero, List.set_cons_succ]
    refine WalkT.take (i := 3) (oi := _) (v := ?vc4) rfl (by decide) (by kernel_rfl) (by kernel_rfl) (fun _ _ _ h => h) (Or.inl ⟨by kernel_rfl, ?hyc4⟩) (by assumption) ?rc4
    case hyc4 => (intro wq hSw; have q9 := cell_belowB hSw rfl Hcell.out.2; go_simp; try (with_reducible rfl))
    try simp only [Act.put, List.setIfInBounds_toArray, List.set_cons_zero, List.set_cons_succ]
    refine WalkT.take (i := 4) (oi := _) (v := ?vc5) rfl (by decide) (by kernel_rfl) (by kernel_rfl) (fun _ _ _ h => h) (Or.inl ⟨by kernel_rfl, ?hyc5⟩) (by assumption) ?rc5
    case hyc5 => (intro wq hSw; go_simp; try (with_reducible rfl))
    try simp only [Act.put, List.setIfInBounds_toArray, List.set_cons_zero, List.set_cons_succ]
    refine WalkT.take (i := 5) (oi := _) (v := ?vc6) rfl (by decide) (by kernel_rfl) (by kernel_rfl) (fun _ _ _ h => h) (Or.inl ⟨by kernel_rfl, ?hyc6⟩) (by assumption) ?rc6
    case hyc6 => (intro wq hSw; go_simp; try (with_reducible rfl))
    try simp only [Act.put, List.setIfInBounds_toArray, List.set_cons_zero, List.set_cons_succ]
    refine WalkT.take (i := 6) (oi := _) (v := ?vc7) rfl (by decide) (by kernel_rfl) (by kernel_rfl) (fun _ _ _ h => h) (Or.inl ⟨by kernel_rfl, ?hyc7⟩) (by assumption) ?rc7
    case hyc7 => (intro wq hSw; go_simp; try (with_reducible rfl))
    try simp only [Act.put, List.setIfInBounds_toArray, List.set_cons_zero, List.set_cons_succ]
    refine WalkT.take (i := 7) (oi := _) (v := ?vc8) rfl (by decide) (by kernel_rfl) (by kernel_rfl) (fun _ _ _ h => h) (Or.inl ⟨by kernel_rfl, ?hyc8⟩) (by assumption) ?rc8
    case hyc8 => (intro wq hSw; go_simp; try (with_reducible rfl))
    try simp only [Act.put, List.setIfInBounds_toArray, List.set_cons_zero, List.set_cons_succ]
    refine WalkT.take (i := 8) (oi := _) (v := ?vc9) rfl (by decide) (by kernel_rfl) (by kernel_rfl) (fun _ _ _ h => h) (Or.inl ⟨by kernel_rfl, ?hyc9⟩) (by assumption) ?rc9
    case hyc9 => (intro wq hSw; go_simp; try (with_reducible rfl))
    try simp only [Act.put, List.setIfInBounds_toArray, List.set_cons_zero, List.set_cons_succ]
    refine WalkT.take (i := 9) (oi := _) (v := ?vc10) rfl (by decide) (by kernel_rfl) (by kernel_rfl) (fun _ _ _ h => h) (Or.inl ⟨by kernel_rfl, ?hyc10⟩) (by assumption) ?rc10
    case hyc10 => (intro wq hSw; go_simp; try (with_reducible rfl))
    try simp only [Act.put, List.setIfInBounds_toArray, List.set_cons_zero, List.set_cons_succ]
    refine WalkT.take (i := 10) (oi := _) (v := ?vc11) rfl (by decide) (by kernel_rfl) (by kernel_rfl) (fun _ _ _ h => h) (Or.inl ⟨by kernel_rfl, ?hyc11⟩) (by assumption) ?rc11
    case hyc11 => (intro wq hSw; go_simp; try (with_reducible rfl))
    try simp only [Act.put, List.setIfInBounds_toArray, List.set_cons_zero, List.set_cons_succ]
    refine WalkT.take (i := 11) (oi := _) (v := ?vc12) rfl (by decide) (by kernel_rfl) (by kernel_rfl) (fun _ _ _ h => h) (Or.inl ⟨by kernel_rfl, ?hyc12⟩) (by assumption) ?rc12
    case hyc12 => (intro wq hSw; go_simp; try (with_reducible rfl))
    try simp only [Act.put, List.setIfInBounds_toArray, List.set_cons_zero, List.set_cons_succ]
    refine WalkT.take (i := 12) (oi := _) (v := ?vc13) rfl (by decide) (by kernel_rfl) (by kernel_rfl) (fun _ _ _ h => h) (Or.inl ⟨by kernel_rfl, ?hyc13⟩) (by assumption) ?rc13
    case hyc13 => (intro wq hSw; go_simp; try (with_reducible rfl))
    try simp only [Act.put, List.setIfInBounds_toArray, List.set_cons_zero, List.set_cons_succ]
    refine WalkT.take (i := 13) (oi := _) (v := ?vc14) rfl (by decide) (by kernel_rfl) (by kernel_rfl) (fun _ _ _ h => h) (Or.inl ⟨by kernel_rfl, ?hyc14⟩) (by assumption) ?rc14
    case hyc14 => (intro wq hSw; go_simp; try (with_reducible rfl))
    try simp only [Act.put, List.setIfInBounds_toArray, List.set_cons_zero, List.set_cons_succ]
    refine WalkT.one (i := 14) (o := ?oc15) (by kernel_rfl) (by decide) ?hoc15 ?hkc15
    case hoc15 => (simp only [List.getElem?_toArray, List.getElem?_cons_succ, List.getElem?_cons_zero]; exact rfl)
    intro K hK
    go_simp
    refine (HI.out _ hHeld).mono ?_
    rintro e y14 ⟨rfl, hb⟩
    have hS14 : Below w.heap.size w y14 := Below.trans hHeld (Below.mono hb (Below.size hHeld))
    clear hb hHeld
    go_simp
    refine hK.out _ _ hS14 (fun hHeld => ?_)
    clear hS14
    clear hK K
    try simp only [Act.put, List.setIfInBounds_toArray, List.set_cons_zero, List.set_cons_succ]
    refine WalkT.one (i := 15) (o := ?oc16) (by kernel_rfl) (by decide) ?hoc16 ?hkc16
    case hoc16 => (simp only [List.getElem?_toArray, List.getElem?_cons_succ, List.getElem?_cons_zero]; exact rfl)
    intro K hK
    go_simp
    refine (rnodeB _ _ (by have := Hs.out.2; omega) (by have := Hs.out.1; omega) _).mono ?_
    rintro e y15 ⟨rfl, hb⟩
    have hS15 : Below w.heap.size w y15 := Below.trans hHeld (Below.mono hb (Below.size hHeld))
    clear hb hHeld
    go_simp
    refine hK.out _ _ hS15 (fun hHeld => ?_)
    clear hS15
    clear hK K
    try simp only [Act.put, List.setIfInBounds_toArray, List.set_cons_zero, List.set_cons_succ]
    refine WalkT.tail (by kernel_rfl) ?_
    have Hend := Lib.hid hHeld; clear hHeld
    simp only [List.drop_succ_cons, List.drop_zero]
    go_wp2
    go_ret
    exact ⟨rfl, Hend.out⟩
set_option maxRecDepth 100000 in
set_option maxHeartbeats 2000000 in
theorem rUp_any {w : World} {v : Value} {P : List ByteArray} (h : SRead w v P) (i n : Nat) (leaf : ByteArray) :
    Calls Tryd.prog 62 #[.int .u64 (i : Int), .int .u64 (n : Int), .string leaf, v] w fun e w' => e = .returned (.tuple #[.string (upS i n leaf P), .int .i64 (upE i n leaf P)]) ∧ Below w.heap.size w w' := by
  obtain ⟨A, cap, rfl⟩ := h.any rfl
  by_cases h1 : i < n
  · have l1 : ((n : Int) ≤ (i : Int)) = False := eq_false (by omega)
    by_cases h2 : n ≤ 1099511627776
    · have l2 : ((1099511627776 : Int) < (n : Int)) = False := eq_false (by omega)
      by_cases h3 : leaf.size = 32
      · have l3 : ((leaf.size : Int) != 32) = false := by rw [bne_eq_false_iff_eq]; omega
        have hok : upOk i n leaf = true := by unfold upOk; simp [h1, h2, h3]
        have h91 := rlong_aux n i n (Nat.le_refl _) h1 h2 w
        cases hw : wholeB P (sides i n).length with
        | false =>
          obtain ⟨e1, e2⟩ := upE_whole hok hw
          rw [e1, e2]
          have h86 := rwhole_any h (sides i n).length
          rw [hw] at h86
          have H91 := Lib.hid h91; have H86 := Lib.hid h86
          clear e1 e2 h hw h91 h86 hok h1 h2 h3
          generalize (sides i n).length = k at *
          generalize P.length = pl at *
          go_enter Tryd.func62, Tryd.ntmps62
          go_wp2_with fail
          refine H91.out.mono ?_
          rintro e wq ⟨rfl, hwq⟩
          replace hwq := hwq.symm; subst hwq
          go_wp2_with fail
          refine H86.out.mono ?_
          rintro e wq ⟨rfl, hwq⟩
          replace hwq := hwq.symm; subst hwq
          go_wp2
          go_ret2
          exact ⟨rfl, Below.refl _ _⟩
        | true =>
          obtain ⟨e1, e2⟩ := upE_yes hok hw
          rw [e1, e2]
          have h86 := rwhole_any h (sides i n).length
          rw [hw] at h86
          obtain ⟨w1, w2⟩ := whole_yes hw
          have h92 := rup_aux leaf h3 n i n (Nat.le_refl _) h1 P w _ w1 h w2 h2
          have H91 := Lib.hid h91; have H86 := Lib.hid h86; have H92 := Lib.hid h92
          clear e1 e2 h hw h91 h86 h92 w1 w2 hok h1 h2 h3
          generalize up (sides i n) leaf P.reverse = R at *
          generalize (sides i n).length = k at *
          generalize P.length = pl at *
          go_enter Tryd.func62, Tryd.ntmps62
          go_wp2_with fail
          refine H91.out.mono ?_
          rintro e wq ⟨rfl, hwq⟩
          replace hwq := hwq.symm; subst hwq
          go_wp2_with fail
          refine H86.out.mono ?_
          rintro e wq ⟨rfl, hwq⟩
          replace hwq := hwq.symm; subst hwq
          go_wp2_with fail
          refine H92.out.mono ?_
          rintro e w4 ⟨rfl, hb4⟩
          go_wp2
          go_ret2
          exact ⟨rfl, hb4⟩
      · have l3 : ((leaf.size : Int) != 32) = true := by rw [bne_iff_ne]; omega
        obtain ⟨e1, e2⟩ := upE_arg (P := P) (show upOk i n leaf = false by unfold upOk; simp [h3])
        rw [e1, e2]
        clear e1 e2 h
        generalize P.length = pl at *
        go_enter Tryd.func62, Tryd.ntmps62
        go_wp2
        go_ret2
        exact ⟨rfl, Below.refl _ _⟩
    · have l2 : ((1099511627776 : Int) < (n : Int)) = True := eq_true (by omega)
      obtain ⟨e1, e2⟩ := upE_arg (P := P) (show upOk i n leaf = false by unfold upOk; simp [h2])
      rw [e1, e2]
      clear e1 e2 h
      generalize P.length = pl at *
      go_enter Tryd.func62, Tryd.ntmps62
      go_wp2
      go_ret2
      exact ⟨rfl, Below.refl _ _⟩
  · have l1 : ((n : Int) ≤ (i : Int)) = True := eq_true (by omega)
    obtain ⟨e1, e2⟩ := upE_arg (P := P) (show upOk i n leaf = false by unfold upOk; simp [h1])
    rw [e1, e2]
    clear e1 e2 h
    generalize P.length = pl at *
    go_enter Tryd.func62, Tryd.ntmps62
    go_wp2
    go_ret2
    exact ⟨rfl, Below.refl _ _⟩
end Go.Proofs.YtkdajlhmodmkoaaDoor

/-
  Layer 9 (proof): the code's Bridge and Audit, errors too.
-/
namespace Go.Proofs.YtkdajlhmodmkoaaDoor
open Go.RowKit TreeM
set_option linter.unusedVariables false
set_option linter.unusedSimpArgs false

set_option maxRecDepth 100000 in
set_option maxHeartbeats 1000000 in
theorem cBridge_any {w : World} (hT : Tab w) {v : Value} {L : List ByteArray} (h : SRead w v L) (hs : ∀ s ∈ L, s.size ≤ 80000000) (hl : L.length < 1000000) (m : Int) :
    Calls Tryd.prog 52 #[.int .i64 m, v] w fun e w' => (∃ u, e = .returned (.tuple #[u, .int .i64 (brE m L.length)]) ∧ SOwn w.heap.size w' u (brL m L)) ∧ Below w.heap.size w w' := by
  obtain ⟨n, hn⟩ : ∃ n, L.length = n := ⟨_, rfl⟩
  unfold brE brL
  rw [hn] at ⊢
  cases hok : brOk m n with
  | false =>
    obtain ⟨A, cap, rfl⟩ := h.any hn
    rw [if_neg (by decide), if_neg (by decide)]
    unfold brOk at hok
    rw [hn] at hl
    clear h hs hn
    by_cases h1 : m < 1
    · have l1 : (m < 1) = True := eq_true h1
      clear hok h1
      go_enter Tryd.func52, Tryd.ntmps52
      go_wp2
      go_ret2
      exact ⟨⟨_, rfl, SOwn.nil _ _⟩, Below.refl _ _⟩
    · have l1 : (m < 1) = False := eq_false h1
      have l2 : ((n : Int) < m) = True := eq_true (by simp at hok; omega)
      clear hok h1
      go_enter Tryd.func52, Tryd.ntmps52
      go_wp2
      go_ret2
      exact ⟨⟨_, rfl, SOwn.nil _ _⟩, Below.refl _ _⟩
  | true =>
    rw [if_pos rfl, if_pos rfl]
    have hok' : 1 ≤ m ∧ m ≤ (n : Int) := by unfold brOk at hok; simpa using hok
    obtain ⟨j, rfl⟩ : ∃ j : Nat, m = (j : Int) := ⟨m.toNat, by omega⟩
    rw [Int.toNat_natCast]
    exact cbridge_yes hT h hs hl j ⟨by omega, by omega⟩
set_option maxRecDepth 100000 in
set_option maxHeartbeats 1000000 in
theorem cAudit_any {w : World} (hT : Tab w) {v : Value} {L : List ByteArray} (h : SRead w v L) (hs : ∀ s ∈ L, s.size ≤ 80000000) (hl : L.length < 1000000) (m : Int) :
    Calls Tryd.prog 59 #[.int .i64 m, v] w fun e w' => (∃ u, e = .returned (.tuple #[u, .int .i64 (auE m L.length)]) ∧ SOwn w.heap.size w' u (auL m L)) ∧ Below w.heap.size w w' := by
  obtain ⟨n, hn⟩ : ∃ n, L.length = n := ⟨_, rfl⟩
  unfold auE auL
  rw [hn] at ⊢
  cases hok : auOk m n with
  | false =>
    obtain ⟨A, cap, rfl⟩ := h.any hn
    rw [if_neg (by decide), if_neg (by decide)]
    unfold auOk at hok
    rw [hn] at hl
    clear h hs hn
    by_cases h1 : m < 0
    · have l1 : (m < 0) = True := eq_true h1
      clear hok h1
      go_enter Tryd.func59, Tryd.ntmps59
      go_wp2
      go_ret2
      exact ⟨⟨_, rfl, SOwn.nil _ _⟩, Below.refl _ _⟩
    · have l1 : (m < 0) = False := eq_false h1
      have l2 : ((n : Int) ≤ m) = True := eq_true (by simp at hok; omega)
      clear hok h1
      go_enter Tryd.func59, Tryd.ntmps59
      go_wp2
      go_ret2
      exact ⟨⟨_, rfl, SOwn.nil _ _⟩, Below.refl _ _⟩
  | true =>
    rw [if_pos rfl, if_pos rfl]
    have hok' : 0 ≤ m ∧ m < (n : Int) := by unfold auOk at hok; simpa using hok
    obtain ⟨j, rfl⟩ : ∃ j : Nat, m = (j : Int) := ⟨m.toNat, by omega⟩
    rw [Int.toNat_natCast]
    exact caudit_yes hT h hs hl j (by omega)
end Go.Proofs.YtkdajlhmodmkoaaDoor

/-
  Layer 9 (proof): the code's Up walked.
-/
namespace Go.Proofs.YtkdajlhmodmkoaaDoor
open Go.RowKit TreeM
set_option linter.unusedVariables false
set_option linter.unusedSimpArgs false

theorem up_round (ss : List (Bool × Nat)) (P : List ByteArray) (leaf : ByteArray) (N : Nat) (hs : ss.length = N) (hp : P.length = N) (t : Nat) (ht : t < N) (b : Bool) (k : Nat) (x : ByteArray) (hb : ss.reverse[t]'(by simp; omega) = (b, k)) (hx : P[t]'(by omega) = x) :
    up (ss.drop (N - (t + 1))) leaf (P.reverse.drop (N - (t + 1))) = if b = true then nodeB (up (ss.drop (N - t)) leaf (P.reverse.drop (N - t))) x else nodeB x (up (ss.drop (N - t)) leaf (P.reverse.drop (N - t))) := by
  obtain ⟨j, hj⟩ : ∃ j, N - (t + 1) = j := ⟨_, rfl⟩
  have e1 : N - t = j + 1 := by omega
  have hj2 : j < ss.length := by omega
  have hj3 : j < P.reverse.length := by rw [List.length_reverse]; omega
  have s1 : ss[j] = (b, k) := by rw [← hb, List.getElem_reverse]; congr 1; omega
  have s2 : P.reverse[j] = x := by rw [← hx, List.getElem_reverse]; congr 1; omega
  rw [hj, e1, List.drop_eq_getElem_cons hj2, List.drop_eq_getElem_cons hj3, s1, s2]
  cases b
  · rw [if_neg (by decide)]; exact up_rest
  · rw [if_pos rfl]; exact up_first
set_option maxRecDepth 100000 in
set_option maxHeartbeats 2000000 in
theorem cup_yes {w : World} (hT : Tab w) {v : Value} {P : List ByteArray} (h : SRead w v P) (i n : Nat) (leaf : ByteArray) (hok : upOk i n leaf = true) (hw : wholeB P (sides i n).length = true) :
    Calls Tryd.prog 61 #[.int .u64 (i : Int), .int .u64 (n : Int), .string leaf, v] w fun e w' => e = .returned (.tuple #[.string (up (sides i n) leaf P.reverse), .int .i64 0]) ∧ Below w.heap.size w w' := by
  obtain ⟨⟨h1, h2⟩, h3⟩ : (i < n ∧ n ≤ 1099511627776) ∧ leaf.size = 32 := by unfold upOk at hok; simpa using hok
  obtain ⟨w1, w2⟩ := whole_yes hw
  have hsn := sides_short 40 i n (by omega)
  have h88 := csides_any (w := w) i n h1 h2
  obtain ⟨ss, hss⟩ : ∃ ss, sides i n = ss := ⟨_, rfl⟩
  rw [hss] at hw w1 hsn h88 ⊢
  obtain ⟨N, hN⟩ : ∃ N, ss.length = N := ⟨_, rfl⟩
  rw [hN] at hw w1 hsn
  have h83 : ∀ wq, Below w.heap.size w wq → Calls Tryd.prog 83 #[v, .int .i64 (N : Int)] wq fun e w' => e = .returned (.bool true) ∧ w' = wq := fun wq hq => by
    have := cwhole_any (h.below hq rfl) N
    rw [hw] at this
    exact this
  have hfin : up (ss.drop (N - N)) leaf (P.reverse.drop (N - N)) = up ss leaf P.reverse := by rw [Nat.sub_self]; rfl
  have hbeg : up (ss.drop (N - 0)) leaf (P.reverse.drop (N - 0)) = leaf := by rw [Nat.sub_zero, List.drop_eq_nil_of_le (by omega)]; rfl
  obtain ⟨R, hR⟩ : ∃ R, up ss leaf P.reverse = R := ⟨_, rfl⟩
  rw [hR] at hfin ⊢
  obtain ⟨A, cap, rfl⟩ := h.any w1
  have hwd : ∀ j, (up (ss.drop j) leaf (P.reverse.drop j)).size = 32 := fun j => up_wide _ _ _ h3
  have HT := Lib.hid hT; have H88 := Lib.hid h88; have H83 := Lib.hid h83; have HP := Lib.hid (And.intro h (And.intro w1 w2)); have HN := Lib.hid hN
  have Hfin := Lib.hid hfin; have Hbeg := Lib.hid hbeg; have Hwd := Lib.hid hwd
  have l1 : ((n : Int) ≤ (i : Int)) = False := eq_false (by omega)
  have l2 : ((1099511627776 : Int) < (n : Int)) = False := eq_false (by omega)
  have l3 : ((leaf.size : Int) != 32) = false := by rw [bne_eq_false_iff_eq]; omega
  clear hT h88 h83 h w1 w2 hw hok hss hR hfin hbeg hwd hN
  go_enter Tryd.func61, Tryd.ntmps61
  go_wp2_with fail
  refine H88.out.mono ?_
  rintro e wa ⟨⟨sv, rfl, hsto⟩, hba⟩
  obtain ⟨As, cs, rfl, -, -⟩ := id (hsto.read (by have := HN.out; unfold maxLen; omega))
  rw [HN.out] at hsto ⊢
  have Hsto := Lib.hid hsto; have Hba := Lib.hid hba
  clear hsto hba H88 h1 h2 h3 l1 l2 l3
  go_wp2_with fail
  refine (H83.out _ Hba.out).mono ?_
  rintro e wq ⟨rfl, hwq⟩
  replace hwq := hwq.symm; subst hwq
  go_wp2_with fail
  refine (crevT Hsto.out (by have := HN.out; unfold maxLen; omega)).mono ?_
  rintro e wb ⟨⟨ru, rfl⟩, hst2, hbb⟩
  have H1 := Lib.hid (And.intro hst2 (Hba.out.trans hbb))
  clear hst2 hbb Hsto Hba H83
  go_wp2
  go_loopw [2, 37] (fun lv iv wr => ∃ t : Nat, iv = .int .i64 (t : Int) ∧ t ≤ N ∧ lv = .string (up (ss.drop (N - t)) leaf (P.reverse.drop (N - t))) ∧ StOwn w.heap.size wr (.slice As N cs) ss.reverse ∧ Below w.heap.size w wr) (fun _ iv _ => N - (intOf iv).toNat)
  case atStart => exact ⟨0, rfl, Nat.zero_le _, by rw [Hbeg.out], H1.out⟩
  case round =>
    obtain ⟨t, rfl, htN, rfl, hst, hbel⟩ := hrel
    clear H1
    by_cases hlt : t < N
    · have l3 : (t : Int) < (N : Int) := by omega
      have hlts : t < ss.reverse.length := by have := HN.out; simp; omega
      have hltp : t < P.length := by have := HP.out.2.1; omega
      obtain ⟨b, k, hbk⟩ : ∃ b k, ss.reverse[t] = (b, k) := ⟨_, _, rfl⟩
      obtain ⟨x, hx⟩ : ∃ x, P[t] = x := ⟨_, rfl⟩
      have hround := up_round ss P leaf N HN.out HP.out.2.1 t hlt b k x hbk hx
      have hxw : x.size = 32 := by rw [← hx]; exact HP.out.2.2 _ (List.getElem_mem _)
      have hst' := hst.read (by have := HN.out; simp; unfold maxLen; omega)
      obtain ⟨As', cs', hse, -, hsc⟩ := hst'
      injection hse with q1 q2 q3
      subst q1 q3
      obtain ⟨bs, os, rfl, -, cb, ck⟩ := hsc t hlts
      clear hsc q2
      rw [hbk] at cb ck
      dsimp only at cb ck
      have hP' := HP.out.1.below hbel rfl
      obtain ⟨A', cap', hse, -, hpc⟩ := hP'
      injection hse with q1 q2 q3
      subst q1 q3
      obtain ⟨bp, op, rfl, hpl, cp⟩ := hpc t hltp
      rw [hx] at cp
      clear hpc q2
      have t0 : (0 : Int) ≤ (t : Int) := by omega
      have hold := Hwd.out (N - t)
      obtain ⟨lf, hlf⟩ : ∃ lf, up (ss.drop (N - t)) leaf (P.reverse.drop (N - t)) = lf := ⟨_, rfl⟩
      rw [hlf] at hround hold ⊢
      have Hround := Lib.hid hround; have Hsz := Lib.hid (And.intro hold hxw); have Hst := Lib.hid hst; have Hbel := Lib.hid hbel; have Hcp := Lib.hid (And.intro hpl.1 cp)
      clear hround hold hxw hst hbel hx hbk hlts hltp hlf cp hpl
      cases b
      · have hB1 := Blk.new wr 94 #[.bool false, .int .u64 (k : Int)]
        have hba := alloc_below' wr (.cells #[.bool false, .int .u64 (k : Int)] 94)
        have hst1 := StOwn.below Hst.out hba
        have hbel1 := Hbel.out.trans (hba.mono Hbel.out.size)
        have hcp1 := cell_belowB hba rfl Hcp.out.2
        obtain ⟨g8, hg8⟩ : ∃ g, wr.heap.size = g := ⟨_, rfl⟩
        obtain ⟨w1, hw1⟩ : ∃ w1, wr.alloc (.cells #[.bool false, .int .u64 (k : Int)] 94) = w1 := ⟨_, rfl⟩
        rw [hw1] at hB1 hst1 hbel1 hcp1; rw [hg8] at hB1
        have HB1 := Lib.hid hB1; have Hst1 := Lib.hid hst1; have Hbel2 := Lib.hid hbel1
        clear hB1 hba hst1 hbel1 Hst Hbel Hcp
        go_upto_region 10 with fail
        clear hw1 hg8 cb ck
        have d0 := HB1.out.cell 0; have d1 := HB1.out.cell 1
        simp only [List.getElem?_toArray, List.getElem?_cons_succ, List.getElem?_cons_zero] at d0 d1
        go_wp2_with fail
        clear d0 d1 hcp1 HB1
        refine (node_any (HT.out.below Hbel2.out) _ _ (by have := Hsz.out.2; omega) (by have := Hsz.out.1; omega)).mono ?_
        rintro e w2 ⟨rfl, hb2⟩
        have hst2 := StOwn.below Hst1.out hb2; have hbel2 := Hbel2.out.trans (hb2.mono Hbel2.out.size)
        have H2 := Lib.hid (And.intro hst2 hbel2)
        clear hst2 hbel2 hb2 Hst1 Hbel2
        go_wp2
        go_roundw
        case rel => exact ⟨t + 1, by go_num, by omega, by rw [Hround.out]; rfl, H2.out⟩
        case measure => simp [intOf]; omega
      · have hB1 := Blk.new wr 94 #[.bool true, .int .u64 (k : Int)]
        have hba := alloc_below' wr (.cells #[.bool true, .int .u64 (k : Int)] 94)
        have hst1 := StOwn.below Hst.out hba
        have hbel1 := Hbel.out.trans (hba.mono Hbel.out.size)
        have hcp1 := cell_belowB hba rfl Hcp.out.2
        obtain ⟨g8, hg8⟩ : ∃ g, wr.heap.size = g := ⟨_, rfl⟩
        obtain ⟨w1, hw1⟩ : ∃ w1, wr.alloc (.cells #[.bool true, .int .u64 (k : Int)] 94) = w1 := ⟨_, rfl⟩
        rw [hw1] at hB1 hst1 hbel1 hcp1; rw [hg8] at hB1
        have HB1 := Lib.hid hB1; have Hst1 := Lib.hid hst1; have Hbel2 := Lib.hid hbel1
        clear hB1 hba hst1 hbel1 Hst Hbel Hcp
        go_upto_region 10 with fail
        clear hw1 hg8 cb ck
        have d0 := HB1.out.cell 0; have d1 := HB1.out.cell 1
        simp only [List.getElem?_toArray, List.getElem?_cons_succ, List.getElem?_cons_zero] at d0 d1
        go_wp2_with fail
        clear d0 d1 hcp1 HB1
        refine (node_any (HT.out.below Hbel2.out) _ _ (by have := Hsz.out.1; omega) (by have := Hsz.out.2; omega)).mono ?_
        rintro e w2 ⟨rfl, hb2⟩
        have hst2 := StOwn.below Hst1.out hb2; have hbel2 := Hbel2.out.trans (hb2.mono Hbel2.out.size)
        have H2 := Lib.hid (And.intro hst2 hbel2)
        clear hst2 hbel2 hb2 Hst1 Hbel2
        go_wp2
        go_roundw
        case rel => exact ⟨t + 1, by go_num, by omega, by rw [Hround.out]; rfl, H2.out⟩
        case measure => simp [intOf]; omega
    · obtain rfl : t = N := by omega
      have l3 : ¬ (t : Int) < (t : Int) := by omega
      have Hbel := Lib.hid hbel
      clear hst hbel
      rw [Hfin.out]
      go_wp2
      go_ret2
      exact ⟨rfl, Hbel.out⟩
set_option maxRecDepth 100000 in
set_option maxHeartbeats 2000000 in
theorem cUp_any {w : World} (hT : Tab w) {v : Value} {P : List ByteArray} (h : SRead w v P) (i n : Nat) (leaf : ByteArray) :
    Calls Tryd.prog 61 #[.int .u64 (i : Int), .int .u64 (n : Int), .string leaf, v] w fun e w' => e = .returned (.tuple #[.string (upS i n leaf P), .int .i64 (upE i n leaf P)]) ∧ Below w.heap.size w w' := by
  by_cases h1 : i < n
  · have l1 : ((n : Int) ≤ (i : Int)) = False := eq_false (by omega)
    by_cases h2 : n ≤ 1099511627776
    · have l2 : ((1099511627776 : Int) < (n : Int)) = False := eq_false (by omega)
      by_cases h3 : leaf.size = 32
      · have l3 : ((leaf.size : Int) != 32) = false := by rw [bne_eq_false_iff_eq]; omega
        have hok : upOk i n leaf = true := by unfold upOk; simp [h1, h2, h3]
        cases hw : wholeB P (sides i n).length with
        | false =>
          obtain ⟨e1, e2⟩ := upE_whole hok hw
          rw [e1, e2]
          have hsn := sides_short 40 i n (by omega)
          have h88 := csides_any (w := w) i n h1 h2
          have h83 : ∀ wq, Below w.heap.size w wq → Calls Tryd.prog 83 #[v, .int .i64 ((sides i n).length : Int)] wq fun e w' => e = .returned (.bool false) ∧ w' = wq := fun wq hq => by
            have := cwhole_any (h.below hq rfl) (sides i n).length
            rw [hw] at this
            exact this
          obtain ⟨A, cap, rfl⟩ := h.any rfl
          have H88 := Lib.hid h88; have H83 := Lib.hid h83
          clear e1 e2 h hw h88 h83 hok h1 h2 h3
          generalize sides i n = ss at *
          generalize P.length = pl at *
          go_enter Tryd.func61, Tryd.ntmps61
          go_wp2_with fail
          refine H88.out.mono ?_
          rintro e wa ⟨⟨sv, rfl, hsto⟩, hba⟩
          obtain ⟨As, cs, rfl, -, -⟩ := id (hsto.read (by unfold maxLen; omega))
          clear hsto
          have Hba := Lib.hid hba; clear hba
          go_wp2_with fail
          refine (H83.out _ Hba.out).mono ?_
          rintro e wq ⟨rfl, hwq⟩
          replace hwq := hwq.symm; subst hwq
          go_wp2
          go_ret2
          exact ⟨rfl, Hba.out⟩
        | true =>
          obtain ⟨e1, e2⟩ := upE_yes hok hw
          rw [e1, e2]
          exact cup_yes hT h i n leaf hok hw
      · obtain ⟨A, cap, rfl⟩ := h.any rfl
        have l3 : ((leaf.size : Int) != 32) = true := by rw [bne_iff_ne]; omega
        obtain ⟨e1, e2⟩ := upE_arg (P := P) (show upOk i n leaf = false by unfold upOk; simp [h3])
        rw [e1, e2]
        clear e1 e2 h
        generalize P.length = pl at *
        go_enter Tryd.func61, Tryd.ntmps61
        go_wp2
        go_ret2
        exact ⟨rfl, Below.refl _ _⟩
    · obtain ⟨A, cap, rfl⟩ := h.any rfl
      have l2 : ((1099511627776 : Int) < (n : Int)) = True := eq_true (by omega)
      obtain ⟨e1, e2⟩ := upE_arg (P := P) (show upOk i n leaf = false by unfold upOk; simp [h2])
      rw [e1, e2]
      clear e1 e2 h
      generalize P.length = pl at *
      go_enter Tryd.func61, Tryd.ntmps61
      go_wp2
      go_ret2
      exact ⟨rfl, Below.refl _ _⟩
  · obtain ⟨A, cap, rfl⟩ := h.any rfl
    have l1 : ((n : Int) ≤ (i : Int)) = True := eq_true (by omega)
    obtain ⟨e1, e2⟩ := upE_arg (P := P) (show upOk i n leaf = false by unfold upOk; simp [h1])
    rw [e1, e2]
    clear e1 e2 h
    generalize P.length = pl at *
    go_enter Tryd.func61, Tryd.ntmps61
    go_wp2
    go_ret2
    exact ⟨rfl, Below.refl _ _⟩
end Go.Proofs.YtkdajlhmodmkoaaDoor
