/-
  A slice copied: 'append([]T(nil), xs...)' of a row that is known.
-/
import Derived.Test.YtjmdiobnappgkaaMem
import Derived.Maps.AppendAt
import Derived.Laws.AppendOwnNone
namespace Go.Proofs.Ytjmdiobnappgkaa
open Go.RowKit
set_option linter.unusedVariables false
set_option linter.unusedSimpArgs false

section
variable {P : Program} {w : World}
theorem own_form {base : Nat} {e : TypeId} {size n : Nat} {v : Value} {xs : List Value} (h : w.ownsRow base e size v n xs) : ∃ A c, v = .slice A n c ∧ (∀ k, v.ownBlock = some k → base ≤ k ∧ k < w.heap.size) := by
  have hl := h.lt
  rcases h.2 with ⟨rfl, rfl⟩ | ⟨g, cap, cur, rfl, _⟩
  · exact ⟨none, 0, rfl, hl⟩
  · exact ⟨_, _, rfl, hl⟩

theorem wpList_append_copy {ops : Array Oper} {rest : List Oper} {o : Oper} {a : Act} {Q : Exit → Act → World → Prop} (hgd : o.guard = none) (s x : Operand) (t : TypeId)
    (ho : o.op = .call { callee := .builtin .append, args := #[s, x], argTypes := #[t, t] })
    (base base' : Nat) (e : TypeId) (i : TypeInfo) (z : Value) (size bytes : Nat) (ht : P.underlying t = some (.slice e)) (hi : P.info? e = some i) (hz : i.zero = some z)
    (hsize : i.size = size) (hby : i.bytes = bytes) (hzs : z.cells.size = size) (hsz : 0 < size)
    (hs : a.eval s = .slice none 0 0) (v : Value) (n : Nat) (xs : List Value) (hx : a.eval x = v) (hown : w.ownsRow base e size v n xs) (h1 : ∀ u ∈ xs, u.oneCell' = true)
    (h63 : n ≤ maxLen) (hbytes : n * bytes ≤ 140737488355328) (hbase : base' ≤ w.heap.size)
    (h : ∀ A c w', w'.ownsRow base' e size (.slice A n c) n xs → w.grownBy w' none → (∀ k, (Value.slice A n c).ownBlock = some k → w.heap.size ≤ k) → wpList P ops Q rest (a.put o.dst (.slice A n c)) w') : wpList P ops Q (o :: rest) a w := by
  have hnil := World.ownsRow_nil w base' e size
  rcases hown.2 with ⟨rfl, rfl⟩ | ⟨g, cap, cur, rfl, hg, hh, hn, hm, hsz', htk⟩
  · have hx0 : xs = [] := List.eq_nil_of_length_eq_zero (by rw [hown.1]; simp)
    subst hx0
    exact wpList_append_own_none hgd s x t ho base' e i size ht hi _ 0 [] hs hnil hx (h none 0 w hnil (World.grownBy.refl w _) (by simp [Value.ownBlock]))
  · refine wpList_append_own_at w hgd s x t ho base' e i z size bytes ht hi hz hsize hby hzs hsz _ 0 [] hs hnil ⟨g, 0, none⟩ n cap xs hx hown.1 (hown.cells rfl) h1 (by omega) (by rw [Nat.zero_add]; exact hbytes) hbase ?_
    intro v' w' h2 h3 h4 h5
    rw [Nat.zero_add, List.nil_append] at h2
    have h3' : w.grownBy w' none := h3
    obtain ⟨A, c, rfl, hl⟩ := own_form h2
    refine h A c w' h2 h3' (fun k hk => ?_)
    rcases h5 with h5 | h5
    · rw [h5] at hk; simp [Value.ownBlock] at hk
    · rw [h5] at hk; injection hk with hk; omega
end
end Go.Proofs.Ytjmdiobnappgkaa
