/- Part of the proof of FormsOverSets (plain texts of numbers); what it proves holds without further conditions. -/
import Derived.Lib.ItoaNum
import Derived.Lib.Join
set_option linter.unusedVariables false
set_option linter.unusedSimpArgs false
namespace Go.Proofs.YtjgakaembhmhpaaGreatDoor.PA
open Go.Lib
def decVal (l : List UInt8) : Nat := l.foldl (fun a b => 10 * a + (b.toNat - 48)) 0
theorem decVal_snoc (l : List UInt8) (b : UInt8) : decVal (l ++ [b]) = 10 * decVal l + (b.toNat - 48) := by
  unfold decVal
  rw [List.foldl_append]
  rfl
theorem digit_toNat (d : Nat) (h : d < 10) : (UInt8.ofNat (48 + d)).toNat = 48 + d := by
  rw [UInt8.toNat_ofNat']
  omega
theorem decVal_digits (u : Nat) : decVal (decDigits u) = u := by
  induction u using Nat.strongRecOn with
  | _ u ih =>
    rw [decDigits]
    by_cases h : u < 10
    · rw [dif_pos h]
      unfold decVal
      simp only [List.foldl_cons, List.foldl_nil]
      rw [digit_toNat u h]
      omega
    · rw [dif_neg h, decVal_snoc, ih (u / 10) (by omega), digit_toNat _ (by omega)]
      omega
theorem decDigits_range (u : Nat) : ∀ b ∈ decDigits u, 48 ≤ b.toNat ∧ b.toNat ≤ 57 := by
  induction u using Nat.strongRecOn with
  | _ u ih =>
    rw [decDigits]
    by_cases h : u < 10
    · rw [dif_pos h]
      intro b hb
      simp only [List.mem_singleton] at hb
      subst hb
      rw [digit_toNat u h]
      omega
    · rw [dif_neg h]
      intro b hb
      rcases List.mem_append.1 hb with hb | hb
      · exact ih _ (by omega) b hb
      · simp only [List.mem_singleton] at hb
        subst hb
        rw [digit_toNat _ (by omega)]
        omega
theorem itoa_inj {m n : Int} (h : itoa m = itoa n) : m = n := by
  unfold itoa at h
  have key : ∀ u v : Nat, 45 :: decDigits u = decDigits v → False := by
    intro u v e
    have := decDigits_range v 45 (by rw [← e]; exact List.mem_cons_self)
    exact absurd this.1 (by decide)
  by_cases hm : m < 0
  · by_cases hn : n < 0
    · rw [if_pos hm, if_pos hn] at h
      have e := congrArg decVal (List.cons.inj h).2
      rw [decVal_digits, decVal_digits] at e
      omega
    · rw [if_pos hm, if_neg hn] at h
      exact (key _ _ h).elim
  · by_cases hn : n < 0
    · rw [if_neg hm, if_pos hn] at h
      exact (key _ _ h.symm).elim
    · rw [if_neg hm, if_neg hn] at h
      have e := congrArg decVal h
      rw [decVal_digits, decVal_digits] at e
      omega
theorem itoa_no32 (n : Int) : (32 : UInt8) ∉ itoa n := by
  unfold itoa
  intro h
  have key : ∀ u : Nat, (32 : UInt8) ∈ decDigits u → False := fun u e => absurd (decDigits_range u _ e).1 (by decide)
  by_cases hn : n < 0
  · rw [if_pos hn] at h
    rcases List.mem_cons.1 h with h | h
    · exact absurd h (by decide)
    · exact key _ h
  · rw [if_neg hn] at h
    exact key _ h
theorem split32 : ∀ {x y a b : List UInt8}, (32 : UInt8) ∉ x → (32 : UInt8) ∉ y → x ++ 32 :: a = y ++ 32 :: b → x = y ∧ a = b
  | [], [], _, _, _, _, h => ⟨rfl, (List.cons.inj h).2⟩
  | [], c :: y, _, _, _, hy, h => by
    have := (List.cons.inj h).1
    exact absurd (this ▸ List.mem_cons_self) hy
  | c :: x, [], _, _, hx, _, h => by
    have := (List.cons.inj h).1
    exact absurd (this ▸ List.mem_cons_self) hx
  | c :: x, d :: y, a, b, hx, hy, h => by
    have ⟨h1, h2⟩ := List.cons.inj h
    have ⟨e1, e2⟩ := split32 (fun hh => hx (List.mem_cons_of_mem _ hh)) (fun hh => hy (List.mem_cons_of_mem _ hh)) h2
    exact ⟨by rw [h1, e1], e2⟩
def rowText (l : List Int) : List UInt8 := Lib.join (l.map itoa) [32]
theorem rowText_cons (x y : Int) (l : List Int) : rowText (x :: y :: l) = itoa x ++ 32 :: rowText (y :: l) := by
  unfold rowText Lib.join
  simp [List.intercalate]
theorem rowText_one (x : Int) : rowText [x] = itoa x := by
  unfold rowText Lib.join
  simp [List.intercalate]
theorem rowText_inj : ∀ {a b : List Int}, a.length = b.length → rowText a = rowText b → a = b
  | [], [], _, _ => rfl
  | [], _ :: _, h, _ => by simp at h
  | _ :: _, [], h, _ => by simp at h
  | [x], [y], _, e => by
    rw [rowText_one, rowText_one] at e
    rw [itoa_inj e]
  | [x], _ :: _ :: _, h, _ => by simp at h
  | _ :: _ :: _, [y], h, _ => by simp at h
  | x :: x' :: a, y :: y' :: b, h, e => by
    rw [rowText_cons, rowText_cons] at e
    have ⟨e1, e2⟩ := split32 (itoa_no32 x) (itoa_no32 y) e
    rw [itoa_inj e1, rowText_inj (by simpa using h) e2]
end Go.Proofs.YtjgakaembhmhpaaGreatDoor.PA
