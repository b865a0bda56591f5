/- Part of the proof of FormsOverSets (plain lists); what it proves holds without further conditions. -/
set_option linter.unusedVariables false
set_option linter.unusedSimpArgs false
namespace Go.Proofs.YtjgakaembhmhpaaGreatDoor.PA
def cmpL : List Int → List Int → Int
  | [], [] => 0
  | [], _ :: _ => -1
  | _ :: _, [] => 1
  | x :: xs, y :: ys => if x < y then -1 else if y < x then 1 else cmpL xs ys
theorem cmpL_self : ∀ x, cmpL x x = 0
  | [] => rfl
  | x :: xs => by simp [cmpL, cmpL_self xs]
theorem cmpL_trans : ∀ {x y z : List Int}, cmpL x y < 0 → cmpL y z < 0 → cmpL x z < 0
  | [], [], _, h, _ => by simp [cmpL] at h
  | [], _ :: _, [], _, h => by simp [cmpL] at h
  | [], _ :: _, _ :: _, _, _ => by simp [cmpL]
  | _ :: _, [], _, h, _ => by simp [cmpL] at h
  | _ :: _, _ :: _, [], _, h => by simp [cmpL] at h
  | x :: xs, y :: ys, z :: zs, h, k => by
    unfold cmpL at h k ⊢
    by_cases h1 : x < y
    · by_cases k1 : y < z
      · have : x < z := by omega
        simp [this]
      · by_cases k2 : z < y
        · simp [k1, k2] at k
        · have : x < z := by omega
          simp [this]
    · by_cases h2 : y < x
      · simp [h1, h2] at h
      · simp only [h1, h2, if_false] at h
        by_cases k1 : y < z
        · have : x < z := by omega
          simp [this]
        · by_cases k2 : z < y
          · simp [k1, k2] at k
          · simp only [k1, k2, if_false] at k
            have a : ¬ x < z := by omega
            have b : ¬ z < x := by omega
            simp only [a, b, if_false]
            exact cmpL_trans h k
theorem cmpL_total : ∀ (x y : List Int), cmpL x y < 0 ∨ x = y ∨ cmpL y x < 0
  | [], [] => Or.inr (Or.inl rfl)
  | [], _ :: _ => Or.inl (by simp [cmpL])
  | _ :: _, [] => Or.inr (Or.inr (by simp [cmpL]))
  | x :: xs, y :: ys => by
    unfold cmpL
    by_cases h1 : x < y
    · simp [h1]
    · by_cases h2 : y < x
      · simp [h2]
      · simp only [h1, h2, if_false]
        rcases cmpL_total xs ys with h | h | h
        · exact Or.inl h
        · exact Or.inr (Or.inl (by rw [h, show x = y by omega]))
        · exact Or.inr (Or.inr h)
def ltL (x y : List Int) : Prop := cmpL x y < 0
def Rise (l : List (List Int)) : Prop := l.Pairwise ltL
def Ris (l : List (List Int)) : Prop := l.Pairwise fun x y => ¬ ltL y x
theorem Rise.eq : ∀ {a b : List (List Int)}, Rise a → Rise b → (∀ x, x ∈ a ↔ x ∈ b) → a = b
  | [], [], _, _, _ => rfl
  | [], y :: b, _, _, h => absurd ((h y).2 List.mem_cons_self) (by simp)
  | x :: a, [], _, _, h => absurd ((h x).1 List.mem_cons_self) (by simp)
  | x :: a, y :: b, ha, hb, h => by
    have ⟨ha1, ha2⟩ := List.pairwise_cons.1 ha
    have ⟨hb1, hb2⟩ := List.pairwise_cons.1 hb
    have exy : x = y := by
      rcases List.mem_cons.1 ((h x).1 List.mem_cons_self) with e | e
      · exact e
      · rcases List.mem_cons.1 ((h y).2 List.mem_cons_self) with e' | e'
        · exact e'.symm
        · have p := hb1 x e
          have q := ha1 y e'
          have := cmpL_trans p q
          rw [cmpL_self] at this
          exact absurd this (by omega)
    subst exy
    have : a = b := Rise.eq ha2 hb2 fun z => by
      have hz := h z
      simp only [List.mem_cons] at hz
      constructor
      · intro hm
        rcases hz.1 (Or.inr hm) with e | e
        · subst e
          have := ha1 z hm
          rw [ltL, cmpL_self] at this
          exact absurd this (by omega)
        · exact e
      · intro hm
        rcases hz.2 (Or.inr hm) with e | e
        · subst e
          have := hb1 z hm
          rw [ltL, cmpL_self] at this
          exact absurd this (by omega)
        · exact e
    rw [this]
theorem Rise.nodup {a : List (List Int)} (h : Rise a) : a.Nodup := by
  refine List.Pairwise.imp ?_ h
  intro x y hxy e
  subst e
  rw [ltL, cmpL_self] at hxy
  exact absurd hxy (by omega)
def squash : List (List Int) → List (List Int)
  | [] => []
  | [x] => [x]
  | x :: y :: t => if x = y then squash (y :: t) else x :: squash (y :: t)
theorem squash_mem : ∀ (l : List (List Int)) (z : List Int), z ∈ squash l ↔ z ∈ l
  | [], _ => Iff.rfl
  | [x], _ => Iff.rfl
  | x :: y :: t, z => by
    unfold squash
    have ih := squash_mem (y :: t) z
    by_cases e : x = y
    · rw [if_pos e, ih]
      subst e
      simp
    · rw [if_neg e, List.mem_cons, ih, List.mem_cons (a := z) (b := x)]
theorem squash_rise : ∀ {l : List (List Int)}, Ris l → Rise (squash l)
  | [], _ => List.Pairwise.nil
  | [x], _ => by unfold squash Rise; simp
  | x :: y :: t, h => by
    have ⟨h1, h2⟩ := List.pairwise_cons.1 h
    unfold squash
    by_cases e : x = y
    · rw [if_pos e]; exact squash_rise h2
    · rw [if_neg e]
      refine List.pairwise_cons.2 ⟨fun z hz => ?_, squash_rise h2⟩
      have hz' := (squash_mem _ _).1 hz
      have hxy : ltL x y := by
        rcases cmpL_total x y with a | a | a
        · exact a
        · exact absurd a e
        · exact absurd a (h1 y List.mem_cons_self)
      rcases List.mem_cons.1 hz' with e2 | e2
      · exact e2 ▸ hxy
      · have hyz := (List.pairwise_cons.1 h2).1 z e2
        rcases cmpL_total y z with a | a | a
        · exact cmpL_trans hxy a
        · exact a ▸ hxy
        · exact absurd a hyz
theorem snoc_ind {α : Type} {p : List α → Prop} (h0 : p []) (h1 : ∀ l v, p l → p (l ++ [v])) (l : List α) : p l := by
  have h : ∀ l : List α, p l.reverse := by
    intro l
    induction l with
    | nil => exact h0
    | cons a t ih => rw [List.reverse_cons]; exact h1 _ _ ih
  have := h l.reverse
  rwa [List.reverse_reverse] at this
def dd (l : List (List Int)) : List (List Int) := l.foldl (fun acc v => if v ∈ acc then acc else acc ++ [v]) []
theorem dd_snoc (l : List (List Int)) (v : List Int) : dd (l ++ [v]) = if v ∈ dd l then dd l else dd l ++ [v] := by
  unfold dd
  rw [List.foldl_append]
  rfl
theorem dd_mem (l : List (List Int)) : ∀ z, z ∈ dd l ↔ z ∈ l := by
  refine snoc_ind (p := fun l => ∀ z, z ∈ dd l ↔ z ∈ l) (fun z => Iff.rfl) (fun l v ih z => ?_) l
  ·
    rw [dd_snoc]
    by_cases h : v ∈ dd l
    · rw [if_pos h, ih, List.mem_append, List.mem_singleton]
      constructor
      · exact Or.inl
      · rintro (a | rfl)
        · exact a
        · exact (ih _).1 h
    · rw [if_neg h, List.mem_append, List.mem_append, ih]
theorem dd_nodup (l : List (List Int)) : (dd l).Nodup := by
  refine snoc_ind (p := fun l => (dd l).Nodup) List.nodup_nil (fun l v ih => ?_) l
  ·
    rw [dd_snoc]
    by_cases h : v ∈ dd l
    · rw [if_pos h]; exact ih
    · rw [if_neg h, List.nodup_append]
      exact ⟨ih, by simp, fun a ha b hb e => h (by simp at hb; subst hb; exact e ▸ ha)⟩
theorem nodup_len {α : Type} : ∀ {a b : List α}, a.Nodup → b.Nodup → (∀ x, x ∈ a ↔ x ∈ b) → a.length = b.length := by
  intro a b ha hb h
  exact ((List.perm_ext_iff_of_nodup ha hb).2 h).length_eq
theorem squash_canon {l r d : List (List Int)} (hs : Ris l) (hm : ∀ x, x ∈ l ↔ x ∈ r) (hd : Rise d) (hdm : ∀ x, x ∈ d ↔ x ∈ r) : squash l = d :=
  Rise.eq (squash_rise hs) hd fun x => (squash_mem l x).trans ((hm x).trans (hdm x).symm)
theorem squash_len {l r : List (List Int)} (hs : Ris l) (hm : ∀ x, x ∈ l ↔ x ∈ r) : (squash l).length = (dd r).length :=
  nodup_len (squash_rise hs).nodup (dd_nodup r) fun x => (squash_mem l x).trans ((hm x).trans (dd_mem r x).symm)
theorem Ris.rise {l : List (List Int)} (h : Ris l) (hn : l.Nodup) : Rise l := by
  refine (List.Pairwise.and h hn).imp ?_
  rintro x y ⟨a, b⟩
  rcases cmpL_total x y with c | c | c
  · exact c
  · exact absurd c b
  · exact absurd c a
end Go.Proofs.YtjgakaembhmhpaaGreatDoor.PA
