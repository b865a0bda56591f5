/- Part of the proof of FormsOverSets (plain gathering laws); what it proves holds without further conditions. -/
import Derived.Test.YtjgakaembhmhpaaGreatDoorRD
set_option linter.unusedVariables false
set_option linter.unusedSimpArgs false
namespace Go.Proofs.YtjgakaembhmhpaaGreatDoor.PA
open Go.RowKit Go.Proofs.YtjgakaembhmhpaaGreatDoorW.PrintWords Go.Proofs.YtjgakaembhmhpaaGreatDoorW.PrintLast Go.Proofs.YtjgakaembhmhpaaGreatDoorW.PrintMore Go.Proofs.YtjgakaembhmhpaaGreatDoorM
def keyB (l : List Int) : ByteArray := ⟨(rowText l).toArray⟩
theorem keyB_inj {a b : List Int} (hl : a.length = b.length) (h : kS (keyB a) = kS (keyB b)) : a = b := by
  have := kS_inj h
  unfold keyB at this
  injection this with h1
  have h2 := congrArg Array.toList h1
  simp only at h2
  exact rowText_inj hl h2
structure SetIs (m : Nat) (D : DataW Unit) (ks : List (List Int)) : Prop where
  tidy : Maps.Tidy D
  size : Maps.size D = ks.length
  len : ∀ k ∈ ks, k.length = m
  has : ∀ v : List Int, v.length = m → Maps.has D (kS (keyB v)) = decide (v ∈ ks)
theorem SetIs.put {m : Nat} {D : DataW Unit} {ks : List (List Int)} (h : SetIs m D ks) (v : List Int) (hv : v.length = m) (d : DataW Unit) (hm : Maps.IsMap D) (ht : Maps.Tidy (D.put (kS (keyB v)) d)) : SetIs m (D.put (kS (keyB v)) d) (if v ∈ ks then ks else ks ++ [v]) := by
  by_cases hin : v ∈ ks
  · rw [if_pos hin]
    refine ⟨ht, ?_, h.len, fun u hu => ?_⟩
    · rw [Maps.size_put h.tidy, h.has v hv, decide_eq_true hin, if_pos rfl, h.size]
    · by_cases e : u = v
      · subst e
        rw [Maps.has_put_same hm (isKey _), decide_eq_true hin]
      · rw [Maps.has_put_other (fun e' => e (keyB_inj (by rw [hu, hv]) e')), h.has u hu]
  · rw [if_neg hin]
    refine ⟨ht, ?_, fun k hk => ?_, fun u hu => ?_⟩
    · rw [Maps.size_put h.tidy, h.has v hv, decide_eq_false hin, if_neg (by decide), h.size, List.length_append, List.length_singleton]
    · rcases List.mem_append.1 hk with a | a
      · exact h.len k a
      · rw [List.mem_singleton.1 a]; exact hv
    · by_cases e : u = v
      · subst e
        rw [Maps.has_put_same hm (isKey _)]
        simp
      · rw [Maps.has_put_other (fun e' => e (keyB_inj (by rw [hu, hv]) e')), h.has u hu]
        simp [e]
theorem eachL_grow {σ : Type} (m : σ → Nat) {sides : List S77} {conds : List S33} {st : σ → List Int → Bool × σ} (hm : ∀ s x, m s ≤ m (st s x).2) : ∀ (k : Nat) (s : σ) (x : List Int) (s' : σ), eachL sides conds st k s x = some s' → m s ≤ m s'
  | 0, _, _, _, h => by simp [eachL] at h
  | k + 1, s, x, s', h => by
    unfold eachL at h
    have key : ∀ a : σ, (nextOdo sides x).elim (some a) (fun x' => eachL sides conds st k a x') = some s' → m a ≤ m s' := fun a ha => by
      cases hn : nextOdo sides x with
      | none =>
        rw [hn] at ha
        simp only [Option.elim] at ha
        rw [Option.some.inj ha]
        exact Nat.le_refl _
      | some x' =>
        rw [hn] at ha
        exact eachL_grow m hm k a x' s' ha
    by_cases h1 : insideB sides conds x = true
    · rw [if_pos h1] at h
      by_cases h2 : (st s x).1 = true
      · rw [if_pos h2] at h
        exact Nat.le_trans (hm s x) (key _ h)
      · rw [if_neg h2] at h
        rw [← Option.some.inj h]
        exact hm s x
    · rw [if_neg h1] at h
      exact key s h
theorem ends_le {σ : Type} (m : σ → Nat) {sides : List S77} {conds : List S33} {st : σ → List Int → Bool × σ} (hm : ∀ s x, m s ≤ m (st s x).2) {s' t : σ} (h : Ends sides conds st s' t) : m t ≤ m s' := by
  rcases h with rfl | ⟨k, y, h⟩
  · exact Nat.le_refl _
  · exact eachL_grow m hm k t y s' h
def ddF (acc l : List (List Int)) : List (List Int) := l.foldl (fun acc v => if v ∈ acc then acc else acc ++ [v]) acc
theorem ddF_cons (acc : List (List Int)) (v : List Int) (l : List (List Int)) : ddF acc (v :: l) = ddF (if v ∈ acc then acc else acc ++ [v]) l := rfl
theorem ddF_le : ∀ (l acc : List (List Int)), acc.length ≤ (ddF acc l).length
  | [], acc => Nat.le_refl _
  | v :: l, acc => by
    rw [ddF_cons]
    refine Nat.le_trans ?_ (ddF_le l _)
    by_cases h : v ∈ acc
    · rw [if_pos h]; exact Nat.le_refl _
    · rw [if_neg h, List.length_append]; omega
def oversS (ns : List ByteArray) : List S33 → Int
  | [] => 0
  | f :: r => if overS ns f = 0 then oversS ns r else overS ns f
theorem overs_all {ns : List ByteArray} : ∀ {L : List S33}, oversS ns L = 0 → ∀ f ∈ L, overS ns f = 0
  | [], _, f, hf => by simp at hf
  | g :: r, h, f, hf => by
    unfold oversS at h
    by_cases h0 : overS ns g = 0
    · rw [if_pos h0] at h
      rcases List.mem_cons.1 hf with rfl | hf
      · exact h0
      · exact overs_all h f hf
    · rw [if_neg h0] at h
      exact absurd h h0
def pRow (sides : List S77) (ns : List ByteArray) (x : List Int) : List Int := ns.map fun n => rd x (idxFrom (fun s : S77 => s.f0.toList == n.toList) sides 0)
def pAdd (sides : List S77) (ns : List ByteArray) (ks : List (List Int)) (x : List Int) : List (List Int) := if pRow sides ns x ∈ ks then ks else ks ++ [pRow sides ns x]
def stProj (sides : List S77) (ns : List ByteArray) (ks : List (List Int)) (x : List Int) : Bool × List (List Int) := (decide ((pAdd sides ns ks x).length ≤ 5000), pAdd sides ns ks x)
theorem runL_proj (sides : List S77) (ns : List ByteArray) : ∀ (P ks : List (List Int)), ks.length ≤ 5000 →
    ((ddF ks (P.map (pRow sides ns))).length ≤ 5000 → runL (fun _ => true) (stProj sides ns) ks P = ddF ks (P.map (pRow sides ns))) ∧ (5000 < (ddF ks (P.map (pRow sides ns))).length → 5000 < (runL (fun _ => true) (stProj sides ns) ks P).length)
  | [], ks, h => ⟨fun _ => rfl, fun h' => h'⟩
  | x :: P, ks, h => by
    rw [List.map_cons, ddF_cons, runL, if_pos rfl]
    show ((ddF (pAdd sides ns ks x) _).length ≤ 5000 → _ = ddF (pAdd sides ns ks x) _) ∧ (5000 < (ddF (pAdd sides ns ks x) _).length → _)
    have e1 : (stProj sides ns ks x).1 = decide ((pAdd sides ns ks x).length ≤ 5000) := rfl
    have e2 : (stProj sides ns ks x).2 = pAdd sides ns ks x := rfl
    rw [e1, e2]
    by_cases h1 : (pAdd sides ns ks x).length ≤ 5000
    · rw [if_pos (decide_eq_true h1)]
      exact runL_proj sides ns P _ h1
    · rw [if_neg (by rw [decide_eq_true_eq]; exact h1)]
      have := ddF_le (P.map (pRow sides ns)) (pAdd sides ns ks x)
      exact ⟨fun h2 => by omega, fun _ => by omega⟩
theorem wrap_wf (n : Int) : (Lit.int .i64 (wrap64 n)).wf = true := by
  simp only [Lit.wf, IntKind.min, IntKind.max, IntKind.signed, IntKind.bits, Bool.and_eq_true, decide_eq_true_eq, if_true]
  unfold wrap64
  omega
theorem foldTerms_wf (of : ByteArray → Int) : ∀ (l : List S79) (n : Int), (Lit.int .i64 n).wf = true → (Lit.int .i64 (foldTerms of n l)).wf = true
  | [], n, h => h
  | t :: r, n, h => by
    unfold foldTerms
    rw [List.foldl_cons]
    exact foldTerms_wf of r _ (wrap_wf _)
theorem value_wf {sides : List S77} {f : S33} (ho : overS (sides.map (·.f0)) f = 0) (x : List Int) : (Lit.int .i64 (valueOf sides x f)).wf = true := by
  unfold valueOf
  exact foldTerms_wf _ _ _ (wf_of (by have := (over_cd ho).1; omega))
def nameForm (n : ByteArray) : S33 := ⟨0, [⟨n, 1⟩]⟩
theorem valid_name {sides : List S77} {conds : List S33} {n : ByteArray} (h : Valid sides conds) (h1 : nameOk n = true) (h2 : n ∈ sides.map (·.f0)) : Valid sides [nameForm n] :=
  ⟨h.len, h.sd, h.nd, by simp, fun g hg => by
    rw [List.mem_singleton.1 hg]
    refine ⟨by unfold nameForm; simp, by unfold nameForm; simp, fun t ht => ?_⟩
    rw [List.mem_singleton.1 ht]
    exact ⟨⟨h1, by simp, by simp⟩, h2⟩, h.em⟩
theorem name_okForm {n : ByteArray} (h1 : nameOk n = true) : okForm (nameForm n) = true := by
  unfold okForm nameForm
  have := name_size h1
  simp only [Bool.and_eq_true, decide_eq_true_eq, List.all_eq_true]
  refine ⟨wf_of (by omega), by simp, fun t ht => ?_⟩
  rw [List.mem_singleton.1 ht]
  show n.size ≤ maxLen
  unfold maxLen
  omega
theorem name_val {sides : List S77} {conds : List S33} {n : ByteArray} (h : Valid sides conds) (h1 : nameOk n = true) (h2 : n ∈ sides.map (·.f0)) (x : List Int) (hx : ∀ v ∈ x, -1000000 ≤ v ∧ v ≤ 1000000) : refVal sides x (nameForm n) = rd x (idxFrom (fun s : S77 => s.f0.toList == n.toList) sides 0) := by
  rw [← value_eq (valid_name h h1 h2) x (List.mem_singleton.2 rfl)]
  show wrap64 (0 + wrap64 (1 * rd x (idxFrom (fun s : S77 => s.f0.toList == n.toList) sides 0))) = _
  have hb : ∀ i : Int, -1000000 ≤ rd x i ∧ rd x i ≤ 1000000 := fun i => by
    unfold rd
    rw [List.getD_eq_getElem?_getD]
    cases hi : x[i.toNat]? with
    | none => simp
    | some v =>
      obtain ⟨hl, e⟩ := List.getElem?_eq_some_iff.1 hi
      exact hx v (e ▸ List.getElem_mem hl)
  have := hb (idxFrom (fun s : S77 => s.f0.toList == n.toList) sides 0)
  generalize rd x (idxFrom (fun s : S77 => s.f0.toList == n.toList) sides 0) = r at *
  have e1 : wrap64 (1 * r) = r := by rw [Int.one_mul]; exact IntWalk.wrap64_in _ (by omega)
  rw [e1, Int.zero_add]
  exact IntWalk.wrap64_in _ (by omega)
structure NamesOk (sides : List S77) (ns : List ByteArray) : Prop where
  ok : ∀ n ∈ ns, nameOk n = true ∧ n ∈ sides.map (·.f0)
theorem rows_names {sides : List S77} {conds : List S33} {ns : List ByteArray} (h : Valid sides conds) (hn : NamesOk sides ns) : rowsOf sides (ns.map nameForm) (ptsOf sides conds) = (ptsOf sides conds).map (pRow sides ns) := by
  unfold rowsOf
  apply List.map_congr_left
  intro x hx
  unfold pRow
  rw [List.map_map]
  apply List.map_congr_left
  intro n hn'
  exact name_val h (hn.ok n hn').1 (hn.ok n hn').2 x (pts_mem h x hx).2
structure SetB (m : Nat) (D : DataW Unit) (ks : List (List Int)) : Prop where
  is : SetIs m D ks
  at_ : ∀ v : List Int, v.length = m → D.atKey (kS (keyB v)) (.lit (.bool false)) = .lit (.bool (decide (v ∈ ks)))
theorem SetIs.nil (m : Nat) : SetIs m (.map []) [] := ⟨Maps.tidy_empty, rfl, fun k hk => by simp at hk, fun v _ => rfl⟩
theorem SetB.nil (m : Nat) : SetB m (.map []) [] := ⟨SetIs.nil m, fun v _ => rfl⟩
theorem SetB.put {m : Nat} {D : DataW Unit} {ks : List (List Int)} (h : SetB m D ks) (v : List Int) (hv : v.length = m) (hin : v ∉ ks) : SetB m (D.put (kS (keyB v)) (.lit (.bool true))) (ks ++ [v]) := by
  have := h.is.put v hv (.lit (.bool true)) h.is.tidy.isMap (h.is.tidy.put (isKey _) _)
  rw [if_neg hin] at this
  refine ⟨this, fun u hu => ?_⟩
  by_cases e : u = v
  · subst e
    rw [Maps.atKey_put_same h.is.tidy.isMap (isKey _)]
    simp
  · rw [Maps.atKey_put_other (fun e' => e (keyB_inj (by rw [hu, hv]) e')), h.at_ u hu]
    simp [e]
end Go.Proofs.YtjgakaembhmhpaaGreatDoor.PA
