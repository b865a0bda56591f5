/- Part of the proof of SetsListed (contracts for the law); what it proves holds without further conditions. -/
import Derived.Test.YtaflckafnpnogaaNA
namespace Go.Proofs.Ytaflckafnpnogaa.PA
open Go.RowKit Go.Proofs.YtaflckafnpnogaaW.PrintWords Go.Proofs.YtaflckafnpnogaaW.PrintLast Go.Proofs.YtaflckafnpnogaaW.PrintMore Go.Proofs.YtaflckafnpnogaaM
set_option linter.unusedVariables false
set_option linter.unusedSimpArgs false
/-! ### the contracts, as the law needs them -/
structure SetAt (A : Option Addr) (c : Nat) (l0 : List S54) (A' : Option Addr) (c' : Nat) (l1 : List S57) (w : World) : Prop where
  hs : Kd.C k54 w A l0.length l0
  hc : l0.length ≤ c
  ks : Kd.C k57 w A' l1.length l1
  kc : l1.length ≤ c'
  n1 : ∀ s ∈ l0, s.f0.size ≤ 100
  n2 : l1.length ≤ 1000
  n3 : ∀ f ∈ l1, f.f1.length ≤ 1000 ∧ ∀ t ∈ f.f1, t.f0.size ≤ 100
section
variable {A A' : Option Addr} {c c' : Nat} {l0 : List S54} {l1 : List S57} {w w' : World}
theorem SetAt.below (h : SetAt A c l0 A' c' l1 w) (hb : Below w.heap.size w w') : SetAt A c l0 A' c' l1 w' :=
  ⟨Kd.C_below h.hs hb, h.hc, Kd.C_below h.ks hb, h.kc, h.n1, h.n2, h.n3⟩
theorem L_fault (h : SetAt A c l0 A' c' l1 w) : Calls Try.prog 6 #[.agg #[.slice A l0.length c, .slice A' l1.length c']] w fun e w' => e = .returned (.int .i64 (setFault l0 l1)) ∧ Below w.heap.size w w' :=
  wbref1_SetFault.calls 300000 A c l0 A' c' l1 _ w h.hs h.hc h.ks h.kc (ref_f l0 h.n1 l1 h.n2 h.n3 300000 (by omega))
theorem L_check (h : SetAt A c l0 A' c' l1 w) : Calls Try.prog 16 #[.agg #[.slice A l0.length c, .slice A' l1.length c']] w fun e w' => e = .returned (.int .i64 (setFault l0 l1)) ∧ Below w.heap.size w w' :=
  affine_CheckSet.calls 300000 A c l0 A' c' l1 _ w h.hs h.hc h.ks h.kc (check_f l0 h.n1 l1 h.n2 h.n3 300000 (by omega))
theorem L_count0 (h : SetAt A c l0 A' c' l1 w) (e : setFault l0 l1 = 0) : Calls Try.prog 8 #[.agg #[.slice A l0.length c, .slice A' l1.length c']] w fun e w' => e = .returned (.tuple #[.int .i64 ((ptsOf l0 l1).length : Int), .int .i64 0]) ∧ Below w.heap.size w w' :=
  affine_Count.calls 300000 A c l0 A' c' l1 _ _ w h.hs h.hc h.ks h.kc (by rw [count_f h.n1 h.n2 h.n3 300000 (by omega), if_pos e])
theorem L_count1 (h : SetAt A c l0 A' c' l1 w) (e : setFault l0 l1 ≠ 0) : Calls Try.prog 8 #[.agg #[.slice A l0.length c, .slice A' l1.length c']] w fun e w' => e = .returned (.tuple #[.int .i64 0, .int .i64 (setFault l0 l1)]) ∧ Below w.heap.size w w' :=
  affine_Count.calls 300000 A c l0 A' c' l1 _ _ w h.hs h.hc h.ks h.kc (by rw [count_f h.n1 h.n2 h.n3 300000 (by omega), if_neg e])
theorem L_has (h : SetAt A c l0 A' c' l1 w) {X : Option Addr} {cx : Nat} {x : List Int} (hx : Kd.C (Kd.int .i64) w X x.length x) (hcx : x.length ≤ cx) {b : Bool} {r : Int} (e : (if setFault l0 l1 = 0 then (if x.length = l0.length then (isPointB l0 l1 x, (0 : Int)) else (false, 3)) else (false, setFault l0 l1)) = (b, r)) :
    Calls Try.prog 7 #[.agg #[.slice A l0.length c, .slice A' l1.length c'], .slice X x.length cx] w fun e w' => e = .returned (.tuple #[.bool b, .int .i64 r]) ∧ Below w.heap.size w w' :=
  affine_Has.calls 300000 A c l0 A' c' l1 X cx x b r w h.hs h.hc h.ks h.kc hx hcx (by rw [has_f h.n1 h.n2 h.n3 300000 (by omega), e])
theorem L_points (h : SetAt A c l0 A' c' l1 w) {s : List (List Int)} {r : Int} (e : (if setFault l0 l1 = 0 then (if (ptsOf l0 l1).length ≤ 5000 then (ptsOf l0 l1, (0 : Int)) else ([], 12)) else ([], setFault l0 l1)) = (s, r)) :
    Calls Try.prog 9 #[.agg #[.slice A l0.length c, .slice A' l1.length c']] w fun e w' => ∃ (X : Option Addr) (cx : Nat), e = .returned (.tuple #[.slice X s.length cx, .int .i64 r]) ∧ Kd.C (Kd.slice 3 (Kd.int .i64)) w' X s.length s ∧ Below w.heap.size w w' :=
  (affine_Points.calls 300000 A c l0 A' c' l1 s r w h.hs h.hc h.ks h.kc (by rw [points_f h.n1 h.n2 h.n3 300000 (by omega), e])).mono fun e w' ⟨v, he, hv, hb⟩ => by
    obtain ⟨X, cx, rfl⟩ : ∃ X cx, v = .slice X s.length cx := Kd.V_slice hv
    exact ⟨X, cx, he, (Kd.V_reads' hv).2.2, hb⟩
theorem L_pointsIn (h : SetAt A c l0 A' c' l1 w) (e : setFault l0 l1 = 0) :
    Calls Try.prog 15 #[.agg #[.slice A l0.length c, .slice A' l1.length c']] w fun e w' => ∃ (X : Option Addr) (cx : Nat), e = .returned (.slice X (ptsOf l0 l1).length cx) ∧ Kd.C (Kd.slice 3 (Kd.int .i64)) w' X (ptsOf l0 l1).length (ptsOf l0 l1) ∧ Below w.heap.size w w' :=
  (wbref1_PointsIn.calls A c l0 A' c' l1 _ w h.hs h.hc h.ks h.kc (pointsIn_f (valid_of e))).mono fun e w' ⟨v, he, hv, hb⟩ => by
    obtain ⟨X, cx, rfl⟩ : ∃ X cx, v = .slice X (ptsOf l0 l1).length cx := Kd.V_slice hv
    exact ⟨X, cx, he, (Kd.V_reads' hv).2.2, hb⟩
theorem L_least (h : SetAt A c l0 A' c' l1 w) {s : List Int} {b : Bool} {r : Int} (e : (if setFault l0 l1 = 0 then (match ptsOf l0 l1 with | [] => (([] : List Int), false, (0 : Int)) | y :: _ => (y, true, 0)) else ([], false, setFault l0 l1)) = (s, b, r)) :
    Calls Try.prog 10 #[.agg #[.slice A l0.length c, .slice A' l1.length c']] w fun e w' => ∃ (X : Option Addr) (cx : Nat), e = .returned (.tuple #[.slice X s.length cx, .bool b, .int .i64 r]) ∧ (s.length ≤ cx ∧ Kd.C (Kd.int .i64) w' X s.length s) ∧ Below w.heap.size w w' :=
  (affine_Least.calls 300000 A c l0 A' c' l1 s b r w h.hs h.hc h.ks h.kc ((least_f h.n1 h.n2 h.n3 300000 (by omega)).trans (congrArg some e))).mono fun e w' ⟨v, he, hv, hb⟩ => by
    obtain ⟨X, cx, rfl, hle, hC⟩ := Kd.R_reads hv
    exact ⟨X, cx, he, ⟨hle, hC⟩, hb⟩
theorem L_greatest (h : SetAt A c l0 A' c' l1 w) {s : List Int} {b : Bool} {r : Int} (e : (if setFault l0 l1 = 0 then (match (ptsOf l0 l1).getLast? with | none => (([] : List Int), false, (0 : Int)) | some y => (y, true, 0)) else ([], false, setFault l0 l1)) = (s, b, r)) :
    Calls Try.prog 11 #[.agg #[.slice A l0.length c, .slice A' l1.length c']] w fun e w' => ∃ (X : Option Addr) (cx : Nat), e = .returned (.tuple #[.slice X s.length cx, .bool b, .int .i64 r]) ∧ (s.length ≤ cx ∧ Kd.C (Kd.int .i64) w' X s.length s) ∧ Below w.heap.size w w' :=
  (affine_Greatest.calls 300000 A c l0 A' c' l1 s b r w h.hs h.hc h.ks h.kc ((greatest_f h.n1 h.n2 h.n3 300000 (by omega)).trans (congrArg some e))).mono fun e w' ⟨v, he, hv, hb⟩ => by
    obtain ⟨X, cx, rfl, hle, hC⟩ := Kd.R_reads hv
    exact ⟨X, cx, he, ⟨hle, hC⟩, hb⟩
end
end Go.Proofs.Ytaflckafnpnogaa.PA
namespace Go.Proofs.Ytaflckafnpnogaa.PA
open Go.RowKit Go.Proofs.YtaflckafnpnogaaW.PrintWords Go.Proofs.YtaflckafnpnogaaW.PrintLast Go.Proofs.YtaflckafnpnogaaW.PrintMore Go.Proofs.YtaflckafnpnogaaM
set_option linter.unusedVariables false
set_option linter.unusedSimpArgs false
/-- what ASet is known to hand back. -/
def ASetSays : Prop := ∀ (w0 w : World) (g b : Nat) (d : List Int), StOk w0 w g d b → b ≤ 1000 → Below w0.heap.size w0 w →
    Calls Try.prog 4 #[.pointer (some ⟨g, 0, none⟩)] w fun e w' => ∃ (A : Option Addr) (c : Nat) (l0 : List S54) (A' : Option Addr) (c' : Nat) (l1 : List S57), e = .returned (.agg #[.slice A l0.length c, .slice A' l1.length c']) ∧ (l0.length ≤ c ∧ l1.length ≤ c') ∧ (l0.length ≤ 10 ∧ (∀ s ∈ l0, s.f0.size ≤ 100) ∧ l1.length ≤ 1000 ∧ ∀ f ∈ l1, f.f1.length ≤ 1000 ∧ ∀ t ∈ f.f1, t.f0.size ≤ 100) ∧ (∃ ok : Nat → Prop, Kd.F k54 w' ok A l0.length l0 ∧ Kd.F k57 w' ok A' l1.length l1 ∧ ¬ ok g) ∧ StOk w0 w' g d (b + 1000) ∧ Below w0.heap.size w0 w'
theorem when_says (a : Bool) (v : Int) (w : World) : Calls Try.prog 13 #[.bool a, .int .i64 v] w fun e w' => e = .returned (.int .i64 (if a = true then v else 0)) ∧ Below w.heap.size w w' :=
  (wblaw1_when.calls a v _ w (by unfold wblaw1_when.f; cases a <;> rfl)).mono fun e w' ⟨he, hd⟩ => ⟨he, below_drawn0 (Below.refl _ _) hd⟩
theorem ints_reads {W : World} {X : Nat} {ty : TypeId} {xs : List Int} (h : W.heap[X]? = some (.cells (nums .i64 xs).toArray ty (0, 0))) (hl : xs.length ≤ 9223372036854775807) : Kd.C (Kd.int .i64) W (some ⟨X, 0, none⟩) xs.length xs := by
  refine ⟨rfl, hl, fun _ => ⟨_, rfl, fun j p hj => ⟨[.int .i64 p], rfl, rfl, fun i u hu => ?_⟩⟩⟩
  have hjl := (List.getElem?_eq_some_iff.1 hj).1
  cases i with
  | zero =>
    simp only [List.getElem?_cons_zero, Option.some.injEq] at hu
    subst hu
    show W.cell? (Addr.add ⟨X, 0, none⟩ (j * 1 + 0)) = _
    rw [Nat.mul_one, Nat.add_zero, add_plain, blk_cell h j]
    simp [nums, hj]
  | succ i => simp at hu
theorem errs_says (X : Nat) (ty : TypeId) (a b : Int) (w : World) (h : w.heap[X]? = some (.cells #[.int .i64 a, .int .i64 b] ty (0, 0))) : Calls Try.prog 12 #[.slice (some ⟨X, 0, none⟩) 2 2] w fun e w' => e = .returned (.int .i64 (if a = 0 then b else a)) ∧ Below w.heap.size w w' :=
  (wblaw1_errs.calls 5 (some ⟨X, 0, none⟩) 2 [a, b] _ w (ints_reads (xs := [a, b]) h (by simp)) (Nat.le_refl _) (by
    unfold wblaw1_errs.f
    by_cases ha : a = 0
    · by_cases hb : b = 0
      · subst ha; subst hb; simp [wblaw1_errs.l0, rd, rdOf, wrap64]
      · subst ha; simp [wblaw1_errs.l0, rd, rdOf, hb, wrap64]
    · simp [wblaw1_errs.l0, rd, rdOf, ha])).mono fun e w' ⟨he, hd⟩ => ⟨he, below_drawn0 (Below.refl _ _) hd⟩
theorem equal_nil (A : Option Addr) (c : Nat) (w : World) : Calls Try.prog 18 #[.slice A 0 c, .slice none 0 0] w fun e w' => e = .returned (.bool true) ∧ Below w.heap.size w w' :=
  (Equal_ints A c [] none 0 [] w ⟨rfl, by decide, fun h => absurd h (Nat.lt_irrefl 0)⟩ (Nat.zero_le _) (Kd.C_nil _ _) (Nat.zero_le _)).mono fun e w' ⟨he, hd⟩ => ⟨by rw [he]; simp, below_drawn0 (Below.refl _ _) hd⟩
theorem same_nil (A : Option Addr) (c : Nat) (w : World) : Calls Try.prog 17 #[.slice A 0 c, .slice none 0 0] w fun e w' => e = .returned (.bool true) ∧ Below w.heap.size w w' :=
  (SameLists_calls A c [] none 0 [] w ⟨rfl, by decide, fun h => absurd h (Nat.lt_irrefl 0)⟩ (Kd.C_nil _ _)).mono fun e w' ⟨he, hd⟩ => ⟨by rw [he]; simp, hd⟩
theorem bst {w w1 w2 : World} (h : Aside0 (Below w.heap.size w w1)) (hb : Below w1.heap.size w1 w2) : Aside0 (Below w.heap.size w w2) := ⟨below_step h.out hb⟩
theorem stp {w w1 w2 : World} {b : Nat} {A A' : Option Addr} {c c' n n' : Nat} (hq : Aside0 (w.heap[b]? = some (.cells #[.slice A n c, .slice A' n' c'] 29 (0, 0)))) (h : Aside0 (Below w.heap.size w w1)) (hb : Below w1.heap.size w1 w2) : Aside0 (Below w.heap.size w w2) ∧ w2.cell? ⟨b, 0, none⟩ = some (.slice A n c) ∧ w2.cell? ⟨b, 1, none⟩ = some (.slice A' n' c') :=
  have k := bst h hb
  have q := blk_below hq.out k.out
  ⟨k, (blk_cell q 0).trans rfl, (blk_cell q 1).trans rfl⟩
theorem same_nil2 (A : Option Addr) (c : Nat) (A' : Option Addr) (c' : Nat) (w : World) : Calls Try.prog 17 #[.slice A 0 c, .slice A' 0 c'] w fun e w' => e = .returned (.bool true) ∧ Below w.heap.size w w' :=
  (SameLists_calls A c [] A' c' [] w ⟨rfl, by decide, fun h => absurd h (Nat.lt_irrefl 0)⟩ ⟨rfl, by decide, fun h => absurd h (Nat.lt_irrefl 0)⟩).mono fun e w' ⟨he, hd⟩ => ⟨by rw [he]; simp, hd⟩
theorem when_t {a : Bool} (h : a = true) (v : Int) (w : World) : Calls Try.prog 13 #[.bool a, .int .i64 v] w fun e w' => e = .returned (.int .i64 v) ∧ Below w.heap.size w w' :=
  (when_says a v w).mono fun e w' ⟨he, hb⟩ => ⟨by rw [he, if_pos h], hb⟩
theorem when_f {a : Bool} (h : a = false) (v : Int) (w : World) : Calls Try.prog 13 #[.bool a, .int .i64 v] w fun e w' => e = .returned (.int .i64 0) ∧ Below w.heap.size w w' :=
  (when_says a v w).mono fun e w' ⟨he, hb⟩ => ⟨by rw [he, h]; rfl, hb⟩
theorem errs0_says (X : Nat) (ty : TypeId) (b : Int) (w : World) (h : w.heap[X]? = some (.cells #[.int .i64 0, .int .i64 b] ty (0, 0))) : Calls Try.prog 12 #[.slice (some ⟨X, 0, none⟩) 2 2] w fun e w' => e = .returned (.int .i64 b) ∧ Below w.heap.size w w' :=
  (errs_says X ty 0 b w h).mono fun e w' ⟨he, hb⟩ => ⟨by rw [he, if_pos rfl], hb⟩
theorem least_val {P : List (List Int)} (h : P ≠ []) : (match P with | [] => (([] : List Int), false, (0 : Int)) | y :: _ => (y, true, 0)) = (rd_LI P 0, true, 0) := by
  cases P with
  | nil => exact absurd rfl h
  | cons y t => rfl
theorem great_val {P : List (List Int)} (h : P ≠ []) : (match P.getLast? with | none => (([] : List Int), false, (0 : Int)) | some y => (y, true, 0)) = (rd_LI P ((P.length : Int) - 1), true, 0) := by
  have hp := List.length_pos_iff.2 h
  have e : P.getLast? = some (rd_LI P ((P.length : Int) - 1)) := by
    rw [List.getLast?_eq_getElem?]
    have en : ((P.length : Int) - 1).toNat = P.length - 1 := by omega
    unfold rd_LI
    rw [en, List.getD_eq_getElem?_getD, List.getElem?_eq_getElem (by omega)]
    rfl
  rw [e]
theorem equal_same (A : Option Addr) (c : Nat) (A' : Option Addr) (c' : Nat) (l : List Int) (w : World) (h : Kd.C (Kd.int .i64) w A l.length l) (hc : l.length ≤ c) (h' : Kd.C (Kd.int .i64) w A' l.length l) (hc' : l.length ≤ c') : Calls Try.prog 18 #[.slice A l.length c, .slice A' l.length c'] w fun e w' => e = .returned (.bool true) ∧ Below w.heap.size w w' :=
  (Equal_ints A c l A' c' l w h hc h' hc').mono fun e w' ⟨he, hd⟩ => ⟨by rw [he]; simp, below_drawn0 (Below.refl _ _) hd⟩
theorem same_same (A : Option Addr) (c : Nat) (A' : Option Addr) (c' : Nat) (l : List (List Int)) (w : World) (h : Kd.C (Kd.slice 3 (Kd.int .i64)) w A l.length l) (h' : Kd.C (Kd.slice 3 (Kd.int .i64)) w A' l.length l) : Calls Try.prog 17 #[.slice A l.length c, .slice A' l.length c'] w fun e w' => e = .returned (.bool true) ∧ Below w.heap.size w w' :=
  (SameLists_calls A c l A' c' l w h h').mono fun e w' ⟨he, hd⟩ => ⟨by rw [he]; simp, hd⟩
section
variable {A A' : Option Addr} {c c' : Nat} {l0 : List S54} {l1 : List S57} {w w' : World}
theorem L_fault0 (h : SetAt A c l0 A' c' l1 w) (e0 : setFault l0 l1 = 0) : Calls Try.prog 6 #[.agg #[.slice A l0.length c, .slice A' l1.length c']] w fun e w' => e = .returned (.int .i64 0) ∧ Below w.heap.size w w' :=
  (L_fault h).mono fun e w' ⟨he, hb⟩ => ⟨by rw [he, e0], hb⟩
theorem L_check0 (h : SetAt A c l0 A' c' l1 w) (e0 : setFault l0 l1 = 0) : Calls Try.prog 16 #[.agg #[.slice A l0.length c, .slice A' l1.length c']] w fun e w' => e = .returned (.int .i64 0) ∧ Below w.heap.size w w' :=
  (L_check h).mono fun e w' ⟨he, hb⟩ => ⟨by rw [he, e0], hb⟩
theorem L_countN {n : Int} (h : SetAt A c l0 A' c' l1 w) (e0 : setFault l0 l1 = 0) (hn : ((ptsOf l0 l1).length : Int) = n) : Calls Try.prog 8 #[.agg #[.slice A l0.length c, .slice A' l1.length c']] w fun e w' => e = .returned (.tuple #[.int .i64 n, .int .i64 0]) ∧ Below w.heap.size w w' :=
  (L_count0 h e0).mono fun e w' ⟨he, hb⟩ => ⟨by rw [he, hn], hb⟩
theorem L_pointsIn0 (h : SetAt A c l0 A' c' l1 w) (e0 : setFault l0 l1 = 0) (hp : ptsOf l0 l1 = []) :
    Calls Try.prog 15 #[.agg #[.slice A l0.length c, .slice A' l1.length c']] w fun e w' => ∃ (X : Option Addr) (cx : Nat), e = .returned (.slice X 0 cx) ∧ Below w.heap.size w w' :=
  (L_pointsIn h e0).mono fun e w' ⟨X, cx, he, _, hb⟩ => ⟨X, cx, by rw [he, hp]; rfl, hb⟩
end
end Go.Proofs.Ytaflckafnpnogaa.PA
