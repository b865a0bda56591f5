/- Part of the proof of FormsOverSets (the walk: the drawn set's parts); what it proves holds without further conditions. -/
import Derived.Laws.CopyOwn
import Derived.Test.YtjgakaembhmhpaaGreatDoorHB
set_option linter.unusedVariables false
set_option linter.unusedSimpArgs false
namespace Go.Proofs.YtjgakaembhmhpaaGreatDoor.PA
open Go.RowKit Go.Proofs.YtjgakaembhmhpaaGreatDoorW.PrintWords Go.Proofs.YtjgakaembhmhpaaGreatDoorW.PrintLast Go.Proofs.YtjgakaembhmhpaaGreatDoorW.PrintMore Go.Proofs.YtjgakaembhmhpaaGreatDoorM
theorem Below_some (a b : Int) (hb : 1 ≤ b) (hb2 : b ≤ 1099511627776) : ∃ r, wbmake_Below.f a b = some r ∧ 0 ≤ r ∧ r < b := by
  unfold wbmake_Below.f
  rw [if_neg (by omega), if_neg (by omega)]
  have h1 := Int.tmod_lt_of_pos a (show 0 < b by omega)
  have h2 : -b < Int.tmod a b := by
    by_cases ha : 0 ≤ a
    · have := Int.tmod_nonneg b ha
      omega
    · have h3 := Int.tmod_lt_of_pos (-a) (show 0 < b by omega)
      rw [Int.neg_tmod] at h3
      omega
  by_cases h : Int.tmod a b < 0
  · rw [if_pos h]
    have e : wrap64 (Int.tmod a b + b) = Int.tmod a b + b := IntWalk.wrap64_in _ (by omega)
    exact ⟨_, rfl, by omega, by omega⟩
  · rw [if_neg h]
    exact ⟨_, rfl, by omega, h1⟩
theorem Next_some (d : List Int) (s a : Int) (hs : 0 ≤ s) (hs2 : s ≤ 1000000) (ha : 1 ≤ a) (ha2 : a ≤ 1099511627776) : ∃ r, wbmake_Stream_Next.f d s a = some (r, s + 1) ∧ 0 ≤ r ∧ r < a := by
  unfold wbmake_Stream_Next.f
  have e1 : wrap64 (s + 1) = s + 1 := IntWalk.wrap64_in _ (by omega)
  have e2 : wrap64 (s + 1 - 1) = s := by rw [show s + 1 - 1 = s by omega]; exact IntWalk.wrap64_in _ (by omega)
  rw [e1, e2]
  by_cases h0 : (d.length : Int) = 0
  · rw [if_pos h0]
    obtain ⟨r, h1, h2⟩ := Below_some (wrap64 ((s + 1) * 7919)) a ha ha2
    rw [h1]
    exact ⟨r, rfl, h2⟩
  · rw [if_neg h0]
    have hp : (0 : Int) < (d.length : Int) := by omega
    have h1 := Int.tmod_lt_of_pos s hp
    have h2 := Int.tmod_nonneg (d.length : Int) hs
    rw [if_pos h2, if_pos h1]
    obtain ⟨r1, g1, g2, g3⟩ := Below_some (rd d (Int.tmod s (d.length : Int))) 1073741824 (by omega) (by omega)
    rw [g1]
    simp only [Option.bind_some]
    obtain ⟨r2, k1, k2⟩ := Below_some (wrap64 (r1 + wrap64 (wrap64 (Int.tdiv s (d.length : Int)) * wrap64 (7919 + Int.tmod s (d.length : Int))))) a ha ha2
    rw [k1]
    exact ⟨r2, rfl, k2⟩
theorem Pick_some (d : List Int) (s : Int) (l : List Int) (hs : 0 ≤ s) (hs2 : s ≤ 1000000) (hl : 1 ≤ l.length) (hl2 : l.length ≤ 1000) : ∃ r, wbmake_Stream_Pick.f d s l = some (r, s + 1) ∧ r ∈ l := by
  unfold wbmake_Stream_Pick.f
  obtain ⟨r, h1, h2, h3⟩ := Next_some d s (l.length : Int) hs hs2 (by omega) (by omega)
  rw [h1]
  simp only [Option.bind_some]
  rw [if_pos h2, if_pos h3]
  refine ⟨_, rfl, ?_⟩
  have hr : r.toNat < l.length := by omega
  simp only [rd, rdOf, List.getD, List.getElem?_eq_getElem hr]
  exact List.getElem_mem hr
theorem Some_some (d : List Int) (s : Int) (l : List ByteArray) (hs : 0 ≤ s) (hs2 : s ≤ 1000000) (hl : 1 ≤ l.length) (hl2 : l.length ≤ 1000) : ∃ r, wbmake_Stream_Some.f d s l = some (r, s + 1) ∧ r ∈ l := by
  unfold wbmake_Stream_Some.f
  obtain ⟨r, h1, h2, h3⟩ := Next_some d s (l.length : Int) hs hs2 (by omega) (by omega)
  rw [h1]
  simp only [Option.bind_some]
  rw [if_pos h2, if_pos h3]
  refine ⟨_, rfl, ?_⟩
  have hr : r.toNat < l.length := by omega
  simp only [rdOf, List.getD, List.getElem?_eq_getElem hr]
  exact List.getElem_mem hr
theorem Flip_some (d : List Int) (s a : Int) (hs : 0 ≤ s) (hs2 : s ≤ 1000000) (ha : 1 ≤ a) (ha2 : a ≤ 1000) : ∃ r, wbmake_Stream_Flip.f d s a = some (r, s + 1) := by
  unfold wbmake_Stream_Flip.f
  obtain ⟨r, h1, h2, h3⟩ := Next_some d s a hs hs2 ha (by omega)
  rw [h1]
  exact ⟨_, rfl⟩
theorem Odd_some (d : List Int) (s a b : Int) (hs : 0 ≤ s) (hs2 : s < 1000000) (h0 : -1000 ≤ a) (h1 : a ≤ b) (h2 : b ≤ 1000) : ∃ r, wbmake_Stream_Odd.f d s a b = some (r, s + 2) := by
  unfold wbmake_Stream_Odd.f
  obtain ⟨f, e1⟩ := Flip_some d s 12 hs (by omega) (by omega) (by omega)
  rw [e1]
  simp only [Option.bind_some]
  have e3 : s + 1 + 1 = s + 2 := by omega
  cases f with
  | true =>
    rw [if_pos rfl]
    obtain ⟨r, e2, _⟩ := Pick_some d (s + 1) ([wrap64 (a - 1), wrap64 (b + 1), a, b, (-1099511627776), 1099511627776] : List Int) (by omega) (by omega) (by simp) (by simp)
    rw [e2, e3]
    exact ⟨_, rfl⟩
  | false =>
    rw [if_neg (by simp)]
    unfold wbmake_Stream_Range.f
    rw [if_neg (by omega)]
    have w1 : wrap64 (b - a) = b - a := IntWalk.wrap64_in _ (by omega)
    have w2 : wrap64 (b - a + 1) = b - a + 1 := IntWalk.wrap64_in _ (by omega)
    rw [w1, w2]
    obtain ⟨r, e2, _, _⟩ := Next_some d (s + 1) (b - a + 1) (by omega) (by omega) (by omega) (by omega)
    rw [e2, e3]
    exact ⟨_, rfl⟩
def StOk (w0 w : World) (g : Nat) (d : List Int) (b : Nat) : Prop := ∃ pos : Int, 0 ≤ pos ∧ pos ≤ b ∧ IsS25 w0 w g d pos
theorem StOk.below {w0 w w1 : World} {g : Nat} {d : List Int} {b : Nat} (h : StOk w0 w g d b) (hb : Below w.heap.size w w1) : StOk w0 w1 g d b := by
  obtain ⟨p, h1, h2, h3⟩ := h
  exact ⟨p, h1, h2, h3.below hb⟩
theorem StOk.kept {w0 w w1 : World} {g : Nat} {d : List Int} {b : Nat} {S : Nat → Prop} (h : StOk w0 w g d b) (hk : Kept w w1 S) (hn : ¬ S g) : StOk w0 w1 g d b := by
  obtain ⟨p, h1, h2, h3⟩ := h
  exact ⟨p, h1, h2, h3.kept hk hn⟩
theorem StOk.lt {w0 w : World} {g : Nat} {d : List Int} {b : Nat} (h : StOk w0 w g d b) : g < w.heap.size := by
  obtain ⟨p, h1, h2, h3⟩ := h
  exact h3.lt
theorem St_Next {w0 w : World} {g : Nat} {d : List Int} {b : Nat} (h : StOk w0 w g d b) (hb : b ≤ 1000000) (hB : Below w0.heap.size w0 w) (a : Int) (ha : 1 ≤ a) (ha2 : a ≤ 1000) :
    Calls Tryz.prog 10 #[.pointer (some ⟨g, 0, none⟩), .int .i64 a] w fun e w' => ∃ r, e = .returned (.int .i64 r) ∧ (0 ≤ r ∧ r < a) ∧ StOk w0 w' g d (b + 1) ∧ Below w0.heap.size w0 w' ∧ KeepBut w w' g none := by
  obtain ⟨p, h1, h2, h3⟩ := h
  obtain ⟨r, e1, e2, e3⟩ := Next_some d p a h1 (by omega) ha (by omega)
  exact (wbmake_Stream_Next.calls g d p a r (p + 1) w0 w h3 hB e1).mono fun e w' ⟨he, hI, hB', hK⟩ => ⟨r, he, ⟨e2, e3⟩, ⟨p + 1, by omega, by omega, hI⟩, hB', hK⟩
theorem St_Flip {w0 w : World} {g : Nat} {d : List Int} {b : Nat} (h : StOk w0 w g d b) (hb : b ≤ 1000000) (hB : Below w0.heap.size w0 w) (a : Int) (ha : 1 ≤ a) (ha2 : a ≤ 1000) :
    Calls Tryz.prog 9 #[.pointer (some ⟨g, 0, none⟩), .int .i64 a] w fun e w' => ∃ r, e = .returned (.bool r) ∧ StOk w0 w' g d (b + 1) ∧ Below w0.heap.size w0 w' ∧ KeepBut w w' g none := by
  obtain ⟨p, h1, h2, h3⟩ := h
  obtain ⟨r, e1⟩ := Flip_some d p a h1 (by omega) ha (by omega)
  exact (wbmake_Stream_Flip.calls g d p a r (p + 1) w0 w h3 hB e1).mono fun e w' ⟨he, hI, hB', hK⟩ => ⟨r, he, ⟨p + 1, by omega, by omega, hI⟩, hB', hK⟩
theorem St_Odd {w0 w : World} {g : Nat} {d : List Int} {b : Nat} (h : StOk w0 w g d b) (hb : b < 1000000) (hB : Below w0.heap.size w0 w) (a c : Int) (ha : -1000 ≤ a) (hac : a ≤ c) (hc : c ≤ 1000) :
    Calls Tryz.prog 41 #[.pointer (some ⟨g, 0, none⟩), .int .i64 a, .int .i64 c] w fun e w' => ∃ r, e = .returned (.int .i64 r) ∧ StOk w0 w' g d (b + 2) ∧ Below w0.heap.size w0 w' ∧ KeepBut w w' g none := by
  obtain ⟨p, h1, h2, h3⟩ := h
  obtain ⟨r, e1⟩ := Odd_some d p a c h1 (by omega) ha hac hc
  exact (wbmake_Stream_Odd.calls g d p a c r (p + 2) w0 w h3 hB e1).mono fun e w' ⟨he, hI, hB', hK⟩ => ⟨r, he, ⟨p + 2, by omega, by omega, hI⟩, hB', hK⟩
theorem St_Pick {w0 w : World} {g : Nat} {d : List Int} {b : Nat} (h : StOk w0 w g d b) (hb : b ≤ 1000000) (hB : Below w0.heap.size w0 w) (X c : Nat) (l : List Int) (hr : IntRow w X l) (hc : l.length ≤ c) (hl : 1 ≤ l.length) (hl2 : l.length ≤ 1000) :
    Calls Tryz.prog 40 #[.pointer (some ⟨g, 0, none⟩), .slice (some ⟨X, 0, none⟩) l.length c] w fun e w' => ∃ r, e = .returned (.int .i64 r) ∧ r ∈ l ∧ StOk w0 w' g d (b + 1) ∧ Below w0.heap.size w0 w' ∧ KeepBut w w' g none := by
  obtain ⟨p, h1, h2, h3⟩ := h
  obtain ⟨r, e1, e2⟩ := Pick_some d p l h1 (by omega) hl hl2
  have hne : ∀ ad : Addr, (some ⟨X, 0, none⟩ : Option Addr) = some ad → 0 < l.length → ad.block ≠ g := by
    intro ad e _ hg
    injection e with e
    subst e
    obtain ⟨A0, c0, hb0, _⟩ := h3
    exact blk_ne hr hb0 (by decide) hg
  exact (wbmake_Stream_Pick.calls g d p _ c l r (p + 1) w0 w h3 hB (hr.reads (by omega)) hc hne e1).mono fun e w' ⟨he, hI, hB', hK⟩ => ⟨r, he, e2, ⟨p + 1, by omega, by omega, hI⟩, hB', hK⟩
theorem run_copy_sized {P : Program} (w : World) (dT sT ty elem : TypeId) (sz g o dLen dCap : Nat) (a : Addr) (sLen sCap : Nat) (cur : Array Value) (t : TypeId) (cs : List Value)
    (hu : P.underlying dT = some (.slice elem)) (hs : (P.info? elem).map (·.size) = some sz)
    (hg : w.heap[g]? = some (.cells cur t (0, 0))) (hn : cs.length = Nat.min sLen dLen * sz)
    (hsrc : ∀ j v, cs[j]? = some v → w.cell? (a.add j) = some v) (hfit : o + cs.length ≤ cur.size) (h1 : ∀ v ∈ cs, v.oneCell' = true) :
    (Builtin.copy_ #[dT, sT] ty #[.slice (some ⟨g, o, none⟩) dLen dCap, .slice (some a) sLen sCap]).run P w =
      .ok (goInt (Nat.min sLen dLen)) (w.setRow g (cur.toList.take o ++ cs ++ cur.toList.drop (o + cs.length)).toArray) := by
  have hl := run_loadCells_list (P := P) w a cs hsrc
  have hst := run_storeCells_at P g o t cs 0 cur w hg (by simpa using hfit) h1
  cases hq : P.info? elem with
  | none => simp [hq] at hs
  | some i =>
    have hi : i.size = sz := by simpa [hq] using hs
    simp [Builtin.copy_, run_underlying hu, Builtin.lenOf, Builtin.firstCells, sizeOf, typeInfo, hq, hi, ← hn, hl, hst]
theorem run_copy_void {P : Program} (w : World) (dT sT ty elem : TypeId) (sz : Nat) (d a : Option Addr) (dLen dCap sLen sCap : Nat) (hu : P.underlying dT = some (.slice elem)) (hs : (P.info? elem).map (·.size) = some sz) (hn : Nat.min sLen dLen = 0) :
    (Builtin.copy_ #[dT, sT] ty #[.slice d dLen dCap, .slice a sLen sCap]).run P w = .ok (goInt 0) w := by
  cases hq : P.info? elem with
  | none => simp [hq] at hs
  | some i =>
    have hi : i.size = sz := by simpa [hq] using hs
    cases a <;> cases d <;> simp [Builtin.copy_, run_underlying hu, Builtin.lenOf, Builtin.firstCells, sizeOf, typeInfo, hq, hi, hn, loadCells, loadCellsFrom, storeCells, Result.andThen]
def RepOk (w : World) (ok : Nat → Prop) (xs : List S33) (L : List Value) (l : List S33) : Prop := ∀ (e : Nat) (x : S33), l[e]? = some x → x ∈ xs ∧ ∃ v0 v1, L[2 * e]? = some v0 ∧ L[2 * e + 1]? = some v1 ∧ Kd.FK k33 w ok x [v0, v1]
theorem rep_double {w : World} {ok : Nat → Prop} {xs l : List S33} {L : List Value} {c : Nat} (h : RepOk w ok xs L l) (hc : c ≤ l.length) (hL : 2 * (l.length + c) ≤ L.length) :
    RepOk w ok xs (L.take (2 * l.length) ++ L.take (2 * c) ++ L.drop (2 * l.length + 2 * c)) (l ++ l.take c) := by
  intro e x he
  by_cases h1 : e < l.length
  · rw [List.getElem?_append_left h1] at he
    obtain ⟨hx, v0, v1, a0, a1, a2⟩ := h e x he
    refine ⟨hx, v0, v1, ?_, ?_, a2⟩
    · rw [List.append_assoc, List.getElem?_append_left (by simp; omega), List.getElem?_take_of_lt (by omega)]
      exact a0
    · rw [List.append_assoc, List.getElem?_append_left (by simp; omega), List.getElem?_take_of_lt (by omega)]
      exact a1
  · have h2 : e - l.length < c := by
      have := (List.getElem?_eq_some_iff.1 he).1
      simp at this
      omega
    rw [List.getElem?_append_right (by omega), List.getElem?_take_of_lt h2] at he
    obtain ⟨hx, v0, v1, a0, a1, a2⟩ := h _ x he
    have hl1 : (L.take (2 * l.length)).length = 2 * l.length := by simp; omega
    refine ⟨hx, v0, v1, ?_, ?_, a2⟩
    · rw [List.append_assoc, List.getElem?_append_right (by omega), hl1, List.getElem?_append_left (by simp; omega), List.getElem?_take_of_lt (by omega)]
      rw [show 2 * e - 2 * l.length = 2 * (e - l.length) by omega]
      exact a0
    · rw [List.append_assoc, List.getElem?_append_right (by omega), hl1, List.getElem?_append_left (by simp; omega), List.getElem?_take_of_lt (by omega)]
      rw [show 2 * e + 1 - 2 * l.length = 2 * (e - l.length) + 1 by omega]
      exact a1
theorem rep_reads {w W : World} {ok : Nat → Prop} {xs l : List S33} {L : List Value} {X : Nat} (hb : Below w.heap.size w W) (hX : W.heap[X]? = some (.cells L.toArray 33 (0, 0))) (h : RepOk w ok xs L l) (hl : l.length ≤ 9223372036854775807) :
    Kd.F k33 W (fun k => ok k ∨ k = X) (some ⟨X, 0, none⟩) l.length l := by
  intro W' hW
  have hX' : W'.heap[X]? = some (.cells L.toArray 33 (0, 0)) := (hW X (.inr rfl) (blk_lt hX)).trans hX
  refine ⟨rfl, hl, fun _ => ⟨_, rfl, fun j p hj => ?_⟩⟩
  obtain ⟨_, v0, v1, a0, a1, a2⟩ := h j p hj
  refine ⟨[v0, v1], rfl, (Foot.step a2 (fun k _ hlt => hb.block k hlt)) W' (fun k hk hlt => hW k (.inl hk) hlt), fun i u hu => ?_⟩
  show W'.cell? (Addr.add ⟨X, 0, none⟩ (j * 2 + i)) = some u
  rw [add_plain, blk_cell hX']
  simp only [List.getElem?_toArray]
  rw [show j * 2 + i = 2 * j + i by omega]
  match i, hu with
  | 0, hu => simp at hu; subst hu; exact a0
  | 1, hu => simp at hu; subst hu; exact a1
  | i + 2, hu => simp at hu
theorem row_cells57 {w : World} {ok : Nat → Prop} {ad : Addr} {xs : List S33} (h : Kd.F k33 w ok (some ad) xs.length xs) : ∃ L : List Value, L.length = 2 * xs.length ∧ (∀ j v, L[j]? = some v → w.cell? (ad.add j) = some v ∧ v.oneCell' = true) ∧ RepOk w ok xs L xs := by
  obtain ⟨L, ⟨h1, h2⟩, h3⟩ := ReadsRow.inner_ (Kd.F_rows h)
  have hsz : k33.sz = 2 := rfl
  rw [hsz] at h1 h2
  have hrep : RepOk w ok xs L xs := by
    intro e x he
    have hlt := (List.getElem?_eq_some_iff.1 he).1
    have hK := h2 e x he
    have a0 : e * 2 < L.length := by omega
    have a1 : e * 2 + 1 < L.length := by omega
    have hd : (L.drop (e * 2)).take 2 = [L[e * 2], L[e * 2 + 1]] := by
      rw [List.drop_eq_getElem_cons a0, List.drop_eq_getElem_cons a1]
      rfl
    rw [hd] at hK
    refine ⟨List.mem_of_getElem? he, _, _, ?_, ?_, hK⟩
    · rw [Nat.mul_comm 2 e]
      exact List.getElem?_eq_getElem a0
    · rw [Nat.mul_comm 2 e]
      exact List.getElem?_eq_getElem a1
  refine ⟨L, by omega, fun j v hj => ⟨h3 j v hj, ?_⟩, hrep⟩
  have hjl := (List.getElem?_eq_some_iff.1 hj).1
  obtain ⟨x, hx⟩ : ∃ x, xs[j / 2]? = some x := ⟨_, List.getElem?_eq_getElem (by omega)⟩
  obtain ⟨_, v0, v1, a0, a1, a2⟩ := hrep _ _ hx
  have ho := k33.K_one (Foot.now a2)
  rcases Nat.mod_two_eq_zero_or_one j with hm | hm
  · rw [show 2 * (j / 2) = j by omega, hj] at a0
    injection a0 with a0
    subst a0
    exact ho _ (by simp)
  · rw [show 2 * (j / 2) + 1 = j by omega, hj] at a1
    injection a1 with a1
    subst a1
    exact ho _ (by simp)
theorem info33 : (Tryz.prog.info? 33).map (fun i => (i.zero, i.size, i.bytes)) = some (some (.agg #[.int .i64 0, .slice none 0 0]), 2, 32) := by kernel_rfl
theorem info57i : ∃ i, Tryz.prog.info? 33 = some i ∧ i.zero = some (.agg #[.int .i64 0, .slice none 0 0]) ∧ i.size = 2 ∧ i.bytes = 32 := by
  have h := info33
  cases hq : Tryz.prog.info? 33 with
  | none => rw [hq] at h; exact absurd h (by simp)
  | some i =>
    rw [hq] at h
    simp only [Option.map_some, Option.some.injEq, Prod.mk.injEq] at h
    exact ⟨i, rfl, h.1, h.2.1, h.2.2⟩
theorem size57 : (Tryz.prog.info? 33).map (·.size) = some 2 := by
  obtain ⟨i, h, _, h2, _⟩ := info57i
  rw [h, Option.map_some, h2]
theorem make57 (m : Nat) (hm : m ≤ 100000) (W : World) : (Instr.makeSlice 27 (.int .i64 (m : Int)) (.int .i64 (m : Int))).run Tryz.prog W = .ok (.slice (some ⟨W.heap.size, 0, none⟩) m m) (W.alloc (.cells (madeCells #[.int .i64 0, .slice none 0 0] (m * 2)) 33)) := by
  obtain ⟨i, h, hz, h2, h3⟩ := info57i
  have hr := run_make (P := Tryz.prog) W 27 33 i _ Tryz.underlying27 h hz .i64 .i64 (m : Int) (m : Int) (by omega) (by omega) (by rw [h3]; omega) (by omega)
  rw [h2, Int.toNat_natCast] at hr
  exact hr
theorem mul40 (n : Nat) (hn : n ≤ 3) : bits_Mul.f (n : Int) 40 = some (0, ((n * 40 : Nat) : Int)) := by
  rcases (by omega : n = 0 ∨ n = 1 ∨ n = 2 ∨ n = 3) with rfl | rfl | rfl | rfl <;> kernel_rfl
theorem wpList_copy_eq {P : Program} (w : World) {ops : Array Oper} {rest : List Oper} {o : Oper} {a : Act} {Q : Exit → Act → World → Prop} (hgd : o.guard = none) (d s : Operand) (dT sT : TypeId)
    (ho : o.op = .call { callee := .builtin .copy, args := #[d, s], argTypes := #[dT, sT] }) (dv sv v : Value) (hd : a.eval d = dv) (hs : a.eval s = sv) (w' : World)
    (hrun : (Builtin.copy_ #[dT, sT] o.type #[dv, sv]).run P w = .ok v w') (h : wpList P ops Q rest (a.put o.dst v) w') : wpList P ops Q (o :: rest) a w := by
  refine wpList_plain hgd fun K hK => ?_
  unfold Oper.wp
  simp [execOp, ho, resolve, invoke, builtin, hd, hs, hrun, Result.andThen]
  exact hK _ _ h
theorem step_copy_eq {P : Program} {ops : Array Oper} {o : Oper} {a : Act} {w : World} {K : Act → World → Prop} {Q : Exit → Act → World → Prop} {E : Prop} (hgd : o.guard = none) (d s : Operand) (dT sT : TypeId)
    (ho : o.op = .call { callee := .builtin .copy, args := #[d, s], argTypes := #[dT, sT] }) (dv sv v : Value) (hd : a.eval d = dv) (hs : a.eval s = sv) (w' : World)
    (hrun : (Builtin.copy_ #[dT, sT] o.type #[dv, sv]).run P w = .ok v w') (h : K (a.put o.dst v) w') : if Region.wanted o (yielded ops a.tmps) = true then Oper.wp P o a w K Q else E := by
  have hw : Region.wanted o (yielded ops a.tmps) = true := by simp [Region.wanted, hgd]
  rw [if_pos hw]
  unfold Oper.wp
  simp [execOp, ho, resolve, invoke, builtin, hd, hs, hrun, Result.andThen]
  exact h
def RepSt (w : World) (ok : Nat → Prop) (xs : List S33) (m X : Nat) (l : List S33) (W : World) : Prop := ∃ L : List Value, L.length = m * 2 ∧ W.heap[X]? = some (.cells L.toArray 33 (0, 0)) ∧ RepOk w ok xs L l ∧ (∀ j v, L[j]? = some v → j < 2 * l.length → v.oneCell' = true) ∧ Below w.heap.size w W
theorem rep_first {w : World} {ok : Nat → Prop} {xs : List S33} {m : Nat} {ad : Addr} {c : Nat} {L0 : List Value} (hL0 : L0.length = 2 * xs.length) (hL1 : ∀ j v, L0[j]? = some v → w.cell? (ad.add j) = some v ∧ v.oneCell' = true) (hL2 : RepOk w ok xs L0 xs) (hm : xs.length ≤ m)
    (W : World) (hb : Below w.heap.size w W) (hX : W.heap[w.heap.size]? = some (.cells (madeCells #[.int .i64 0, .slice none 0 0] (m * 2)) 33 (0, 0))) :
    ∃ W', (Builtin.copy_ #[27, 27] 3 #[.slice (some ⟨w.heap.size, 0, none⟩) m m, .slice (some ad) xs.length c]).run Tryz.prog W = .ok (.int .i64 (xs.length : Int)) W' ∧ RepSt w ok xs m w.heap.size xs W' := by
  have hmin : Nat.min xs.length m = xs.length := Nat.min_eq_left hm
  have hsz : (madeCells #[.int .i64 0, .slice none 0 0] (m * 2)).size = m * 2 := size_madeCells _ _
  have hr := run_copy_sized (P := Tryz.prog) W 27 27 3 33 2 w.heap.size 0 m m ad xs.length c _ 33 L0 Tryz.underlying27 size57 hX (by rw [hmin]; omega) (fun j v hj => by
    have h1 := (hL1 j v hj).1
    rw [← h1]
    exact hb.cell (World.block_lt_of_cell? w _ h1)) (by rw [hsz]; omega) (fun v hv => by
    obtain ⟨j, hj⟩ := List.getElem?_of_mem hv
    exact (hL1 j v hj).2)
  rw [hmin] at hr
  refine ⟨_, hr, L0 ++ (madeCells #[.int .i64 0, .slice none 0 0] (m * 2)).toList.drop (0 + L0.length), ?_, ?_, ?_, ?_, ?_⟩
  · simp only [List.length_append, List.length_drop, Array.length_toList, hsz]
    omega
  · rw [setRow_heap W _ _ _ 33 (0, 0) hX]
    simp
  · intro e x he
    obtain ⟨hx, v0, v1, a0, a1, a2⟩ := hL2 e x he
    have := (List.getElem?_eq_some_iff.1 a1).1
    exact ⟨hx, v0, v1, by rw [List.getElem?_append_left (by omega)]; exact a0, by rw [List.getElem?_append_left (by omega)]; exact a1, a2⟩
  · intro j v hj hlt
    rw [List.getElem?_append_left (by omega)] at hj
    exact (hL1 j v hj).2
  · exact below_setRow hb (Nat.le_refl _) _
theorem rep_step {w : World} {ok : Nat → Prop} {xs l : List S33} {m X : Nat} {W : World} (h : RepSt w ok xs m X l W) (hX : w.heap.size ≤ X) (h0 : 0 < l.length) (hm : l.length < m) :
    ∃ W', (Builtin.copy_ #[27, 27] 3 #[.slice (some ⟨X, l.length * 2, none⟩) (m - l.length) (m - l.length), .slice (some ⟨X, 0, none⟩) l.length m]).run Tryz.prog W = .ok (.int .i64 ((Nat.min l.length (m - l.length) : Nat) : Int)) W' ∧ RepSt w ok xs m X (l ++ l.take (Nat.min l.length (m - l.length))) W' := by
  obtain ⟨L, h1, h2, h3, h4, h5⟩ := h
  generalize hc : Nat.min l.length (m - l.length) = c
  have hc1 : c ≤ l.length := by rw [← hc]; exact Nat.min_le_left _ _
  have hc2 : c ≤ m - l.length := by rw [← hc]; exact Nat.min_le_right _ _
  have hlt : (L.take (2 * c)).length = 2 * c := by simp; omega
  have hr := run_copy_sized (P := Tryz.prog) W 27 27 3 33 2 X (l.length * 2) (m - l.length) (m - l.length) ⟨X, 0, none⟩ l.length m L.toArray 33 (L.take (2 * c)) Tryz.underlying27 size57 h2 (by rw [hc, hlt]; omega) (fun j v hj => by
    rw [add_plain, blk_cell h2]
    have hj2 := (List.getElem?_eq_some_iff.1 hj).1
    rw [hlt] at hj2
    rw [List.getElem?_take_of_lt hj2] at hj
    simpa using hj) (by rw [hlt]; simp; omega) (fun v hv => by
    obtain ⟨j, hj⟩ := List.getElem?_of_mem hv
    have hj2 := (List.getElem?_eq_some_iff.1 hj).1
    rw [hlt] at hj2
    rw [List.getElem?_take_of_lt hj2] at hj
    exact h4 j v hj (by omega))
  rw [hc] at hr
  have e1 : l.length * 2 = 2 * l.length := Nat.mul_comm _ _
  refine ⟨_, hr, L.take (2 * l.length) ++ L.take (2 * c) ++ L.drop (2 * l.length + 2 * c), ?_, ?_, rep_double h3 hc1 (by omega), ?_, below_setRow h5 hX _⟩
  · simp only [List.length_append, List.length_drop, hlt, List.length_take]
    omega
  · rw [setRow_heap W _ _ _ 33 (0, 0) h2, hlt, e1]
  · intro j v hj hjl
    have hl1 : (L.take (2 * l.length)).length = 2 * l.length := by simp; omega
    have hl2 : (l ++ l.take c).length = l.length + c := by simp; omega
    rw [hl2] at hjl
    rw [List.append_assoc] at hj
    by_cases hj1 : j < 2 * l.length
    · rw [List.getElem?_append_left (by omega), List.getElem?_take_of_lt hj1] at hj
      exact h4 j v hj hj1
    · rw [List.getElem?_append_right (by omega), hl1, List.getElem?_append_left (by omega), List.getElem?_take_of_lt (by omega)] at hj
      exact h4 _ v hj (by omega)
theorem RepSt.drewN {w : World} {ok : Nat → Prop} {xs l : List S33} {m X : Nat} {W : World} (h : RepSt w ok xs m X l W) (n : Nat) : RepSt w ok xs m X l (W.drewN n) := by
  obtain ⟨L, h1, h2, h3, h4, h5⟩ := h
  exact ⟨L, h1, h2, h3, h4, pw_below_drewN h5 n⟩
set_option maxHeartbeats 4000000 in
set_option maxRecDepth 100000 in
theorem Repeat_calls (ok : Nat → Prop) (A : Option Addr) (c : Nat) (xs : List S33) (w : World) (hr : Kd.F k33 w ok A xs.length xs) (hc : xs.length ≤ c) (h3 : xs.length ≤ 3) :
    Calls Tryz.prog 42 #[.slice A xs.length c, .int .i64 40] w fun e w' => ∃ (A' : Option Addr) (c' : Nat) (l : List S33), e = .returned (.slice A' l.length c') ∧ l.length ≤ c' ∧ Kd.F k33 w' (fun k => ok k ∨ w.heap.size ≤ k) A' l.length l ∧ (∀ x ∈ l, x ∈ xs) ∧ l.length ≤ 120 ∧ Below w.heap.size w w' := by
  have HR := Aside0.mk hr
  obtain ⟨m, hme⟩ : ∃ m, m = xs.length * 40 := ⟨_, rfl⟩
  have HM : Aside0 (bits_Mul.f (xs.length : Int) 40 = some (0, (m : Int))) := ⟨by rw [hme]; exact mul40 xs.length h3⟩
  have hmk := make57 m (by omega)
  have hm := (Kd.F_now hr).2.1
  have hm1 : m ≤ 120 := by omega
  have HME := Aside0.mk hme
  clear hr hme
  by_cases h0 : xs = []
  · subst h0
    obtain rfl : m = 0 := by simpa using HME.out
    have hmk0 : ∀ W : World, (Instr.makeSlice 27 (.int .i64 0) (.int .i64 0)).run Tryz.prog W = .ok (.slice (some ⟨W.heap.size, 0, none⟩) 0 0) (W.alloc (.cells (madeCells #[.int .i64 0, .slice none 0 0] (0 * 2)) 33)) := make57 0 (by omega)
    have hv := fun (W : World) (X : Option Addr) (c0 : Nat) => run_copy_void (P := Tryz.prog) W 27 27 3 33 2 X A 0 0 0 c0 Tryz.underlying27 size57 rfl
    clear hmk
    go_enter Tryz.func42, Tryz.ntmps42
    go_wp2_with (first | (go_at_call 105; refine (bits_Mul.calls _ _ _ _ _ HM.out).mono ?_; rintro e w1 ⟨rfl, nd, rfl⟩) | (refine wpList_copy_eq _ rfl (.tmp 31) (.tmp 32) 27 27 rfl _ _ (goInt 0) rfl rfl _ (hv _ _ _) ?_))
    refine wp_loop_rounds 1 ?_
    rw [rounds_succ]
    go_wp2
    go_ret
    exact ⟨_, _, [], rfl, Nat.le_refl _, (fun W' _ => ⟨rfl, by decide, fun h => absurd h (Nat.lt_irrefl 0)⟩), fun x hx => hx, by simp, below_alloc (pw_below_drewN (Below.refl _ _) _) _⟩
  · have hpos : 0 < xs.length := by
      cases xs with
      | nil => exact absurd rfl h0
      | cons x xr => simp
    obtain ⟨ad, rfl, _⟩ := (Kd.F_now HR.out).2.2 hpos
    obtain ⟨L0, hL0, hL1, hL2⟩ := row_cells57 HR.out
    have HCP : Aside0 (∀ W : World, Below w.heap.size w W → W.heap[w.heap.size]? = some (.cells (madeCells #[.int .i64 0, .slice none 0 0] (m * 2)) 33 (0, 0)) → ∃ W', (Builtin.copy_ #[27, 27] 3 #[.slice (some ⟨w.heap.size, 0, none⟩) m m, .slice (some ad) xs.length c]).run Tryz.prog W = .ok (.int .i64 (xs.length : Int)) W' ∧ RepSt w ok xs m w.heap.size xs W') := ⟨rep_first hL0 hL1 hL2 (by have := HME.out; omega)⟩
    clear hL0 hL1 hL2 h0
    go_enter Tryz.func42, Tryz.ntmps42
    go_wp2_with (first | (go_at_call 105; refine (bits_Mul.calls _ _ _ _ _ HM.out).mono ?_; rintro e w1 ⟨rfl, nd, rfl⟩; obtain ⟨W2, hrun, HST⟩ := HCP.out ((w.drewN nd).alloc (.cells (madeCells #[.int .i64 0, .slice none 0 0] (m * 2)) 33)) (below_alloc (pw_below_drewN (Below.refl _ _) _) _) (blk_new (w.drewN nd) _); have HR1 := Aside0.mk hrun; have HS1 := Aside0.mk HST; clear hrun HST) | (refine wpList_copy_eq _ rfl (.tmp 31) (.tmp 32) 27 27 rfl _ _ (.int .i64 (xs.length : Int)) rfl rfl _ HR1.out ?_))
    clear hmk
    go_loopg [8] m (fun gg s8 wr => ∃ l : List S33, l.length ≤ m ∧ m - l.length ≤ gg ∧ s8 = .int .i64 (l.length : Int) ∧ 0 < l.length ∧ Aside0 (RepSt w ok xs m w.heap.size l wr))
    case atStart => exact ⟨xs, by have := HME.out; omega, by omega, rfl, hpos, HS1⟩
    case round =>
      obtain ⟨l, hl, hg, rfl, hl0, HS⟩ := hrel
      by_cases hlt : l.length < m
      · have hltz : (l.length : Int) < (m : Int) := by omega
        obtain ⟨W', hrun, HST⟩ := rep_step (show RepSt w ok xs m w.heap.size l wr.drew from HS.out.drewN 1) (Nat.le_refl _) hl0 hlt
        obtain ⟨q, hq⟩ : ∃ q, q = Nat.min l.length (m - l.length) := ⟨_, rfl⟩
        rw [← hq] at hrun HST
        have hq1 : q ≤ l.length := by rw [hq]; exact Nat.min_le_left _ _
        have hq2 : q ≤ m - l.length := by rw [hq]; exact Nat.min_le_right _ _
        have hq3 : 0 < q := by rw [hq]; exact Nat.lt_min.2 ⟨hl0, by omega⟩
        have HS2 := Aside0.mk HST
        have HR2 := Aside0.mk hrun
        clear HST hrun hq
        go_wp2
        clear HM hm HME HCP HR hpos hc h3
        have hne : ¬ m = l.length := by omega
        go_region_law (refine step_copy_eq rfl (.tmp 41) (.tmp 44) 27 27 (by rfl) (.slice (some ⟨w.heap.size, l.length * 2, none⟩) (m - l.length) (m - l.length)) (.slice (some ⟨w.heap.size, 0, none⟩) l.length m) (.int .i64 (q : Int)) ?hd ?hs W' HR2.out ?_; (case hd => go_simp); (case hs => go_simp))
        all_goals
          go_wp2
          go_roundg (m - (l.length + q))
          case measure => omega
          case rel => exact ⟨l ++ l.take q, by simp; omega, by simp; omega, by rw [show (l ++ l.take q).length = l.length + q by simp; omega, i64w, IntWalk.wrap64_in _ (by omega)]; rfl, by simp; omega, HS2⟩
      · have hltz : ¬ (l.length : Int) < (m : Int) := by omega
        have hlm : l.length = m := by omega
        go_wp2
        go_ret
        obtain ⟨L, q1, q2, q3, q4, q5⟩ := HS.out
        exact ⟨_, m, l, by rw [hlm]; rfl, by omega, Kd.F_mono (rep_reads q5 q2 q3 (by omega)) (fun k hk => hk.elim .inl (fun e => .inr (by omega))), fun x hx => by
          obtain ⟨j, hj⟩ := List.getElem?_of_mem hx
          exact (q3 j x hj).1, by omega, q5⟩
def StrRow (W : World) (X : Nat) (xs : List ByteArray) : Prop := W.heap[X]? = some (.cells (xs.map Value.string).toArray 9 (0, 0))
theorem StrRow.cell {W : World} {X : Nat} {xs : List ByteArray} (h : StrRow W X xs) (i : Nat) (hi : i < xs.length) : W.cell? ⟨X, i, none⟩ = some (.string (xs.getD i ByteArray.empty)) := by
  rw [blk_cell h i]
  simp [List.getElem?_eq_getElem hi, List.getD]
theorem StrRow.reads {W : World} {X : Nat} {xs : List ByteArray} (h : StrRow W X xs) (hl : xs.length ≤ 9223372036854775807) : Kd.C Kd.string W (some ⟨X, 0, none⟩) xs.length xs := by
  refine ⟨rfl, hl, fun _ => ⟨_, rfl, fun j p hj => ⟨[.string p], rfl, rfl, fun i u hu => ?_⟩⟩⟩
  have hjl := (List.getElem?_eq_some_iff.1 hj).1
  cases i with
  | zero =>
    simp only [List.getElem?_cons_zero, Option.some.injEq] at hu
    subst hu
    have hc := h.cell j hjl
    have e : xs.getD j ByteArray.empty = p := by rw [List.getD_eq_getElem?_getD, hj]; rfl
    rw [e] at hc
    show W.cell? (Addr.add ⟨X, 0, none⟩ (j * 1 + 0)) = _
    rw [Nat.mul_one, Nat.add_zero, add_plain]
    exact hc
  | succ i => simp at hu
theorem St_Some {w0 w : World} {g : Nat} {d : List Int} {b : Nat} (h : StOk w0 w g d b) (hb : b ≤ 1000000) (hB : Below w0.heap.size w0 w) (X c : Nat) (l : List ByteArray) (hr : StrRow w X l) (hc : l.length ≤ c) (hl : 1 ≤ l.length) (hl2 : l.length ≤ 1000) :
    Calls Tryz.prog 8 #[.pointer (some ⟨g, 0, none⟩), .slice (some ⟨X, 0, none⟩) l.length c] w fun e w' => ∃ r, e = .returned (.string r) ∧ r ∈ l ∧ StOk w0 w' g d (b + 1) ∧ Below w0.heap.size w0 w' ∧ KeepBut w w' g none := by
  obtain ⟨p, h1, h2, h3⟩ := h
  obtain ⟨r, e1, e2⟩ := Some_some d p l h1 (by omega) hl hl2
  have hne : ∀ ad : Addr, (some ⟨X, 0, none⟩ : Option Addr) = some ad → 0 < l.length → ad.block ≠ g := by
    intro ad e _ hg
    injection e with e
    subst e
    obtain ⟨A0, c0, hb0, _⟩ := h3
    exact blk_ne hr hb0 (by decide) hg
  exact (wbmake_Stream_Some.calls g d p _ c l r (p + 1) w0 w h3 hB (hr.reads (by omega)) hc hne e1).mono fun e w' ⟨he, hI, hB', hK⟩ => ⟨r, he, e2, ⟨p + 1, by omega, by omega, hI⟩, hB', hK⟩
theorem kept_of_keep {W W' : World} {g : Nat} (h : KeepBut W W' g none) : Kept W W' (fun k => k = g) := ⟨h.1, fun k hk hn => h.2 k hk hn (by simp)⟩
structure AX (w0 : World) (g B2 Bs : Nat) (d : List Int) (b : Nat) (FV FC : Nat → Prop) (vV vC : Value) (vars : List S77) (conds : List S33) (W : World) : Prop where
  st : StOk w0 W g d b
  b2 : W.heap[B2]? = some (.cells #[.slice none 0 0, .slice none 0 0] 29 (0, 0))
  blk : W.heap[Bs]? = some (.cells #[vV, vC] 29 (0, 0))
  nv : Kd.N k77 77 W w0.heap.size FV vV vars
  nc : Kd.N k33 33 W w0.heap.size FC vC conds
  av : ∀ k, FV k → (w0.heap.size ≤ k ∧ k < W.heap.size) ∧ k ≠ g ∧ k ≠ Bs ∧ k ≠ B2 ∧ ¬ FC k
  ac : ∀ k, FC k → (w0.heap.size ≤ k ∧ k < W.heap.size) ∧ k ≠ g ∧ k ≠ Bs ∧ k ≠ B2
  bw : Below w0.heap.size w0 W
  bs : w0.heap.size ≤ Bs ∧ Bs ≠ g ∧ Bs ≠ B2
  b2s : w0.heap.size ≤ B2 ∧ B2 ≠ g
section
variable {w0 : World} {g B2 Bs : Nat} {d : List Int} {b b' : Nat} {FV FC : Nat → Prop} {vV vC : Value} {vars : List S77} {conds : List S33} {W W' w1 : World}
theorem AX.kept (h : AX w0 g B2 Bs d b FV FC vV vC vars conds W) {S : Nat → Prop} (hk : Kept W W' S) (hS : ∀ k, S k → ¬ FV k ∧ ¬ FC k ∧ k ≠ Bs ∧ k ≠ B2) (hst : StOk w0 W' g d b') (hB : Below w0.heap.size w0 W') : AX w0 g B2 Bs d b' FV FC vV vC vars conds W' where
  st := hst
  b2 := blk_kept h.b2 hk (fun e => (hS _ e).2.2.2 rfl)
  blk := blk_kept h.blk hk (fun e => (hS _ e).2.2.1 rfl)
  nv := Kd.N_kept h.nv hk (fun k hf hs => (hS k hs).1 hf)
  nc := Kd.N_kept h.nc hk (fun k hf hs => (hS k hs).2.1 hf)
  av := fun k hf => ⟨⟨(h.av k hf).1.1, Nat.lt_of_lt_of_le (h.av k hf).1.2 hk.1⟩, (h.av k hf).2⟩
  ac := fun k hf => ⟨⟨(h.ac k hf).1.1, Nat.lt_of_lt_of_le (h.ac k hf).1.2 hk.1⟩, (h.ac k hf).2⟩
  bw := hB
  bs := h.bs
  b2s := h.b2s
theorem AX.below (h : AX w0 g B2 Bs d b FV FC vV vC vars conds W) (hb : Below W.heap.size W W') : AX w0 g B2 Bs d b FV FC vV vC vars conds W' :=
  h.kept (S := fun _ => False) (Kept.of_below hb _) (fun _ hf => hf.elim) (h.st.below hb) (below_step h.bw hb)
theorem AX.stream (h : AX w0 g B2 Bs d b FV FC vV vC vars conds W) (hk : KeepBut W W' g none) (hst : StOk w0 W' g d b') (hB : Below w0.heap.size w0 W') : AX w0 g B2 Bs d b' FV FC vV vC vars conds W' :=
  h.kept (kept_of_keep hk) (fun k e => by subst e; exact ⟨fun hf => (h.av _ hf).2.1 rfl, fun hf => (h.ac _ hf).2.1 rfl, fun e => h.bs.2.1 e.symm, fun e => h.b2s.2 e.symm⟩) hst hB
theorem AX.setV (h : AX w0 g B2 Bs d b FV FC vV vC vars conds W) {v1 : Value} {vars' : List S77} (hb : Below w0.heap.size w0 w1) (hg : W.grownBy w1 vV.ownBlock) (hN : Kd.N k77 77 w1 w0.heap.size (fun k => FV k ∨ W.heap.size ≤ k) v1 vars') :
    ∃ FV', AX w0 g B2 Bs d b FV' FC v1 vC vars' conds (w1.setCell ⟨Bs, 0, none⟩ v1) ∧ (∀ k, FV' k → FV k ∨ W.heap.size ≤ k) ∧ Kept W (w1.setCell ⟨Bs, 0, none⟩ v1) (fun k => FV k ∨ k = Bs) := by
  have hk : Kept W w1 FV := Kept.of_grown hg (Kept.refl W _) (fun k hk => .inl (h.nv.1 k hk))
  have hsz : (w1.setCell ⟨Bs, 0, none⟩ v1).heap.size = w1.heap.size := by simp [World.setCell]
  have hk2 : Kept W (w1.setCell ⟨Bs, 0, none⟩ v1) (fun k => FV k ∨ k = Bs) := (hk.mono (fun k hf => .inl hf)).setCell (.inl (.inr rfl)) _
  have hb5 : w1.heap[Bs]? = some (.cells #[vV, vC] 29 (0, 0)) := blk_kept h.blk hk (fun hf => (h.av _ hf).2.2.1 rfl)
  refine ⟨fun k => FV k ∨ (W.heap.size ≤ k ∧ k < w1.heap.size), ⟨?_, ?_, ?_, ?_, ?_, ?_, ?_, ?_, h.bs, h.b2s⟩, fun k hf => hf.imp id And.left, hk2⟩
  · exact h.st.kept hk2 (fun e => e.elim (fun hf => (h.av _ hf).2.1 rfl) (fun e => h.bs.2.1 e.symm))
  · exact blk_kept h.b2 hk2 (fun e => e.elim (fun hf => (h.av _ hf).2.2.2.1 rfl) (fun e => h.bs.2.2 e.symm))
  · exact blk_put hb5 0 v1 rfl
  · refine Kd.N_far (p := ⟨Bs, 0, none⟩) (Kd.N_mono (Kd.N_bound hN) (fun k hf => hf.1.elim .inl (fun e => .inr ⟨e, hf.2⟩))) (fun k hf e => ?_) _
    have e' : k = Bs := e
    subst e'
    rcases hf with hf | hf
    · exact (h.av _ hf).2.2.1 rfl
    · have := blk_lt h.blk
      omega
  · exact Kd.N_kept h.nc hk2 (fun k hf hs => hs.elim (fun hv => (h.av k hv).2.2.2.2 hf) (fun e => (h.ac k hf).2.2.1 e))
  · intro k hf
    rw [hsz]
    rcases hf with hf | hf
    · exact ⟨⟨(h.av k hf).1.1, Nat.lt_of_lt_of_le (h.av k hf).1.2 hk.1⟩, (h.av k hf).2⟩
    · have h1 := blk_lt h.blk
      have h2 := blk_lt h.b2
      have h3 := h.st.lt
      have h4 := h.bw.size
      exact ⟨⟨by omega, hf.2⟩, by omega, by omega, by omega, fun hc => by have := (h.ac k hc).1.2; omega⟩
  · intro k hf
    rw [hsz]
    exact ⟨⟨(h.ac k hf).1.1, Nat.lt_of_lt_of_le (h.ac k hf).1.2 hk.1⟩, (h.ac k hf).2⟩
  · exact hb.setCell h.bs.1 _
end
section
variable {w0 : World} {g B2 Bs Bt : Nat} {d : List Int} {b b' : Nat} {FV FC FT : Nat → Prop} {vV vC vT : Value} {vars : List S77} {conds : List S33} {terms : List S79} {a : Int} {W W' w1 : World}
theorem AX.setC (h : AX w0 g B2 Bs d b FV FC vV vC vars conds W) (hT : ∀ k, FT k → (w0.heap.size ≤ k ∧ k < W.heap.size) ∧ k ≠ g ∧ k ≠ Bs ∧ k ≠ B2 ∧ ¬ FV k) {v1 : Value} {conds' : List S33} (hb : Below w0.heap.size w0 w1) (hg : W.grownBy w1 vC.ownBlock) (hN : Kd.N k33 33 w1 w0.heap.size (fun k => FC k ∨ FT k ∨ W.heap.size ≤ k) v1 conds') :
    ∃ FC', AX w0 g B2 Bs d b FV FC' vV v1 vars conds' (w1.setCell ⟨Bs, 1, none⟩ v1) := by
  have hk : Kept W w1 FC := Kept.of_grown hg (Kept.refl W _) (fun k hk => .inl (h.nc.1 k hk))
  have hsz : (w1.setCell ⟨Bs, 1, none⟩ v1).heap.size = w1.heap.size := by simp [World.setCell]
  have hk2 : Kept W (w1.setCell ⟨Bs, 1, none⟩ v1) (fun k => FC k ∨ k = Bs) := (hk.mono (fun k hf => .inl hf)).setCell (.inl (.inr rfl)) _
  have hb5 : w1.heap[Bs]? = some (.cells #[vV, vC] 29 (0, 0)) := blk_kept h.blk hk (fun hf => (h.ac _ hf).2.2.1 rfl)
  refine ⟨fun k => FC k ∨ FT k ∨ (W.heap.size ≤ k ∧ k < w1.heap.size), ⟨?_, ?_, ?_, ?_, ?_, ?_, ?_, ?_, h.bs, h.b2s⟩⟩
  · exact h.st.kept hk2 (fun e => e.elim (fun hf => (h.ac _ hf).2.1 rfl) (fun e => h.bs.2.1 e.symm))
  · exact blk_kept h.b2 hk2 (fun e => e.elim (fun hf => (h.ac _ hf).2.2.2 rfl) (fun e => h.bs.2.2 e.symm))
  · exact blk_put hb5 1 v1 rfl
  · exact Kd.N_kept h.nv hk2 (fun k hf hs => hs.elim (fun hv => (h.av k hf).2.2.2.2 hv) (fun e => (h.av k hf).2.2.1 e))
  · refine Kd.N_far (p := ⟨Bs, 1, none⟩) (Kd.N_mono (Kd.N_bound hN) (fun k hf => hf.1.elim .inl (fun e => e.elim (fun e => .inr (.inl e)) (fun e => .inr (.inr ⟨e, hf.2⟩))))) (fun k hf e => ?_) _
    have e' : k = Bs := e
    subst e'
    rcases hf with hf | hf | hf
    · exact (h.ac _ hf).2.2.1 rfl
    · exact (hT _ hf).2.2.1 rfl
    · have := blk_lt h.blk
      omega
  · intro k hf
    rw [hsz]
    refine ⟨⟨(h.av k hf).1.1, Nat.lt_of_lt_of_le (h.av k hf).1.2 hk.1⟩, (h.av k hf).2.1, (h.av k hf).2.2.1, (h.av k hf).2.2.2.1, fun hc => ?_⟩
    rcases hc with hc | hc | hc
    · exact (h.av k hf).2.2.2.2 hc
    · exact (hT k hc).2.2.2.2 hf
    · have := (h.av k hf).1.2
      omega
  · intro k hf
    rw [hsz]
    have h1 := blk_lt h.blk
    have h2 := blk_lt h.b2
    have h3 := h.st.lt
    have h4 := h.bw.size
    have h5 := hk.1
    rcases hf with hf | hf | hf
    · exact ⟨⟨(h.ac k hf).1.1, Nat.lt_of_lt_of_le (h.ac k hf).1.2 h5⟩, (h.ac k hf).2⟩
    · exact ⟨⟨(hT k hf).1.1, Nat.lt_of_lt_of_le (hT k hf).1.2 h5⟩, (hT k hf).2.1, (hT k hf).2.2.1, (hT k hf).2.2.2.1⟩
    · exact ⟨⟨by omega, hf.2⟩, by omega, by omega, by omega⟩
  · exact hb.setCell h.bs.1 _
structure TX (w0 : World) (g B2 Bs : Nat) (d : List Int) (b : Nat) (FV FC : Nat → Prop) (vV vC : Value) (vars : List S77) (conds : List S33) (Bt : Nat) (FT : Nat → Prop) (a : Int) (vT : Value) (terms : List S79) (W : World) : Prop where
  ax : AX w0 g B2 Bs d b FV FC vV vC vars conds W
  bt : W.heap[Bt]? = some (.cells #[.int .i64 a, vT] 33 (0, 0))
  nt : Kd.N k79 79 W w0.heap.size FT vT terms
  aft : ∀ k, FT k → (w0.heap.size ≤ k ∧ k < W.heap.size) ∧ k ≠ g ∧ k ≠ Bs ∧ k ≠ B2 ∧ k ≠ Bt ∧ ¬ FV k ∧ ¬ FC k
  btp : w0.heap.size ≤ Bt ∧ Bt ≠ g ∧ Bt ≠ Bs ∧ Bt ≠ B2 ∧ ¬ FV Bt ∧ ¬ FC Bt
theorem TX.kept (h : TX w0 g B2 Bs d b FV FC vV vC vars conds Bt FT a vT terms W) {S : Nat → Prop} (hk : Kept W W' S) (hS : ∀ k, S k → (¬ FV k ∧ ¬ FC k ∧ k ≠ Bs ∧ k ≠ B2) ∧ ¬ FT k ∧ k ≠ Bt) (hst : StOk w0 W' g d b') (hB : Below w0.heap.size w0 W') : TX w0 g B2 Bs d b' FV FC vV vC vars conds Bt FT a vT terms W' where
  ax := h.ax.kept hk (fun k hs => (hS k hs).1) hst hB
  bt := blk_kept h.bt hk (fun e => (hS _ e).2.2 rfl)
  nt := Kd.N_kept h.nt hk (fun k hf hs => (hS k hs).2.1 hf)
  aft := fun k hf => ⟨⟨(h.aft k hf).1.1, Nat.lt_of_lt_of_le (h.aft k hf).1.2 hk.1⟩, (h.aft k hf).2⟩
  btp := h.btp
theorem TX.below (h : TX w0 g B2 Bs d b FV FC vV vC vars conds Bt FT a vT terms W) (hb : Below W.heap.size W W') : TX w0 g B2 Bs d b FV FC vV vC vars conds Bt FT a vT terms W' :=
  h.kept (S := fun _ => False) (Kept.of_below hb _) (fun _ hf => hf.elim) (h.ax.st.below hb) (below_step h.ax.bw hb)
theorem TX.stream (h : TX w0 g B2 Bs d b FV FC vV vC vars conds Bt FT a vT terms W) (hk : KeepBut W W' g none) (hst : StOk w0 W' g d b') (hB : Below w0.heap.size w0 W') : TX w0 g B2 Bs d b' FV FC vV vC vars conds Bt FT a vT terms W' :=
  h.kept (kept_of_keep hk) (fun k e => by subst e; exact ⟨⟨fun hf => (h.ax.av _ hf).2.1 rfl, fun hf => (h.ax.ac _ hf).2.1 rfl, fun e => h.ax.bs.2.1 e.symm, fun e => h.ax.b2s.2 e.symm⟩, fun hf => (h.aft _ hf).2.1 rfl, fun e => h.btp.2.1 e.symm⟩) hst hB
theorem TX.setT (h : TX w0 g B2 Bs d b FV FC vV vC vars conds Bt FT a vT terms W) {v1 : Value} {terms' : List S79} (hb : Below w0.heap.size w0 w1) (hg : W.grownBy w1 vT.ownBlock) (hN : Kd.N k79 79 w1 w0.heap.size (fun k => FT k ∨ W.heap.size ≤ k) v1 terms') :
    ∃ FT', TX w0 g B2 Bs d b FV FC vV vC vars conds Bt FT' a v1 terms' (w1.setCell ⟨Bt, 1, none⟩ v1) := by
  have hk : Kept W w1 FT := Kept.of_grown hg (Kept.refl W _) (fun k hk => .inl (h.nt.1 k hk))
  have hsz : (w1.setCell ⟨Bt, 1, none⟩ v1).heap.size = w1.heap.size := by simp [World.setCell]
  have hk2 : Kept W (w1.setCell ⟨Bt, 1, none⟩ v1) (fun k => FT k ∨ k = Bt) := (hk.mono (fun k hf => .inl hf)).setCell (.inl (.inr rfl)) _
  have hb5 : w1.heap[Bt]? = some (.cells #[.int .i64 a, vT] 33 (0, 0)) := blk_kept h.bt hk (fun hf => (h.aft _ hf).2.2.2.2.1 rfl)
  have h1 := blk_lt h.ax.blk
  have h2 := blk_lt h.ax.b2
  have h3 := h.ax.st.lt
  have h4 := h.ax.bw.size
  have h5 := hk.1
  have h6 := blk_lt h.bt
  refine ⟨fun k => FT k ∨ (W.heap.size ≤ k ∧ k < w1.heap.size), ⟨?_, ?_, ?_, ?_, h.btp⟩⟩
  · refine h.ax.kept hk2 (fun k hs => ?_) (h.ax.st.kept hk2 ?_) (hb.setCell h.btp.1 _)
    · rcases hs with hf | rfl
      · exact ⟨(h.aft k hf).2.2.2.2.2.1, (h.aft k hf).2.2.2.2.2.2, (h.aft k hf).2.2.1, (h.aft k hf).2.2.2.1⟩
      · exact ⟨h.btp.2.2.2.2.1, h.btp.2.2.2.2.2, h.btp.2.2.1, h.btp.2.2.2.1⟩
    · exact fun e => e.elim (fun hf => (h.aft _ hf).2.1 rfl) (fun e => h.btp.2.1 e.symm)
  · exact blk_put hb5 1 v1 rfl
  · refine Kd.N_far (p := ⟨Bt, 1, none⟩) (Kd.N_mono (Kd.N_bound hN) (fun k hf => hf.1.elim .inl (fun e => .inr ⟨e, hf.2⟩))) (fun k hf e => ?_) _
    have e' : k = Bt := e
    subst e'
    rcases hf with hf | hf
    · exact (h.aft _ hf).2.2.2.2.1 rfl
    · omega
  · intro k hf
    rw [hsz]
    rcases hf with hf | hf
    · exact ⟨⟨(h.aft k hf).1.1, Nat.lt_of_lt_of_le (h.aft k hf).1.2 h5⟩, (h.aft k hf).2⟩
    · exact ⟨⟨by omega, hf.2⟩, by omega, by omega, by omega, by omega, fun hv => by have := (h.ax.av k hv).1.2; omega, fun hc => by have := (h.ax.ac k hc).1.2; omega⟩
theorem TX.elem {A : Option Addr} {c : Nat} (h : TX w0 g B2 Bs d b FV FC vV vC vars conds Bt FT a (.slice A terms.length c) terms W) : Kd.FK k33 W FT ⟨a, terms⟩ [.int .i64 a, .slice A terms.length c] := by
  intro W' hW
  have h1 := (Kd.N_reads' (Kd.N_step h.nt hW)).2
  exact ⟨[.int .i64 a], [.slice A terms.length c], rfl, rfl, A, c, rfl, h1.1, h1.2⟩
end
def TailC (B2 Bs : Nat) (vV vC : Value) (W : World) : Prop := (W.cell? ⟨Bs, 0, none⟩ = some vV ∧ W.cell? ⟨Bs, 1, none⟩ = some vC ∧ W.frozen? ⟨Bs, 0, none⟩ = false ∧ W.frozen? ⟨Bs, 1, none⟩ = false ∧ Bs < W.heap.size) ∧ (W.cell? ⟨B2, 0, none⟩ = some (.slice none 0 0) ∧ W.cell? ⟨B2, 1, none⟩ = some (.slice none 0 0) ∧ W.frozen? ⟨B2, 0, none⟩ = false ∧ W.frozen? ⟨B2, 1, none⟩ = false ∧ B2 < W.heap.size)
theorem tail_of {B2 Bs : Nat} {vV vC : Value} {W : World} (h1 : W.heap[Bs]? = some (.cells #[vV, vC] 29 (0, 0))) (h2 : W.heap[B2]? = some (.cells #[.slice none 0 0, .slice none 0 0] 29 (0, 0))) : TailC B2 Bs vV vC W :=
  ⟨⟨(blk_cell h1 0).trans rfl, (blk_cell h1 1).trans rfl, blk_frozen h1 0, blk_frozen h1 1, blk_lt h1⟩, (blk_cell h2 0).trans rfl, (blk_cell h2 1).trans rfl, blk_frozen h2 0, blk_frozen h2 1, blk_lt h2⟩
structure FX (w0 : World) (g B2 Bs : Nat) (d : List Int) (b : Nat) (A : Option Addr) (c : Nat) (l0 : List S77) (A' : Option Addr) (c' : Nat) (l1 : List S33) (W : World) : Prop where
  st : StOk w0 W g d b
  b2 : W.heap[B2]? = some (.cells #[.slice none 0 0, .slice none 0 0] 29 (0, 0))
  blk : W.heap[Bs]? = some (.cells #[.slice A l0.length c, .slice A' l1.length c'] 29 (0, 0))
  le : l0.length ≤ c ∧ l1.length ≤ c'
  rd : ∃ ok : Nat → Prop, Kd.F k77 W ok A l0.length l0 ∧ Kd.F k33 W ok A' l1.length l1 ∧ ∀ k, ok k → k ≠ g ∧ k ≠ B2
  bw : Below w0.heap.size w0 W
  b2s : w0.heap.size ≤ B2 ∧ B2 ≠ g
section
variable {w0 : World} {g B2 Bs : Nat} {d : List Int} {b b' : Nat} {FV FC FT : Nat → Prop} {vV vC : Value} {vars l0 : List S77} {conds l1 : List S33} {A A' : Option Addr} {c c' : Nat} {W w1 : World}
theorem AX.fin (h : AX w0 g B2 Bs d b FV FC (.slice A vars.length c) (.slice A' conds.length c') vars conds W) : FX w0 g B2 Bs d b A c vars A' c' conds W :=
  ⟨h.st, h.b2, h.blk, ⟨(Kd.N_reads' h.nv).2.1, (Kd.N_reads' h.nc).2.1⟩, ⟨fun k => FV k ∨ FC k, Kd.F_mono (Kd.N_F h.nv) (fun _ hk => .inl hk), Kd.F_mono (Kd.N_F h.nc) (fun _ hk => .inr hk), fun k hk => hk.elim (fun hf => ⟨(h.av k hf).2.1, (h.av k hf).2.2.2.1⟩) (fun hf => ⟨(h.ac k hf).2.1, (h.ac k hf).2.2.2⟩)⟩, h.bw, h.b2s⟩
theorem AX.again (h : AX w0 g B2 Bs d b FV FC (.slice A vars.length c) vC vars conds W) (hb : Below W.heap.size W w1) (hF : Kd.F k33 w1 (fun k => FC k ∨ W.heap.size ≤ k) A' l1.length l1) (hle : l1.length ≤ c') :
    FX w0 g B2 Bs d b A c vars A' c' l1 (w1.setCell ⟨Bs, 1, none⟩ (.slice A' l1.length c')) := by
  have h1 := h.below hb
  have hk : Kept w1 (w1.setCell ⟨Bs, 1, none⟩ (.slice A' l1.length c')) (fun k => k = Bs) := Kept.setCell (p := ⟨Bs, 1, none⟩) (S := fun k => k = Bs) (Kept.refl w1 _) (.inl rfl) _
  have hlt := blk_lt h.blk
  have hlt2 := blk_lt h.b2
  have hlt3 := h.st.lt
  refine ⟨h1.st.kept hk (fun e => h.bs.2.1 e.symm), blk_kept h1.b2 hk (fun e => h.bs.2.2 e.symm), blk_put h1.blk 1 _ rfl, ⟨(Kd.N_reads' h.nv).2.1, hle⟩, ⟨fun k => FV k ∨ FC k ∨ W.heap.size ≤ k, Kd.F_mono (Kd.F_kept (Kd.N_F h1.nv) hk (fun k hf e => (h.av k hf).2.2.1 e)) (fun _ hk => .inl hk), Kd.F_mono (Kd.F_kept hF hk (fun k hf e => ?_)) (fun _ hk => .inr hk), fun k hk => ?_⟩, h1.bw.setCell h.bs.1 _, h.b2s⟩
  · subst e
    exact hf.elim (fun hf => (h.ac _ hf).2.2.1 rfl) (fun hf => by omega)
  · rcases hk with hf | hf | hf
    · exact ⟨(h.av k hf).2.1, (h.av k hf).2.2.2.1⟩
    · exact ⟨(h.ac k hf).2.1, (h.ac k hf).2.2.2⟩
    · exact ⟨by omega, by omega⟩
theorem read_set54 {gv : Nat} {cells : Array Value} {vs : List S77} (hv : W.heap[gv]? = some (.cells cells 77 (0, 0))) (h : Kd.C k77 W (some ⟨gv, 0, none⟩) vs.length vs) (hp : 0 < vs.length) (r : Int) :
    ∃ vs' : List S77, vs'.length = vs.length ∧ (∀ v ∈ vs', ∃ u ∈ vs, v.f0 = u.f0) ∧ Kd.F k77 (W.setCell ⟨gv, 1, none⟩ (.int .i64 r)) (fun k => k = gv) (some ⟨gv, 0, none⟩) vs'.length vs' := by
  cases vs with
  | nil => simp at hp
  | cons v0 vr =>
    obtain ⟨_, hm, hn⟩ := h
    obtain ⟨ad, e, hcell⟩ := hn hp
    injection e with e
    subst e
    refine ⟨⟨v0.f0, r, v0.f2⟩ :: vr, rfl, fun v hv => ?_, fun W' hW => ⟨rfl, hm, fun _ => ⟨_, rfl, fun j p hj => ?_⟩⟩⟩
    · rcases List.mem_cons.1 hv with rfl | hv
      · exact ⟨v0, by simp, rfl⟩
      · exact ⟨v, by simp [hv], rfl⟩
    · have hl : gv < (W.setCell ⟨gv, 1, none⟩ (.int .i64 r)).heap.size := by simpa [World.setCell] using blk_lt hv
      have hsame : ∀ i, W'.cell? ⟨gv, i, none⟩ = (W.setCell ⟨gv, 1, none⟩ (.int .i64 r)).cell? ⟨gv, i, none⟩ := fun i => by
        simp [World.cell?, hW gv rfl hl]
      cases j with
      | zero =>
        obtain ⟨c0, hc1, hc2, hc3⟩ := hcell 0 v0 rfl
        obtain rfl := k77_open hc2
        simp only [List.getElem?_cons_zero, Option.some.injEq] at hj
        subst hj
        refine ⟨[.string v0.f0, .int .i64 r, .int .i64 v0.f2], rfl, ⟨[.string v0.f0], [.int .i64 r, .int .i64 v0.f2], rfl, rfl, [.int .i64 r], [.int .i64 v0.f2], rfl, rfl, rfl⟩, fun i u hu => ?_⟩
        have ha : (⟨gv, 0, none⟩ : Addr).add (0 * k77.sz + i) = ⟨gv, i, none⟩ := by rw [add_plain]; simp
        rw [ha, hsame]
        match i, hu with
        | 0, hu =>
          have := hc3 0 _ rfl
          rw [show (⟨gv, 0, none⟩ : Addr).add (0 * k77.sz + 0) = ⟨gv, 0, none⟩ by rw [add_plain]; simp] at this
          rw [World.cell?_setCell_other _ _ _ _ (by simp)]
          simp at hu
          rw [this, hu]
        | 1, hu =>
          have := hc3 1 _ rfl
          rw [show (⟨gv, 0, none⟩ : Addr).add (0 * k77.sz + 1) = ⟨gv, 1, none⟩ by rw [add_plain]; simp] at this
          rw [World.cell?_setCell_same _ _ _ this]
          simpa using hu
        | 2, hu =>
          have := hc3 2 _ rfl
          rw [show (⟨gv, 0, none⟩ : Addr).add (0 * k77.sz + 2) = ⟨gv, 2, none⟩ by rw [add_plain]; simp] at this
          rw [World.cell?_setCell_other _ _ _ _ (by simp)]
          simp at hu
          rw [this, hu]
        | i + 3, hu => simp at hu
      | succ j =>
        simp only [List.getElem?_cons_succ] at hj
        obtain ⟨c0, hc1, hc2, hc3⟩ := hcell (j + 1) p (by simpa using hj)
        refine ⟨c0, hc1, hc2, fun i u hu => ?_⟩
        have := hc3 i u hu
        have hsz : k77.sz = 3 := rfl
        rw [hsz, add_plain] at this ⊢
        rw [hsame, World.cell?_setCell_other _ _ _ _ (by intro e; injection e with _ e _; omega)]
        exact this
theorem AX.first {gv : Nat} (h : AX w0 g B2 Bs d b FV FC (.slice (some ⟨gv, 0, none⟩) vars.length c) (.slice A' conds.length c') vars conds W) (hp : 0 < vars.length) (r : Int) :
    ∃ vs' : List S77, vs'.length = vars.length ∧ (∀ v ∈ vs', ∃ u ∈ vars, v.f0 = u.f0) ∧ FX w0 g B2 Bs d b (some ⟨gv, 0, none⟩) c vs' A' c' conds (W.setCell ⟨gv, 1, none⟩ (.int .i64 r)) := by
  obtain ⟨cells, hb⟩ := Kd.N_typed h.nv gv rfl
  have hg : FV gv := h.nv.1 gv rfl
  have hk : Kept W (W.setCell ⟨gv, 1, none⟩ (.int .i64 r)) (fun k => k = gv) := Kept.setCell (p := ⟨gv, 1, none⟩) (S := fun k => k = gv) (Kept.refl W _) (.inl rfl) _
  obtain ⟨vs', e1, e2, e3⟩ := read_set54 hb (Kd.N_reads' h.nv).2.2 hp r
  have hle := (Kd.N_reads' h.nv).2.1
  refine ⟨vs', e1, e2, h.st.kept hk (fun e => (h.av _ hg).2.1 e.symm), blk_kept h.b2 hk (fun e => (h.av _ hg).2.2.2.1 e.symm), by rw [e1]; exact blk_kept h.blk hk (fun e => (h.av _ hg).2.2.1 e.symm), ⟨by omega, (Kd.N_reads' h.nc).2.1⟩, ⟨fun k => k = gv ∨ FC k, Kd.F_mono e3 (fun _ hk => .inl hk), Kd.F_mono (Kd.F_kept (Kd.N_F h.nc) hk (fun k hf e => by subst e; exact (h.av _ hg).2.2.2.2 hf)) (fun _ hk => .inr hk), fun k hk => ?_⟩, h.bw.setCell (h.av _ hg).1.1 _, h.b2s⟩
  rcases hk with rfl | hf
  · exact ⟨(h.av _ hg).2.1, (h.av _ hg).2.2.2.1⟩
  · exact ⟨(h.ac k hf).2.1, (h.ac k hf).2.2.2⟩
theorem FX.done (h : FX w0 g B2 Bs d b A c l0 A' c' l1 W) : (((W.setCell ⟨B2, 0, none⟩ (.slice A l0.length c)).setCell ⟨B2, 1, none⟩ (.slice A' l1.length c')).heap[B2]? = some (.cells #[.slice A l0.length c, .slice A' l1.length c'] 29 (0, 0))) ∧
    (∃ ok : Nat → Prop, Kd.F k77 ((W.setCell ⟨B2, 0, none⟩ (.slice A l0.length c)).setCell ⟨B2, 1, none⟩ (.slice A' l1.length c')) ok A l0.length l0 ∧ Kd.F k33 ((W.setCell ⟨B2, 0, none⟩ (.slice A l0.length c)).setCell ⟨B2, 1, none⟩ (.slice A' l1.length c')) ok A' l1.length l1 ∧ ¬ ok g) ∧
    StOk w0 ((W.setCell ⟨B2, 0, none⟩ (.slice A l0.length c)).setCell ⟨B2, 1, none⟩ (.slice A' l1.length c')) g d b ∧ Below w0.heap.size w0 ((W.setCell ⟨B2, 0, none⟩ (.slice A l0.length c)).setCell ⟨B2, 1, none⟩ (.slice A' l1.length c')) := by
  have hk1 : Kept W (W.setCell ⟨B2, 0, none⟩ (.slice A l0.length c)) (fun k => k = B2) := Kept.setCell (p := ⟨B2, 0, none⟩) (S := fun k => k = B2) (Kept.refl W _) (.inl rfl) _
  have hk : Kept W ((W.setCell ⟨B2, 0, none⟩ (.slice A l0.length c)).setCell ⟨B2, 1, none⟩ (.slice A' l1.length c')) (fun k => k = B2) := Kept.setCell (p := ⟨B2, 1, none⟩) (S := fun k => k = B2) hk1 (.inl rfl) _
  obtain ⟨ok, h1, h2, h3⟩ := h.rd
  exact ⟨blk_put (blk_put h.b2 0 _ rfl) 1 _ rfl, ⟨ok, Kd.F_kept h1 hk (fun k hf e => (h3 k hf).2 e), Kd.F_kept h2 hk (fun k hf e => (h3 k hf).2 e), fun hg => (h3 g hg).1 rfl⟩, h.st.kept hk (fun e => h.b2s.2 e.symm), (h.bw.setCell h.b2s.1 _).setCell h.b2s.1 _⟩
end
end Go.Proofs.YtjgakaembhmhpaaGreatDoor.PA
