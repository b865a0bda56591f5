/- Part of the proof of FormsOverSets (the walk: drawn terms); what it proves holds without further conditions. -/
import Derived.Shelf.Abstract
import Derived.Lib.SliceRun
import Derived.Lib.LazyBuf
import Derived.Shelf.SlSortCmp.WholeK
import Derived.Test.YtjgakaembhmhpaaGreatDoorHC
import Derived.Test.YtjgakaembhmhpaaGreatDoorSB
import Derived.Test.YtjgakaembhmhpaaGreatDoorSC
set_option linter.unusedVariables false
set_option linter.unusedSimpArgs false
namespace Go.Proofs.YtjgakaembhmhpaaGreatDoor.PA
open Go.RowKit Go.Proofs.YtjgakaembhmhpaaGreatDoorW.PrintWords Go.Proofs.YtjgakaembhmhpaaGreatDoorW.PrintLast Go.Proofs.YtjgakaembhmhpaaGreatDoorW.PrintMore Go.Proofs.YtjgakaembhmhpaaGreatDoorM
def flatT (l : List S79) : List Value := l.flatMap fun t => [.string t.f0, .int .i64 t.f1]
theorem flatT_cons (t : S79) (l : List S79) : flatT (t :: l) = .string t.f0 :: .int .i64 t.f1 :: flatT l := rfl
theorem flatT_length : ∀ l : List S79, (flatT l).length = l.length * 2
  | [] => rfl
  | t :: l => by rw [flatT_cons, List.length_cons, List.length_cons, flatT_length l, List.length_cons]; omega
theorem flatT_at0 : ∀ (l : List S79) (j : Nat), j < l.length → (flatT l)[j * 2]? = some (.string (l.getD j z79).f0)
  | [], j, h => absurd h (Nat.not_lt_zero _)
  | t :: l, 0, _ => rfl
  | t :: l, j + 1, h => by
    rw [flatT_cons, show (j + 1) * 2 = j * 2 + 1 + 1 by omega, List.getElem?_cons_succ, List.getElem?_cons_succ, flatT_at0 l j (by simpa using h)]
    rfl
theorem flatT_at1 : ∀ (l : List S79) (j : Nat), j < l.length → (flatT l)[j * 2 + 1]? = some (.int .i64 (l.getD j z79).f1)
  | [], j, h => absurd h (Nat.not_lt_zero _)
  | t :: l, 0, _ => rfl
  | t :: l, j + 1, h => by
    rw [flatT_cons, show (j + 1) * 2 + 1 = j * 2 + 1 + 1 + 1 by omega, List.getElem?_cons_succ, List.getElem?_cons_succ, flatT_at1 l j (by simpa using h)]
    rfl
theorem flatT_set (a : ByteArray) (b : Int) : ∀ (l : List S79) (j : Nat), ((flatT l).set (j * 2) (.string a)).set (j * 2 + 1) (.int .i64 b) = flatT (l.set j ⟨a, b⟩)
  | [], j => rfl
  | t :: l, 0 => rfl
  | t :: l, j + 1 => by
    rw [flatT_cons, show (j + 1) * 2 = j * 2 + 1 + 1 by omega, List.set_cons_succ, List.set_cons_succ, List.set_cons_succ, List.set_cons_succ, flatT_set a b l j]
    rfl
theorem flatT_take : ∀ (l : List S79) (m : Nat), (flatT l).take (m * 2) = flatT (l.take m)
  | [], m => by simp [flatT]
  | t :: l, 0 => rfl
  | t :: l, m + 1 => by
    rw [flatT_cons, show (m + 1) * 2 = m * 2 + 1 + 1 by omega, List.take_succ_cons, List.take_succ_cons, flatT_take l m]
    rfl
def TR (W : World) (X cap : Nat) (l : List S79) : Prop := ∃ cur : Array Value, W.heap[X]? = some (.cells cur 79 (0, 0)) ∧ l.length ≤ cap ∧ cap ≤ maxLen ∧ cur.size = cap * 2 ∧ cur.toList.take (l.length * 2) = flatT l
section
variable {W W' : World} {X cap j m base : Nat} {l : List S79}
theorem TR.lt (h : TR W X cap l) : X < W.heap.size := by
  obtain ⟨cur, h1, _⟩ := h
  exact blk_lt h1
theorem TR.same (h : TR W X cap l) (e : W'.heap[X]? = W.heap[X]?) : TR W' X cap l := by
  obtain ⟨cur, h1, h2⟩ := h
  exact ⟨cur, e.trans h1, h2⟩
theorem TR.below (h : TR W X cap l) (hb : Below W.heap.size W W') : TR W' X cap l := h.same (hb.block X h.lt)
theorem TR.kept {S : Nat → Prop} (h : TR W X cap l) (hk : Kept W W' S) (hn : ¬ S X) : TR W' X cap l := h.same (hk.2 X h.lt hn)
theorem TR.cell0 (h : TR W X cap l) (hj : j < l.length) : W.cell? ⟨X, j * 2, none⟩ = some (.string (l.getD j z79).f0) := by
  obtain ⟨cur, h1, h2, h3, h4, h5⟩ := h
  rw [blk_cell h1, ← flatT_at0 l j hj, ← h5, List.getElem?_take_of_lt (by omega), Array.getElem?_toList]
theorem TR.cell1 (h : TR W X cap l) (hj : j < l.length) : W.cell? ⟨X, j * 2 + 1, none⟩ = some (.int .i64 (l.getD j z79).f1) := by
  obtain ⟨cur, h1, h2, h3, h4, h5⟩ := h
  rw [blk_cell h1, ← flatT_at1 l j hj, ← h5, List.getElem?_take_of_lt (by omega), Array.getElem?_toList]
theorem TR.frozen (h : TR W X cap l) (i : Nat) : W.frozen? ⟨X, i, none⟩ = false := by
  obtain ⟨cur, h1, _⟩ := h
  exact blk_frozen h1 i
theorem TR.set (h : TR W X cap l) (j : Nat) (a : ByteArray) (b : Int) : TR ((W.setCell ⟨X, j * 2, none⟩ (.string a)).setCell ⟨X, j * 2 + 1, none⟩ (.int .i64 b)) X cap (l.set j ⟨a, b⟩) := by
  obtain ⟨cur, h1, h2, h3, h4, h5⟩ := h
  refine ⟨(cur.setIfInBounds (j * 2) (.string a)).setIfInBounds (j * 2 + 1) (.int .i64 b), blk_set (blk_set h1 _ _) _ _, by rw [List.length_set]; exact h2, h3, by simpa using h4, ?_⟩
  rw [List.length_set, Array.toList_setIfInBounds, Array.toList_setIfInBounds, List.take_set, List.take_set, h5, flatT_set]
theorem TR.take (h : TR W X cap l) (m : Nat) : TR W X cap (l.take m) := by
  obtain ⟨cur, h1, h2, h3, h4, h5⟩ := h
  refine ⟨cur, h1, by rw [List.length_take]; omega, h3, h4, ?_⟩
  rw [← flatT_take, ← h5, List.take_take, List.length_take]
  congr 1
  omega
theorem TR.owns (h : TR W X cap l) (hb : base ≤ X) : W.ownsRow base 79 2 (.slice (some ⟨X, 0, none⟩) l.length cap) l.length (flatT l) := by
  obtain ⟨cur, h1, h2, h3, h4, h5⟩ := h
  exact ⟨flatT_length l, .inr ⟨X, cap, cur, rfl, hb, h1, h2, h3, h4, h5⟩⟩
theorem TR.of_owns {v : Value} (h : W.ownsRow base 79 2 v l.length (flatT l)) (hn : v ≠ .slice none 0 0) : ∃ X cap, v = .slice (some ⟨X, 0, none⟩) l.length cap ∧ base ≤ X ∧ TR W X cap l := by
  obtain ⟨h0, h1⟩ := h
  rcases h1 with ⟨e, _⟩ | ⟨g, cap, cur, rfl, h2, h3, h4, h5, h6, h7⟩
  · exact absurd e hn
  · exact ⟨g, cap, rfl, h2, cur, h3, h4, h5, h6, h7⟩
theorem TR.F (h : TR W X cap l) (hl : l.length ≤ 9223372036854775807) : Kd.F k79 W (fun k => k = X) (some ⟨X, 0, none⟩) l.length l := by
  intro W' hW
  have h' := h.same (hW X rfl h.lt)
  refine ⟨rfl, hl, fun _ => ⟨_, rfl, fun j p hj => ?_⟩⟩
  obtain ⟨hjl, hjp⟩ := List.getElem?_eq_some_iff.1 hj
  have e : l.getD j z79 = p := by simp [List.getD, hj]
  have c0 := h'.cell0 hjl
  have c1 := h'.cell1 hjl
  rw [e] at c0 c1
  refine ⟨[.string p.f0, .int .i64 p.f1], rfl, ⟨[.string p.f0], [.int .i64 p.f1], rfl, rfl, rfl⟩, fun i u hu => ?_⟩
  show W'.cell? (Addr.add ⟨X, 0, none⟩ (j * 2 + i)) = _
  rw [add_plain]
  cases i with
  | zero =>
    simp only [List.getElem?_cons_zero, Option.some.injEq] at hu
    subst hu
    exact c0
  | succ i =>
    cases i with
    | zero =>
      simp only [List.getElem?_cons_succ, List.getElem?_cons_zero, Option.some.injEq] at hu
      subst hu
      exact c1
    | succ i => simp at hu
end
theorem form1_calls (a : ByteArray) (b : Int) (W : World) : Calls Tryz.prog 108 #[.agg #[.string a, .int .i64 b]] W fun e w' => ∃ q : Bool, e = .returned (.bool q) ∧ Below W.heap.size W w' := by
  go_enter Tryz.func108, Tryz.ntmps108
  go_wp2
  go_ret
  exact ⟨_, rfl, below_alloc (Below.refl _ _) _⟩
set_option maxHeartbeats 400000 in
theorem IndexT {X cap : Nat} {l : List S79} {W : World} (h : TR W X cap l) (hl : l.length ≤ 1000) :
    Calls Tryz.prog 153 #[.slice (some ⟨X, 0, none⟩) l.length cap, .func (.func 108) #[] #[]] W fun e w' => ∃ r : Int, e = .returned (.int .i64 r) ∧ (-1 ≤ r ∧ r < l.length) ∧ Below W.heap.size W w' := by
  have HR := Aside0.mk h
  have eg := enters_of Tryz.func108 (by kernel_rfl) rfl
  clear h
  go_enter Tryz.func153, Tryz.ntmps153
  go_wp2
  go_loopg [5, 8] l.length (fun gg _ s8 wr => ∃ kk : Nat, kk ≤ l.length ∧ l.length - kk ≤ gg ∧ s8 = .int .i64 kk ∧ Aside0 (Below W.heap.size W wr))
  case atStart => exact ⟨0, Nat.zero_le _, by omega, rfl, ⟨Below.refl _ _⟩⟩
  case round =>
    obtain ⟨kk, hkk, hg, rfl, HB⟩ := hrel
    by_cases hlt : kk < l.length
    · have hltz : (kk : Int) < (l.length : Int) := by omega
      have c0 := (HR.out.below HB.out).cell0 hlt
      have c1 := (HR.out.below HB.out).cell1 hlt
      generalize l.getD kk z79 = y at *
      obtain ⟨y0, y1⟩ := y
      go_wp2_with (go_at_fn 108)
      refine (form1_calls y0 y1 _).mono ?_
      rintro e w2 ⟨q, rfl, hb⟩
      have HB2 := Aside0.mk (below_step HB.out hb)
      clear hb
      cases q <;> go_wp2
      · go_roundg (l.length - (kk + 1))
        case measure => omega
        case rel => exact ⟨kk + 1, by omega, by omega, by go_num, HB2⟩
      · go_ret
        exact ⟨_, rfl, ⟨by omega, by omega⟩, HB2.out⟩
    · have hltz : ¬ (kk : Int) < (l.length : Int) := by omega
      go_wp2
      go_ret
      exact ⟨_, rfl, ⟨by omega, by omega⟩, HB.out⟩
theorem TR.cells {W : World} {X cap : Nat} {l : List S79} (h : TR W X cap l) (j : Nat) (u : Value) (hj : (flatT l)[j]? = some u) : W.cell? ⟨X, j, none⟩ = some u := by
  obtain ⟨cur, h1, h2, h3, h4, h5⟩ := h
  have hl := (List.getElem?_eq_some_iff.1 hj).1
  rw [flatT_length] at hl
  rw [blk_cell h1, ← hj, ← h5, List.getElem?_take_of_lt hl, Array.getElem?_toList]
theorem flatT_one (l : List S79) : ∀ u ∈ flatT l, u.oneCell' = true := by
  intro u hu
  unfold flatT at hu
  obtain ⟨t, _, ht⟩ := List.mem_flatMap.1 hu
  simp only [List.mem_cons, List.not_mem_nil, or_false] at ht
  rcases ht with rfl | rfl <;> rfl
theorem i79 : ∃ i : TypeInfo, Tryz.prog.info? 79 = some i ∧ i.zero = some (.agg #[.string ⟨#[]⟩, .int .i64 0]) ∧ i.size = 2 ∧ i.bytes = 24 := by
  have h : (Tryz.prog.info? 79).map (fun i => (i.zero, i.size, i.bytes)) = some (some (.agg #[.string ⟨#[]⟩, .int .i64 0]), 2, 24) := by kernel_rfl
  obtain ⟨i, hi, e⟩ := Option.map_eq_some_iff.1 h
  simp only [Prod.mk.injEq] at e
  exact ⟨i, hi, e.1, e.2.1, e.2.2⟩
set_option maxHeartbeats 400000 in
theorem CloneT {Y c : Nat} {l : List S79} {w : World} (h : TR w Y c l) (hl : l.length ≤ 1000) :
    Calls Tryz.prog 107 #[.slice (some ⟨Y, 0, none⟩) l.length c] w fun e w' => ∃ X cap, e = .returned (.slice (some ⟨X, 0, none⟩) l.length cap) ∧ w.heap.size ≤ X ∧ TR w' X cap l ∧ Below w.heap.size w w' := by
  have HR := Aside0.mk h
  have q31 : ∀ (w : World) (a : Option Addr) (n c n' c' : Nat), (binOp .eql 31 (.slice a n c) (.slice none n' c')).run Tryz.prog w = .ok (.bool a.isNone) w := fun w a n c n' c' => Lib.run_eql_slice_nil w _ _ a n c n' c' Tryz.underlying31
  obtain ⟨i, hi1, hi2, hi3, hi4⟩ := i79
  clear h
  go_enter Tryz.func107, Tryz.ntmps107
  go_wp2_with (at_builtin; refine wpList_append_own _ rfl _ _ 31 rfl w.heap.size 79 i (.agg #[.string ⟨#[]⟩, .int .i64 0]) 2 24 Tryz.underlying31 hi1 hi2 hi3 hi4 rfl (by decide) _ _ _ rfl (World.ownsRow_made w #[] 0 (Nat.le_refl _) (Nat.zero_le _) (by simp)) ⟨Y, 0, none⟩ l.length c (flatT l) rfl (flatT_length l) ?qc2 (flatT_one l) ?qc4 ?qc5 (by simp) ?_)
  case qc2 =>
    intro j u hj
    rw [add_plain]
    exact (HR.out.below (below_alloc (Below.refl _ _) _)).cells j u hj
  case qc4 => unfold maxLen; omega
  case qc5 => omega
  intro v' w1 hown hgrow hnil
  have HN := Aside0.mk hnil
  have HO := Aside0.mk hown
  clear hown hnil
  go_wp2
  go_ret
  obtain ⟨X, cap, rfl, hX, hT⟩ := TR.of_owns HO.out HN.out
  exact ⟨X, cap, rfl, hX, hT, ((Below.refl _ w).alloc (Nat.le_refl _) _).grown hgrow (by simp) (by intro k hk; simp [Value.ownBlock] at hk; omega)⟩
theorem TR_setCells (X s m : Nat) (L : List Value) : ∀ (zs : List Value) (o : Nat) (W : World), m ≤ o → (∃ cur : Array Value, W.heap[X]? = some (.cells cur 79 (0, 0)) ∧ cur.size = s ∧ cur.toList.take m = L) → ∃ cur : Array Value, (W.setCells X o zs).heap[X]? = some (.cells cur 79 (0, 0)) ∧ cur.size = s ∧ cur.toList.take m = L
  | [], o, W, _, h => h
  | z :: zs, o, W, hm, ⟨cur, h1, h2, h3⟩ => TR_setCells X s m L zs (o + 1) (W.setCell ⟨X, o, none⟩ z) (by omega) ⟨cur.setIfInBounds o z, blk_set h1 _ _, by simpa using h2, by
      rw [Array.toList_setIfInBounds, List.take_set, h3]
      rw [← h3]
      exact List.set_eq_of_length_le (by rw [List.length_take]; omega)⟩
theorem TR.clear {W : World} {X cap : Nat} {l : List S79} (h : TR W X cap l) (i : Nat) (hi : i ≤ l.length) (zs : List Value) : TR (W.setCells X (i * 2) zs) X cap (l.take i) := by
  obtain ⟨cur, h1, h2, h3, h4, h5⟩ := h.take i
  rw [List.length_take, Nat.min_eq_left hi] at h5 h2
  obtain ⟨cur', k1, k2, k3⟩ := TR_setCells X (cap * 2) (i * 2) _ zs (i * 2) W (Nat.le_refl _) ⟨cur, h1, h4, h5⟩
  exact ⟨cur', k1, by rw [List.length_take, Nat.min_eq_left hi]; exact h2, h3, k2, by rw [List.length_take, Nat.min_eq_left hi]; exact k3⟩
theorem keptSets (g : Nat) {w0 : World} {S : Nat → Prop} (hS : S g) : ∀ (vs : List Value) (o : Nat) (W : World), Kept w0 W S → Kept w0 (W.setCells g o vs) S
  | [], _, _, h => h
  | v :: vs, o, W, h => keptSets g hS vs (o + 1) (W.setCell ⟨g, o, none⟩ v) (Kept.setCell h (.inl hS) v)
theorem belowSets (g : Nat) {w0 : World} (hg : w0.heap.size ≤ g) : ∀ (vs : List Value) (o : Nat) (W : World), Below w0.heap.size w0 W → Below w0.heap.size w0 (W.setCells g o vs)
  | [], _, _, h => h
  | v :: vs, o, W, h => belowSets g hg vs (o + 1) (W.setCell ⟨g, o, none⟩ v) (h.setCell (p := ⟨g, o, none⟩) hg v)
theorem run_clear_terms (W : World) (b o n c : Nat) (hn : 0 < n) (hc : ∀ j, j < n * 2 → (W.cell? ⟨b, o + j, none⟩).isSome = true) (hf : ∀ j, j < n * 2 → W.frozen? ⟨b, o + j, none⟩ = false) :
    ∃ zs : List Value, ∀ ty, (Builtin.clear_ #[31] ty #[.slice (some ⟨b, o, none⟩) n c]).run Tryz.prog W = .ok (.tuple #[]) (W.setCells b o zs) := by
  have hv : ∀ w, (zeroValue 79).run Tryz.prog w = .ok (.agg #[.string ⟨#[]⟩, .int .i64 0]) w := Tryz.zeroValue79
  refine ⟨(Builtin.zeroCells (Value.agg #[.string ⟨#[]⟩, .int .i64 0]).cells n).toList, fun ty => ?_⟩
  have hcs : (Value.agg #[.string ⟨#[]⟩, .int .i64 0]).cells = #[.string ⟨#[]⟩, .int .i64 0] := rfl
  have hlen : (Builtin.zeroCells (Value.agg #[.string ⟨#[]⟩, .int .i64 0]).cells n).toList.length = n * 2 := by rw [hcs]; simp [Builtin.zeroCells]
  have hone : ∀ v ∈ (Builtin.zeroCells (Value.agg #[.string ⟨#[]⟩, .int .i64 0]).cells n).toList, v.oneCell' = true := by
    rw [hcs]
    intro v hv
    simp only [Builtin.zeroCells, Array.toList_map, List.mem_map] at hv
    obtain ⟨i, _, rfl⟩ := hv
    have : i % 2 = 0 ∨ i % 2 = 1 := by omega
    show (#[Value.string ⟨#[]⟩, Value.int .i64 0][i % 2]!).oneCell' = true
    rcases this with e | e <;> rw [e] <;> rfl
  have hst := run_storeCells_cells (P := Tryz.prog) b o _ 0 W (by rw [hlen]; simpa using hc) (by rw [hlen]; simpa using hf) hone
  simp only [Nat.add_zero] at hst
  obtain ⟨m, rfl⟩ : ∃ m, n = m + 1 := ⟨n - 1, by omega⟩
  simp [Builtin.clear_, run_underlying Tryz.underlying31, hv, hst]
def okT (t : S79) : Prop := t.f0.size ≤ 10
set_option maxHeartbeats 1000000 in
theorem DeleteT {X cap : Nat} {l : List S79} {w0 W : World} (h : TR W X cap l) (hl : l.length ≤ 1000) (hn : ∀ t ∈ l, okT t) (hX : w0.heap.size ≤ X) (hB : Below w0.heap.size w0 W) :
    Calls Tryz.prog 106 #[.slice (some ⟨X, 0, none⟩) l.length cap, .func (.func 108) #[] #[]] W fun e w' => ∃ l' : List S79, e = .returned (.slice (some ⟨X, 0, none⟩) l'.length cap) ∧ l'.length ≤ l.length ∧ (∀ t ∈ l', okT t) ∧ TR w' X cap l' ∧ Kept W w' (fun k => k = X) ∧ Below w0.heap.size w0 w' := by
  have HR := Aside0.mk h
  have HN := Aside0.mk hn
  have HB := Aside0.mk hB
  have eg := enters_of Tryz.func108 (by kernel_rfl) rfl
  have HI := Aside0.mk (IndexT h hl)
  clear h hn hB
  go_enter Tryz.func106, Tryz.ntmps106
  go_wp2_with (go_at_call 153; refine HI.out.mono ?_; rintro e w1 ⟨r, rfl, hr, hb⟩; have HB1 := Aside0.mk hb; have HR1 := Aside0.mk (HR.out.below hb); clear hb; by_cases er : r = -1)
  · subst er
    go_wp2
    go_ret
    exact ⟨l, rfl, Nat.le_refl _, HN.out, HR1.out, Kept.of_below HB1.out _, below_then HB.out HB.out.size HB1.out⟩
  · have hr1 : (r == -1) = false := beq_eq_false_iff_ne.2 er
    obtain ⟨i0, rfl⟩ : ∃ i0 : Nat, r = (i0 : Int) := ⟨r.toNat, by omega⟩
    have hi0 : i0 < l.length := by omega
    have HBW := Aside0.mk (below_then HB.out HB.out.size HB1.out)
    clear hr er
    go_wp2
    go_loopg [5, 6, 7] l.length (fun gg s5 s6 _ wr => ∃ (i j : Nat) (cur : List S79), i < j ∧ j ≤ l.length ∧ l.length - j ≤ gg ∧ s5 = .int .i64 i ∧ s6 = .int .i64 j ∧ cur.length = l.length ∧ Aside0 (∀ t ∈ cur, okT t) ∧ Aside0 (TR wr X cap cur) ∧ Aside0 (Kept W wr (fun k => k = X)) ∧ Aside0 (Below w0.heap.size w0 wr))
    case atStart => exact ⟨i0, i0 + 1, l, by omega, by omega, by omega, rfl, by go_num, rfl, HN, HR1, ⟨Kept.of_below HB1.out _⟩, HBW⟩
    case round =>
      obtain ⟨i, j, cur, hij, hj, hg, rfl, rfl, hcl, HC, HT, HK, HBB⟩ := hrel
      by_cases hlt : j < l.length
      · have hltz : (j : Int) < (l.length : Int) := by omega
        have hiz : (i : Int) < (l.length : Int) := by omega
        have c0 := HT.out.cell0 (j := j) (by omega)
        have c1 := HT.out.cell1 (j := j) (by omega)
        have HY : Aside0 (okT (cur.getD j z79)) := ⟨HC.out _ (by
          have hj' : j < cur.length := by omega
          simp only [List.getD, List.getElem?_eq_getElem hj', Option.getD_some]
          exact List.getElem_mem hj')⟩
        have HCL := Aside0.mk hcl
        clear hcl
        generalize cur.getD j z79 = y at *
        obtain ⟨y0, y1⟩ := y
        have HBN := Aside0.mk (below_alloc (Below.refl wr.heap.size wr) (.cells #[.string y0, .int .i64 y1] 79))
        have HNB := Aside0.mk (blk_new wr (.cells #[.string y0, .int .i64 y1] 79))
        go_wp2_with (go_at_fn 108)
        refine (form1_calls y0 y1 _).mono ?_
        rintro e w2 ⟨q, rfl, hb⟩
        have HB2 := Aside0.mk (below_step HBN.out hb)
        have HN2 := Aside0.mk (blk_below HNB.out hb)
        clear hb c0 c1
        have HT2 := Aside0.mk (HT.out.below HB2.out)
        have HK2 := Aside0.mk (HK.out.below HB2.out)
        have HBB2 := Aside0.mk (below_then HBB.out HBB.out.size HB2.out)
        cases q with
        | true =>
          go_wp2
          go_roundg (l.length - (j + 1))
          case measure => omega
          case rel => exact ⟨i, j + 1, cur, by omega, by omega, by omega, rfl, by go_num, HCL.out, HC, HT2, HK2, HBB2⟩
        | false =>
          have z0 : w2.cell? ⟨wr.heap.size, 0, none⟩ = some (.string y0) := (blk_cell HN2.out 0).trans rfl
          have z1 : w2.cell? ⟨wr.heap.size, 1, none⟩ = some (.int .i64 y1) := (blk_cell HN2.out 1).trans rfl
          have s0 := HT2.out.cell0 (j := i) (by have := HCL.out; omega)
          have s1 := HT2.out.cell1 (j := i) (by have := HCL.out; omega)
          have f0 := HT2.out.frozen (i * 2)
          have f1 := HT2.out.frozen (i * 2 + 1)
          have lX := HT2.out.lt
          go_wp2
          go_roundg (l.length - (j + 1))
          case measure => omega
          case rel => exact ⟨i + 1, j + 1, cur.set i ⟨y0, y1⟩, by omega, by omega, by omega, by go_num, by go_num, by rw [List.length_set]; exact HCL.out, ⟨fun t ht => (List.mem_or_eq_of_mem_set ht).elim (HC.out t) (fun e => by rw [e]; exact HY.out)⟩, ⟨HT2.out.set i y0 y1⟩, ⟨Kept.setCell (p := ⟨X, i * 2 + 1, none⟩) (Kept.setCell (p := ⟨X, i * 2, none⟩) HK2.out (.inl rfl) _) (.inl rfl) _⟩, ⟨(HBB2.out.setCell (p := ⟨X, i * 2, none⟩) hX _).setCell (p := ⟨X, i * 2 + 1, none⟩) hX _⟩⟩
      · have hltz : ¬ (j : Int) < (l.length : Int) := by omega
        have ej : j = l.length := by omega
        subst ej
        have hcap : l.length ≤ cap := by
          obtain ⟨_, _, h2, _⟩ := HR.out
          exact h2
        obtain ⟨zs, hclr⟩ := run_clear_terms wr X (i * 2) (l.length - i) (cap - i) (by omega) (fun k hk => by
          have : ∃ u, (flatT cur)[i * 2 + k]? = some u := ⟨_, List.getElem?_eq_getElem (by rw [flatT_length, hcl]; omega)⟩
          obtain ⟨u, hu⟩ := this
          rw [HT.out.cells _ u hu]
          rfl) (fun k hk => HT.out.frozen _)
        have HCL := Aside0.mk hcl
        clear hcl
        have h0i : (0 : Int) ≤ (i : Int) := by omega
        have hil : (i : Int) ≤ (l.length : Int) := by omega
        have hic : (i : Int) ≤ (cap : Int) := by omega
        have hne : ¬ cap = i := by omega
        go_wp2
        go_ret
        have hlt2 : (cur.take i).length = i := by rw [List.length_take]; have := HCL.out; omega
        exact ⟨cur.take i, by rw [hlt2]; rfl, by rw [hlt2]; omega, fun t ht => HC.out t (List.mem_of_mem_take ht), HT.out.clear i (by have := HCL.out; omega) zs, keptSets X (S := fun k => k = X) rfl _ _ _ HK.out, belowSets X hX _ _ _ HBB.out⟩
theorem cmpB_lt : ∀ a b : List UInt8, (Lib.compareBytes a b < 0) ↔ a < b
  | [], [] => by simp [Lib.compareBytes]
  | [], _ :: _ => by simp [Lib.compareBytes]
  | _ :: _, [] => by simp [Lib.compareBytes]
  | x :: xs, y :: ys => by
    have ih := cmpB_lt xs ys
    unfold Lib.compareBytes
    rw [List.cons_lt_cons_iff]
    by_cases h1 : x < y
    · simp [h1]
    · by_cases h2 : y < x
      · have h3 : x ≠ y := fun e => h1 (e ▸ h2)
        simp [h1, h2, h3]
      · have h3 : x = y := UInt8.le_antisymm (UInt8.not_lt.1 h2) (UInt8.not_lt.1 h1)
        simp [h1, h2, ih, h3]
instance : Inhabited S79 := ⟨z79⟩
def encT (t : S79) : List Value := [.string t.f0, .int .i64 t.f1]
def cmpT (s t : S79) : Int := Lib.compareBytes s.f0.data.toList t.f0.data.toList
theorem ltT (s t : S79) : ltOf cmpT s t = decide (s.f0.data.toList < t.f0.data.toList) := by
  unfold ltOf cmpT
  exact decide_eq_decide.2 (cmpB_lt _ _)
theorem swoT : Go.Sort.SWO (ltOf cmpT) where
  irrefl x := by simp [ltT, List.lt_irrefl]
  trans x y z h1 h2 := by simp only [ltT, decide_eq_true_eq] at *; exact List.lt_trans h1 h2
  ntrans x y z h1 h2 := by
    simp only [ltT, decide_eq_false_iff_not, List.not_lt] at *
    exact List.le_trans h2 h1
theorem form2_calls (a : ByteArray) (b : Int) (c : ByteArray) (d : Int) (W : World) : Calls Tryz.prog 110 #[.agg #[.string a, .int .i64 b], .agg #[.string c, .int .i64 d]] W fun e w' => e = .returned (.int .i64 (Lib.compareBytes a.data.toList c.data.toList)) ∧ ∃ q os, w' = Go.Sort.grow (W.drewN q) os := by
  go_enter Tryz.func110, Tryz.ntmps110
  go_wp2_with (go_at_call 111; refine (Tryz.strings_Compare a c _).mono ?_; rintro e w2 ⟨rfl, rfl⟩)
  go_ret
  exact ⟨rfl, 0, #[.cells #[.string a, .int .i64 b] 79, .cells #[.string c, .int .i64 d] 79], by
    rw [Go.Sort.alloc_eq_grow, Go.Sort.alloc_eq_grow, Go.Sort.grow_grow]
    rfl⟩
theorem flatK_at (l : List S79) (j : Nat) (hj : j < l.length * 2) : (flatT l)[j]? = some (Go.Sort.flatK encT 2 l.toArray)[j]! := by
  rw [Go.Sort.get_flatK encT 2 l.toArray j (by simpa using hj)]
  have hl : j / 2 < l.length := by omega
  have e : l.toArray[j / 2]! = l.getD (j / 2) z79 := by
    rw [getElem!_pos l.toArray (j / 2) (by simpa using hl)]
    simp [List.getD, List.getElem?_eq_getElem hl]
  rw [e]
  have : j % 2 = 0 ∨ j % 2 = 1 := by omega
  rcases this with h | h
  · have := flatT_at0 l (j / 2) hl
    rw [show j / 2 * 2 = j by omega] at this
    rw [this, h]
    rfl
  · have := flatT_at1 l (j / 2) hl
    rw [show j / 2 * 2 + 1 = j by omega] at this
    rw [this, h]
    rfl
theorem TR.holds {W : World} {X cap : Nat} {l : List S79} (h : TR W X cap l) : Go.Sort.HoldsK encT 2 W X 0 l.toArray := by
  intro j hj
  have hj' : j < l.length * 2 := by simpa using hj
  rw [Nat.zero_add]
  exact ⟨h.cells j _ (flatK_at l j hj'), h.frozen j⟩
theorem TR.sorted {W : World} {X cap n : Nat} {l : List S79} {d : Array S79} {os : Array Obj} (h : TR W X cap l) (hd : d.size = l.length) : TR (sortWorldK encT 2 W X 0 n d os) X cap d.toList := by
  have hH := h.holds
  obtain ⟨cur, h1, h2, h3, h4, h5⟩ := h
  have hlt := blk_lt h1
  have hH' : Go.Sort.HoldsK encT 2 (sortWorldK encT 2 W X 0 n d os) X 0 d := by
    unfold sortWorldK Go.Sort.HoldsK
    refine Go.Sort.holds_grow id _ os X 0 _ ?_ ?_
    · simpa [Go.Sort.putRowK, Go.Sort.putRow, Go.Sort.mapBlock, Go.Sort.ahead] using hlt
    · exact Go.Sort.holds_putRow id _ X 0 (Go.Sort.flatK encT 2 l.toArray) _ hH (by simp [hd])
  obtain ⟨cur', k1, k2⟩ : ∃ cur' : Array Value, (sortWorldK encT 2 W X 0 n d os).heap[X]? = some (.cells cur' 79 (0, 0)) ∧ cur'.size = cur.size := by
    refine ⟨Go.Sort.putCells id 0 (Go.Sort.flatK encT 2 d) cur, ?_, by simp [Go.Sort.putCells]⟩
    unfold sortWorldK
    rw [Go.Sort.heap_grow_old _ _ (by simpa [Go.Sort.putRowK, Go.Sort.putRow, Go.Sort.mapBlock, Go.Sort.ahead] using hlt)]
    simp [Go.Sort.putRowK, Go.Sort.putRow, Go.Sort.mapBlock, Go.Sort.ahead, Array.getElem?_modify, h1, Go.Sort.onCells]
  have hdl : d.toList.length = l.length := by simpa using hd
  refine ⟨cur', k1, by rw [hdl]; exact h2, h3, by rw [k2, h4], ?_⟩
  apply List.ext_getElem?
  intro j
  rw [hdl]
  by_cases hj : j < l.length * 2
  · rw [List.getElem?_take_of_lt hj, Array.getElem?_toList, ← blk_cell k1]
    have := (hH' j (by simp [hd]; exact hj)).1
    rw [Nat.zero_add] at this
    rw [this, flatK_at d.toList j (by rw [hdl]; exact hj)]
    rfl
  · rw [List.getElem?_eq_none (by rw [List.length_take]; omega), List.getElem?_eq_none (by rw [flatT_length, hdl]; omega)]
theorem sortK_kept (W : World) (X n : Nat) (d : Array S79) (os : Array Obj) : Kept W (sortWorldK encT 2 W X 0 n d os) (fun k => k = X) := by
  unfold sortWorldK Go.Sort.putRowK Go.Sort.putRow Go.Sort.mapBlock
  refine ⟨by simp [Go.Sort.grow, Go.Sort.ahead], fun k hk hn => ?_⟩
  rw [Go.Sort.heap_grow_old _ _ (by simpa [Go.Sort.ahead] using hk)]
  have : ¬ X = k := fun e => hn e.symm
  simp [Go.Sort.ahead, Array.getElem?_modify, this]
theorem sortK_below {w0 W : World} (X n : Nat) (d : Array S79) (os : Array Obj) (hB : Below w0.heap.size w0 W) (hX : w0.heap.size ≤ X) : Below w0.heap.size w0 (sortWorldK encT 2 W X 0 n d os) := by
  have hk := sortK_kept W X n d os
  exact ⟨hB.os, hB.tape, hB.output, Nat.le_trans hB.size hk.1, fun i hi => (hk.2 i (Nat.lt_of_lt_of_le hi hB.size) (fun e => by omega)).trans (hB.block i hi)⟩
theorem SortT {X cap : Nat} {l : List S79} {w0 W : World} (h : TR W X cap l) (hl : l.length ≤ 1000) (hn : ∀ t ∈ l, okT t) (hX : w0.heap.size ≤ X) (hB : Below w0.heap.size w0 W) :
    Calls Tryz.prog 109 #[.slice (some ⟨X, 0, none⟩) l.length cap, .func (.func 110) #[] #[]] W fun e w' => e = .returned (.tuple #[]) ∧ ∃ l' : List S79, l'.length = l.length ∧ (∀ t ∈ l', okT t) ∧ TR w' X cap l' ∧ Kept W w' (fun k => k = X) ∧ Below w0.heap.size w0 w' := by
  have eg : ∀ args w, (callFunc 110 args).run Tryz.prog w = .ok (.enter 110 args) w := enters_of Tryz.func110 (by kernel_rfl) rfl
  have hcon := AnyQ.slices_SortFunc Tryz.sortT 2 (fun w => Tryz.isAgg79 w) (fun w => Tryz.sizeOf79 w) encT (fun _ => rfl) (fun t v hv => by
    simp only [encT, List.mem_cons, List.not_mem_nil, or_false] at hv
    rcases hv with rfl | rfl <;> rfl) cmpT swoT 110 #[] X 0 cap l.toArray W eg (fun m os dk hs x y => by
      exact form2_calls x.f0 x.f1 y.f0 y.f1 _) h.holds h.lt (by simp; omega)
  change Calls Tryz.prog 109 _ _ _ at hcon
  have e0 : l.toArray.size = l.length := by simp
  rw [e0] at hcon
  refine hcon.mono fun e w' ⟨he, d', n, os, hp, hs, hw⟩ => ⟨he, d'.toList, ?_, ?_, ?_, ?_, ?_⟩
  · rw [Array.length_toList, hp.1, e0]
  · have := hp.2.2
    rw [show d'.extract 0 l.length = d' by rw [← e0, ← hp.1]; simp, show l.toArray.extract 0 l.length = l.toArray by rw [← e0]; simp] at this
    intro t ht
    exact hn t (this.mem_iff.1 ht)
  · rw [hw]; exact h.sorted (by rw [hp.1, e0])
  · rw [hw]; exact sortK_kept W X n d' os
  · rw [hw]; exact sortK_below X n d' os hB hX
set_option maxHeartbeats 1000000 in
theorem form_calls {Y c : Nat} {l : List S79} {n : Int} {w : World} (h : TR w Y c l) (hl : l.length ≤ 1000) (hn : ∀ t ∈ l, okT t) :
    Calls Tryz.prog 43 #[.int .i64 n, .slice (some ⟨Y, 0, none⟩) l.length c] w fun e w' => ∃ (X cap : Nat) (l' : List S79), e = .returned (.agg #[.int .i64 n, .slice (some ⟨X, 0, none⟩) l'.length cap]) ∧ w.heap.size ≤ X ∧ l'.length ≤ l.length ∧ (∀ t ∈ l', okT t) ∧ Aside0 (TR w' X cap l') ∧ Aside0 (Below w.heap.size w w') := by
  have HN := Aside0.mk hn
  have HB1 := Aside0.mk (below_alloc (Below.refl w.heap.size w) (.cells #[.int .i64 0, .slice none 0 0] 33))
  have HX1 := Aside0.mk (blk_new w (.cells #[.int .i64 0, .slice none 0 0] 33))
  have HC1 := Aside0.mk (CloneT (h.below HB1.out) hl)
  have lw := blk_lt HX1.out
  clear h hn
  go_enter Tryz.func43, Tryz.ntmps43
  go_wp2_with (first | (go_at_call 107; refine HC1.out.mono ?_; rintro e w2 ⟨X, cap, rfl, hX, hT, hb⟩; have HX := Aside0.mk hX; have HT := Aside0.mk hT; have HB2 := Aside0.mk (below_step HB1.out hb); have HX2 := Aside0.mk (blk_below HX1.out hb); clear hX hT hb) | (go_at_call 106; refine (DeleteT (w0 := w) HT.out hl HN.out (by have := HX.out; have := lw; omega) HB2.out).mono ?_; rintro e w3 ⟨l3, rfl, hl3, hn3, hT3, hk3, hb3⟩; have HN3 := Aside0.mk hn3; have HT3 := Aside0.mk hT3; have HB3 := Aside0.mk hb3; have HX3 := Aside0.mk (blk_kept HX2.out hk3 (fun e => by have := HX.out; omega)); clear hn3 hT3 hb3 hk3) | (go_at_call 109; refine (SortT (w0 := w) HT3.out (by omega) HN3.out (by have := HX.out; have := lw; omega) HB3.out).mono ?_; rintro e w4 ⟨rfl, l4, hl4, hn4, hT4, hk4, hb4⟩; have HN4 := Aside0.mk hn4; have HT4 := Aside0.mk hT4; have HB4 := Aside0.mk hb4; have HL4 := Aside0.mk hl4; have b4 := blk_kept HX3.out hk4 (fun e => by have := HX.out; omega); have x0 : w4.cell? ⟨w.heap.size, 0, none⟩ = some (.int .i64 0) := (blk_cell b4 0).trans rfl; have x1 : w4.cell? ⟨w.heap.size, 1, none⟩ = some (.slice none 0 0) := (blk_cell b4 1).trans rfl; have f0 := blk_frozen b4 0; have f1 := blk_frozen b4 1; have l0 := blk_lt b4; clear hn4 hT4 hk4 hb4 hl4))
  have q1 := blk_put (blk_put b4 0 (.int .i64 n) rfl) 1 (.slice (some ⟨X, 0, none⟩) l3.length cap) rfl
  refine bodyPost_ret (results_cell_row rfl _ _ w.heap.size 33 #[.int .i64 n, .slice (some ⟨X, 0, none⟩) l3.length cap] (0, 0) _ rfl q1 Tryz.underlying33 rfl (by kernel_rfl)) rfl ?_
  have hne : X ≠ w.heap.size := by have := HX.out; omega
  exact ⟨X, cap, l4, by rw [HL4.out], by have := HX.out; omega, by have := HL4.out; omega, HN4.out, ⟨(HT4.out.same (Below.heap_setCell _ ⟨w.heap.size, 0, none⟩ _ X hne)).same (Below.heap_setCell _ ⟨w.heap.size, 1, none⟩ _ X hne)⟩, ⟨(HB4.out.setCell (p := ⟨w.heap.size, 0, none⟩) (Nat.le_refl _) _).setCell (p := ⟨w.heap.size, 1, none⟩) (Nat.le_refl _) _⟩⟩
end Go.Proofs.YtjgakaembhmhpaaGreatDoor.PA
