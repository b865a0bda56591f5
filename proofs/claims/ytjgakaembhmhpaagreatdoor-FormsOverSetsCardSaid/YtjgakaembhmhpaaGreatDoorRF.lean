/- Part of the proof of FormsOverSets (the walk: tables); what it proves holds without further conditions. -/
import Derived.Shelf.SlSortCmp.Kit1
import Derived.Lib.SliceRun
import Derived.Shelf.Abstract
import Derived.Test.YtjgakaembhmhpaaGreatDoorRB
import Derived.Test.YtjgakaembhmhpaaGreatDoorQA
set_option linter.unusedVariables false
set_option linter.unusedSimpArgs false
namespace Go.Proofs.YtjgakaembhmhpaaGreatDoor.PA
open Go.RowKit Go.Proofs.YtjgakaembhmhpaaGreatDoorW.PrintWords Go.Proofs.YtjgakaembhmhpaaGreatDoorW.PrintLast Go.Proofs.YtjgakaembhmhpaaGreatDoorW.PrintMore Go.Proofs.YtjgakaembhmhpaaGreatDoorM
theorem compare_f (a b : Int) : cmp_Compare_int.f a b = some (if a < b then -1 else if b < a then 1 else 0) := by
  unfold cmp_Compare_int.f cmp_isNaN_int.f
  simp only [bne_self_eq_false, Option.bind_some, Bool.false_eq_true, if_false]
  by_cases h : a < b
  · rw [if_pos h, if_pos h]
  · rw [if_neg h, if_neg h]
    by_cases h2 : b < a
    · rw [if_pos h2, if_pos h2]
    · rw [if_neg h2, if_neg h2]
theorem cmp_l0 (x y : List Int) (hx : x.length ≤ 9223372036854775807) (hy : y.length ≤ 9223372036854775807) : ∀ (m kk k : Nat), kk + m = x.length → m < k → slices_Compare_int_int.l0 k x y x (x.length : Int) (kk : Int) = some (cmpL (x.drop kk) (y.drop kk)) := by
  intro m
  induction m with
  | zero =>
    intro kk k h1 h2
    cases k with
    | zero => omega
    | succ k =>
      rw [slices_Compare_int_int.l0, if_neg (by omega), List.drop_of_length_le (by omega : x.length ≤ kk)]
      by_cases h : x.length < y.length
      · rw [if_pos (by omega), List.drop_eq_getElem_cons (show kk < y.length by omega)]
        rfl
      · rw [if_neg (by omega), List.drop_of_length_le (by omega : y.length ≤ kk)]
        rfl
  | succ m ih =>
    intro kk k h1 h2
    cases k with
    | zero => omega
    | succ k =>
      have e0 : kk < x.length := by omega
      have r0 : rd x (kk : Int) = x[kk] := by simp [rd, rdOf, List.getD, List.getElem?_eq_getElem e0]
      have d0 : x.drop kk = x[kk] :: x.drop (kk + 1) := List.drop_eq_getElem_cons e0
      rw [slices_Compare_int_int.l0, if_pos (by omega), if_pos (by omega), if_pos (by omega)]
      by_cases hy1 : kk < y.length
      · have r1 : rd y (kk : Int) = y[kk] := by simp [rd, rdOf, List.getD, List.getElem?_eq_getElem hy1]
        have d1 : y.drop kk = y[kk] :: y.drop (kk + 1) := List.drop_eq_getElem_cons hy1
        have ec : wrap64 ((kk : Int) + 1) = ((kk + 1 : Nat) : Int) := by rw [IntWalk.wrap64_in _ (by omega)]; omega
        rw [if_neg (by omega), if_pos (by omega), compare_f, r0, r1, d0, d1, Option.bind_some]
        unfold cmpL
        by_cases c1 : x[kk] < y[kk]
        · rw [if_pos c1, if_pos c1, if_neg (by decide)]
        · rw [if_neg c1, if_neg c1]
          by_cases c2 : y[kk] < x[kk]
          · rw [if_pos c2, if_pos c2, if_neg (by decide)]
          · rw [if_neg c2, if_neg c2, if_pos rfl, ec]
            exact ih (kk + 1) k (by omega) (by omega)
      · rw [if_pos (by omega), d0, List.drop_of_length_le (by omega : y.length ≤ kk)]
        rfl
theorem cmpF (x y : List Int) (hx : x.length ≤ 9223372036854775807) (hy : y.length ≤ 9223372036854775807) : slices_Compare_int_int.f (x.length + 1) x y = some (cmpL x y) := by
  unfold slices_Compare_int_int.f
  have := cmp_l0 x y hx hy x.length 0 (x.length + 1) (by omega) (by omega)
  simpa using this
theorem Compare_ints (A0 : Option Addr) (c0 : Nat) (l0 : List Int) (A1 : Option Addr) (c1 : Nat) (l1 : List Int) (w : World) (hr0 : Kd.C (Kd.int .i64) w A0 l0.length l0) (hc0 : l0.length ≤ c0) (hr1 : Kd.C (Kd.int .i64) w A1 l1.length l1) (hc1 : l1.length ≤ c1) :
    Calls Tryz.prog 62 #[.slice A0 l0.length c0, .slice A1 l1.length c1] w fun e w' => e = .returned (.int .i64 (cmpL l0 l1)) ∧ Drawn0 w w' :=
  slices_Compare_int_int.calls _ A0 c0 l0 A1 c1 l1 _ w hr0 hc0 hr1 hc1 (cmpF l0 l1 hr0.2.1 hr1.2.1)
structure RowV where
  A : Option Addr
  c : Nat
  xs : List Int
abbrev KI := Kd.int .i64
def RowOk (w : World) (g : Nat) (r : RowV) : Prop := r.xs.length ≤ r.c ∧ Kd.F KI w (fun k => k ≠ g) r.A r.xs.length r.xs
abbrev RowS (w : World) (g : Nat) := { r : RowV // RowOk w g r }
instance (w : World) (g : Nat) : Inhabited (RowS w g) := ⟨⟨⟨none, 0, []⟩, Nat.le_refl _, Kd.F_nil _ _ _⟩⟩
def encR {w : World} {g : Nat} (r : RowS w g) : Value := .slice r.1.A r.1.xs.length r.1.c
def cmpR {w : World} {g : Nat} (r s : RowS w g) : Int := cmpL r.1.xs s.1.xs
theorem ltR {w : World} {g : Nat} (r s : RowS w g) : ltOf cmpR r s = decide (cmpL r.1.xs s.1.xs < 0) := rfl
theorem swoR (w : World) (g : Nat) : Go.Sort.SWO (ltOf (cmpR (w := w) (g := g))) where
  irrefl x := by rw [ltR, cmpL_self]; rfl
  trans x y z h1 h2 := by
    rw [ltR, decide_eq_true_eq] at *
    exact cmpL_trans h1 h2
  ntrans x y z h1 h2 := by
    rw [ltR, decide_eq_false_iff_not] at *
    intro h3
    rcases cmpL_total y.1.xs z.1.xs with a | a | a
    · exact h2 a
    · exact h1 (a ▸ h3)
    · exact h1 (cmpL_trans h3 a)
theorem sort_kept {α : Type} [Inhabited α] (enc : α → Value) (w : World) (blk off m : Nat) (dk : Array α) (os : Array Obj) : Kept w (sortWorld enc w blk off m dk os) (fun k => k = blk) := by
  unfold sortWorld Go.Sort.putRow Go.Sort.mapBlock
  refine ⟨by simp [Go.Sort.grow, Go.Sort.ahead], fun k hk hn => ?_⟩
  rw [Go.Sort.heap_grow_old _ _ (by simpa [Go.Sort.ahead] using hk)]
  have : ¬ blk = k := fun e => hn e.symm
  simp [Go.Sort.ahead, Array.getElem?_modify, this]
theorem sort_below {α : Type} [Inhabited α] (enc : α → Value) {w0 w : World} (blk off m : Nat) (dk : Array α) (os : Array Obj) (hB : Below w0.heap.size w0 w) (hb : w0.heap.size ≤ blk) : Below w0.heap.size w0 (sortWorld enc w blk off m dk os) := by
  have hk := sort_kept enc w blk off m dk os
  refine ⟨hB.os, hB.tape, hB.output, Nat.le_trans hB.size hk.1, fun i hi => ?_⟩
  exact (hk.2 i (Nat.lt_of_lt_of_le hi hB.size) (fun e => by omega)).trans (hB.block i hi)
theorem sort_holds {α : Type} [Inhabited α] (enc : α → Value) (w : World) (blk m : Nat) (d0 d : Array α) (os : Array Obj) (h : Go.Sort.Holds enc w blk 0 d0) (hs : d.size = d0.size) (hb : blk < w.heap.size) : Go.Sort.Holds enc (sortWorld enc w blk 0 m d os) blk 0 d := by
  unfold sortWorld
  refine Go.Sort.holds_grow enc _ os blk 0 d ?_ ?_
  · simpa [Go.Sort.putRow, Go.Sort.mapBlock, Go.Sort.ahead] using hb
  · exact Go.Sort.holds_putRow enc _ blk 0 d0 d h hs
theorem cmpR_lays (w : World) (g size : Nat) : CmpLays1 Tryz.prog 62 #[] (encR (w := w) (g := g)) cmpR g 0 size w := by
  intro m os dk hs x y
  have hk := sort_kept (encR (w := w) (g := g)) w g 0 m dk os
  have hx := Kd.F_now (Kd.F_kept x.2.2 hk (fun k hk e => hk e))
  have hy := Kd.F_now (Kd.F_kept y.2.2 hk (fun k hk e => hk e))
  refine (Compare_ints x.1.A x.1.c x.1.xs y.1.A y.1.c y.1.xs _ hx x.2.1 hy y.2.1).mono fun e w' ⟨he, n, hd⟩ => ⟨he, n, #[], ?_⟩
  rw [hd]
  exact (Go.Sort.grow_empty _).symm
def SortSays : Prop := ∀ (W : World) (g cap : Nat) (d : Array (RowS W g)), Go.Sort.Holds encR W g 0 d → g < W.heap.size → d.size < 4611686018427387904 →
  Calls Tryz.prog 61 #[.slice (some ⟨g, 0, none⟩) d.size cap, .func (.func 62) #[] #[]] W fun e w' => e = .returned (.tuple #[]) ∧ ∃ d' n os, Go.Sort.PermIn 0 d.size d d' ∧ Go.Sort.SortedIn (ltOf cmpR) 0 d.size d' ∧ w' = sortWorld encR W g 0 n d' os
def RowsAt (W : World) (g : Nat) (ys : List (List Int)) : Prop := ∀ j, j < ys.length → ∃ A c, W.cell? ⟨g, j, none⟩ = some (.slice A (ys.getD j []).length c) ∧ W.frozen? ⟨g, j, none⟩ = false ∧ (ys.getD j []).length ≤ c ∧ Kd.F KI W (fun k => k ≠ g) A (ys.getD j []).length (ys.getD j [])
theorem RowsAt.of_N {W : World} {base g cap : Nat} {ok : Nat → Prop} {ys : List (List Int)} (h : Kd.N (Kd.slice 3 KI) 22 W base ok (.slice (some ⟨g, 0, none⟩) ys.length cap) ys) : RowsAt W g ys := by
  intro j hj
  obtain ⟨c, hcl, hK, hcc, hf⟩ := Kd.N_elem h [] (j : Int) (by omega) (by omega)
  obtain ⟨A, cp, rfl, hle, hF⟩ := Kd.FK_slice_open hK
  simp only [Int.toNat_natCast] at hcc hf hle hF
  refine ⟨A, cp, ?_, ?_, hle, Kd.F_mono hF (fun k hk => hk.2)⟩
  · have := hcc 0 _ rfl
    rwa [show j * (Kd.slice 3 KI).sz + 0 = j from by show j * 1 + 0 = j; omega] at this
  · have := hf 0
    rwa [show j * (Kd.slice 3 KI).sz + 0 = j from by show j * 1 + 0 = j; omega] at this
theorem RowsAt.array {W : World} {g : Nat} {ys : List (List Int)} (h : RowsAt W g ys) : ∃ d : Array (RowS W g), d.toList.map (·.1.xs) = ys ∧ Go.Sort.Holds encR W g 0 d := by
  classical
  let mk : Fin ys.length → RowS W g := fun j => ⟨⟨Classical.choose (h j.1 j.2), Classical.choose (Classical.choose_spec (h j.1 j.2)), ys.getD j.1 []⟩,
    (Classical.choose_spec (Classical.choose_spec (h j.1 j.2))).2.2.1, (Classical.choose_spec (Classical.choose_spec (h j.1 j.2))).2.2.2⟩
  refine ⟨Array.ofFn mk, ?_, fun j hj => ?_⟩
  · apply List.ext_getElem
    · simp
    · intro i h1 h2
      simp [mk, List.getD, List.getElem?_eq_getElem h2]
  · have hj' : j < ys.length := by simpa using hj
    have e : (Array.ofFn mk)[j]! = mk ⟨j, hj'⟩ := by
      rw [getElem!_pos _ j hj]
      simp
    rw [e, Nat.zero_add]
    exact ⟨(Classical.choose_spec (Classical.choose_spec (h j hj'))).1, (Classical.choose_spec (Classical.choose_spec (h j hj'))).2.1⟩
theorem sorted_ris {W : World} {g : Nat} {d : Array (RowS W g)} (h : Go.Sort.SortedIn (ltOf cmpR) 0 d.size d) : Ris (d.toList.map (·.1.xs)) := by
  unfold Ris
  rw [List.pairwise_iff_getElem]
  intro i j hi hj hij
  have hj' : j < d.size := by simpa using hj
  have := h i j (Nat.zero_le _) hij hj'
  rw [ltR, decide_eq_false_iff_not] at this
  rw [getElem!_pos d j hj', getElem!_pos d i (by omega)] at this
  simpa [ltL] using this
theorem SortRows (hS : SortSays) {w0 W : World} {g cap : Nat} {ys : List (List Int)} (h : RowsAt W g ys) (hg : g < W.heap.size) (hg0 : w0.heap.size ≤ g) (hB : Below w0.heap.size w0 W) (hl : ys.length < 4611686018427387904) :
    Calls Tryz.prog 61 #[.slice (some ⟨g, 0, none⟩) ys.length cap, .func (.func 62) #[] #[]] W fun e w' => e = .returned (.tuple #[]) ∧ ∃ zs, zs.Perm ys ∧ Ris zs ∧ RowsAt w' g zs ∧ Kept W w' (fun k => k = g) ∧ Below w0.heap.size w0 w' := by
  obtain ⟨d, hd, hH⟩ := h.array
  have hsz : d.size = ys.length := by rw [← hd]; simp
  have hc := hS W g cap d hH hg (by omega)
  rw [hsz] at hc
  refine hc.mono fun e w' ⟨he, d', n, os, hp, hs, hw⟩ => ⟨he, d'.toList.map (·.1.xs), ?_, ?_, ?_, ?_, ?_⟩
  · have := hp.2.2
    have e1 : (d'.extract 0 ys.length) = d' := by rw [← hsz, ← hp.1]; simp
    have e2 : (d.extract 0 ys.length) = d := by rw [← hsz]; simp
    rw [e1, e2] at this
    rw [← hd]
    exact this.map _
  · rw [← hsz, ← hp.1] at hs
    exact sorted_ris hs
  · intro j hj
    have hj' : j < d'.size := by simpa using hj
    have hh := sort_holds encR W g n d d' os hH hp.1 hg j hj'
    rw [Nat.zero_add, ← hw] at hh
    have e : (d'.toList.map (·.1.xs)).getD j [] = d'[j]!.1.xs := by
      rw [getElem!_pos d' j hj', List.getD_eq_getElem?_getD, List.getElem?_eq_getElem hj]
      simp
    rw [e]
    refine ⟨_, _, hh.1, hh.2, d'[j]!.2.1, ?_⟩
    rw [hw]
    exact Kd.F_kept d'[j]!.2.2 (sort_kept _ _ _ _ _ _ _) (fun k hk e => hk e)
  · rw [hw]; exact sort_kept _ _ _ _ _ _ _
  · rw [hw]; exact sort_below _ _ _ _ _ _ hB hg0
theorem squash_cons (b : List Int) : ∀ t, squash (b :: t) = b :: (squash (b :: t)).tail := by
  intro t
  induction t generalizing b with
  | nil => rfl
  | cons c t ih =>
    unfold squash
    by_cases e : b = c
    · rw [if_pos e, e]; exact ih c
    · rw [if_neg e]; rfl
theorem squash_step (a b : List Int) (t : List (List Int)) : (squash (a :: b :: t)).tail = if a = b then (squash (b :: t)).tail else b :: (squash (b :: t)).tail := by
  conv => lhs; unfold squash
  by_cases e : a = b
  · rw [if_pos e, if_pos e]
  · rw [if_neg e, if_neg e, List.tail_cons]; exact squash_cons b t
def Free (ys : List (List Int)) (k : Nat) : Prop := ∀ i, 1 ≤ i → i < k → rd_LI ys (i : Int) ≠ rd_LI ys ((i : Int) - 1)
theorem free_squash : ∀ (k : Nat) (ys : List (List Int)), 1 ≤ k → k ≤ ys.length → Free ys k → squash ys = ys.take k ++ (squash (ys.drop (k - 1))).tail := by
  intro k ys hk hl hf
  induction k with
  | zero => omega
  | succ k ih =>
    by_cases h0 : k = 0
    · subst h0
      obtain ⟨y, t, rfl⟩ : ∃ y t, ys = y :: t := by
        cases ys with
        | nil => simp at hl
        | cons y t => exact ⟨y, t, rfl⟩
      simp only [Nat.zero_add, Nat.sub_self, List.drop_zero, List.take_succ_cons, List.take_zero]
      exact squash_cons y t
    · have hih := ih (by omega) (by omega) (fun i h1 h2 => hf i h1 (by omega))
      have hk1 : k < ys.length := by omega
      have hk0 : k - 1 < ys.length := by omega
      have d1 : ys.drop (k - 1) = ys[k - 1] :: ys[k] :: ys.drop (k + 1) := by
        rw [List.drop_eq_getElem_cons hk0, show k - 1 + 1 = k by omega, List.drop_eq_getElem_cons hk1]
      have d2 : ys.drop (k + 1 - 1) = ys[k] :: ys.drop (k + 1) := by rw [show k + 1 - 1 = k by omega, List.drop_eq_getElem_cons hk1]
      have hne : ys[k - 1] ≠ ys[k] := by
        have := hf k (by omega) (by omega)
        have e1 : rd_LI ys (k : Int) = ys[k] := by simp [rd_LI, List.getD, List.getElem?_eq_getElem hk1]
        have e2 : rd_LI ys ((k : Int) - 1) = ys[k - 1] := by
          unfold rd_LI
          rw [show ((k : Int) - 1).toNat = k - 1 by omega]
          simp [List.getD, List.getElem?_eq_getElem hk0]
        rw [e1, e2] at this
        exact fun e => this e.symm
      rw [hih, d1, d2, squash_step, if_neg hne, List.take_succ_eq_append_getElem hk1, List.append_assoc]
      rfl
theorem rd_LI_getD (ys : List (List Int)) (j : Nat) : rd_LI ys (j : Int) = ys.getD j [] := by
  unfold rd_LI
  rw [Int.toNat_natCast]
theorem RowsAt.drewN {W : World} {g : Nat} {ys : List (List Int)} (h : RowsAt W g ys) (n : Nat) : RowsAt (W.drewN n) g ys := fun j hj => by
  obtain ⟨A, c, h1, h2, h3, h4⟩ := h j hj
  exact ⟨A, c, h1, h2, h3, Kd.F_drewN h4 n⟩
theorem RowsAt.set {W : World} {g : Nat} {ys : List (List Int)} (h : RowsAt W g ys) (k : Nat) (hk : k < ys.length) {A : Option Addr} {c : Nat} {y : List Int} (hc : y.length ≤ c) (hF : Kd.F KI W (fun k => k ≠ g) A y.length y) :
    RowsAt (W.setCell ⟨g, k, none⟩ (.slice A y.length c)) g (ys.set k y) := by
  have hfz : ∀ j, (W.setCell ⟨g, k, none⟩ (.slice A y.length c)).frozen? ⟨g, j, none⟩ = W.frozen? ⟨g, j, none⟩ := fun j => by
    rw [Go.Sort.setCell_eq]
    exact Go.Sort.frozen?_mapBlock _ _ _ _
  have hne : ∀ (A' : Option Addr) (x : List Int), Kd.F KI W (fun k => k ≠ g) A' x.length x → Kd.F KI (W.setCell ⟨g, k, none⟩ (.slice A y.length c)) (fun k => k ≠ g) A' x.length x := fun A' x hx => Kd.F_far (p := ⟨g, k, none⟩) hx (fun j hj => hj) _
  obtain ⟨A0, c0, w1, _, _, _⟩ := h k hk
  obtain ⟨cs, e, fr, hb, hcs⟩ := Go.Sort.cells_of_cell? w1
  intro j hj
  rw [List.length_set] at hj
  obtain ⟨A1, c1, h1, h2, h3, h4⟩ := h j hj
  by_cases e : j = k
  · subst e
    have ey : (ys.set j y).getD j [] = y := by simp [List.getD, hj]
    rw [ey]
    refine ⟨A, c, ?_, by rw [hfz]; exact h2, hc, hne _ _ hF⟩
    rw [Go.Sort.setCell_eq, Go.Sort.cell?_mapBlock _ _ _ _ hb]
    have hlt : j < cs.size := by
      rcases Nat.lt_or_ge j cs.size with h' | h'
      · exact h'
      · rw [Array.getElem?_eq_none h'] at hcs; simp at hcs
    simp [Array.getElem?_setIfInBounds, hlt]
  · have ey : (ys.set k y).getD j [] = ys.getD j [] := by simp [List.getD, List.getElem?_set_ne (Ne.symm e)]
    rw [ey]
    refine ⟨A1, c1, ?_, by rw [hfz]; exact h2, h3, hne _ _ h4⟩
    rw [Go.Sort.setCell_eq, Go.Sort.cell?_mapBlock _ _ _ _ hb]
    have : cs[j]? = some (.slice A1 (ys.getD j []).length c1) := by
      rw [← h1]
      simp [World.cell?, hb]
    rw [Array.getElem?_setIfInBounds, if_neg (Ne.symm e)]
    exact this
theorem RowsAt.C {W : World} {g : Nat} {ys : List (List Int)} (h : RowsAt W g ys) (hl : ys.length ≤ 9223372036854775807) : Kd.C (Kd.slice 3 KI) W (some ⟨g, 0, none⟩) ys.length ys := by
  refine ⟨rfl, hl, fun _ => ⟨_, rfl, fun j p hj => ?_⟩⟩
  obtain ⟨hjl, hjp⟩ := List.getElem?_eq_some_iff.1 hj
  obtain ⟨A, c, h1, h2, h3, h4⟩ := h j hjl
  have ep : ys.getD j [] = p := by simp [List.getD, hj]
  rw [ep] at h1 h3 h4
  refine ⟨[.slice A p.length c], rfl, ⟨A, c, rfl, h3, Kd.F_now h4⟩, fun i u hu => ?_⟩
  cases i with
  | zero =>
    simp only [List.getElem?_cons_zero, Option.some.injEq] at hu
    subst hu
    show W.cell? (Addr.add ⟨g, 0, none⟩ (j * 1 + 0)) = _
    rw [Nat.mul_one, Nat.add_zero, add_plain]
    exact h1
  | succ i => simp at hu
theorem Equal_rd {W : World} {g : Nat} {ys : List (List Int)} (h : RowsAt W g ys) (i j : Nat) (hi : i < ys.length) (hj : j < ys.length) :
    ∃ A c A' c', W.cell? ⟨g, i, none⟩ = some (.slice A (rd_LI ys (i : Int)).length c) ∧ W.cell? ⟨g, j, none⟩ = some (.slice A' (rd_LI ys (j : Int)).length c') ∧
      ((rd_LI ys (i : Int)).length ≤ c ∧ Kd.F KI W (fun k => k ≠ g) A (rd_LI ys (i : Int)).length (rd_LI ys (i : Int))) ∧
      ∀ q, Calls Tryz.prog 72 #[.slice A (rd_LI ys (i : Int)).length c, .slice A' (rd_LI ys (j : Int)).length c'] (W.drewN q) fun e w' => e = .returned (.bool (decide (rd_LI ys (i : Int) = rd_LI ys (j : Int)))) ∧ Drawn0 (W.drewN q) w' := by
  rw [rd_LI_getD, rd_LI_getD]
  obtain ⟨A, c, h1, h2, h3, h4⟩ := h i hi
  obtain ⟨A', c', k1, k2, k3, k4⟩ := h j hj
  exact ⟨A, c, A', c', h1, k1, ⟨h3, h4⟩, fun q => Equal_ints A c _ A' c' _ (W.drewN q) (Kd.F_now (Kd.F_drewN h4 q)) h3 (Kd.F_now (Kd.F_drewN k4 q)) k3⟩
theorem squash_small : ∀ ys : List (List Int), ys.length < 2 → squash ys = ys
  | [], _ => rfl
  | [x], _ => rfl
  | a :: b :: t, h => absurd h (by simp)
theorem kept_setCells (g : Nat) {w0 : World} {S : Nat → Prop} (hS : S g) : ∀ (vs : List Value) (o : Nat) (W : World), Kept w0 W S → Kept w0 (W.setCells g o vs) S
  | [], _, _, h => h
  | v :: vs, o, W, h => kept_setCells g hS vs (o + 1) (W.setCell ⟨g, o, none⟩ v) (Kept.setCell h (.inl hS) v)
theorem below_setCells' (g : Nat) {w0 : World} (hg : w0.heap.size ≤ g) : ∀ (vs : List Value) (o : Nat) (W : World), Below w0.heap.size w0 W → Below w0.heap.size w0 (W.setCells g o vs)
  | [], _, _, h => h
  | v :: vs, o, W, h => below_setCells' g hg vs (o + 1) (W.setCell ⟨g, o, none⟩ v) (h.setCell (p := ⟨g, o, none⟩) hg v)
theorem RowsAt.clear {W : World} {g : Nat} {ys : List (List Int)} (h : RowsAt W g ys) (k : Nat) (vs : List Value) : RowsAt (W.setCells g k vs) g (ys.take k) := fun j hj => by
  rw [List.length_take] at hj
  obtain ⟨A, c, h1, h2, h3, h4⟩ := h j (by omega)
  have e : (ys.take k).getD j [] = ys.getD j [] := by simp [List.getD, List.getElem?_take, show j < k by omega]
  rw [e]
  refine ⟨A, c, ?_, ?_, h3, Kd.F_kept h4 (kept_setCells g (S := fun i => i = g) rfl vs k W (Kept.refl _ _)) (fun i hi e => hi e)⟩
  · rw [World.cell?_setCells_out g vs k W _ (fun _ _ => .inl (by show j < k; omega))]
    exact h1
  · rw [World.frozen?_setCells]
    exact h2
theorem set_drop (l : List (List Int)) (b : List Int) {k m : Nat} (h : k < m) : (l.set k b).drop m = l.drop m := by
  rw [List.drop_set, if_pos h]
theorem set_take (l : List (List Int)) (b : List Int) {k : Nat} (h : k < l.length) : (l.set k b).take (k + 1) = l.take k ++ [b] := by
  rw [List.take_succ_eq_append_getElem (by rw [List.length_set]; exact h), List.getElem_set_self, List.take_set, List.set_eq_of_length_le (by rw [List.length_take]; omega)]
theorem free_drop (ys : List (List Int)) (m : Nat) (h : m + 1 < ys.length) : ys.drop m = rd_LI ys (m : Int) :: rd_LI ys ((m + 1 : Nat) : Int) :: ys.drop (m + 2) := by
  rw [drop_LI ys m (by omega), drop_LI ys (m + 1) h]
set_option maxHeartbeats 1000000 in
set_option maxRecDepth 100000 in
theorem CompactRows {w0 W : World} {g cap : Nat} {ys : List (List Int)} (h : RowsAt W g ys) (hc : ys.length ≤ cap) (hg0 : w0.heap.size ≤ g) (hg : g < W.heap.size) (hB : Below w0.heap.size w0 W) (hl : ys.length < 4611686018427387904) :
    Calls Tryz.prog 125 #[.slice (some ⟨g, 0, none⟩) ys.length cap, .func (.func 72) #[] #[]] W fun e w' => e = .returned (.slice (some ⟨g, 0, none⟩) (squash ys).length cap) ∧ RowsAt w' g (squash ys) ∧ Kept W w' (fun k => k = g) ∧ Below w0.heap.size w0 w' := by
  have HR := Aside0.mk h
  have HB := Aside0.mk hB
  have eg := enters_of Tryz.func72 (by kernel_rfl) rfl
  have hlz : (ys.length : Int) ≤ 9223372036854775807 := by omega
  clear h hB
  by_cases h2 : ys.length < 2
  · have h2z : (ys.length : Int) < 2 := by omega
    have es := squash_small ys h2
    go_enter Tryz.func125, Tryz.ntmps125
    go_wp2
    go_ret
    rw [es]
    exact ⟨rfl, HR.out, Kept.refl _ _, HB.out⟩
  · have h2z : ¬ (ys.length : Int) < 2 := by omega
    go_enter Tryz.func125, Tryz.ntmps125
    go_wp2
    go_loopg [5, 6, 7] ys.length (fun gg s5 _ _ wr => ∃ kk : Nat, 1 ≤ kk ∧ kk ≤ ys.length ∧ ys.length - kk ≤ gg ∧ s5 = .int .i64 kk ∧ Aside0 (∃ q, wr = W.drewN q) ∧ Aside0 (Free ys kk))
    case atStart => exact ⟨1, Nat.le_refl _, by omega, by omega, rfl, ⟨0, rfl⟩, ⟨fun i h1 h2 => by omega⟩⟩
    case round =>
      obtain ⟨kk, hk1, hkk, hg, rfl, HW, HF⟩ := hrel
      obtain ⟨q, rfl⟩ := HW.out
      by_cases hlt : kk < ys.length
      · have hltz : (kk : Int) < (ys.length : Int) := by omega
        have hk0 : (0 : Int) ≤ (kk : Int) - 1 := by omega
        have hkl : (kk : Int) - 1 < (ys.length : Int) := by omega
        have hwz : IntKind.i64.wrap ((kk : Int) - 1) = (kk : Int) - 1 := by rw [i64w]; exact IntWalk.wrap64_in _ (by omega)
        obtain ⟨A, c, A', c', e1, e2, hy, HEQ0⟩ := Equal_rd HR.out kk (kk - 1) hlt (by omega)
        have HEQ := Aside0.mk HEQ0
        clear HEQ0
        have HY := Aside0.mk hy
        replace e1 := (show W.cell? ⟨g, kk, none⟩ = _ from e1)
        replace e2 := (show W.cell? ⟨g, kk - 1, none⟩ = _ from e2)
        clear hy
        have ei : ((kk - 1 : Nat) : Int) = (kk : Int) - 1 := by omega
        rw [ei] at e2 HEQ
        have hk1z : (1 : Int) ≤ (kk : Int) := by omega
        cases hd : decide (rd_LI ys (kk : Int) = rd_LI ys ((kk : Int) - 1)) with
        | true =>
          rw [hd] at HEQ
          go_wp2
          go_quiet (first | (go_at_call 72; (refine (HEQ.out _).mono ?_); rintro e w' ⟨rfl, ⟨nd, rfl⟩⟩; (try first | exact ⟨rfl, _, World.drewN_drewN _ _ _⟩ | exact ⟨rfl, _, Eq.trans (World.drewN_drewN _ _ _) (congrArg (World.drewN _) (Nat.add_assoc _ _ _))⟩)))
          have heq := Aside0.mk (of_decide_eq_true hd)
          have HSQ : Aside0 (squash ys = ys.take kk ++ (squash (ys.drop kk)).tail) := ⟨by
            have h1 := free_squash kk ys hk1 hkk HF.out
            have h2 := free_drop ys (kk - 1) (by omega)
            rw [show kk - 1 + 1 = kk by omega] at h2
            have h3 : ys.drop kk = rd_LI ys (kk : Int) :: ys.drop (kk - 1 + 2) := by
              have := congrArg List.tail h2
              rw [List.tail_drop, show kk - 1 + 1 = kk by omega] at this
              exact this
            rw [ei, ← heq.out] at h2
            rw [h1, h2, squash_step, if_pos rfl, h3]⟩
          go_wp2
          have hmz : ((ys.length - kk : Nat) : Int) ≤ 9223372036854775807 := by omega
          go_loopg [5, 7] (ys.length - kk) (fun gg s5 s7 wr => ∃ (k j : Nat) (cur : List (List Int)), 1 ≤ j ∧ j ≤ ys.length - kk ∧ ys.length - kk - j ≤ gg ∧ kk ≤ k ∧ k + 1 ≤ kk + j ∧ cur.length = ys.length ∧ s5 = .int .i64 k ∧ s7 = .int .i64 j ∧ Aside0 (RowsAt wr g cur) ∧ Aside0 (cur.drop (kk + j - 1) = ys.drop (kk + j - 1)) ∧ Aside0 (squash ys = cur.take k ++ (squash (ys.drop (kk + j - 1))).tail) ∧ Aside0 (Kept W wr (fun i => i = g)) ∧ Aside0 (Below w0.heap.size w0 wr))
          case atStart => exact ⟨kk, 1, ys, Nat.le_refl _, by omega, by omega, Nat.le_refl _, by omega, rfl, rfl, rfl, ⟨HR.out.drewN (q + nq)⟩, ⟨rfl⟩, ⟨by rw [Nat.add_sub_cancel, HSQ.out]⟩, ⟨(Kept.refl _ _).drewN (q + nq)⟩, ⟨pw_below_drewN HB.out (q + nq)⟩⟩
          case round =>
            clear e1 e2 HEQ HY hd
            obtain ⟨k, j, cur, hj1, hj2, hg2, hk1', hk2, hcl, rfl, rfl, HC, HD, HS, HK, HBB⟩ := hrel
            have HCL := Aside0.mk hcl
            by_cases hlt2 : j < ys.length - kk
            · have hltz2 : (j : Int) < ((ys.length - kk : Nat) : Int) := by omega
              have hj0 : (1 : Int) ≤ (j : Int) := by omega
              have hjl : (j : Int) - 1 < ((ys.length - kk : Nat) : Int) := by omega
              have hwj : IntKind.i64.wrap ((j : Int) - 1) = (j : Int) - 1 := by rw [i64w]; exact IntWalk.wrap64_in _ (by omega)
              obtain ⟨A1, c1, A2, c2, e1, e2, hy, HEQ0⟩ := Equal_rd HC.out (kk + j) (kk + (j - 1)) (by omega) (by omega)
              have HEQ := Aside0.mk HEQ0
              clear HEQ0
              have HY := Aside0.mk hy
              have hfd := free_drop cur (kk + (j - 1)) (by omega)
              rw [show kk + (j - 1) + 1 = kk + j by omega] at hfd
              have HFD := Aside0.mk hfd
              clear hy hfd
              have hkl : (k : Int) < (ys.length : Int) := by omega
              obtain ⟨Ak, ck, ek, fk, _, _⟩ := HC.out k (by omega)
              have lk : g < wr.heap.size := by have := HK.out.1; omega
              clear hcl
              generalize rd_LI cur ((kk + j : Nat) : Int) = b at *
              generalize rd_LI cur ((kk + (j - 1) : Nat) : Int) = a at *
              have HST := Aside0.mk (squash_step a b (cur.drop (kk + (j - 1) + 2)))
              have HDR : Aside0 (ys.drop (kk + j - 1) = a :: b :: cur.drop (kk + (j - 1) + 2)) := ⟨by rw [← HD.out, show kk + j - 1 = kk + (j - 1) by omega]; exact HFD.out⟩
              have HDS : Aside0 (ys.drop (kk + j) = b :: cur.drop (kk + (j - 1) + 2)) := ⟨by
                have := congrArg List.tail HDR.out
                rw [List.tail_drop] at this
                rw [show kk + j - 1 + 1 = kk + j by omega] at this
                exact this⟩
              have HDC : Aside0 (cur.drop (kk + j) = b :: cur.drop (kk + (j - 1) + 2)) := ⟨by
                have := congrArg List.tail HFD.out
                rw [List.tail_drop] at this
                rw [show kk + (j - 1) + 1 = kk + j by omega] at this
                exact this⟩
              cases hd : decide (b = a) with
              | true =>
                rw [hd] at HEQ
                have hba := Aside0.mk (of_decide_eq_true hd)
                clear hd
                go_wp2
                go_quiet (first | (go_at_call 72; (refine (HEQ.out _).mono ?_); rintro e w' ⟨rfl, ⟨nd, rfl⟩⟩; (try first | exact ⟨rfl, _, World.drewN_drewN _ _ _⟩ | exact ⟨rfl, _, Eq.trans (World.drewN_drewN _ _ _) (congrArg (World.drewN _) (Nat.add_assoc _ _ _))⟩)))
                go_wp2
                go_roundg (ys.length - kk - (j + 1))
                case measure => omega
                case rel => exact ⟨k, j + 1, cur, by omega, by omega, by omega, hk1', by omega, HCL.out, rfl, by go_num, ⟨HC.out.drewN _⟩, ⟨by rw [show kk + (j + 1) - 1 = kk + j by omega, HDC.out, HDS.out]⟩, ⟨by rw [show kk + (j + 1) - 1 = kk + j by omega, HS.out, HDR.out, HST.out, if_pos hba.out.symm, HDS.out]⟩, ⟨HK.out.drewN _⟩, ⟨pw_below_drewN HBB.out _⟩⟩
              | false =>
                rw [hd] at HEQ
                have hba := Aside0.mk (of_decide_eq_false hd)
                clear hd
                go_wp2
                go_quiet (first | (go_at_call 72; (refine (HEQ.out _).mono ?_); rintro e w' ⟨rfl, ⟨nd, rfl⟩⟩; (try first | exact ⟨rfl, _, World.drewN_drewN _ _ _⟩ | exact ⟨rfl, _, Eq.trans (World.drewN_drewN _ _ _) (congrArg (World.drewN _) (Nat.add_assoc _ _ _))⟩)))
                go_wp2
                have HC2 := Aside0.mk ((HC.out.drewN nq).set k (by have := HCL.out; omega) HY.out.1 (Kd.F_drewN HY.out.2 nq))
                go_roundg (ys.length - kk - (j + 1))
                case measure => omega
                case rel => exact ⟨k + 1, j + 1, cur.set k b, by omega, by omega, by omega, by omega, by omega, by rw [List.length_set]; exact HCL.out, by go_num, by go_num, HC2, ⟨by rw [show kk + (j + 1) - 1 = kk + j by omega, set_drop cur b (by omega), HDC.out, HDS.out]⟩, ⟨by rw [show kk + (j + 1) - 1 = kk + j by omega, HS.out, HDR.out, HST.out, if_neg (fun e => hba.out e.symm), HDS.out, set_take cur b (by have := HCL.out; omega), List.append_assoc]; rfl⟩, ⟨Kept.setCell (p := ⟨g, k, none⟩) (HK.out.drewN nq) (.inl rfl) _⟩, ⟨(pw_below_drewN HBB.out nq).setCell (p := ⟨g, k, none⟩) hg0 _⟩⟩
            · have hltz2 : ¬ (j : Int) < ((ys.length - kk : Nat) : Int) := by omega
              have ej : j = ys.length - kk := by omega
              subst ej
              have hdl : ∃ y, ys.drop (kk + (ys.length - kk) - 1) = [y] := by
                rw [show kk + (ys.length - kk) - 1 = ys.length - 1 by omega, List.drop_eq_getElem_cons (show ys.length - 1 < ys.length by omega)]
                exact ⟨_, by rw [List.drop_of_length_le (by omega)]⟩
              obtain ⟨y, hdy⟩ := hdl
              have HSQ2 : Aside0 (squash ys = cur.take k) := ⟨by rw [HS.out, hdy]; simp [squash]⟩
              have HLK : Aside0 ((squash ys).length = k) := ⟨by rw [HSQ2.out, List.length_take]; omega⟩
              clear hdy
              have hclr := fun ty => Go.Lib.run_clear_slice (P := Tryz.prog) wr 48 22 ty (.slice none 0 0) Tryz.underlying48 (fun w => by kernel_rfl) rfl rfl g k (ys.length - k) (cap - k) (by omega) (fun i hi => by
                obtain ⟨A1, c1, h1, _⟩ := HC.out (k + i) (by omega)
                rw [h1]; rfl) (fun i hi => by
                obtain ⟨A1, c1, _, h1, _⟩ := HC.out (k + i) (by omega)
                exact h1)
              clear hcl
              have hk1z : (0 : Int) ≤ (k : Int) := by omega
              have hk2z : (k : Int) ≤ (ys.length : Int) := by omega
              go_wp2
              go_ret
              rw [HLK.out]
              exact ⟨rfl, by rw [HSQ2.out]; exact HC.out.clear k _, kept_setCells g (S := fun i => i = g) rfl _ _ _ HK.out, below_setCells' g hg0 _ _ _ HBB.out⟩
        | false =>
          rw [hd] at HEQ
          have hne := of_decide_eq_false hd
          go_wp2
          go_quiet (first | (go_at_call 72; (refine (HEQ.out _).mono ?_); rintro e w' ⟨rfl, ⟨nd, rfl⟩⟩; (try first | exact ⟨rfl, _, World.drewN_drewN _ _ _⟩ | exact ⟨rfl, _, Eq.trans (World.drewN_drewN _ _ _) (congrArg (World.drewN _) (Nat.add_assoc _ _ _))⟩)))
          go_wp2
          go_roundg (ys.length - (kk + 1))
          case measure => omega
          case rel => exact ⟨kk + 1, by omega, by omega, by omega, by go_num, by first | exact ⟨⟨_, rfl⟩⟩ | exact ⟨⟨_, World.drewN_drewN _ _ _⟩⟩, ⟨fun i h1 h2 => by
              by_cases e : i = kk
              · rw [e]; exact hne
              · exact HF.out i h1 (by omega)⟩⟩
      · have hltz : ¬ (kk : Int) < (ys.length : Int) := by omega
        have : kk = ys.length := by omega
        subst this
        have es : squash ys = ys := by
          have := free_squash ys.length ys hk1 (Nat.le_refl _) HF.out
          obtain ⟨y, hy⟩ : ∃ y, ys.drop (ys.length - 1) = [y] := by
            rw [List.drop_eq_getElem_cons (show ys.length - 1 < ys.length by omega)]
            exact ⟨_, by rw [List.drop_of_length_le (by omega)]⟩
          rw [hy, List.take_length] at this
          rw [this]
          simp [squash]
        go_wp2
        go_ret
        (try rw [es])
        exact ⟨rfl, HR.out.drewN q, (Kept.refl _ _).drewN q, pw_below_drewN HB.out q⟩
end Go.Proofs.YtjgakaembhmhpaaGreatDoor.PA
