/- Part of the proof of FormsOverSets (the walk: AnyForm, FormList); what it proves holds without further conditions. -/
import Derived.Shelf.SlicesQ.Reverse
import Derived.Test.YtjgakaembhmhpaaGreatDoorTA
import Derived.Test.YtjgakaembhmhpaaGreatDoorHD
import Derived.Test.YtjgakaembhmhpaaGreatDoorSE
import Derived.Test.YtjgakaembhmhpaaGreatDoorTB
set_option linter.unusedVariables false
set_option linter.unusedSimpArgs false
namespace Go.Proofs.YtjgakaembhmhpaaGreatDoor.PA
open Go.RowKit Go.Proofs.YtjgakaembhmhpaaGreatDoorW.PrintWords Go.Proofs.YtjgakaembhmhpaaGreatDoorW.PrintLast Go.Proofs.YtjgakaembhmhpaaGreatDoorW.PrintMore Go.Proofs.YtjgakaembhmhpaaGreatDoorM
theorem ReverseT {X cap : Nat} {l : List S79} {w0 W : World} (h : TR W X cap l) (hl : l.length ≤ 1000) (hn : ∀ t ∈ l, okT t) (hX : w0.heap.size ≤ X) (hB : Below w0.heap.size w0 W) :
    Calls Tryz.prog 44 #[.slice (some ⟨X, 0, none⟩) l.length cap] W fun e w' => e = .returned (.tuple #[]) ∧ ∃ l' : List S79, l'.length = l.length ∧ (∀ t ∈ l', okT t) ∧ TR w' X cap l' ∧ Kept W w' (fun k => k = X) ∧ Below w0.heap.size w0 w' := by
  have hcon := AnyQ.slices_Reverse Tryz.revT 2 (fun w => Tryz.isAgg79 w) (fun w => Tryz.sizeOf79 w) encT (fun _ => rfl) (fun t v hv => by
    simp only [encT, List.mem_cons, List.not_mem_nil, or_false] at hv
    rcases hv with rfl | rfl <;> rfl) X 0 cap l.toArray W h.holds (by simp; omega)
  change Calls Tryz.prog 44 _ _ _ at hcon
  have e0 : l.toArray.size = l.length := by simp
  rw [e0] at hcon
  refine hcon.mono fun e w' ⟨he, n, hw⟩ => ⟨he, l.toArray.reverse.toList, by simp, fun t ht => hn t (by simpa using ht), ?_⟩
  have hw2 : w' = sortWorldK encT 2 W X 0 n l.toArray.reverse #[] := by
    rw [hw]
    unfold sortWorldK
    rw [Go.Sort.grow_empty]
  rw [hw2]
  exact ⟨h.sorted (by simp), sortK_kept W X n _ _, sortK_below X n _ _ hB hX⟩
theorem St_pickNew {w0 W : World} {g : Nat} {d : List Int} {b : Nat} (hst : StOk w0 W g d b) (hb : b ≤ 1000000) (hB : Below w0.heap.size w0 W) (l : List Int) (hl : 1 ≤ l.length) (hl2 : l.length ≤ 1000) (n : Nat) (hn : n = l.length) :
    Calls Tryz.prog 40 #[.pointer (some ⟨g, 0, none⟩), .slice (some ⟨W.heap.size, 0, none⟩) n n] (W.alloc (.cells (nums .i64 l).toArray 3)) fun e w' => ∃ r, e = .returned (.int .i64 r) ∧ Aside0 (r ∈ l) ∧ Aside0 (StOk w0 w' g d (b + 1)) ∧ Aside0 (Below w0.heap.size w0 w') ∧ Aside0 (KeepBut W w' g none) := by
  subst hn
  have hb1 := below_alloc (Below.refl W.heap.size W) (.cells (nums .i64 l).toArray 3)
  exact (St_Pick (hst.below hb1) hb (below_then hB hB.size hb1) W.heap.size l.length l (blk_new W _) (Nat.le_refl _) hl hl2).mono fun e w' ⟨r, he, hr, h1, h2, h3⟩ => ⟨r, he, ⟨hr⟩, ⟨h1⟩, ⟨h2⟩, ⟨(KeepBut.of_below hb1 g none).trans h3 (.inl rfl)⟩⟩
theorem StOk.more {w0 W : World} {g : Nat} {d : List Int} {b b' : Nat} (h : StOk w0 W g d b) (hb : b ≤ b') : StOk w0 W g d b' := by
  obtain ⟨p, h1, h2, h3⟩ := h
  exact ⟨p, h1, by omega, h3⟩
def enc2 (t : S79) : List Value := [.string t.f0, .int .i64 t.f1]
theorem flatT_drop : ∀ (l : List S79) (j : Nat), (flatT l).drop (j * 2) = flatT (l.drop j)
  | [], j => by simp [flatT]
  | t :: l, 0 => rfl
  | t :: l, j + 1 => by
    rw [flatT_cons, show (j + 1) * 2 = j * 2 + 1 + 1 by omega, List.drop_succ_cons, List.drop_succ_cons, flatT_drop l j]
    rfl
theorem flatT_reps (l : List S79) : Reps (fun x cs => cs = x ∧ cs.length = 2 ∧ ∀ u ∈ cs, u.oneCell' = true) 2 (l.map enc2) (flatT l) := by
  refine ⟨by rw [flatT_length, List.length_map], fun j p hj => ?_⟩
  rw [List.getElem?_map] at hj
  obtain ⟨t, ht, rfl⟩ := Option.map_eq_some_iff.1 hj
  obtain ⟨hjl, e⟩ := List.getElem?_eq_some_iff.1 ht
  rw [flatT_drop, List.drop_eq_getElem_cons hjl, e, flatT_cons]
  refine ⟨rfl, rfl, fun u hu => ?_⟩
  simp only [List.take_succ_cons, List.take_zero, List.mem_cons, List.not_mem_nil, or_false] at hu
  rcases hu with rfl | rfl <;> rfl
theorem reps_flatT : ∀ (l : List S79) (inner : List Value), Reps (fun x cs => cs = x ∧ cs.length = 2 ∧ ∀ u ∈ cs, u.oneCell' = true) 2 (l.map enc2) inner → inner = flatT l
  | [], inner, h => List.length_eq_zero_iff.1 (by have := h.1; simpa using this)
  | t :: l, inner, h => by
    have h0 := (h.2 0 (enc2 t) rfl).1
    simp only [Nat.zero_mul, List.drop_zero] at h0
    have hr : Reps (fun x cs => cs = x ∧ cs.length = 2 ∧ ∀ u ∈ cs, u.oneCell' = true) 2 (l.map enc2) (inner.drop 2) := by
      refine ⟨by rw [List.length_drop, h.1, List.map_cons, List.length_cons]; omega, fun j p hj => ?_⟩
      have := h.2 (j + 1) p (by simpa using hj)
      rwa [List.drop_drop, show 2 + j * 2 = (j + 1) * 2 by omega]
    rw [← List.take_append_drop 2 inner, h0, reps_flatT l _ hr]
    rfl
theorem TR.toN {W : World} {X cap base : Nat} {l : List S79} (h : TR W X cap l) (hb : base ≤ X) : Kd.N k79 79 W base (fun k => k = X) (.slice (some ⟨X, 0, none⟩) l.length cap) l := by
  refine ⟨fun k hk => by simp [Value.ownBlock] at hk; exact hk.symm, l.map enc2, List.length_map _, ⟨fun k hk => hk.symm, flatT l, by rw [List.length_map]; exact h.owns hb, flatT_reps l⟩, fun j x c hx hc => ?_⟩
  rw [List.getElem?_map, hx] at hc
  have hc := Option.some.inj hc
  rw [← hc]
  exact fun W' hW => fk59 W x.f0 x.f1 W' (fun k hk => hk.elim)
theorem TR.ofN {W : World} {base : Nat} {ok : Nat → Prop} {v : Value} {l : List S79} (h : Kd.N k79 79 W base ok v l) (hl : l ≠ []) : ∃ X cap, v = .slice (some ⟨X, 0, none⟩) l.length cap ∧ ok X ∧ base ≤ X ∧ TR W X cap l := by
  obtain ⟨h0, rows, hlr, ⟨hr0, inner, ho, hrp⟩, hf⟩ := h
  have e : rows = l.map enc2 := by
    apply List.ext_getElem?
    intro j
    rw [List.getElem?_map]
    by_cases hj : j < l.length
    · have h1 := List.getElem?_eq_getElem hj
      have h2 := List.getElem?_eq_getElem (show j < rows.length by omega)
      have := k79_open (Kd.FK_now (hf j _ _ h1 h2))
      rw [h1, h2, this]
      rfl
    · rw [List.getElem?_eq_none (by omega), List.getElem?_eq_none (by omega)]
      rfl
  subst e
  have ei := reps_flatT l inner hrp
  subst ei
  rw [List.length_map] at ho
  obtain ⟨X, cap, rfl, hX, hT⟩ := TR.of_owns ho (fun e => by
    rw [e] at ho
    obtain ⟨_, h1⟩ := ho
    rcases h1 with ⟨_, h2⟩ | ⟨g, cap, cur, h2, _⟩
    · exact hl (List.length_eq_zero_iff.1 h2)
    · cases h2)
  exact ⟨X, cap, rfl, h0 X rfl, hX, hT⟩
structure FY (w0 w : World) (g B2 B3 : Nat) (d : List Int) (b : Nat) (a : Int) (X cap : Nat) (l : List S79) (W : World) : Prop where
  st : StOk w0 W g d b
  tr : TR W X cap l
  box : W.heap[B3]? = some (.cells #[.int .i64 a, .slice (some ⟨X, 0, none⟩) l.length cap] 33 (0, 0))
  b2 : W.heap[B2]? = some (.cells #[.int .i64 0, .slice none 0 0] 33 (0, 0))
  kb : KeepBut w W g none
  bw : Below w0.heap.size w0 W
  ne : B2 ≠ g ∧ B3 ≠ g ∧ X ≠ g ∧ B2 ≠ B3 ∧ X ≠ B2 ∧ X ≠ B3
  ge : w.heap.size ≤ B2 ∧ w.heap.size ≤ B3 ∧ w.heap.size ≤ X ∧ w0.heap.size ≤ w.heap.size
  ok : l.length ≤ 3 ∧ ∀ t ∈ l, okT t
section
variable {w0 w W W' : World} {g B2 B3 b a' X cap : Nat} {d : List Int} {a : Int} {l : List S79}
theorem FY.stream (h : FY w0 w g B2 B3 d b a X cap l W) {b' : Nat} (hs : StOk w0 W' g d b') (hB : Below w0.heap.size w0 W') (hk : KeepBut W W' g none) : FY w0 w g B2 B3 d b' a X cap l W' :=
  ⟨hs, h.tr.same (hk.2 X h.tr.lt h.ne.2.2.1 (by simp)), hk.blk h.box h.ne.2.1 (by simp), hk.blk h.b2 h.ne.1 (by simp), h.kb.trans hk (.inl rfl), hB, h.ne, h.ge, h.ok⟩
theorem FY.below (h : FY w0 w g B2 B3 d b a X cap l W) (hb : Below W.heap.size W W') : FY w0 w g B2 B3 d b a X cap l W' :=
  h.stream (h.st.below hb) (below_then h.bw h.bw.size hb) (KeepBut.of_below hb g none)
theorem FY.setN (h : FY w0 w g B2 B3 d b a X cap l W) (r : Int) : FY w0 w g B2 B3 d b r X cap l (W.setCell ⟨B3, 0, none⟩ (.int .i64 r)) := by
  obtain ⟨p, h1, h2, h3⟩ := h.st
  have hk : Kept W (W.setCell ⟨B3, 0, none⟩ (.int .i64 r)) (fun k => k = B3) := Kept.setCell (p := ⟨B3, 0, none⟩) (Kept.refl W (fun k => k = B3)) (.inl rfl) _
  exact ⟨h.st.kept hk (fun e => h.ne.2.1 e.symm), h.tr.kept hk h.ne.2.2.2.2.2, blk_put h.box 0 _ rfl, blk_kept h.b2 hk h.ne.2.2.2.1, keep_far h.kb (p := ⟨B3, 0, none⟩) h.ge.2.1 _, h.bw.setCell (p := ⟨B3, 0, none⟩) (Nat.le_trans h.ge.2.2.2 h.ge.2.1) _, h.ne, h.ge, h.ok⟩
theorem FY.cells (h : FY w0 w g B2 B3 d b a X cap l W) : W.cell? ⟨B3, 0, none⟩ = some (.int .i64 a) ∧ W.cell? ⟨B3, 1, none⟩ = some (.slice (some ⟨X, 0, none⟩) l.length cap) ∧ W.cell? ⟨B2, 0, none⟩ = some (.int .i64 0) ∧ W.cell? ⟨B2, 1, none⟩ = some (.slice none 0 0) ∧ W.frozen? ⟨B3, 0, none⟩ = false ∧ W.frozen? ⟨B3, 1, none⟩ = false ∧ W.frozen? ⟨B2, 0, none⟩ = false ∧ W.frozen? ⟨B2, 1, none⟩ = false ∧ B2 < W.heap.size ∧ B3 < W.heap.size ∧ B2 ≠ B3 ∧ B3 ≠ B2 :=
  ⟨(blk_cell h.box 0).trans rfl, (blk_cell h.box 1).trans rfl, (blk_cell h.b2 0).trans rfl, (blk_cell h.b2 1).trans rfl, blk_frozen h.box 0, blk_frozen h.box 1, blk_frozen h.b2 0, blk_frozen h.b2 1, blk_lt h.b2, blk_lt h.box, h.ne.2.2.2.1, h.ne.2.2.2.1.symm⟩
theorem FY.fin (h : FY w0 w g B2 B3 d b a X cap l W) {b' : Nat} (hb : b ≤ b') (v1 v2 : Value) : TR ((W.setCell ⟨B2, 0, none⟩ v1).setCell ⟨B2, 1, none⟩ v2) X cap l ∧ StOk w0 ((W.setCell ⟨B2, 0, none⟩ v1).setCell ⟨B2, 1, none⟩ v2) g d b' ∧ Below w0.heap.size w0 ((W.setCell ⟨B2, 0, none⟩ v1).setCell ⟨B2, 1, none⟩ v2) ∧ KeepBut w ((W.setCell ⟨B2, 0, none⟩ v1).setCell ⟨B2, 1, none⟩ v2) g none := by
  have hk : Kept W ((W.setCell ⟨B2, 0, none⟩ v1).setCell ⟨B2, 1, none⟩ v2) (fun k => k = B2) := Kept.setCell (p := ⟨B2, 1, none⟩) (Kept.setCell (p := ⟨B2, 0, none⟩) (Kept.refl W (fun k => k = B2)) (.inl rfl) _) (.inl rfl) _
  have h0 := Nat.le_trans h.ge.2.2.2 h.ge.1
  exact ⟨h.tr.kept hk h.ne.2.2.2.2.1, (h.st.kept hk (fun e => h.ne.1 e.symm)).more hb, (h.bw.setCell (p := ⟨B2, 0, none⟩) h0 _).setCell (p := ⟨B2, 1, none⟩) h0 _, keep_far (keep_far h.kb (p := ⟨B2, 0, none⟩) h.ge.1 _) (p := ⟨B2, 1, none⟩) h.ge.1 _⟩
theorem FY.turn (h : FY w0 w g B2 B3 d b a X cap l W) {l' : List S79} (hl : l'.length = l.length) (ho : ∀ t ∈ l', okT t) (ht : TR W' X cap l') (hk : Kept W W' (fun k => k = X)) (hB : Below w0.heap.size w0 W') : FY w0 w g B2 B3 d b a X cap l' W' := by
  refine ⟨h.st.kept hk (fun e => h.ne.2.2.1 e.symm), ht, by rw [hl]; exact blk_kept h.box hk (fun e => h.ne.2.2.2.2.2 e.symm), blk_kept h.b2 hk (fun e => h.ne.2.2.2.2.1 e.symm), ⟨Nat.le_trans h.kb.1 hk.1, fun i hi hg hr => ?_⟩, hB, h.ne, h.ge, by rw [hl]; exact ⟨h.ok.1, ho⟩⟩
  have := h.ge.2.2.1
  exact (hk.2 i (Nat.lt_of_lt_of_le hi h.kb.1) (fun e => by omega)).trans (h.kb.2 i hi hg hr)
end
theorem FY.grow {w0 w W W' : World} {g B2 B3 b X cap : Nat} {d : List Int} {a : Int} {l : List S79} {t : S79} {v' : Value} (h : FY w0 w g B2 B3 d b a X cap l W) (hg : W.grownBy W' (some X)) (hN : Kd.N k79 79 W' w0.heap.size (fun k => k = X ∨ W.heap.size ≤ k) v' (l ++ [t])) (hB : Below w0.heap.size w0 W') (ht : okT t) (hl : l.length ≤ 2) :
    ∃ X' cap', v' = .slice (some ⟨X', 0, none⟩) (l.length + 1) cap' ∧ FY w0 w g B2 B3 d b a X' cap' (l ++ [t]) (W'.setCell ⟨B3, 1, none⟩ v') := by
  obtain ⟨X', cap', rfl, hok, _, hT⟩ := TR.ofN hN (by simp)
  have hlen : (l ++ [t]).length = l.length + 1 := by simp
  obtain ⟨n1, n2, n3, n4, n5, n6⟩ := h.ne
  obtain ⟨g1, g2, g3, g4⟩ := h.ge
  have lX := h.tr.lt
  have l2 := blk_lt h.b2
  have l3 := blk_lt h.box
  have lg := h.st.lt
  have hs : W.heap.size ≤ W'.heap.size := hg.size
  have hX' : X' ≠ g ∧ X' ≠ B2 ∧ X' ≠ B3 ∧ w.heap.size ≤ X' := by
    rcases hok with rfl | hok
    · exact ⟨n3, n5, n6, g3⟩
    · exact ⟨by omega, by omega, by omega, by omega⟩
  have same : ∀ k, k < W.heap.size → k ≠ X → W'.heap[k]? = W.heap[k]? := fun k hk hn => hg.block k hk (fun e => hn (Option.some.inj e))
  have hK : Kept W W' (fun k => k = X) := ⟨hs, fun k hk hn => same k hk hn⟩
  have hK2 : Kept W' (W'.setCell ⟨B3, 1, none⟩ (.slice (some ⟨X', 0, none⟩) (l.length + 1) cap')) (fun k => k = B3) := Kept.setCell (p := ⟨B3, 1, none⟩) (Kept.refl W' (fun k => k = B3)) (.inl rfl) _
  rw [hlen]
  refine ⟨X', cap', rfl, (h.st.kept hK (fun e => n3 e.symm)).kept hK2 (fun e => n2 e.symm), hT.kept hK2 hX'.2.2.1, ?_, blk_kept (blk_kept h.b2 hK (fun e => n5 e.symm)) hK2 n4, ?_, hB.setCell (p := ⟨B3, 1, none⟩) (Nat.le_trans g4 g2) _, ⟨n1, n2, hX'.1, n4, hX'.2.1, hX'.2.2.1⟩, ⟨g1, g2, hX'.2.2.2, g4⟩, ⟨by rw [hlen]; omega, fun t' ht' => ?_⟩⟩
  · rw [hlen]
    exact blk_put (blk_kept h.box hK (fun e => n6 e.symm)) 1 _ rfl
  · exact keep_far (h.kb.trans (KeepBut.of_grown hg g) (.inr ⟨X, rfl, g3⟩)) (p := ⟨B3, 1, none⟩) g2 _
  · rcases List.mem_append.1 ht' with h1 | h1
    · exact h.ok.2 t' h1
    · rw [List.mem_singleton.1 h1]; exact ht
theorem FY_some {w0 w W : World} {g B2 B3 b X cap : Nat} {d : List Int} {a : Int} {l : List S79} (h : FY w0 w g B2 B3 d b a X cap l W) (hb : b ≤ 1000000) (Y : Nat) (ss : List ByteArray) (hr : StrRow W Y ss) (hl : 1 ≤ ss.length) (hl2 : ss.length ≤ 1000) (n : Nat) (hn : n = ss.length) :
    Calls Tryz.prog 8 #[.pointer (some ⟨g, 0, none⟩), .slice (some ⟨Y, 0, none⟩) n n] W fun e w' => ∃ y, e = .returned (.string y) ∧ Aside0 (y ∈ ss) ∧ Aside0 (FY w0 w g B2 B3 d (b + 1) a X cap l w') ∧ Aside0 (KeepBut W w' g none) ∧ w'.cell? ⟨B3, 1, none⟩ = some (.slice (some ⟨X, 0, none⟩) l.length cap) ∧ B3 < w'.heap.size := by
  subst hn
  exact (St_Some h.st hb h.bw Y ss.length ss hr (Nat.le_refl _) hl hl2).mono fun e w' ⟨y, he, hy, hst, hB, hK⟩ => by
    have hf := h.stream hst hB hK
    exact ⟨y, he, ⟨hy⟩, ⟨hf⟩, ⟨hK⟩, hf.cells.2.1, blk_lt hf.box⟩
theorem FY_pickAt {w0 w W : World} {g B2 B3 b X cap : Nat} {d : List Int} {a : Int} {l : List S79} (h : FY w0 w g B2 B3 d b a X cap l W) (hb : b ≤ 1000000) (Y : Nat) (ns : List Int) (hr : IntRow W Y ns) (hl : 1 ≤ ns.length) (hl2 : ns.length ≤ 1000) (n : Nat) (hn : n = ns.length) :
    Calls Tryz.prog 40 #[.pointer (some ⟨g, 0, none⟩), .slice (some ⟨Y, 0, none⟩) n n] W fun e w' => ∃ r, e = .returned (.int .i64 r) ∧ Aside0 (FY w0 w g B2 B3 d (b + 1) a X cap l w') ∧ w'.cell? ⟨B3, 1, none⟩ = some (.slice (some ⟨X, 0, none⟩) l.length cap) ∧ B3 < w'.heap.size := by
  subst hn
  exact (St_Pick h.st hb h.bw Y ns.length ns hr (Nat.le_refl _) hl hl2).mono fun e w' ⟨r, he, hy, hst, hB, hK⟩ => by
    have hf := h.stream hst hB hK
    exact ⟨r, he, ⟨hf⟩, hf.cells.2.1, blk_lt hf.box⟩
theorem some4_ok {y : ByteArray} {r : Int} (h : y ∈ ([⟨#[97]⟩, ⟨#[122]⟩, ⟨#[]⟩, ⟨#[102, 111, 114]⟩] : List ByteArray)) : okT ⟨y, r⟩ := by
  show y.size ≤ 10
  simp only [List.mem_cons, List.not_mem_nil, or_false] at h
  rcases h with rfl | rfl | rfl | rfl <;> decide
theorem FY_start {w0 w w2 w3 w4 w5 : World} {g b X cap : Nat} {d : List Int} {l : List S79} (hlg : g < w.heap.size) (hw0 : w0.heap.size ≤ w.heap.size) (hx : (w.alloc (.cells #[.int .i64 0, .slice none 0 0] 33)).heap[w.heap.size]? = some (.cells #[.int .i64 0, .slice none 0 0] 33 (0, 0)))
    (h2 : KeepBut (w.alloc (.cells #[.int .i64 0, .slice none 0 0] 33)) w2 g none) (h3 : KeepBut w2 w3 g none) (h4 : KeepBut w3 w4 g none) (h5 : Below w4.heap.size w4 w5) (hs : StOk w0 w4 g d b) (hw : Below w0.heap.size w0 w4) (ht : TR w5 X cap l) (ho : w4.heap.size ≤ X ∧ l.length ≤ 2 ∧ ∀ t ∈ l, okT t) (r : Int) :
    FY w0 w g w.heap.size w5.heap.size d b r X cap l (w5.alloc (.cells #[.int .i64 r, .slice (some ⟨X, 0, none⟩) l.length cap] 33)) := by
  have hb6 := below_alloc (Below.refl w5.heap.size w5) (.cells #[.int .i64 r, .slice (some ⟨X, 0, none⟩) l.length cap] 33)
  have s2 := h2.1
  rw [show (w.alloc (.cells #[.int .i64 0, .slice none 0 0] 33)).heap.size = w.heap.size + 1 by simp] at s2
  have s3 := h3.1
  have s4 := h4.1
  have s5 := h5.size
  have sX := ht.lt
  have hk4 := (h2.trans h3 (.inl rfl)).trans h4 (.inl rfl)
  have hk6 := (hk4.trans (KeepBut.of_below h5 g none) (.inl rfl)).trans (KeepBut.of_below hb6 g none) (.inl rfl)
  exact ⟨(hs.below h5).below hb6, ht.below hb6, blk_new w5 _, hk6.blk hx (by omega) (by simp), (KeepBut.of_below (below_alloc (Below.refl _ _) _) g none).trans hk6 (.inl rfl), below_then (below_then hw hw.size h5) (Nat.le_trans hw.size h5.size) hb6, ⟨by omega, by omega, by omega, by omega, by omega, by omega⟩, ⟨by omega, by omega, by omega, hw0⟩, ⟨by omega, ho.2.2⟩⟩
set_option maxHeartbeats 2000000 in
set_option maxRecDepth 100000 in
theorem AnyForm_calls (w0 w : World) (g b : Nat) (d : List Int) (hst : StOk w0 w g d b) (hb : b ≤ 100000) (hB : Below w0.heap.size w0 w) :
    Calls Tryz.prog 6 #[.pointer (some ⟨g, 0, none⟩)] w fun e w' => ∃ (X cap : Nat) (a : Int) (l : List S79), e = .returned (.agg #[.int .i64 a, .slice (some ⟨X, 0, none⟩) l.length cap]) ∧ (l.length ≤ 3 ∧ ∀ t ∈ l, okT t) ∧ w.heap.size ≤ X ∧ Aside0 (TR w' X cap l) ∧ Aside0 (StOk w0 w' g d (b + 10)) ∧ Aside0 (Below w0.heap.size w0 w') ∧ Aside0 (KeepBut w w' g none) := by
  have hlg := hst.lt
  have hw0 := hB.size
  have hb1 := below_alloc (Below.refl w.heap.size w) (.cells #[.int .i64 0, .slice none 0 0] 33)
  have HX2 := Aside0.mk (blk_new w (.cells #[.int .i64 0, .slice none 0 0] 33))
  have HP1 : Aside0 (Calls Tryz.prog 40 #[.pointer (some ⟨g, 0, none⟩), .slice (some ⟨w.heap.size + 1, 0, none⟩) 5 5] ((w.alloc (.cells #[.int .i64 0, .slice none 0 0] 33)).alloc (.cells #[.int .i64 0, .int .i64 1, .int .i64 (-3), .int .i64 4, .int .i64 6] 3)) fun e w' => ∃ r, e = .returned (.int .i64 r) ∧ Aside0 (r ∈ ([0, 1, -3, 4, 6] : List Int)) ∧ Aside0 (StOk w0 w' g d (b + 1)) ∧ Aside0 (Below w0.heap.size w0 w') ∧ Aside0 (KeepBut (w.alloc (.cells #[.int .i64 0, .slice none 0 0] 33)) w' g none)) := ⟨by
    have h := St_pickNew (hst.below hb1) (by omega) (below_then hB hB.size hb1) [0, 1, -3, 4, 6] (by simp) (by simp) 5 rfl
    rw [show (w.alloc (.cells #[.int .i64 0, .slice none 0 0] 33)).heap.size = w.heap.size + 1 by simp] at h
    exact h⟩
  have HC2 : Aside0 (∀ W, StOk w0 W g d (b + 1) → Below w0.heap.size w0 W → Calls Tryz.prog 40 #[.pointer (some ⟨g, 0, none⟩), .slice (some ⟨W.heap.size, 0, none⟩) 5 5] (W.alloc (.cells #[.int .i64 0, .int .i64 1, .int .i64 2, .int .i64 (-4), .int .i64 6] 3)) fun e w' => ∃ r, e = .returned (.int .i64 r) ∧ Aside0 (r ∈ ([0, 1, 2, -4, 6] : List Int)) ∧ Aside0 (StOk w0 w' g d (b + 2)) ∧ Aside0 (Below w0.heap.size w0 w') ∧ Aside0 (KeepBut W w' g none)) := ⟨fun W h1 h2 => St_pickNew h1 (by omega) h2 [0, 1, 2, -4, 6] (by simp) (by simp) 5 rfl⟩
  have HC3 : Aside0 (∀ W, StOk w0 W g d (b + 2) → Below w0.heap.size w0 W → Calls Tryz.prog 40 #[.pointer (some ⟨g, 0, none⟩), .slice (some ⟨W.heap.size, 0, none⟩) 5 5] (W.alloc (.cells #[.int .i64 0, .int .i64 0, .int .i64 2, .int .i64 3, .int .i64 (-6)] 3)) fun e w' => ∃ r, e = .returned (.int .i64 r) ∧ Aside0 (r ∈ ([0, 0, 2, 3, -6] : List Int)) ∧ Aside0 (StOk w0 w' g d (b + 3)) ∧ Aside0 (Below w0.heap.size w0 w') ∧ Aside0 (KeepBut W w' g none)) := ⟨fun W h1 h2 => St_pickNew h1 (by omega) h2 [0, 0, 2, 3, -6] (by simp) (by simp) 5 rfl⟩
  have HF : Aside0 (∀ (W : World) (n c1 c2 : Int), Calls Tryz.prog 43 #[.int .i64 n, .slice (some ⟨W.heap.size, 0, none⟩) 2 2] (W.alloc (.cells #[.string ⟨#[105]⟩, .int .i64 c1, .string ⟨#[106]⟩, .int .i64 c2] 79)) fun e w' => ∃ (X cap : Nat) (l' : List S79), e = .returned (.agg #[.int .i64 n, .slice (some ⟨X, 0, none⟩) l'.length cap]) ∧ Aside0 (W.heap.size ≤ X ∧ l'.length ≤ 2 ∧ ∀ t ∈ l', okT t) ∧ Aside0 (TR w' X cap l') ∧ Aside0 (Below W.heap.size W w')) := ⟨fun W n c1 c2 => by
    have hb := below_alloc (Below.refl W.heap.size W) (.cells #[.string ⟨#[105]⟩, .int .i64 c1, .string ⟨#[106]⟩, .int .i64 c2] 79)
    have ht : TR (W.alloc (.cells #[.string ⟨#[105]⟩, .int .i64 c1, .string ⟨#[106]⟩, .int .i64 c2] 79)) W.heap.size 2 [⟨⟨#[105]⟩, c1⟩, ⟨⟨#[106]⟩, c2⟩] := ⟨_, blk_new W _, Nat.le_refl _, by unfold maxLen; decide, rfl, rfl⟩
    refine (form_calls ht (by simp) (fun t ht => by
      simp only [List.mem_cons, List.not_mem_nil, or_false] at ht
      rcases ht with rfl | rfl
      · show (⟨#[105]⟩ : ByteArray).size ≤ 10
        decide
      · show (⟨#[106]⟩ : ByteArray).size ≤ 10
        decide)).mono fun e w' ⟨X, cap, l', he, h1, h2, h3, h4, h5⟩ => ⟨X, cap, l', he, ⟨Nat.le_trans (by simp) h1, h2, h3⟩, h4, ⟨below_step hb h5.out⟩⟩⟩
  clear hst hB hb1
  go_enter Tryz.func6, Tryz.ntmps6
  go_wp2_with (first | (go_at_call 40; refine (HC3.out _ HS3.out HW3.out).mono ?_; rintro e w4 ⟨r3, rfl, HR3, HS4, HW4, HK4⟩) | (go_at_call 40; refine (HC2.out _ HS2.out HW2.out).mono ?_; rintro e w3 ⟨r2, rfl, HR2, HS3, HW3, HK3⟩) | (go_at_call 40; refine HP1.out.mono ?_; rintro e w2 ⟨r1, rfl, HR1, HS2, HW2, HK2⟩) | (go_at_call 43; refine (HF.out _ _ _ _).mono ?_; rintro e w5 ⟨X, cap, l5, rfl, HO5, HT5, HB5⟩; have HFY := Aside0.mk (FY_start hlg hw0 HX2.out HK2.out HK3.out HK4.out HB5.out HS4.out HW4.out HT5.out HO5.out r1)) | (go_at_call 9; refine (St_Flip HFY.out.st (by omega) HFY.out.bw 15 (by omega) (by omega)).mono ?_; rintro e w6 ⟨q, rfl, hs6, hw6, hk6⟩; have HF6 := Aside0.mk (HFY.out.stream hs6 hw6 hk6); clear hs6 hw6 hk6; obtain ⟨x0, x1, x2, x3, f0, f1, f2, f3, l2, l3, n1, n2⟩ := HF6.out.cells; cases q) | (go_at_call 10; fail))
  · refine bodyPost_ret (results_cell_row rfl _ _ w.heap.size 33 #[.int .i64 r1, .slice (some ⟨X, 0, none⟩) l5.length cap] (0, 0) _ rfl (blk_put (blk_put HF6.out.b2 0 (.int .i64 r1) rfl) 1 (.slice (some ⟨X, 0, none⟩) l5.length cap) rfl) Tryz.underlying33 rfl (by kernel_rfl)) rfl ?_
    obtain ⟨j1, j2, j3, j4⟩ := HF6.out.fin (b' := b + 10) (by omega) (.int .i64 r1) (.slice (some ⟨X, 0, none⟩) l5.length cap)
    exact ⟨X, cap, r1, l5, rfl, HF6.out.ok, HF6.out.ge.2.2.1, ⟨j1⟩, ⟨j2⟩, ⟨j3⟩, ⟨j4⟩⟩
  · clear x0 x1 x2 x3 f0 f1 f2 f3 l2 l3 n1 n2
    go_wp2_with (first | (go_at_call 10; refine (St_Next HF6.out.st (by omega) HF6.out.bw 3 (by omega) (by omega)).mono ?_; rintro e w7 ⟨r, rfl, hr, hs7, hw7, hk7⟩; have HF7 := Aside0.mk (HF6.out.stream hs7 hw7 hk7); clear hs7 hw7 hk7; obtain ⟨x0, x1, x2, x3, f0, f1, f2, f3, l2, l3, n1, n2⟩ := HF7.out.cells; obtain rfl | rfl | rfl : r = 0 ∨ r = 1 ∨ r = 2 := by omega) | (go_at_call 40; refine (St_pickNew HF7.out.st (by omega) HF7.out.bw [1000001, -1000000] (by simp) (by simp) 2 rfl).mono ?_; rintro e w8 ⟨r8, rfl, _, hs8, hw8, hk8⟩; have HF8 := Aside0.mk (HF7.out.stream hs8.out hw8.out hk8.out); clear x0 x1 x2 x3 f0 f1 f2 f3 l2 l3 n1 n2; obtain ⟨x0, x1, x2, x3, f0, f1, f2, f3, l2, l3, n1, n2⟩ := HF8.out.cells; clear hs8 hw8 hk8) | (go_at_call 44; refine (ReverseT (w0 := w0) HF7.out.tr (by have := HF7.out.ok.1; omega) HF7.out.ok.2 (Nat.le_trans HF7.out.ge.2.2.2 HF7.out.ge.2.2.1) HF7.out.bw).mono ?_; rintro e w8 ⟨rfl, l8, hl8, ho8, ht8, hk8, hw8⟩; have HF8 := Aside0.mk (HF7.out.turn hl8 ho8 ht8 hk8 hw8); clear x0 x1 x2 x3 f0 f1 f2 f3 l2 l3 n1 n2; obtain ⟨x0, x1, x2, x3, f0, f1, f2, f3, l2, l3, n1, n2⟩ := HF8.out.cells; clear ho8 ht8 hk8 hw8))
    · have HF9 := Aside0.mk (HF8.out.setN r8)
      refine bodyPost_ret (results_cell_row rfl _ _ w.heap.size 33 #[.int .i64 r8, .slice (some ⟨X, 0, none⟩) l5.length cap] (0, 0) _ rfl (blk_put (blk_put HF9.out.b2 0 (.int .i64 r8) rfl) 1 (.slice (some ⟨X, 0, none⟩) l5.length cap) rfl) Tryz.underlying33 rfl (by kernel_rfl)) rfl ?_
      obtain ⟨j1, j2, j3, j4⟩ := HF9.out.fin (b' := b + 10) (by omega) (.int .i64 r8) (.slice (some ⟨X, 0, none⟩) l5.length cap)
      exact ⟨X, cap, r8, l5, rfl, HF9.out.ok, HF9.out.ge.2.2.1, ⟨j1⟩, ⟨j2⟩, ⟨j3⟩, ⟨j4⟩⟩
    · have hf1 := Aside0.mk (HF7.out.below (below_drew (below_alloc (Below.refl _ _) (.cells #[.string ⟨#[97]⟩, .string ⟨#[122]⟩, .string ⟨#[]⟩, .string ⟨#[102, 111, 114]⟩] 9))))
      have hf2 := Aside0.mk (HF7.out.below (below_drew (below_alloc (below_alloc (Below.refl _ _) (.cells #[.string ⟨#[97]⟩, .string ⟨#[122]⟩, .string ⟨#[]⟩, .string ⟨#[102, 111, 114]⟩] 9)) (.cells #[.int .i64 0, .int .i64 1, .int .i64 1001] 3))))
      have hf3 := Aside0.mk (HF7.out.below (below_drew (below_alloc (below_alloc (Below.refl _ _) (.cells #[.int .i64 0, .int .i64 1, .int .i64 1001] 3)) (.cells #[.string ⟨#[97]⟩, .string ⟨#[122]⟩, .string ⟨#[]⟩, .string ⟨#[102, 111, 114]⟩] 9))))
      have hsr1 : Aside0 (StrRow ((w7.alloc (.cells #[.string ⟨#[97]⟩, .string ⟨#[122]⟩, .string ⟨#[]⟩, .string ⟨#[102, 111, 114]⟩] 9)).drew) w7.heap.size [⟨#[97]⟩, ⟨#[122]⟩, ⟨#[]⟩, ⟨#[102, 111, 114]⟩]) := ⟨blk_new w7 _⟩
      have hsr2 : Aside0 (StrRow (((w7.alloc (.cells #[.string ⟨#[97]⟩, .string ⟨#[122]⟩, .string ⟨#[]⟩, .string ⟨#[102, 111, 114]⟩] 9)).alloc (.cells #[.int .i64 0, .int .i64 1, .int .i64 1001] 3)).drew) w7.heap.size [⟨#[97]⟩, ⟨#[122]⟩, ⟨#[]⟩, ⟨#[102, 111, 114]⟩]) := ⟨blk_alloc hsr1.out _⟩
      have hsr3 : Aside0 (StrRow (((w7.alloc (.cells #[.int .i64 0, .int .i64 1, .int .i64 1001] 3)).alloc (.cells #[.string ⟨#[97]⟩, .string ⟨#[122]⟩, .string ⟨#[]⟩, .string ⟨#[102, 111, 114]⟩] 9)).drew) (w7.heap.size + 1) [⟨#[97]⟩, ⟨#[122]⟩, ⟨#[]⟩, ⟨#[102, 111, 114]⟩]) := ⟨by
        have := blk_new (w7.alloc (.cells #[.int .i64 0, .int .i64 1, .int .i64 1001] 3)) (.cells #[.string ⟨#[97]⟩, .string ⟨#[122]⟩, .string ⟨#[]⟩, .string ⟨#[102, 111, 114]⟩] 9)
        rw [show (w7.alloc (.cells #[.int .i64 0, .int .i64 1, .int .i64 1001] 3)).heap.size = w7.heap.size + 1 by simp] at this
        exact this⟩
      have hir2 : Aside0 (IntRow (((w7.alloc (.cells #[.string ⟨#[97]⟩, .string ⟨#[122]⟩, .string ⟨#[]⟩, .string ⟨#[102, 111, 114]⟩] 9)).alloc (.cells #[.int .i64 0, .int .i64 1, .int .i64 1001] 3)).drew) (w7.heap.size + 1) [0, 1, 1001]) := ⟨by
        have := blk_new (w7.alloc (.cells #[.string ⟨#[97]⟩, .string ⟨#[122]⟩, .string ⟨#[]⟩, .string ⟨#[102, 111, 114]⟩] 9)) (.cells #[.int .i64 0, .int .i64 1, .int .i64 1001] 3)
        rw [show (w7.alloc (.cells #[.string ⟨#[97]⟩, .string ⟨#[122]⟩, .string ⟨#[]⟩, .string ⟨#[102, 111, 114]⟩] 9)).heap.size = w7.heap.size + 1 by simp] at this
        exact this⟩
      have hir3 : Aside0 (IntRow (((w7.alloc (.cells #[.int .i64 0, .int .i64 1, .int .i64 1001] 3)).alloc (.cells #[.string ⟨#[97]⟩, .string ⟨#[122]⟩, .string ⟨#[]⟩, .string ⟨#[102, 111, 114]⟩] 9)).drew) w7.heap.size [0, 1, 1001]) := ⟨blk_alloc (blk_new w7 _) _⟩
      have hgl := Aside0.mk HF7.out.st.lt
      have HL24 : Aside0 ((l5.length + 1) * 24 ≤ 140737488355328) := ⟨by have := HO5.out.2.1; omega⟩
      have HX0 : Aside0 (w0.heap.size ≤ X) := ⟨Nat.le_trans HF7.out.ge.2.2.2 HF7.out.ge.2.2.1⟩
      clear x0 x2 x3 f0 f2 f3
      go_region_law (first | (refine Kd.N_append_step k79 w0.heap.size (by rfl) (.tmp 33) (.tmp 41) 31 79 (.agg #[.string ⟨#[]⟩, .int .i64 0]) 24 (by rfl) Tryz.underlying31 info79 rfl (by decide) (by decide) (.slice (some ⟨X, 0, none⟩) l5.length cap) l5 ⟨y8, r9⟩ [.string y8, .int .i64 r9] (fun k => k = X ∨ w9.heap.size ≤ k) (fun _ => False) (by rfl) (by rfl) (fk59 _ _ _) (fun _ h => h.elim) (fun _ h => .inr h) (Kd.N_mono (HF9.out.tr.toN HX0.out) (fun _ h => .inl h)) HF9.out.bw HF9.out.bw.size HL24.out ?_; intro v10 w10 hN10 hB10 hg10 hat10; obtain ⟨X10, c10, rfl, hF10⟩ := HF9.out.grow hg10 hN10 hB10 (by exact some4_ok HY8.out) HO5.out.2.1; have HF10 := Aside0.mk hF10; have b10 := blk_grown HF9.out.box hg10 (fun e => HF9.out.ne.2.2.2.2.2 (Option.some.inj e).symm); have c10' : w10.cell? ⟨w5.heap.size, 1, none⟩ = some (.slice (some ⟨X, 0, none⟩) l5.length cap) := (blk_cell b10 1).trans rfl; have f10 := blk_frozen b10 1; have l10 := blk_lt b10; clear hN10 hB10 hg10 hat10 b10 hF10) | (go_simp; go_at_call 8; refine (FY_some (by first | exact hf1.out | exact hf2.out | exact hf3.out) (by omega) _ [⟨#[97]⟩, ⟨#[122]⟩, ⟨#[]⟩, ⟨#[102, 111, 114]⟩] (by first | exact hsr1.out | exact hsr2.out | exact hsr3.out) (by simp) (by simp) 4 rfl).mono ?_; rintro e w8 ⟨y8, rfl, HY8, HF8, HK8, c8, d8⟩) | (go_simp; go_at_call 40; refine (FY_pickAt (by first | exact HF8.out | exact HF8.out.below (below_alloc (Below.refl _ _) _)) (by omega) _ [0, 1, 1001] (by first | exact blk_new w8 _ | exact (HK8.out.2 _ (blk_lt hir2.out) (by have h2 := hgl.out; omega) (by simp)).trans hir2.out | exact (HK8.out.2 _ (blk_lt hir3.out) (by have h2 := hgl.out; omega) (by simp)).trans hir3.out) (by simp) (by simp) 3 rfl).mono ?_; rintro e w9 ⟨r9, rfl, HF9, c9, d9⟩))
      all_goals
        clear x1 f1 l2 l3 n1 n2 hf1 hf2 hf3 hsr1 hsr2 hsr3 hir2 hir3
        obtain ⟨x0, x1, x2, x3, f0, f1, f2, f3, l2, l3, n1, n2⟩ := HF10.out.cells
        have hlen : (l5 ++ [(⟨y8, r9⟩ : S79)]).length = l5.length + 1 := by simp
        rw [hlen] at x1
        go_wp2
        refine bodyPost_ret (results_cell_row rfl _ _ w.heap.size 33 #[.int .i64 r1, .slice (some ⟨X10, 0, none⟩) (l5.length + 1) c10] (0, 0) _ rfl (blk_put (blk_put HF10.out.b2 0 (.int .i64 r1) rfl) 1 (.slice (some ⟨X10, 0, none⟩) (l5.length + 1) c10) rfl) Tryz.underlying33 rfl (by kernel_rfl)) rfl ?_
        obtain ⟨j1, j2, j3, j4⟩ := HF10.out.fin (b' := b + 10) (by omega) (.int .i64 r1) (.slice (some ⟨X10, 0, none⟩) (l5.length + 1) c10)
        exact ⟨X10, c10, r1, l5 ++ [⟨y8, r9⟩], by rw [hlen], HF10.out.ok, HF10.out.ge.2.2.1, ⟨j1⟩, ⟨j2⟩, ⟨j3⟩, ⟨j4⟩⟩
    · refine bodyPost_ret (results_cell_row rfl _ _ w.heap.size 33 #[.int .i64 r1, .slice (some ⟨X, 0, none⟩) l5.length cap] (0, 0) _ rfl (blk_put (blk_put HF8.out.b2 0 (.int .i64 r1) rfl) 1 (.slice (some ⟨X, 0, none⟩) l5.length cap) rfl) Tryz.underlying33 rfl (by kernel_rfl)) rfl ?_
      obtain ⟨j1, j2, j3, j4⟩ := HF8.out.fin (b' := b + 10) (by omega) (.int .i64 r1) (.slice (some ⟨X, 0, none⟩) l5.length cap)
      exact ⟨X, cap, r1, l8, by rw [hl8], HF8.out.ok, HF8.out.ge.2.2.1, ⟨j1⟩, ⟨j2⟩, ⟨j3⟩, ⟨j4⟩⟩
theorem St_Range03 {w0 w : World} {g : Nat} {d : List Int} {b : Nat} (h : StOk w0 w g d b) (hb : b ≤ 1000000) (hB : Below w0.heap.size w0 w) :
    Calls Tryz.prog 45 #[.pointer (some ⟨g, 0, none⟩), .int .i64 0, .int .i64 3] w fun e w' => ∃ n : Nat, e = .returned (.int .i64 (n : Int)) ∧ n ≤ 3 ∧ Aside0 (StOk w0 w' g d (b + 1)) ∧ Aside0 (Below w0.heap.size w0 w') ∧ Aside0 (KeepBut w w' g none) := by
  obtain ⟨p, h1, h2, h3⟩ := h
  obtain ⟨r, e1, e2, e3⟩ := Next_some d p 4 h1 (by omega) (by omega) (by omega)
  have e : wbmake_Stream_Range.f d p 0 3 = some (r, p + 1) := by
    unfold wbmake_Stream_Range.f
    rw [if_neg (by omega)]
    have w1 : wrap64 ((wrap64 (3 - 0)) + 1) = 4 := by simp [wrap64]
    rw [w1, e1]
    show some (wrap64 (0 + r), p + 1) = _
    rw [Int.zero_add, IntWalk.wrap64_in _ (by omega)]
  exact (wbmake_Stream_Range.calls g d p 0 3 r (p + 1) w0 w h3 hB e).mono fun e w' ⟨he, hI, hB', hK⟩ => ⟨r.toNat, by rw [he, Int.toNat_of_nonneg e2], by omega, ⟨p + 1, by omega, by omega, hI⟩, ⟨hB'⟩, ⟨hK⟩⟩
set_option maxHeartbeats 1000000 in
set_option maxRecDepth 100000 in
theorem FormList_calls (w0 w : World) (g b : Nat) (d : List Int) (hst : StOk w0 w g d b) (hb : b ≤ 10000) (hB : Below w0.heap.size w0 w) :
    Calls Tryz.prog 7 #[.pointer (some ⟨g, 0, none⟩), .int .i64 3] w fun e w' => ∃ (A : Option Addr) (c : Nat) (L : List S33), e = .returned (.slice A L.length c) ∧ (L.length ≤ 3 ∧ L.length ≤ c ∧ ∀ f ∈ L, f.f1.length ≤ 3 ∧ ∀ t ∈ f.f1, okT t) ∧ Aside0 (∃ ok : Nat → Prop, Kd.F k33 w' ok A L.length L ∧ ¬ ok g) ∧ Aside0 (StOk w0 w' g d (b + 100)) ∧ Aside0 (Below w0.heap.size w0 w') ∧ Aside0 (KeepBut w w' g none) := by
  have HR3 := Aside0.mk (St_Range03 hst (by omega) hB)
  have hlg := hst.lt
  have hw0 := hB.size
  clear hst hB
  go_enter Tryz.func7, Tryz.ntmps7
  go_wp2_with (go_at_call 45; refine HR3.out.mono ?_; rintro e w1 ⟨n, rfl, hn, HS1, HB1, HK1⟩)
  go_loopg [5, 9] n (fun gg s5 s9 wr => ∃ (jj : Nat) (R : Nat → Prop) (u : Value) (L : List S33), jj ≤ n ∧ n - jj ≤ gg ∧ Aside0 (L.length = jj) ∧ s5 = u ∧ s9 = .int .i64 jj ∧ Aside0 (Kd.N k33 33 wr w0.heap.size R u L) ∧ Aside0 (∀ f ∈ L, f.f1.length ≤ 3 ∧ ∀ t ∈ f.f1, okT t) ∧ Aside0 (∀ k, R k → w.heap.size ≤ k) ∧ Aside0 (StOk w0 wr g d (b + 1 + 10 * jj)) ∧ Aside0 (Below w0.heap.size w0 wr) ∧ Aside0 (KeepBut w wr g none))
  case atStart => exact ⟨0, fun _ => False, .slice none 0 0, [], Nat.zero_le _, by omega, ⟨rfl⟩, rfl, rfl, ⟨Kd.N_nil _ _ _ _ _⟩, ⟨fun f hf => by simp at hf⟩, ⟨fun k hk => hk.elim⟩, HS1, HB1, HK1⟩
  case round =>
    obtain ⟨jj, R, u, L, hjj, hg, HLJ, hu, rfl, HN, HL, HR, HS, HB, HK⟩ := hrel
    obtain ⟨AU, cU, rfl⟩ := Kd.N_slice HN.out
    subst hu
    by_cases hlt : jj < n
    · have hltz : (jj : Int) < (n : Int) := by omega
      have HAF := Aside0.mk (AnyForm_calls w0 wr g (b + 1 + 10 * jj) d HS.out (by omega) HB.out)
      have HL32 : Aside0 ((L.length + 1) * 32 ≤ 140737488355328) := ⟨by have := HLJ.out; omega⟩
      go_wp2_with (first | (go_at_call 6; refine HAF.out.mono ?_; rintro e w2 ⟨X, cap, a, l, rfl, hl, hX, HT2, HS2, HB2, HK2⟩; have HN2 := Aside0.mk (Kd.N_step HN.out (fun k ho hlt => HK2.out.2 k hlt (by have := HR.out k ho; omega) (by simp))); have HX := Aside0.mk hX; have HLL := Aside0.mk hl; have HFK := Aside0.mk (fk33 (a := a) (show l.length ≤ cap from (by obtain ⟨_, _, h2, _⟩ := HT2.out; exact h2)) (HT2.out.F (by have := hl.1; omega))); clear hl hX) | (at_builtin; refine Kd.N_append k33 w0.heap.size rfl (.tmp 11) (.tmp 14) 27 33 (.agg #[.int .i64 0, .slice none 0 0]) 32 rfl Tryz.underlying27 info33 rfl (by decide) (by decide) (.slice AU L.length cU) L ⟨a, l⟩ [.int .i64 a, .slice (some ⟨X, 0, none⟩) l.length cap] (fun k => R k ∨ wr.heap.size ≤ k) (fun k => k = X) rfl rfl HFK.out (fun k hk => ⟨.inr (by have hk' : k = X := hk; have := HX.out; omega), fun e => by have hk' : k = X := hk; have h1 := ((Kd.N_bound HN.out).1 k e.symm).2; have h2 := HX.out; omega⟩) (fun _ h => .inr (Nat.le_trans HK2.out.1 h)) (Kd.N_mono HN2.out (fun _ h => .inl h)) HB2.out HB2.out.size HL32.out ?_; intro v6 w6 hN6 hB6 hg6 hat6; have HN6 := Aside0.mk hN6; have HB6 := Aside0.mk hB6; have HG6 := Aside0.mk hg6; clear hN6 hB6 hg6 hat6))
      have hgk : Kept w2 w6 (fun k => R k) := Kept.of_grown HG6.out (Kept.refl _ _) (fun k hk => .inl (HN.out.1 k hk))
      have hK6 : KeepBut w w6 g none := (HK.out.trans HK2.out (.inl rfl)).trans (KeepBut.of_grown HG6.out g) (by
        cases ho : (Value.slice AU L.length cU).ownBlock with
        | none => exact .inl rfl
        | some k => exact .inr ⟨k, rfl, HR.out k (HN.out.1 k ho)⟩)
      have hwr : w.heap.size ≤ wr.heap.size := HK.out.1
      go_roundg (n - (jj + 1))
      case measure => omega
      case rel => exact ⟨jj + 1, fun k => R k ∨ wr.heap.size ≤ k, v6, L ++ [⟨a, l⟩], by omega, by omega, ⟨by rw [List.length_append, List.length_singleton, HLJ.out]⟩, rfl, by go_num, HN6, ⟨fun f hf => by
        rcases List.mem_append.1 hf with h | h
        · exact HL.out f h
        · rw [List.mem_singleton.1 h]; exact HLL.out⟩, ⟨fun k hk => hk.elim (HR.out k) (fun h => Nat.le_trans hwr h)⟩, ⟨(HS2.out.kept hgk (fun h => by have := HR.out _ h; omega)).more (by omega)⟩, HB6, ⟨hK6⟩⟩
    · have hltz : ¬ (jj : Int) < (n : Int) := by omega
      have ej : jj = n := by omega
      go_wp2
      go_ret
      have hrd := Kd.N_reads' HN.out
      exact ⟨AU, cU, L, rfl, ⟨by have := HLJ.out; omega, hrd.2.1, HL.out⟩, ⟨R, Kd.N_F HN.out, fun h => by have := HR.out _ h; omega⟩, ⟨HS.out.more (by omega)⟩, HB, HK⟩
end Go.Proofs.YtjgakaembhmhpaaGreatDoor.PA
