/- Part of the proof of FormsOverSets (contracts for the law); what it proves holds without further conditions. -/
import Derived.Test.YtjgakaembhmhpaaGreatDoorLA
import Derived.Test.YtjgakaembhmhpaaGreatDoorHC
import Derived.Test.YtjgakaembhmhpaaGreatDoorTC
import Derived.Test.YtjgakaembhmhpaaGreatDoorRE
set_option linter.unusedVariables false
set_option linter.unusedSimpArgs false
namespace Go.Proofs.YtjgakaembhmhpaaGreatDoor.PA
open Go.RowKit Go.Proofs.YtjgakaembhmhpaaGreatDoorW.PrintWords Go.Proofs.YtjgakaembhmhpaaGreatDoorW.PrintLast Go.Proofs.YtjgakaembhmhpaaGreatDoorW.PrintMore Go.Proofs.YtjgakaembhmhpaaGreatDoorM
theorem when_says (a : Bool) (v : Int) (w : World) : Calls Tryz.prog 22 #[.bool a, .int .i64 v] w fun e w' => e = .returned (.int .i64 (if a = true then v else 0)) ∧ Below w.heap.size w w' :=
  (wblaw1_when.calls a v _ w (by unfold wblaw1_when.f; cases a <;> rfl)).mono fun e w' ⟨he, hd⟩ => ⟨he, below_drawn0 (Below.refl _ _) hd⟩
theorem ints_reads {W : World} {X : Nat} {ty : TypeId} {xs : List Int} (h : W.heap[X]? = some (.cells (nums .i64 xs).toArray ty (0, 0))) (hl : xs.length ≤ 9223372036854775807) : Kd.C (Kd.int .i64) W (some ⟨X, 0, none⟩) xs.length xs := by
  refine ⟨rfl, hl, fun _ => ⟨_, rfl, fun j p hj => ⟨[.int .i64 p], rfl, rfl, fun i u hu => ?_⟩⟩⟩
  have hjl := (List.getElem?_eq_some_iff.1 hj).1
  cases i with
  | zero =>
    simp only [List.getElem?_cons_zero, Option.some.injEq] at hu
    subst hu
    show W.cell? (Addr.add ⟨X, 0, none⟩ (j * 1 + 0)) = _
    rw [Nat.mul_one, Nat.add_zero, add_plain, blk_cell h j]
    simp [nums, hj]
  | succ i => simp at hu
theorem errs_says (X : Nat) (ty : TypeId) (a b : Int) (w : World) (h : w.heap[X]? = some (.cells #[.int .i64 a, .int .i64 b] ty (0, 0))) : Calls Tryz.prog 17 #[.slice (some ⟨X, 0, none⟩) 2 2] w fun e w' => e = .returned (.int .i64 (if a = 0 then b else a)) ∧ Below w.heap.size w w' :=
  (wblaw1_errs.calls 5 (some ⟨X, 0, none⟩) 2 [a, b] _ w (ints_reads (xs := [a, b]) h (by simp)) (Nat.le_refl _) (by
    unfold wblaw1_errs.f
    by_cases ha : a = 0
    · by_cases hb : b = 0
      · subst ha; subst hb; simp [wblaw1_errs.l0, rd, rdOf, wrap64]
      · subst ha; simp [wblaw1_errs.l0, rd, rdOf, hb, wrap64]
    · simp [wblaw1_errs.l0, rd, rdOf, ha])).mono fun e w' ⟨he, hd⟩ => ⟨he, below_drawn0 (Below.refl _ _) hd⟩
theorem same_nil (A : Option Addr) (c : Nat) (w : World) : Calls Tryz.prog 23 #[.slice A 0 c, .slice none 0 0] w fun e w' => e = .returned (.bool true) ∧ Below w.heap.size w w' :=
  (SameLists_calls A c [] none 0 [] w ⟨rfl, by decide, fun h => absurd h (Nat.lt_irrefl 0)⟩ (Kd.C_nil _ _)).mono fun e w' ⟨he, hd⟩ => ⟨by rw [he]; simp, hd⟩
theorem when_t {a : Bool} (h : a = true) (v : Int) (w : World) : Calls Tryz.prog 22 #[.bool a, .int .i64 v] w fun e w' => e = .returned (.int .i64 v) ∧ Below w.heap.size w w' :=
  (when_says a v w).mono fun e w' ⟨he, hb⟩ => ⟨by rw [he, if_pos h], hb⟩
theorem when_f {a : Bool} (h : a = false) (v : Int) (w : World) : Calls Tryz.prog 22 #[.bool a, .int .i64 v] w fun e w' => e = .returned (.int .i64 0) ∧ Below w.heap.size w w' :=
  (when_says a v w).mono fun e w' ⟨he, hb⟩ => ⟨by rw [he, h]; rfl, hb⟩
theorem same_same (A : Option Addr) (c : Nat) (A' : Option Addr) (c' : Nat) (l : List (List Int)) (w : World) (h : Kd.C (Kd.slice 3 (Kd.int .i64)) w A l.length l) (h' : Kd.C (Kd.slice 3 (Kd.int .i64)) w A' l.length l) : Calls Tryz.prog 23 #[.slice A l.length c, .slice A' l.length c'] w fun e w' => e = .returned (.bool true) ∧ Below w.heap.size w w' :=
  (SameLists_calls A c l A' c' l w h h').mono fun e w' ⟨he, hd⟩ => ⟨by rw [he]; simp, hd⟩
section
variable {A A' : Option Addr} {c c' : Nat} {l0 : List S77} {l1 : List S33} {w w' : World}
theorem L_fault0 (h : SetAt A c l0 A' c' l1 w) (e0 : setFault l0 l1 = 0) : Calls Tryz.prog 11 #[.agg #[.slice A l0.length c, .slice A' l1.length c']] w fun e w' => e = .returned (.int .i64 0) ∧ Below w.heap.size w w' :=
  (L_fault h).mono fun e w' ⟨he, hb⟩ => ⟨by rw [he, e0], hb⟩
end
structure LawAt (w : World) (A A' : Option Addr) (c c' : Nat) (l0 : List S77) (l1 : List S33) (X cap : Nat) (f : S33) (AF : Option Addr) (cF : Nat) (L : List S33) (Y : Nat) (ns : List ByteArray) (B4 : Nat) (W : World) : Prop where
  set : SetAt A c l0 A' c' l1 W
  nl0 : l0.length ≤ 10
  form : FormAt (some ⟨X, 0, none⟩) cap f W
  tab : TabF L AF cF W
  tabs : ∀ f ∈ L, f.f1.length ≤ 1000 ∧ ∀ t ∈ f.f1, t.f0.size ≤ 100
  tl : L.length ≤ 3
  names : Kd.C Kd.string W (some ⟨Y, 0, none⟩) ns.length ns
  nl : ns.length ≤ 2
  nsz : ∀ n ∈ ns, n.size ≤ 100
  b4 : W.heap[B4]? = some (.cells #[.slice A l0.length c, .slice A' l1.length c'] 29 (0, 0))
  b5 : W.heap[B4 + 1]? = some (.cells #[.int .i64 f.f0, .slice (some ⟨X, 0, none⟩) f.f1.length cap] 33 (0, 0))
  tb : Tab W
  bw : Below w.heap.size w W
section
variable {w W W' : World} {A A' AF : Option Addr} {c c' cF X cap Y B4 : Nat} {l0 : List S77} {l1 L : List S33} {f : S33} {ns : List ByteArray}
theorem LawAt.below (h : LawAt w A A' c c' l0 l1 X cap f AF cF L Y ns B4 W) (hb : Below W.heap.size W W') : LawAt w A A' c c' l0 l1 X cap f AF cF L Y ns B4 W' :=
  ⟨h.set.below hb, h.nl0, h.form.below hb, h.tab.below hb, h.tabs, h.tl, Kd.C_below h.names hb, h.nl, h.nsz, blk_below h.b4 hb, blk_below h.b5 hb, h.tb.below hb, below_then h.bw h.bw.size hb⟩
theorem LawAt.step (h : LawAt w A A' c c' l0 l1 X cap f AF cF L Y ns B4 W) (hb : Below W.heap.size W W') : Aside0 (LawAt w A A' c c' l0 l1 X cap f AF cF L Y ns B4 W') ∧ W'.cell? ⟨B4, 0, none⟩ = some (.slice A l0.length c) ∧ W'.cell? ⟨B4, 1, none⟩ = some (.slice A' l1.length c') ∧ W'.cell? ⟨B4 + 1, 0, none⟩ = some (.int .i64 f.f0) ∧ W'.cell? ⟨B4 + 1, 1, none⟩ = some (.slice (some ⟨X, 0, none⟩) f.f1.length cap) ∧ B4 < W'.heap.size ∧ B4 + 1 < W'.heap.size :=
  have h' := h.below hb
  ⟨⟨h'⟩, (blk_cell h'.b4 0).trans rfl, (blk_cell h'.b4 1).trans rfl, (blk_cell h'.b5 0).trans rfl, (blk_cell h'.b5 1).trans rfl, blk_lt h'.b4, blk_lt h'.b5⟩
end
theorem names_reads {W : World} {Y : Nat} {n1 n2 : ByteArray} (h : W.heap[Y]? = some (.cells #[.string n1, .string n2] 9 (0, 0))) (ns : List ByteArray) (hn : ns = [n1, n2].take ns.length) : Kd.C Kd.string W (some ⟨Y, 0, none⟩) ns.length ns := by
  have hl : ns.length ≤ 2 := by
    have := congrArg List.length hn
    rw [List.length_take] at this
    simp at this
    omega
  refine ⟨rfl, by omega, fun _ => ⟨_, rfl, fun j p hj => ⟨[.string p], rfl, rfl, fun i u hu => ?_⟩⟩⟩
  have hjl := (List.getElem?_eq_some_iff.1 hj).1
  cases i with
  | zero =>
    simp only [List.getElem?_cons_zero, Option.some.injEq] at hu
    subst hu
    show W.cell? (Addr.add ⟨Y, 0, none⟩ (j * 1 + 0)) = _
    rw [Nat.mul_one, Nat.add_zero, add_plain, blk_cell h j]
    rw [hn, List.getElem?_take_of_lt hjl] at hj
    match j, hj with
    | 0, hj => simpa using hj
    | 1, hj => simpa using hj
    | j + 2, hj => simp at hj
  | succ i => simp at hu
theorem law_at {w w2 w3 w4 w6 W7 wS : World} {g X cap cF c c' : Nat} {A A' AF : Option Addr} {l0 : List S77} {l1 L : List S33} {a : Int} {l : List S79} {n1 n2 : ByteArray} {ok ok2 : Nat → Prop} (ht : Tab w)
    (hle : l0.length ≤ c ∧ l1.length ≤ c') (hm : Modest l0 l1) (hF0 : Kd.F k77 w2 ok A l0.length l0) (hF1 : Kd.F k33 w2 ok A' l1.length l1) (hg : ¬ ok g)
    (hl : l.length ≤ 3 ∧ ∀ t ∈ l, okT t) (hX : w2.heap.size ≤ X) (hgl : g < w2.heap.size) (hT3 : TR w3 X cap l) (hk3 : KeepBut w2 w3 g none)
    (hL : L.length ≤ 3 ∧ L.length ≤ cF ∧ ∀ f ∈ L, f.f1.length ≤ 3 ∧ ∀ t ∈ f.f1, okT t) (hF2 : Kd.F k33 w4 ok2 AF L.length L) (hg2 : ¬ ok2 g) (hk4 : KeepBut w3 w4 g none) (hk6 : KeepBut w4 w6 g none)
    (hW7 : W7 = ((w6.alloc (.cells #[.string n1, .string n2] 9)).alloc (.cells #[.slice A l0.length c, .slice A' l1.length c'] 29)).alloc (.cells #[.int .i64 a, .slice (some ⟨X, 0, none⟩) l.length cap] 33)) (hkS : KeepBut W7 wS g none) (hbS : Below w.heap.size w wS)
    (hs1 : n1.size ≤ 100) (hs2 : n2.size ≤ 100) (ns : List ByteArray) (hn : ns = [n1, n2].take ns.length) :
    LawAt w A A' c c' l0 l1 X cap ⟨a, l⟩ AF cF L w6.heap.size ns (w6.heap.size + 1) wS := by
  have s3 := hk3.1
  have s4 := hk4.1
  have s6 := hk6.1
  have hb67 : Below w6.heap.size w6 W7 := by rw [hW7]; exact below_alloc (below_alloc (below_alloc (Below.refl _ _) _) _) _
  have hk6S : KeepBut w6 wS g none := (KeepBut.of_below hb67 g none).trans hkS (.inl rfl)
  have hk4S := hk6.trans hk6S (.inl rfl)
  have hk3S := hk4.trans hk4S (.inl rfl)
  have hk2S := hk3.trans hk3S (.inl rfl)
  have hTS : TR wS X cap l := hT3.same (hk3S.2 X hT3.lt (by omega) (by simp))
  have hbn : W7.heap[w6.heap.size]? = some (.cells #[.string n1, .string n2] 9 (0, 0)) := by rw [hW7]; exact blk_alloc (blk_alloc (blk_new w6 _) _) _
  have hb4 : W7.heap[w6.heap.size + 1]? = some (.cells #[.slice A l0.length c, .slice A' l1.length c'] 29 (0, 0)) := by
    rw [hW7]
    refine blk_alloc ?_ _
    have := blk_new (w6.alloc (.cells #[.string n1, .string n2] 9)) (.cells #[.slice A l0.length c, .slice A' l1.length c'] 29)
    simpa using this
  have hb5 : W7.heap[w6.heap.size + 1 + 1]? = some (.cells #[.int .i64 a, .slice (some ⟨X, 0, none⟩) l.length cap] 33 (0, 0)) := by
    rw [hW7]
    have := blk_new ((w6.alloc (.cells #[.string n1, .string n2] 9)).alloc (.cells #[.slice A l0.length c, .slice A' l1.length c'] 29)) (.cells #[.int .i64 a, .slice (some ⟨X, 0, none⟩) l.length cap] 33)
    simpa using this
  have hnl : ns.length ≤ 2 := by
    have := congrArg List.length hn
    rw [List.length_take] at this
    simp at this
    omega
  refine ⟨⟨Kd.F_now (Kd.F_keep hF0 hk2S (fun k hk e => hg (e ▸ hk))), hle.1, Kd.F_now (Kd.F_keep hF1 hk2S (fun k hk e => hg (e ▸ hk))), hle.2, fun s hs => by have := hm.2.1 s hs; unfold okName at this; omega, by have := hm.2.2.1; omega, fun f hf => ?_⟩, hm.1, ⟨Kd.F_now (hTS.F (by omega)), ?_, by have := hl.1; show l.length ≤ 1000; omega, fun t ht => by have := hl.2 t ht; unfold okT at this; omega⟩, ⟨Kd.F_now (Kd.F_keep hF2 hk4S (fun k hk e => hg2 (e ▸ hk))), hL.2.1, by omega⟩, fun f hf => ?_, hL.1, names_reads (hkS.blk hbn (by omega) (by simp)) ns hn, hnl, fun n hn' => ?_, hkS.blk hb4 (by omega) (by simp), hkS.blk hb5 (by omega) (by simp), ht.below hbS, hbS⟩
  · have := hm.2.2.2 f hf
    exact ⟨by omega, fun t ht => by have := this.2 t ht; unfold okName at this; omega⟩
  · obtain ⟨_, _, h2, _⟩ := hTS
    exact h2
  · have := hL.2.2 f hf
    exact ⟨by omega, fun t ht => by have := this.2 t ht; unfold okT at this; omega⟩
  · rw [hn] at hn'
    have := List.mem_of_mem_take hn'
    simp only [List.mem_cons, List.not_mem_nil, or_false] at this
    rcases this with rfl | rfl
    · exact hs1
    · exact hs2
theorem some_small {y : ByteArray} {l : List ByteArray} (h : y ∈ l) (hl : l.all (fun s => decide (s.size ≤ 100)) = true) : y.size ≤ 100 := by
  have := List.all_eq_true.1 hl y h
  simpa using this
theorem St_someNew {w0 W : World} {g : Nat} {d : List Int} {b : Nat} (hst : StOk w0 W g d b) (hb : b ≤ 1000000) (hB : Below w0.heap.size w0 W) (l : List ByteArray) (hl : 1 ≤ l.length) (hl2 : l.length ≤ 1000) (hs : l.all (fun s => decide (s.size ≤ 100)) = true) (n : Nat) (hn : n = l.length) :
    Calls Tryz.prog 8 #[.pointer (some ⟨g, 0, none⟩), .slice (some ⟨W.heap.size, 0, none⟩) n n] (W.alloc (.cells (l.map Value.string).toArray 9)) fun e w' => ∃ r, e = .returned (.string r) ∧ Aside0 (r.size ≤ 100) ∧ Aside0 (StOk w0 w' g d (b + 1)) ∧ Aside0 (Below w0.heap.size w0 w') ∧ Aside0 (KeepBut W w' g none) := by
  subst hn
  have hb1 := below_alloc (Below.refl W.heap.size W) (.cells (l.map Value.string).toArray 9)
  exact (St_Some (hst.below hb1) hb (below_then hB hB.size hb1) W.heap.size l.length l (blk_new W _) (Nat.le_refl _) hl hl2).mono fun e w' ⟨r, he, hr, h1, h2, h3⟩ => ⟨r, he, ⟨some_small hr hs⟩, ⟨h1⟩, ⟨h2⟩, ⟨(KeepBut.of_below hb1 g none).trans h3 (.inl rfl)⟩⟩
theorem take_len2 (n1 n2 : ByteArray) {kn : Nat} (h : kn ≤ 2) : ([n1, n2].take kn).length = kn := by
  rw [List.length_take]
  simp
  omega
theorem errs_if (q o x : Int) : (if q = 0 then (if o = 0 then x else o) else q) = if (if q = 0 then o else q) = 0 then x else (if q = 0 then o else q) := by
  by_cases h : q = 0
  · simp [h]
  · simp [h]
section
variable {A A' Af AF AN : Option Addr} {c c' cf cF cN : Nat} {l0 : List S77} {l1 L : List S33} {f : S33} {ns : List ByteArray} {w : World} {r1 r2 r4 i1 i2 o s : Int} {r3 b : Bool} {zs : List (List Int)}
theorem L_fault2 (h : SetAt A c l0 A' c' l1 w) (hs : setFault l0 l1 = s) : Calls Tryz.prog 11 #[.agg #[.slice A l0.length c, .slice A' l1.length c']] w fun e w' => e = .returned (.int .i64 s) ∧ Below w.heap.size w w' :=
  (L_fault h).mono fun e w' ⟨he, hb⟩ => ⟨by rw [he, hs], hb⟩
theorem L_implies2 (h : SetAt A c l0 A' c' l1 w) (g : FormAt Af cf f w) (e : rangeV l0 l1 f = (r1, r2, r3, r4)) (hb : (decide (r4 = 0) && (!r3 || decide (0 ≤ r1))) = b) :
    Calls Tryz.prog 13 #[.agg #[.slice A l0.length c, .slice A' l1.length c'], .agg #[.int .i64 f.f0, .slice Af f.f1.length cf]] w fun e w' => e = .returned (.tuple #[.bool b, .int .i64 r4]) ∧ Below w.heap.size w w' :=
  (L_implies h g e).mono fun e w' ⟨he, h2⟩ => ⟨by rw [he, hb], h2⟩
theorem L_over2 (h : SetAt A c l0 A' c' l1 w) (g : FormAt Af cf f w) (hs : l0.length ≤ 1000) (ho : overS (l0.map (·.f0)) f = o) :
    Calls Tryz.prog 16 #[.agg #[.slice A l0.length c, .slice A' l1.length c'], .agg #[.int .i64 f.f0, .slice Af f.f1.length cf]] w fun e w' => e = .returned (.int .i64 o) ∧ Below w.heap.size w w' :=
  (L_formOver h g hs).mono fun e w' ⟨he, h2⟩ => ⟨by rw [he, ho], h2⟩
theorem L_names2 (h : SetAt A c l0 A' c' l1 w) (hL : Kd.C Kd.string w AN ns.length ns) (hc : ns.length ≤ cN) (hl : ns.length ≤ 1000) (hs : ∀ n ∈ ns, n.size ≤ 100) (ho : namesS l0 [] ns = o) :
    Calls Tryz.prog 18 #[.agg #[.slice A l0.length c, .slice A' l1.length c'], .slice AN ns.length cN] w fun e w' => e = .returned (.int .i64 o) ∧ Below w.heap.size w w' :=
  (names_calls h hL hc hl hs).mono fun e w' ⟨he, h2⟩ => ⟨by rw [he, ho], h2⟩
theorem L_rangeIn2 (h : SetAt A c l0 A' c' l1 w) (g : FormAt Af cf f w) (e0 : setFault l0 l1 = 0) (ho : okForm f = true) (hf : foldR l0 f (ptsOf l0 l1) (0, 0, false) = (r1, r2, r3)) :
    Calls Tryz.prog 19 #[.agg #[.slice A l0.length c, .slice A' l1.length c'], .agg #[.int .i64 f.f0, .slice Af f.f1.length cf]] w fun e w' => e = .returned (.tuple #[.int .i64 r1, .int .i64 r2, .bool r3]) ∧ Below w.heap.size w w' :=
  (rangeIn_calls h g e0 ho).mono fun e w' ⟨he, h2⟩ => ⟨by rw [he, hf], h2⟩
theorem L_imageIn2 (h : SetAt A c l0 A' c' l1 w) (g : TabF L AF cF w) (e0 : setFault l0 l1 = 0) (ho : ∀ f ∈ L, okForm f = true) (hi : ((dd (rowsOf l0 L (ptsOf l0 l1))).length : Int) = i1) :
    Calls Tryz.prog 20 #[.agg #[.slice A l0.length c, .slice A' l1.length c'], .slice AF L.length cF] w fun e w' => e = .returned (.int .i64 i1) ∧ Below w.heap.size w w' :=
  (imageIn_calls h g e0 ho).mono fun e w' ⟨he, h2⟩ => ⟨by rw [he, hi], h2⟩
theorem L_projIn2 (h : SetAt A c l0 A' c' l1 w) (hL : Kd.C Kd.string w AN ns.length ns) (hl : ns.length ≤ 8) (e0 : setFault l0 l1 = 0) (hn : NamesOk l0 ns) (hz : Rise zs ∧ ∀ x, x ∈ zs ↔ x ∈ projRows l0 l1 ns) :
    Calls Tryz.prog 21 #[.agg #[.slice A l0.length c, .slice A' l1.length c'], .slice AN ns.length cN] w fun e w' => ∃ (X : Option Addr) (cx : Nat), e = .returned (.slice X zs.length cx) ∧ Aside0 (Kd.C (Kd.slice 3 KI) w' X zs.length zs) ∧ Aside0 (Below w.heap.size w w') := by
  refine (projectedIn_calls h hL hl e0 hn).mono fun e w' ⟨X, cx, ys, he, hp, hC, hB⟩ => ?_
  have hq : squash ys = zs := squash_canon hp.out.2 (fun x => by rw [hp.out.1.mem_iff, rows_names (valid_of e0) hn]; exact Iff.rfl) hz.1 hz.2
  rw [hq] at he hC
  exact ⟨X, cx, he, hC, hB⟩
theorem L_projIn3 (h : SetAt A c l0 A' c' l1 w) (hL : Kd.C Kd.string w AN ns.length ns) (hl : ns.length ≤ 8) (e0 : setFault l0 l1 = 0) (hn : NamesOk l0 ns) (hm : 5000 < (dd (projRows l0 l1 ns)).length) :
    Calls Tryz.prog 21 #[.agg #[.slice A l0.length c, .slice A' l1.length c'], .slice AN ns.length cN] w fun e w' => ∃ (X : Option Addr) (cx n : Nat), (5000 : Int) < (n : Int) ∧ e = .returned (.slice X n cx) ∧ Aside0 (Below w.heap.size w w') := by
  refine (projectedIn_calls h hL hl e0 hn).mono fun e w' ⟨X, cx, ys, he, hp, hC, hB⟩ => ⟨X, cx, _, ?_, he, hB⟩
  have := squash_len hp.out.2 (fun x => hp.out.1.mem_iff (a := x))
  rw [rows_names (valid_of e0) hn] at this
  rw [this]
  have : (dd ((ptsOf l0 l1).map (pRow l0 ns))).length = (dd (projRows l0 l1 ns)).length := rfl
  omega
theorem image_zero (e0 : setFault l0 l1 = 0) (h : oversS (l0.map (·.f0)) L = 0) (hv : imageV l0 l1 L = (i1, i2)) : Aside0 (((dd (rowsOf l0 L (ptsOf l0 l1))).length : Int) = i1) ∧ i2 = 0 := by
  unfold imageV at hv
  rw [if_pos e0, if_pos h] at hv
  simp only [Prod.mk.injEq] at hv
  exact ⟨⟨hv.1⟩, hv.2.symm⟩
theorem image_fault (e0 : setFault l0 l1 = 0) (h : oversS (l0.map (·.f0)) L = o) (ho : o ≠ 0) (hv : imageV l0 l1 L = (i1, i2)) : i1 = 0 ∧ i2 = o := by
  unfold imageV at hv
  rw [if_pos e0, if_neg (by rw [h]; exact ho)] at hv
  simp only [Prod.mk.injEq] at hv
  exact ⟨hv.1.symm, hv.2.symm.trans h⟩
theorem range_zero (e0 : setFault l0 l1 = 0) (h : overS (l0.map (·.f0)) f = 0) (hv : rangeV l0 l1 f = (r1, r2, r3, r4)) : Aside0 (foldR l0 f (ptsOf l0 l1) (0, 0, false) = (r1, r2, r3)) ∧ r4 = 0 := by
  unfold rangeV at hv
  rw [if_pos e0, if_pos h] at hv
  simp only [Prod.mk.injEq] at hv
  refine ⟨⟨?_⟩, hv.2.2.2.symm⟩
  rw [← rangeS_ref (valid_of e0) h]
  exact Prod.ext hv.1 (Prod.ext hv.2.1 hv.2.2.1)
theorem range_fault (e0 : setFault l0 l1 = 0) (h : overS (l0.map (·.f0)) f = o) (ho : o ≠ 0) (hv : rangeV l0 l1 f = (r1, r2, r3, r4)) : r1 = 0 ∧ r2 = 0 ∧ r3 = false ∧ r4 = o := by
  unfold rangeV at hv
  rw [if_pos e0, if_neg (by rw [h]; exact ho)] at hv
  simp only [Prod.mk.injEq] at hv
  exact ⟨hv.1.symm, hv.2.1.symm, hv.2.2.1.symm, hv.2.2.2.symm.trans h⟩
theorem law_one {o1 : Int} (e0 : setFault l0 l1 = 0) (h : overS (l0.map (·.f0)) f = o1) (hv : rangeV l0 l1 f = (r1, r2, r3, r4)) (hb : (decide (r4 = 0) && (!r3 || decide (0 ≤ r1))) = b) :
    (o1 = 0 ∧ r4 = 0 ∧ Aside0 (foldR l0 f (ptsOf l0 l1) (0, 0, false) = (r1, r2, r3)) ∧ Aside0 (okForm f = true) ∧ ((r3 = false ∧ b = true) ∨ (r3 = true ∧ b = true ∧ decide (0 ≤ r1) = true) ∨ (r3 = true ∧ b = false ∧ decide (0 ≤ r1) = false))) ∨ ((o1 == 0) = false ∧ r1 = 0 ∧ r2 = 0 ∧ r3 = false ∧ r4 = o1 ∧ b = false) := by
  by_cases h1 : o1 = 0
  · subst h1
    obtain ⟨hf, h4⟩ := range_zero e0 h hv
    subst h4
    refine .inl ⟨rfl, rfl, hf, ⟨okForm_over h⟩, ?_⟩
    cases r3 with
    | false => exact .inl ⟨rfl, by rw [← hb]; simp⟩
    | true =>
      by_cases hr : 0 ≤ r1
      · exact .inr (.inl ⟨rfl, by rw [← hb]; simp [hr], decide_eq_true hr⟩)
      · exact .inr (.inr ⟨rfl, by rw [← hb]; simp [hr], decide_eq_false hr⟩)
  · obtain ⟨h2, h3, h4, h5⟩ := range_fault e0 h h1 hv
    exact .inr ⟨beq_eq_false_iff_ne.2 h1, h2, h3, h4, h5, by rw [← hb, h5]; simp [h1]⟩
theorem law_two {q : Int} (e0 : setFault l0 l1 = 0) (h : oversS (l0.map (·.f0)) L = q) (hv : imageV l0 l1 L = (i1, i2)) :
    (q = 0 ∧ i2 = 0 ∧ Aside0 (((dd (rowsOf l0 L (ptsOf l0 l1))).length : Int) = i1) ∧ Aside0 (∀ f ∈ L, okForm f = true)) ∨ ((q == 0) = false ∧ i1 = 0 ∧ i2 = q) := by
  by_cases h2 : q = 0
  · subst h2
    obtain ⟨hi, h4⟩ := image_zero e0 h hv
    exact .inl ⟨rfl, h4, hi, ⟨fun f hf => okForm_over (overs_all h f hf)⟩⟩
  · obtain ⟨h3, h4⟩ := image_fault e0 h h2 hv
    exact .inr ⟨beq_eq_false_iff_ne.2 h2, h3, h4⟩
theorem rise_dd {rows : List (List Int)} (hz1 : Rise zs) (hz2 : ∀ x, x ∈ zs ↔ x ∈ rows) : zs.length = (dd rows).length :=
  nodup_len hz1.nodup (dd_nodup _) fun x => (hz2 x).trans (dd_mem _ x).symm
theorem law_three {o3 rP : Int} (e0 : setFault l0 l1 = 0) (h : namesS l0 [] ns = o3) (hp : ProjIs l0 l1 ns zs rP) :
    (o3 = 0 ∧ zs = [] ∧ rP = 12 ∧ Aside0 (NamesOk l0 ns) ∧ Aside0 (5000 < (dd (projRows l0 l1 ns)).length)) ∨ (o3 = 0 ∧ rP = 0 ∧ Aside0 (NamesOk l0 ns) ∧ Aside0 (Rise zs ∧ ∀ x, x ∈ zs ↔ x ∈ projRows l0 l1 ns) ∧ ¬ (5000 : Int) < (zs.length : Int)) ∨ ((o3 == 0) = false ∧ zs = [] ∧ rP = o3) := by
  by_cases h3 : o3 = 0
  · subst h3
    have hn : NamesOk l0 ns := ⟨names_ok _ [] h⟩
    by_cases h5 : 5000 < (dd (projRows l0 l1 ns)).length
    · obtain ⟨h6, h7⟩ := (hp.2.2 e0 h).1 h5
      exact .inl ⟨rfl, h6, h7, ⟨hn⟩, ⟨h5⟩⟩
    · obtain ⟨h6, hz1, hz2⟩ := (hp.2.2 e0 h).2 (by omega)
      exact .inr (.inl ⟨rfl, h6, ⟨hn⟩, ⟨⟨hz1, hz2⟩⟩, by have := rise_dd hz1 hz2; omega⟩)
  · obtain ⟨hz, hr⟩ := hp.2.1 e0 (by rw [h]; exact h3)
    exact .inr (.inr ⟨beq_eq_false_iff_ne.2 h3, hz, hr.trans h⟩)
end
theorem errs_says2 (X : Nat) (ty : TypeId) (a b p : Int) (w : World) (h : w.heap[X]? = some (.cells #[.int .i64 a, .int .i64 b] ty (0, 0))) (hp : (if a = 0 then b else a) = p) : Calls Tryz.prog 17 #[.slice (some ⟨X, 0, none⟩) 2 2] w fun e w' => e = .returned (.int .i64 p) ∧ Below w.heap.size w w' := by
  rw [← hp]
  exact errs_says X ty a b w h
theorem LawAt.o3 {w W : World} {A A' AF : Option Addr} {c c' cF X cap Y B4 : Nat} {l0 : List S77} {l1 L : List S33} {f : S33} {ns : List ByteArray} (h : LawAt w A A' c c' l0 l1 X cap f AF cF L Y ns B4 W) : (∃ o, Aside0 (namesS l0 [] ns = o)) ∧ ∃ LA : World → Prop, LA W ∧ ∀ W', LA W' ↔ LawAt w A A' c c' l0 l1 X cap f AF cF L Y ns B4 W' :=
  ⟨⟨_, ⟨rfl⟩⟩, fun W => LawAt w A A' c c' l0 l1 X cap f AF cF L Y ns B4 W, h, fun _ => Iff.rfl⟩
end Go.Proofs.YtjgakaembhmhpaaGreatDoor.PA
