/- Part of the proof of FormsOverSets (the drawn set); what it proves holds without further conditions. -/
import Derived.Test.YtjgakaembhmhpaaGreatDoorHC
set_option linter.unusedVariables false
set_option linter.unusedSimpArgs false
namespace Go.Proofs.YtjgakaembhmhpaaGreatDoor.PA
open Go.RowKit Go.Proofs.YtjgakaembhmhpaaGreatDoorW.PrintWords Go.Proofs.YtjgakaembhmhpaaGreatDoorW.PrintLast Go.Proofs.YtjgakaembhmhpaaGreatDoorW.PrintMore Go.Proofs.YtjgakaembhmhpaaGreatDoorM
def okName (s : ByteArray) : Prop := s.size ≤ 10
def Modest (l0 : List S77) (l1 : List S33) : Prop := l0.length ≤ 10 ∧ (∀ v ∈ l0, okName v.f0) ∧ l1.length ≤ 130 ∧ ∀ f ∈ l1, f.f1.length ≤ 10 ∧ ∀ t ∈ f.f1, okName t.f0
abbrev ijk : List ByteArray := [⟨#[105]⟩, ⟨#[106]⟩, ⟨#[107]⟩]
theorem AX_start (w0 w : World) (g b : Nat) (d : List Int) (hst : StOk w0 w g d b) (hB : Below w0.heap.size w0 w) :
    AX w0 g w.heap.size (w.heap.size + 1) d b (fun _ => False) (fun _ => False) (.slice none 0 0) (.slice none 0 0) [] [] ((w.alloc (.cells #[.slice none 0 0, .slice none 0 0] 29)).alloc (.cells #[.slice none 0 0, .slice none 0 0] 29)) := by
  have h1 := hst.lt
  have h2 := hB.size
  have hb := below_alloc (below_alloc (Below.refl w.heap.size w) (.cells #[.slice none 0 0, .slice none 0 0] 29)) (.cells #[.slice none 0 0, .slice none 0 0] 29)
  refine ⟨hst.below hb, blk_alloc (blk_new w _) _, ?_, Kd.N_nil _ _ _ _ _, Kd.N_nil _ _ _ _ _, fun k hf => hf.elim, fun k hf => hf.elim, below_step hB hb, ⟨by omega, by omega, by omega⟩, by omega, by omega⟩
  have := blk_new (w.alloc (.cells #[.slice none 0 0, .slice none 0 0] 29)) (.cells #[.slice none 0 0, .slice none 0 0] 29)
  rwa [show (w.alloc (.cells #[.slice none 0 0, .slice none 0 0] 29)).heap.size = w.heap.size + 1 by simp] at this
theorem AX_pick {w0 : World} {g B2 Bs : Nat} {d : List Int} {b : Nat} {FV FC : Nat → Prop} {vV vC : Value} {vars : List S77} {conds : List S33} {W : World} (h : AX w0 g B2 Bs d b FV FC vV vC vars conds W) (hb : b ≤ 1000000) (l : List Int) (hl : 1 ≤ l.length) (hl2 : l.length ≤ 1000) (n : Nat) (hn : n = l.length) :
    Calls Tryz.prog 40 #[.pointer (some ⟨g, 0, none⟩), .slice (some ⟨W.heap.size, 0, none⟩) n n] (W.alloc (.cells (nums .i64 l).toArray 3)) fun e w' => ∃ r, e = .returned (.int .i64 r) ∧ r ∈ l ∧ AX w0 g B2 Bs d (b + 1) FV FC vV vC vars conds w' ∧ KeepBut W w' g none := by
  subst hn
  have h1 := h.below (below_alloc (Below.refl _ _) (.cells (nums .i64 l).toArray 3))
  have hk : KeepBut W (W.alloc (.cells (nums .i64 l).toArray 3)) g none := KeepBut.of_below (below_alloc (Below.refl _ _) _) g none
  exact (St_Pick h1.st hb h1.bw W.heap.size l.length l (blk_new W _) (Nat.le_refl _) hl hl2).mono fun e w' ⟨r, he, hr, hst, hB, hK⟩ => ⟨r, he, hr, h1.stream hK hst hB, hk.trans hK (.inl rfl)⟩
theorem info77 : (Tryz.prog.info? 77).map (fun i => (i.zero, i.size, i.bytes)) = some (some (.agg #[.string ⟨#[]⟩, .int .i64 0, .int .i64 0]), 3, 32) := by kernel_rfl
theorem fk54 (W : World) (a : ByteArray) (b c : Int) : Kd.FK k77 W (fun _ => False) ⟨a, b, c⟩ [.string a, .int .i64 b, .int .i64 c] := fun W' _ => ⟨[.string a], [.int .i64 b, .int .i64 c], rfl, rfl, [.int .i64 b], [.int .i64 c], rfl, rfl, rfl⟩
theorem info79 : (Tryz.prog.info? 79).map (fun i => (i.zero, i.size, i.bytes)) = some (some (.agg #[.string ⟨#[]⟩, .int .i64 0]), 2, 24) := by kernel_rfl
theorem fk59 (W : World) (a : ByteArray) (b : Int) : Kd.FK k79 W (fun _ => False) ⟨a, b⟩ [.string a, .int .i64 b] := fun W' _ => ⟨[.string a], [.int .i64 b], rfl, rfl, rfl⟩
theorem AX.more {w0 : World} {g B2 Bs : Nat} {d : List Int} {b b' : Nat} {FV FC : Nat → Prop} {vV vC : Value} {vars : List S77} {conds : List S33} {W : World} (h : AX w0 g B2 Bs d b FV FC vV vC vars conds W) (hb : b ≤ b') : AX w0 g B2 Bs d b' FV FC vV vC vars conds W := by
  obtain ⟨p, h1, h2, h3⟩ := h.st
  exact { h with st := ⟨p, h1, by omega, h3⟩ }
theorem TX.more {w0 : World} {g B2 Bs : Nat} {d : List Int} {b b' : Nat} {FV FC FT : Nat → Prop} {vV vC vT : Value} {vars : List S77} {conds : List S33} {Bt : Nat} {a : Int} {terms : List S79} {W : World} (h : TX w0 g B2 Bs d b FV FC vV vC vars conds Bt FT a vT terms W) (hb : b ≤ b') : TX w0 g B2 Bs d b' FV FC vV vC vars conds Bt FT a vT terms W :=
  { h with ax := h.ax.more hb }
theorem TX_start {w0 : World} {g B2 Bs : Nat} {d : List Int} {b : Nat} {FV FC : Nat → Prop} {vV vC : Value} {vars : List S77} {conds : List S33} {W : World} (h : AX w0 g B2 Bs d b FV FC vV vC vars conds W) (a : Int) :
    TX w0 g B2 Bs d b FV FC vV vC vars conds W.heap.size (fun _ => False) a (.slice none 0 0) [] (W.alloc (.cells #[.int .i64 a, .slice none 0 0] 33)) :=
  ⟨h.below (below_alloc (Below.refl _ _) _), blk_new W _, Kd.N_nil _ _ _ _ _, fun k hf => hf.elim, h.bw.size, Nat.ne_of_gt h.st.lt, Nat.ne_of_gt (blk_lt h.blk), Nat.ne_of_gt (blk_lt h.b2), fun hf => by have := (h.av _ hf).1.2; omega, fun hf => by have := (h.ac _ hf).1.2; omega⟩
theorem TX_pick {w0 : World} {g B2 Bs : Nat} {d : List Int} {b : Nat} {FV FC FT : Nat → Prop} {vV vC vT : Value} {vars : List S77} {conds : List S33} {Bt : Nat} {a : Int} {terms : List S79} {W : World} (h : TX w0 g B2 Bs d b FV FC vV vC vars conds Bt FT a vT terms W) (hb : b ≤ 1000000) (l : List Int) (hl : 1 ≤ l.length) (hl2 : l.length ≤ 1000) (n : Nat) (hn : n = l.length) :
    Calls Tryz.prog 40 #[.pointer (some ⟨g, 0, none⟩), .slice (some ⟨W.heap.size, 0, none⟩) n n] (W.alloc (.cells (nums .i64 l).toArray 3)) fun e w' => ∃ r, e = .returned (.int .i64 r) ∧ r ∈ l ∧ TX w0 g B2 Bs d (b + 1) FV FC vV vC vars conds Bt FT a vT terms w' ∧ KeepBut W w' g none := by
  subst hn
  have h1 := h.below (below_alloc (Below.refl _ _) (.cells (nums .i64 l).toArray 3))
  have hk : KeepBut W (W.alloc (.cells (nums .i64 l).toArray 3)) g none := KeepBut.of_below (below_alloc (Below.refl _ _) _) g none
  exact (St_Pick h1.ax.st hb h1.ax.bw W.heap.size l.length l (blk_new W _) (Nat.le_refl _) hl hl2).mono fun e w' ⟨r, he, hr, hst, hB, hK⟩ => ⟨r, he, hr, h1.stream hK hst hB, hk.trans hK (.inl rfl)⟩
def okConds2 (conds : List S33) : Prop := ∀ f ∈ conds, f.f1.length ≤ 10 ∧ ∀ t ∈ f.f1, okName t.f0
theorem ijk_ok (kk : Nat) : okName (ijk.getD kk ByteArray.empty) := by
  unfold okName
  match kk with
  | 0 => decide
  | 1 => decide
  | 2 => decide
  | n + 3 => simp [List.getD]
theorem mem5 {r : Int} {l : List Int} (h : r ∈ l) (hl : l.all (fun x => decide (-2000000 ≤ x) && decide (x ≤ 2000000)) = true) : -2000000 ≤ r ∧ r ≤ 2000000 := by
  have := List.all_eq_true.1 hl r h
  simpa using this
theorem some3_ok {y : ByteArray} (h : y ∈ ([⟨#[105]⟩, ⟨#[]⟩, ⟨#[113]⟩] : List ByteArray)) : okName y := by
  simp only [List.mem_cons, List.not_mem_nil, or_false] at h
  unfold okName
  rcases h with rfl | rfl | rfl <;> decide
theorem some3_ok2 {y : ByteArray} (h : y ∈ ([⟨#[113]⟩, ⟨#[105]⟩, ⟨#[]⟩] : List ByteArray)) : okName y := by
  simp only [List.mem_cons, List.not_mem_nil, or_false] at h
  unfold okName
  rcases h with rfl | rfl | rfl <;> decide
theorem fk57one {W : World} {X : Nat} {a : ByteArray} {b : Int} (h : W.heap[X]? = some (.cells #[.string a, .int .i64 b] 79 (0, 0))) : Kd.FK k33 W (fun k => k = X) ⟨0, [⟨a, b⟩]⟩ [.int .i64 0, .slice (some ⟨X, 0, none⟩) 1 1] := by
  intro W' hW
  have h' := (hW X rfl (blk_lt h)).trans h
  refine ⟨[.int .i64 0], [.slice (some ⟨X, 0, none⟩) 1 1], rfl, rfl, some ⟨X, 0, none⟩, 1, rfl, Nat.le_refl _, rfl, (show 1 ≤ 9223372036854775807 by decide), fun _ => ⟨_, rfl, fun j p hj => ?_⟩⟩
  have hj0 : j = 0 := by
    have := (List.getElem?_eq_some_iff.1 hj).1
    simp at this
    exact this
  subst hj0
  have hp : p = ⟨a, b⟩ := by simpa using hj.symm
  subst hp
  refine ⟨[.string a, .int .i64 b], rfl, ⟨[.string a], [.int .i64 b], rfl, rfl, rfl⟩, fun i u hu => ?_⟩
  show W'.cell? (Addr.add ⟨X, 0, none⟩ (0 * 2 + i)) = _
  rw [Nat.zero_mul, Nat.zero_add, add_plain, blk_cell h' i]
  simpa using hu
section
variable {w0 : World} {g B2 Bs : Nat} {d : List Int} {b : Nat} {FV FC : Nat → Prop} {vV vC : Value} {vars : List S77} {conds : List S33} {W : World}
theorem AX_some (h : AX w0 g B2 Bs d b FV FC vV vC vars conds W) (hb : b ≤ 1000000) (X : Nat) (l : List ByteArray) (hr : StrRow W X l) (hl : 1 ≤ l.length) (hl2 : l.length ≤ 1000) (n : Nat) (hn : n = l.length) :
    Calls Tryz.prog 8 #[.pointer (some ⟨g, 0, none⟩), .slice (some ⟨X, 0, none⟩) n n] W fun e w' => ∃ y, e = .returned (.string y) ∧ y ∈ l ∧ Aside0 (AX w0 g B2 Bs d (b + 1) FV FC vV vC vars conds w') ∧ Aside0 (KeepBut W w' g none) ∧ TailC B2 Bs vV vC w' := by
  subst hn
  exact (St_Some h.st hb h.bw X l.length l hr (Nat.le_refl _) hl hl2).mono fun e w' ⟨y, he, hy, hst, hB, hK⟩ => by
    have hax := h.stream hK hst hB
    exact ⟨y, he, hy, ⟨hax⟩, ⟨hK⟩, tail_of hax.blk hax.b2⟩
theorem AX_odd (h : AX w0 g B2 Bs d b FV FC vV vC vars conds W) (hb : b < 1000000) (a c : Int) (ha : -1000 ≤ a) (hac : a ≤ c) (hc : c ≤ 1000) :
    Calls Tryz.prog 41 #[.pointer (some ⟨g, 0, none⟩), .int .i64 a, .int .i64 c] W fun e w' => ∃ r, e = .returned (.int .i64 r) ∧ Aside0 (AX w0 g B2 Bs d (b + 2) FV FC vV vC vars conds w') ∧ Aside0 (KeepBut W w' g none) ∧ TailC B2 Bs vV vC w' :=
  (St_Odd h.st hb h.bw a c ha hac hc).mono fun e w' ⟨r, he, hst, hB, hK⟩ => by
    have hax := h.stream hK hst hB
    exact ⟨r, he, ⟨hax⟩, ⟨hK⟩, tail_of hax.blk hax.b2⟩
theorem AX_pickAt (h : AX w0 g B2 Bs d b FV FC vV vC vars conds W) (hb : b ≤ 1000000) (X : Nat) (l : List Int) (hr : IntRow W X l) (hl : 1 ≤ l.length) (hl2 : l.length ≤ 1000) (n : Nat) (hn : n = l.length) :
    Calls Tryz.prog 40 #[.pointer (some ⟨g, 0, none⟩), .slice (some ⟨X, 0, none⟩) n n] W fun e w' => ∃ r, e = .returned (.int .i64 r) ∧ Aside0 (AX w0 g B2 Bs d (b + 1) FV FC vV vC vars conds w') ∧ TailC B2 Bs vV vC w' := by
  subst hn
  exact (St_Pick h.st hb h.bw X l.length l hr (Nat.le_refl _) hl hl2).mono fun e w' ⟨r, he, hy, hst, hB, hK⟩ => by
    have hax := h.stream hK hst hB
    exact ⟨r, he, ⟨hax⟩, tail_of hax.blk hax.b2⟩
end
set_option maxHeartbeats 8000000 in
set_option maxRecDepth 100000 in
theorem ASet_calls (w0 w : World) (g b : Nat) (d : List Int) (hst : StOk w0 w g d b) (hb : b ≤ 1000) (hB : Below w0.heap.size w0 w) :
    Calls Tryz.prog 5 #[.pointer (some ⟨g, 0, none⟩)] w fun e w' => ∃ (A : Option Addr) (c : Nat) (l0 : List S77) (A' : Option Addr) (c' : Nat) (l1 : List S33), e = .returned (.agg #[.slice A l0.length c, .slice A' l1.length c']) ∧ (l0.length ≤ c ∧ l1.length ≤ c') ∧ Modest l0 l1 ∧ (∃ ok : Nat → Prop, Kd.F k77 w' ok A l0.length l0 ∧ Kd.F k33 w' ok A' l1.length l1 ∧ ¬ ok g) ∧ StOk w0 w' g d (b + 1000) ∧ Below w0.heap.size w0 w' := by
  have hx0 := AX_start w0 w g b d hst hB
  have hp1 := AX_pick (hx0.below (below_alloc (Below.refl _ _) (.cells #[.string ⟨#[105]⟩, .string ⟨#[106]⟩, .string ⟨#[107]⟩] 9))) (by omega) [0, 1, 2, 2, 3] (by simp) (by simp) 5 rfl
  have hs3 : (((w.alloc (.cells #[.slice none 0 0, .slice none 0 0] 29)).alloc (.cells #[.slice none 0 0, .slice none 0 0] 29)).alloc (.cells #[.string ⟨#[105]⟩, .string ⟨#[106]⟩, .string ⟨#[107]⟩] 9)).heap.size = w.heap.size + 1 + 1 + 1 := by simp
  have hsr := blk_new ((w.alloc (.cells #[.slice none 0 0, .slice none 0 0] 29)).alloc (.cells #[.slice none 0 0, .slice none 0 0] 29)) (.cells #[.string ⟨#[105]⟩, .string ⟨#[106]⟩, .string ⟨#[107]⟩] 9)
  rw [show ((w.alloc (.cells #[.slice none 0 0, .slice none 0 0] 29)).alloc (.cells #[.slice none 0 0, .slice none 0 0] 29)).heap.size = w.heap.size + 1 + 1 by simp] at hsr
  rw [hs3] at hp1
  have HP1 : Aside0 (Calls Tryz.prog 40 #[.pointer (some ⟨g, 0, none⟩), .slice (some ⟨w.heap.size + 1 + 1 + 1, 0, none⟩) 5 5] ((((w.alloc (.cells #[.slice none 0 0, .slice none 0 0] 29)).alloc (.cells #[.slice none 0 0, .slice none 0 0] 29)).alloc (.cells #[.string ⟨#[105]⟩, .string ⟨#[106]⟩, .string ⟨#[107]⟩] 9)).alloc (.cells #[.int .i64 0, .int .i64 1, .int .i64 2, .int .i64 2, .int .i64 3] 3)) fun e w' => ∃ n : Nat, e = .returned (.int .i64 (n : Int)) ∧ n ≤ 3 ∧ Aside0 (AX w0 g w.heap.size (w.heap.size + 1) d (b + 1) (fun _ => False) (fun _ => False) (.slice none 0 0) (.slice none 0 0) [] [] w') ∧ Aside0 (StrRow w' (w.heap.size + 1 + 1) ijk)) := ⟨hp1.mono fun e w' ⟨r, he, hr, hax, hkp⟩ => by
    have hn : ∃ n : Nat, r = (n : Int) ∧ n ≤ 3 := by
      simp only [List.mem_cons, List.not_mem_nil, or_false] at hr
      rcases hr with rfl | rfl | rfl | rfl | rfl
      · exact ⟨0, rfl, by omega⟩
      · exact ⟨1, rfl, by omega⟩
      · exact ⟨2, rfl, by omega⟩
      · exact ⟨2, rfl, by omega⟩
      · exact ⟨3, rfl, by omega⟩
    obtain ⟨n, rfl, hn⟩ := hn
    exact ⟨n, he, hn, ⟨hax⟩, ⟨(hkp.2 _ (blk_lt hsr) (by have := hst.lt; omega) (by simp)).trans hsr⟩⟩⟩
  have hgl := hst.lt
  clear hp1 hsr hs3 hx0
  clear hst hB
  go_enter Tryz.func5, Tryz.ntmps5
  go_wp2_with (go_at_call 40; refine HP1.out.mono ?_; rintro e w1 ⟨n, rfl, hn, HAX, HSR⟩)
  have HBR : Aside0 (w.heap.size + 1 + 1 ≠ g ∧ w.heap.size + 1 + 1 ≠ w.heap.size + 1 ∧ w.heap.size + 1 + 1 ≠ w.heap.size) := ⟨by omega, by omega, by omega⟩
  clear HP1 hgl
  generalize w.heap.size + 1 + 1 = Br at *
  generalize w.heap.size + 1 = Bs at *
  generalize w.heap.size = B2 at *
  go_loopg [5, 6, 17] n (fun gg _ _ s17 wr => ∃ (kk : Nat) (FV : Nat → Prop) (vV : Value) (vars : List S77), kk ≤ n ∧ n - kk ≤ gg ∧ s17 = .int .i64 kk ∧ Aside0 (AX w0 g B2 Bs d (b + 1 + 2 * kk) FV (fun _ => False) vV (.slice none 0 0) vars [] wr) ∧ Aside0 (¬ FV Br ∧ vars.length = kk ∧ ∀ v ∈ vars, okName v.f0) ∧ Aside0 (StrRow wr Br ijk))
  case atStart => exact ⟨0, _, _, [], Nat.zero_le _, by omega, rfl, HAX, ⟨fun h => h, rfl, fun v hv => absurd hv (by simp)⟩, HSR⟩
  case round =>
    clear HAX HSR
    obtain ⟨kk, FV, vV, vars, hkk, hg, rfl, HA, HM, HSR⟩ := hrel
    by_cases hlt : kk < n
    · have hltz : (kk : Int) < (n : Int) := by omega
      have hc := HSR.out.cell kk (by show kk < 3; omega)
      have HY := Aside0.mk (ijk_ok kk)
      generalize ijk.getD kk ByteArray.empty = y at *
      obtain ⟨A, c, rfl⟩ := Kd.N_slice HA.out.nv
      have HBRW := Aside0.mk (blk_lt HSR.out)
      have HP2 : Aside0 (Calls Tryz.prog 40 #[.pointer (some ⟨g, 0, none⟩), .slice (some ⟨wr.heap.size, 0, none⟩) 4 4] (wr.alloc (.cells #[.int .i64 0, .int .i64 0, .int .i64 (-2), .int .i64 1] 3)) fun e w' => ∃ r : Int, e = .returned (.int .i64 r) ∧ (-2000000 ≤ r ∧ r ≤ 2000000) ∧ Aside0 (AX w0 g B2 Bs d (b + 1 + 2 * kk + 1) FV (fun _ => False) (.slice A vars.length c) (.slice none 0 0) vars [] w') ∧ Aside0 (StrRow w' Br ijk)) := ⟨(AX_pick HA.out (by omega) [0, 0, -2, 1] (by simp) (by simp) 4 rfl).mono fun e w' ⟨r, he, hr, hax, hkp⟩ => ⟨r, he, mem5 hr (by decide), ⟨hax⟩, ⟨(hkp.2 _ HBRW.out HBR.out.1 (by simp)).trans HSR.out⟩⟩⟩
      go_wp2_with (go_at_call 40; refine HP2.out.mono ?_; rintro e w2 ⟨r1, rfl, hr1, HA2, HS2⟩)
      clear hc
      have c0 : w2.cell? ⟨Bs, 0, none⟩ = some (.slice A vars.length c) := (blk_cell HA2.out.blk 0).trans rfl
      have l0 := blk_lt HA2.out.blk
      have HC : Aside0 (∀ W, AX w0 g B2 Bs d (b + 1 + 2 * kk + 1) FV (fun _ => False) (.slice A vars.length c) (.slice none 0 0) vars [] W → StrRow W Br ijk → Calls Tryz.prog 40 #[.pointer (some ⟨g, 0, none⟩), .slice (some ⟨W.heap.size, 0, none⟩) 5 5] (W.alloc (.cells #[.int .i64 0, .int .i64 2, .int .i64 3, .int .i64 4, .int .i64 (-1)] 3)) fun e w' => ∃ r : Int, e = .returned (.int .i64 r) ∧ (-2000000 ≤ r ∧ r ≤ 2000000) ∧ (Aside0 (AX w0 g B2 Bs d (b + 1 + 2 * kk + 2) FV (fun _ => False) (.slice A vars.length c) (.slice none 0 0) vars [] w') ∧ Aside0 (StrRow w' Br ijk)) ∧ w'.cell? ⟨Bs, 0, none⟩ = some (.slice A vars.length c) ∧ w'.frozen? ⟨Bs, 0, none⟩ = false ∧ Bs < w'.heap.size) := ⟨fun W hA hS =>
        (AX_pick hA (by omega) [0, 2, 3, 4, -1] (by simp) (by simp) 5 rfl).mono fun e w' ⟨r, he, hr, hax, hkp⟩ => ⟨r, he, mem5 hr (by decide), ⟨⟨hax⟩, ⟨(hkp.2 _ (blk_lt hS) HBR.out.1 (by simp)).trans hS⟩⟩, (blk_cell hax.blk 0).trans rfl, blk_frozen hax.blk 0, blk_lt hax.blk⟩⟩
      have HL32 : Aside0 ((vars.length + 1) * 32 ≤ 140737488355328) := ⟨by have := HM.out.2.1; omega⟩
      go_region_law (first | (refine Kd.N_append_step k77 w0.heap.size (by rfl) (.tmp 25) (.tmp 34) 26 77 (.agg #[.string ⟨#[]⟩, .int .i64 0, .int .i64 0]) 32 (by rfl) Tryz.underlying26 info77 rfl (by decide) (by decide) (.slice A vars.length c) vars _ _ (fun k => FV k ∨ w3.heap.size ≤ k) (fun _ => False) (by rfl) (by rfl) (fk54 _ _ _ _) (fun _ h => h.elim) (fun _ h => .inr h) (Kd.N_mono HA3.out.nv (fun _ h => .inl h)) HA3.out.bw HA3.out.bw.size HL32.out ?_; intro v4 w4 hN4 hB4 hg4 hat4; obtain ⟨A4, c4, rfl⟩ := Kd.N_slice hN4; have HN4 := Aside0.mk hN4; have HB4 := Aside0.mk hB4; have HG4 := Aside0.mk hg4; have b4 := blk_grown HA3.out.blk HG4.out (fun e => (HA3.out.av _ (HA3.out.nv.1 _ e.symm)).2.2.1 rfl); have d4 : w4.cell? ⟨Bs, 0, none⟩ = some (.slice A vars.length c) := (blk_cell b4 0).trans rfl; have f4 := blk_frozen b4 0; have l4 := blk_lt b4; clear hN4 hB4 hg4 hat4 b4) | (go_simp; go_at_call 40; refine (HC.out _ (by first | exact HA2.out.below (below_drew (Below.refl _ _)) | exact HA2.out) (by first | exact HS2.out)).mono ?_; rintro e w3 ⟨r2, rfl, hr2, ⟨HA3, HS3⟩, e0, f0, l3⟩))
      all_goals
        obtain ⟨FV', i1, i2, i3⟩ := HA3.out.setV HB4.out HG4.out HN4.out
        have hl1 : (vars ++ [(⟨y, r1, IntKind.i64.wrap (r1 + r2)⟩ : S77)]).length = vars.length + 1 := by simp
        rw [hl1] at i1 i3
        have HX := Aside0.mk i1
        have HSN := Aside0.mk ((i3.2 Br (blk_lt HS3.out) (fun e => e.elim HM.out.1 HBR.out.2.1)).trans HS3.out)
        have HMN : Aside0 (¬ FV' Br ∧ (vars ++ [(⟨y, r1, IntKind.i64.wrap (r1 + r2)⟩ : S77)]).length = kk + 1 ∧ ∀ v ∈ vars ++ [(⟨y, r1, IntKind.i64.wrap (r1 + r2)⟩ : S77)], okName v.f0) := ⟨fun hf => (i2 _ hf).elim HM.out.1 (fun h => by have := blk_lt HS3.out; omega), by rw [hl1, HM.out.2.1], fun v hv => by
          rcases List.mem_append.1 hv with hv | hv
          · exact HM.out.2.2 v hv
          · rw [List.mem_singleton.1 hv]
            exact HY.out⟩
        clear i1 i2 i3 hl1
        go_wp2
        go_roundg (n - (kk + 1))
        case measure => omega
        case rel => exact ⟨kk + 1, FV', _, _, by omega, by omega, by go_num, HX, HMN, HSN⟩
    · have hltz : ¬ (kk : Int) < (n : Int) := by omega
      have : kk = n := by omega
      subst this
      have hl3 : vars.length ≤ 3 := by rw [HM.out.2.1]; exact hn
      have HVK : Aside0 (∀ v ∈ vars, okName v.f0) := ⟨HM.out.2.2⟩
      have HP3 : Aside0 (Calls Tryz.prog 40 #[.pointer (some ⟨g, 0, none⟩), .slice (some ⟨wr.heap.size, 0, none⟩) 5 5] (wr.alloc (.cells #[.int .i64 0, .int .i64 1, .int .i64 1, .int .i64 2, .int .i64 3] 3)) fun e w' => ∃ m : Nat, e = .returned (.int .i64 (m : Int)) ∧ m ≤ 3 ∧ Aside0 (AX w0 g B2 Bs d (b + 11) FV (fun _ => False) vV (.slice none 0 0) vars [] w')) := ⟨(AX_pick HA.out (by omega) [0, 1, 1, 2, 3] (by simp) (by simp) 5 rfl).mono fun e w' ⟨r, he, hr, hax, hkp⟩ => by
        have hn : ∃ n : Nat, r = (n : Int) ∧ n ≤ 3 := by
          simp only [List.mem_cons, List.not_mem_nil, or_false] at hr
          rcases hr with rfl | rfl | rfl | rfl | rfl
          · exact ⟨0, rfl, by omega⟩
          · exact ⟨1, rfl, by omega⟩
          · exact ⟨1, rfl, by omega⟩
          · exact ⟨2, rfl, by omega⟩
          · exact ⟨3, rfl, by omega⟩
        obtain ⟨n, rfl, hn⟩ := hn
        exact ⟨n, he, hn, ⟨hax.more (by omega)⟩⟩⟩
      obtain ⟨A, c, rfl⟩ := Kd.N_slice HA.out.nv
      clear HA HM HSR HBR hn hkk
      go_wp2_with (go_at_call 40; refine HP3.out.mono ?_; rintro e w2 ⟨m, rfl, hm3, HA2⟩)
      clear HP3
      go_loopg [7, 9, 10, 41, 50] m (fun gg _ _ _ s41 _ wr => ∃ (jj : Nat) (FC : Nat → Prop) (vC : Value) (conds : List S33), jj ≤ m ∧ m - jj ≤ gg ∧ s41 = .int .i64 jj ∧ Aside0 (AX w0 g B2 Bs d (b + 11 + 20 * jj) FV FC (.slice A vars.length c) vC vars conds wr) ∧ Aside0 (conds.length = jj ∧ okConds2 conds))
      case atStart => exact ⟨0, _, _, [], Nat.zero_le _, by omega, rfl, HA2, ⟨rfl, fun f hf => absurd hf (by simp)⟩⟩
      case round =>
        clear HA2
        obtain ⟨jj, FC, vC, conds, hjj, hjg, rfl, HA, HM⟩ := hrel
        by_cases hlj : jj < m
        · have hljz : (jj : Int) < (m : Int) := by omega
          obtain ⟨AC, cC, rfl⟩ := Kd.N_slice HA.out.nc
          have HP4 : Aside0 (Calls Tryz.prog 40 #[.pointer (some ⟨g, 0, none⟩), .slice (some ⟨wr.heap.size, 0, none⟩) 5 5] (wr.alloc (.cells #[.int .i64 0, .int .i64 1, .int .i64 (-1), .int .i64 3, .int .i64 4] 3)) fun e w' => ∃ r : Int, e = .returned (.int .i64 r) ∧ (∀ a9 : Int, Aside0 (TX w0 g B2 Bs d (b + 12 + 20 * jj) FV FC (.slice A vars.length c) (.slice AC conds.length cC) vars conds w'.heap.size (fun _ => False) a9 (.slice none 0 0) [] (w'.alloc (.cells #[.int .i64 a9, .slice none 0 0] 33)))) ∧ w'.cell? ⟨Bs, 0, none⟩ = some (.slice A vars.length c) ∧ Bs < w'.heap.size) := ⟨(AX_pick HA.out (by omega) [0, 1, -1, 3, 4] (by simp) (by simp) 5 rfl).mono fun e w' ⟨r, he, hr, hax, hkp⟩ => ⟨r, he, fun a9 => ⟨(TX_start hax a9).more (by omega)⟩, (blk_cell hax.blk 0).trans rfl, blk_lt hax.blk⟩⟩
          go_wp2_with (go_at_call 40; refine HP4.out.mono ?_; rintro e w3 ⟨a9, rfl, HTA, e0, l3⟩)
          have HT0 := HTA a9
          clear HTA HP4 HA
          generalize w3.alloc (.cells #[.int .i64 a9, .slice none 0 0] 33) = W3 at *
          generalize w3.heap.size = Bt at *
          go_loopg [9, 10, 50] vars.length (fun gg _ _ s50 wr => ∃ (ii : Nat) (FT : Nat → Prop) (vT : Value) (terms : List S79), ii ≤ vars.length ∧ vars.length - ii ≤ gg ∧ s50 = .int .i64 ii ∧ Aside0 (TX w0 g B2 Bs d (b + 12 + 20 * jj + ii) FV FC (.slice A vars.length c) (.slice AC conds.length cC) vars conds Bt FT a9 vT terms wr) ∧ Aside0 (terms.length ≤ ii ∧ ∀ t ∈ terms, okName t.f0))
          case atStart => exact ⟨0, _, _, [], Nat.zero_le _, by omega, rfl, HT0, ⟨Nat.le_refl _, fun f hf => absurd hf (by simp)⟩⟩
          case round =>
            clear HT0
            obtain ⟨ii, FT, vT, terms, hii, hig, rfl, HT, HTM⟩ := hrel
            by_cases hli : ii < vars.length
            · have hliz : (ii : Int) < (vars.length : Int) := by omega
              obtain ⟨ad, e, hx0, hx1, hx2⟩ := at_T77 (Kd.N_reads' HT.out.ax.nv).2.2 (ii : Int) (by omega) (by omega)
              cases e
              simp only [Int.toNat_natCast] at hx0 hx1 hx2
              have HY := Aside0.mk (HVK.out (rd_T77 vars (ii : Int)) (by
                have : rd_T77 vars (ii : Int) = vars[ii] := by simp [rd_T77, List.getD, List.getElem?_eq_getElem hli]
                rw [this]; exact List.getElem_mem hli))
              generalize rd_T77 vars (ii : Int) = y at *
              obtain ⟨y0, y1, y2⟩ := y
              obtain ⟨AT, cT, rfl⟩ := Kd.N_slice HT.out.nt
              have HPN : Aside0 (∀ W, TX w0 g B2 Bs d (b + 12 + 20 * jj + ii) FV FC (.slice (some ad) vars.length c) (.slice AC conds.length cC) vars conds Bt FT a9 (.slice AT terms.length cT) terms W → W.heap[wr.heap.size]? = some (.cells #[.string y0, .int .i64 y1, .int .i64 y2] 77 (0, 0)) → Calls Tryz.prog 40 #[.pointer (some ⟨g, 0, none⟩), .slice (some ⟨W.heap.size, 0, none⟩) 6 6] (W.alloc (.cells #[.int .i64 0, .int .i64 1, .int .i64 (-1), .int .i64 2, .int .i64 (-2), .int .i64 3] 3)) fun e w' => ∃ r : Int, e = .returned (.int .i64 r) ∧ Aside0 (TX w0 g B2 Bs d (b + 12 + 20 * jj + ii + 1) FV FC (.slice (some ad) vars.length c) (.slice AC conds.length cC) vars conds Bt FT a9 (.slice AT terms.length cT) terms w') ∧ w'.cell? ⟨wr.heap.size, 0, none⟩ = some (.string y0) ∧ w'.cell? ⟨Bt, 1, none⟩ = some (.slice AT terms.length cT) ∧ w'.frozen? ⟨Bt, 1, none⟩ = false ∧ Bt < w'.heap.size) := ⟨fun W hT hX =>
                (TX_pick hT (by omega) [0, 1, -1, 2, -2, 3] (by simp) (by simp) 6 rfl).mono fun e w' ⟨r, he, hr, hax, hkp⟩ => ⟨r, he, ⟨hax⟩, (blk_cell ((hkp.2 _ (blk_lt hX) (by
                  obtain ⟨p, _, _, A9, c9, hg9, _⟩ := hT.ax.st
                  exact blk_ne hX hg9 (by decide)) (by simp)).trans hX) 0).trans rfl, (blk_cell hax.bt 1).trans rfl, blk_frozen hax.bt 1, blk_lt hax.bt⟩⟩
              have HW9 := Aside0.mk (HT.out.below (below_alloc (Below.refl _ _) (.cells #[.string y0, .int .i64 y1, .int .i64 y2] 77)))
              have HB9 := Aside0.mk (blk_new wr (.cells #[.string y0, .int .i64 y1, .int .i64 y2] 77))
              have hpn := HPN.out _ HW9.out HB9.out
              rw [show (wr.alloc (.cells #[.string y0, .int .i64 y1, .int .i64 y2] 77)).heap.size = wr.heap.size + 1 by simp] at hpn
              have HP5 := Aside0.mk hpn
              have HL24 : Aside0 ((terms.length + 1) * 24 ≤ 140737488355328) := ⟨by have := HTM.out.1; omega⟩
              have e1 : wr.cell? ⟨Bs, 0, none⟩ = some (.slice (some ad) vars.length c) := (blk_cell HT.out.ax.blk 0).trans rfl
              clear hpn HPN HW9 HB9
              go_wp2_with (first | (go_at_call 40; refine HP5.out.mono ?_; rintro e w5 ⟨r, rfl, HT5, x9, x5, f5, l5⟩) | (at_builtin; refine Kd.N_append k79 w0.heap.size rfl (.tmp 60) (.tmp 65) 31 79 (.agg #[.string ⟨#[]⟩, .int .i64 0]) 24 rfl Tryz.underlying31 info79 rfl (by decide) (by decide) (.slice AT terms.length cT) terms ⟨y0, r⟩ [.string y0, .int .i64 r] (fun k => FT k ∨ w5.heap.size ≤ k) (fun _ => False) rfl rfl (fk59 _ _ _) (fun _ h => h.elim) (fun _ h => .inr h) (Kd.N_mono HT5.out.nt (fun _ h => .inl h)) HT5.out.ax.bw HT5.out.ax.bw.size HL24.out ?_; intro v6 w6 hN6 hB6 hg6 hat6; obtain ⟨A6, c6, rfl⟩ := Kd.N_slice hN6; have HN6 := Aside0.mk hN6; have HB6 := Aside0.mk hB6; have HG6 := Aside0.mk hg6; have b6 := blk_grown HT5.out.bt hg6 (fun e => (HT5.out.aft _ (HT5.out.nt.1 _ e.symm)).2.2.2.2.1 rfl); have d6 : w6.cell? ⟨Bt, 1, none⟩ = some (.slice AT terms.length cT) := (blk_cell b6 1).trans rfl; have f6 := blk_frozen b6 1; have l6 := blk_lt b6; clear hN6 hB6 hg6 hat6 b6))
              · obtain ⟨FT', i1⟩ := HT5.out.setT HB6.out HG6.out HN6.out
                have hl1 : (terms ++ [(⟨y0, r⟩ : S79)]).length = terms.length + 1 := by simp
                rw [hl1] at i1
                have HX := Aside0.mk i1
                have HTN : Aside0 ((terms ++ [(⟨y0, r⟩ : S79)]).length ≤ ii + 1 ∧ ∀ t ∈ terms ++ [(⟨y0, r⟩ : S79)], okName t.f0) := ⟨by have := HTM.out.1; rw [hl1]; omega, fun t ht => by
                  rcases List.mem_append.1 ht with ht | ht
                  · exact HTM.out.2 t ht
                  · rw [List.mem_singleton.1 ht]
                    exact HY.out⟩
                clear i1 hl1
                go_roundg (vars.length - (ii + 1))
                case measure => omega
                case rel => exact ⟨ii + 1, FT', _, _, by omega, by omega, by go_num, HX, HTN⟩
              · go_roundg (vars.length - (ii + 1))
                case measure => omega
                case rel => exact ⟨ii + 1, FT, _, terms, by omega, by omega, by go_num, HT5, ⟨by have := HTM.out.1; omega, HTM.out.2⟩⟩
            · have hliz : ¬ (ii : Int) < (vars.length : Int) := by omega
              have : ii = vars.length := by omega
              subst this
              obtain ⟨AT, cT, rfl⟩ := Kd.N_slice HT.out.nt
              have z0 : wr.cell? ⟨Bt, 0, none⟩ = some (.int .i64 a9) := (blk_cell HT.out.bt 0).trans rfl
              have z1 : wr.cell? ⟨Bt, 1, none⟩ = some (.slice AT terms.length cT) := (blk_cell HT.out.bt 1).trans rfl
              have z2 : wr.cell? ⟨Bs, 1, none⟩ = some (.slice AC conds.length cC) := (blk_cell HT.out.ax.blk 1).trans rfl
              have HL32 : Aside0 ((conds.length + 1) * 32 ≤ 140737488355328) := ⟨by have := HM.out.1; omega⟩
              go_wp2_with (at_builtin; refine Kd.N_append k33 w0.heap.size rfl (.tmp 70) (.tmp 72) 27 33 (.agg #[.int .i64 0, .slice none 0 0]) 32 rfl Tryz.underlying27 info33 rfl (by decide) (by decide) (.slice AC conds.length cC) conds ⟨a9, terms⟩ [.int .i64 a9, .slice AT terms.length cT] (fun k => FC k ∨ FT k ∨ wr.heap.size ≤ k) FT rfl rfl HT.out.elem (fun k hk => ⟨.inr (.inl hk), fun e => (HT.out.aft k hk).2.2.2.2.2.2 (HT.out.ax.nc.1 k e.symm)⟩) (fun _ h => .inr (.inr h)) (Kd.N_mono HT.out.ax.nc (fun _ h => .inl h)) HT.out.ax.bw HT.out.ax.bw.size HL32.out ?_; intro v6 w6 hN6 hB6 hg6 hat6; obtain ⟨A6, c6, rfl⟩ := Kd.N_slice hN6; have HN6 := Aside0.mk hN6; have HB6 := Aside0.mk hB6; have HG6 := Aside0.mk hg6; have b6 := blk_grown HT.out.ax.blk hg6 (fun e => (HT.out.ax.ac _ (HT.out.ax.nc.1 _ e.symm)).2.2.1 rfl); have d6 : w6.cell? ⟨Bs, 1, none⟩ = some (.slice AC conds.length cC) := (blk_cell b6 1).trans rfl; have f6 := blk_frozen b6 1; have l6 := blk_lt b6; clear hN6 hB6 hg6 hat6 b6)
              obtain ⟨FC', i1⟩ := HT.out.ax.setC (FT := FT) (fun k hk => ⟨(HT.out.aft k hk).1, (HT.out.aft k hk).2.1, (HT.out.aft k hk).2.2.1, (HT.out.aft k hk).2.2.2.1, (HT.out.aft k hk).2.2.2.2.2.1⟩) HB6.out HG6.out HN6.out
              have hl1 : (conds ++ [(⟨a9, terms⟩ : S33)]).length = conds.length + 1 := by simp
              rw [hl1] at i1
              have HX := Aside0.mk (i1.more (show b + 12 + 20 * jj + vars.length ≤ b + 11 + 20 * (jj + 1) by omega))
              have HMN : Aside0 ((conds ++ [(⟨a9, terms⟩ : S33)]).length = jj + 1 ∧ okConds2 (conds ++ [(⟨a9, terms⟩ : S33)])) := ⟨by rw [hl1, HM.out.1], fun f hf => by
                rcases List.mem_append.1 hf with hf | hf
                · exact HM.out.2 f hf
                · rw [List.mem_singleton.1 hf]
                  exact ⟨by have := HTM.out.1; show terms.length ≤ 10; omega, HTM.out.2⟩⟩
              clear i1 hl1
              go_roundg (m - (jj + 1))
              case measure => omega
              case rel => exact ⟨jj + 1, FC', _, _, by omega, by omega, by go_num, HX, HMN⟩
        · have hljz : ¬ (jj : Int) < (m : Int) := by omega
          have : jj = m := by omega
          subst this
          obtain ⟨AC, cC, rfl⟩ := Kd.N_slice HA.out.nc
          have HP6 : Aside0 (Calls Tryz.prog 9 #[.pointer (some ⟨g, 0, none⟩), .int .i64 12] wr fun e w' => ∃ f : Bool, e = .returned (.bool f) ∧ Aside0 (AX w0 g B2 Bs d (b + 101) FV FC (.slice A vars.length c) (.slice AC conds.length cC) vars conds w') ∧ TailC B2 Bs (.slice A vars.length c) (.slice AC conds.length cC) w') := ⟨(St_Flip HA.out.st (by omega) HA.out.bw 12 (by omega) (by omega)).mono fun e w' ⟨f, he, hst, hB, hK⟩ => by
            have hax := HA.out.stream hK hst hB
            exact ⟨f, he, ⟨hax.more (by omega)⟩, tail_of hax.blk hax.b2⟩⟩
          have HCM : Aside0 (conds.length ≤ 3 ∧ okConds2 conds) := ⟨by have := HM.out.1; omega, HM.out.2⟩
          clear HA HM hjj hm3
          have HNX : Aside0 (∀ W, AX w0 g B2 Bs d (b + 101) FV FC (.slice A vars.length c) (.slice AC conds.length cC) vars conds W → Calls Tryz.prog 10 #[.pointer (some ⟨g, 0, none⟩), .int .i64 4] W fun e w' => ∃ r : Int, e = .returned (.int .i64 r) ∧ (r = 0 ∨ r = 1 ∨ r = 2 ∨ r = 3) ∧ Aside0 (AX w0 g B2 Bs d (b + 102) FV FC (.slice A vars.length c) (.slice AC conds.length cC) vars conds w') ∧ TailC B2 Bs (.slice A vars.length c) (.slice AC conds.length cC) w') := ⟨fun W hA => (St_Next hA.st (by omega) hA.bw 4 (by omega) (by omega)).mono fun e w' ⟨r, he, hr, hst, hB, hK⟩ => by
            have hax := hA.stream hK hst hB
            exact ⟨r, he, by omega, ⟨hax⟩, tail_of hax.blk hax.b2⟩⟩
          have HMD : Aside0 (Modest vars conds) := ⟨by omega, HVK.out, by have := HCM.out.1; omega, HCM.out.2⟩
          go_wp2_with (first | (go_at_call 9; refine HP6.out.mono ?_; rintro e w3 ⟨f, rfl, HA3, ⟨⟨s0, s1, s2, s3, s4⟩, t0, t1, t2, t3, t4⟩⟩; cases f))
          · have HFX := Aside0.mk (HA3.out.fin.done)
            obtain ⟨q1, q2, q3, q4⟩ := HFX.out
            refine bodyPost_ret (results_cell_row rfl _ _ B2 29 #[.slice A vars.length c, .slice AC conds.length cC] (0, 0) _ rfl q1 Tryz.underlying29 rfl (by kernel_rfl)) rfl ?_
            obtain ⟨p, p1, p2, p3⟩ := q3
            exact ⟨A, c, vars, AC, cC, conds, rfl, HA3.out.fin.le, HMD.out, q2, ⟨p, p1, by omega, p3⟩, q4⟩
          · clear s0 s1 s2 s3 s4 t0 t1 t2 t3 t4
            refine (HNX.out _ HA3.out).mono ?_
            rintro e w4 ⟨r, rfl, hr, HA4, ⟨⟨s0, s1, s2, s3, s4⟩, t0, t1, t2, t3, t4⟩⟩
            have hne1 : ¬ Bs = B2 := HA4.out.bs.2.2
            have hne2 : ¬ B2 = Bs := fun e => hne1 e.symm
            clear HA3 HP6 HNX
            rcases hr with rfl | rfl | rfl | rfl
            · have hax1 : Aside0 (AX w0 g B2 Bs d (b + 102) FV FC (.slice A vars.length c) (.slice AC conds.length cC) vars conds ((w4.alloc (.cells #[.string ⟨#[105]⟩, .string ⟨#[]⟩, .string ⟨#[113]⟩] 9)).drew)) := ⟨HA4.out.below (below_drew (below_alloc (Below.refl _ _) _))⟩
              have hax2 : Aside0 (AX w0 g B2 Bs d (b + 102) FV FC (.slice A vars.length c) (.slice AC conds.length cC) vars conds (((w4.alloc (.cells #[.string ⟨#[105]⟩, .string ⟨#[]⟩, .string ⟨#[113]⟩] 9)).alloc (.cells #[.int .i64 0, .int .i64 300000, .int .i64 1] 3)).drew)) := ⟨HA4.out.below (below_drew (below_alloc (below_alloc (Below.refl _ _) _) _))⟩
              have hax3 : Aside0 (AX w0 g B2 Bs d (b + 102) FV FC (.slice A vars.length c) (.slice AC conds.length cC) vars conds (((w4.alloc (.cells #[.int .i64 0, .int .i64 300000, .int .i64 1] 3)).alloc (.cells #[.string ⟨#[105]⟩, .string ⟨#[]⟩, .string ⟨#[113]⟩] 9)).drew)) := ⟨HA4.out.below (below_drew (below_alloc (below_alloc (Below.refl _ _) _) _))⟩
              have hsr1 : Aside0 (StrRow ((w4.alloc (.cells #[.string ⟨#[105]⟩, .string ⟨#[]⟩, .string ⟨#[113]⟩] 9)).drew) w4.heap.size [⟨#[105]⟩, ⟨#[]⟩, ⟨#[113]⟩]) := ⟨blk_new w4 _⟩
              have hsr2 : Aside0 (StrRow (((w4.alloc (.cells #[.string ⟨#[105]⟩, .string ⟨#[]⟩, .string ⟨#[113]⟩] 9)).alloc (.cells #[.int .i64 0, .int .i64 300000, .int .i64 1] 3)).drew) w4.heap.size [⟨#[105]⟩, ⟨#[]⟩, ⟨#[113]⟩]) := ⟨blk_alloc hsr1.out _⟩
              have hsr3 : Aside0 (StrRow (((w4.alloc (.cells #[.int .i64 0, .int .i64 300000, .int .i64 1] 3)).alloc (.cells #[.string ⟨#[105]⟩, .string ⟨#[]⟩, .string ⟨#[113]⟩] 9)).drew) (w4.heap.size + 1) [⟨#[105]⟩, ⟨#[]⟩, ⟨#[113]⟩]) := ⟨by
                have := blk_new (w4.alloc (.cells #[.int .i64 0, .int .i64 300000, .int .i64 1] 3)) (.cells #[.string ⟨#[105]⟩, .string ⟨#[]⟩, .string ⟨#[113]⟩] 9)
                rw [show (w4.alloc (.cells #[.int .i64 0, .int .i64 300000, .int .i64 1] 3)).heap.size = w4.heap.size + 1 by simp] at this
                exact this⟩
              have hir2 : Aside0 (IntRow (((w4.alloc (.cells #[.string ⟨#[105]⟩, .string ⟨#[]⟩, .string ⟨#[113]⟩] 9)).alloc (.cells #[.int .i64 0, .int .i64 300000, .int .i64 1] 3)).drew) (w4.heap.size + 1) [0, 300000, 1]) := ⟨by
                have := blk_new (w4.alloc (.cells #[.string ⟨#[105]⟩, .string ⟨#[]⟩, .string ⟨#[113]⟩] 9)) (.cells #[.int .i64 0, .int .i64 300000, .int .i64 1] 3)
                rw [show (w4.alloc (.cells #[.string ⟨#[105]⟩, .string ⟨#[]⟩, .string ⟨#[113]⟩] 9)).heap.size = w4.heap.size + 1 by simp] at this
                exact this⟩
              have hir3 : Aside0 (IntRow (((w4.alloc (.cells #[.int .i64 0, .int .i64 300000, .int .i64 1] 3)).alloc (.cells #[.string ⟨#[105]⟩, .string ⟨#[]⟩, .string ⟨#[113]⟩] 9)).drew) w4.heap.size [0, 300000, 1]) := ⟨blk_alloc (blk_new w4 _) _⟩
              have hgl := Aside0.mk HA4.out.st.lt
              have HL32 : Aside0 ((vars.length + 1) * 32 ≤ 140737488355328) := ⟨by omega⟩
              go_wp2
              go_region_law (first | (refine Kd.N_append_step k77 w0.heap.size (by rfl) (.tmp 94) (.tmp 104) 26 77 (.agg #[.string ⟨#[]⟩, .int .i64 0, .int .i64 0]) 32 (by rfl) Tryz.underlying26 info77 rfl (by decide) (by decide) (.slice A vars.length c) vars _ _ (fun k => FV k ∨ w7.heap.size ≤ k) (fun _ => False) (by rfl) (by rfl) (fk54 _ _ _ _) (fun _ h => h.elim) (fun _ h => .inr h) (Kd.N_mono HA7.out.nv (fun _ h => .inl h)) HA7.out.bw HA7.out.bw.size HL32.out ?_; intro v8 w8 hN8 hB8 hg8 hat8; obtain ⟨A8, c8, rfl⟩ := Kd.N_slice hN8; have HN8 := Aside0.mk hN8; have HB8 := Aside0.mk hB8; have HG8 := Aside0.mk hg8; have b8 := blk_grown HA7.out.blk HG8.out (fun e => (HA7.out.av _ (HA7.out.nv.1 _ e.symm)).2.2.1 rfl); have d8 : w8.cell? ⟨Bs, 0, none⟩ = some (.slice A vars.length c) := (blk_cell b8 0).trans rfl; have f8 := blk_frozen b8 0; have l8 := blk_lt b8; clear hN8 hB8 hg8 hat8 b8) | (go_simp; go_at_call 8; refine (AX_some (by first | exact hax1.out | exact hax2.out | exact hax3.out) (by omega) _ [⟨#[105]⟩, ⟨#[]⟩, ⟨#[113]⟩] (by first | exact hsr1.out | exact hsr2.out | exact hsr3.out) (by simp) (by simp) 3 rfl).mono ?_; rintro e w5 ⟨y5, rfl, hy5, HA5, HK5, ⟨⟨v0, v1, v2, v3, v4⟩, _⟩⟩; have HY5 := Aside0.mk hy5; clear hy5) | (go_simp; go_at_call 41; refine (AX_odd (by first | exact HA5.out | exact HA5.out.below (below_alloc (Below.refl _ _) _)) (by omega) (-5) 5 (by omega) (by omega) (by omega)).mono ?_; rintro e w6 ⟨r6, rfl, HA6, HK6, ⟨⟨x0, x1, x2, x3, x4⟩, _⟩⟩) | (go_simp; go_at_call 40; refine (AX_pickAt (by first | exact HA6.out | exact HA6.out.below (below_alloc (Below.refl _ _) _)) (by omega) _ [0, 300000, 1] (by first | exact blk_new w6 _ | exact (HK6.out.2 _ (blk_lt (blk_new w5 _)) (by have h1 := HK5.out.1; have h2 := hgl.out; simp at h1; omega) (by simp)).trans (blk_new w5 _) | exact (HK6.out.2 _ (Nat.lt_of_lt_of_le (blk_lt hir2.out) HK5.out.1) (by have h2 := hgl.out; omega) (by simp)).trans ((HK5.out.2 _ (blk_lt hir2.out) (by have h2 := hgl.out; omega) (by simp)).trans hir2.out) | exact (HK6.out.2 _ (Nat.lt_of_lt_of_le (blk_lt hir3.out) HK5.out.1) (by have h2 := hgl.out; omega) (by simp)).trans ((HK5.out.2 _ (blk_lt hir3.out) (by have h2 := hgl.out; omega) (by simp)).trans hir3.out)) (by simp) (by simp) 3 rfl).mono ?_; rintro e w7 ⟨r7, rfl, HA7, ⟨⟨y0, y1, y2, y3, y4⟩, _⟩⟩))
              all_goals
                obtain ⟨FV', i1, i2, i3⟩ := HA7.out.setV HB8.out HG8.out HN8.out
                have hl1 : (vars ++ [(⟨y5, r6, r7⟩ : S77)]).length = vars.length + 1 := by simp
                generalize hW9 : w8.setCell ⟨Bs, 0, none⟩ (.slice A8 (vars ++ [(⟨y5, r6, r7⟩ : S77)]).length c8) = W9 at i1 i2 i3
                rw [hl1] at hW9
                rw [hW9]
                have HFX := Aside0.mk i1.fin
                obtain ⟨⟨z0, z1, z2, z3, z4⟩, z5, z6, z7, z8, z9⟩ := tail_of i1.blk i1.b2
                rw [hl1] at z0
                have HL1 := Aside0.mk hl1
                clear i1 i2 i3 hl1 hW9
                go_wp2
                obtain ⟨q1, q2, q3, q4⟩ := HFX.out.done
                have hl1 := HL1.out
                rw [hl1] at q1
                refine bodyPost_ret (results_cell_row rfl _ _ B2 29 #[.slice A8 (vars.length + 1) c8, .slice AC conds.length cC] (0, 0) _ rfl q1 Tryz.underlying29 rfl (by kernel_rfl)) rfl ?_
                obtain ⟨p, p1, p2, p3⟩ := q3
                rw [hl1] at q2 q4 p3
                exact ⟨A8, c8, vars ++ [(⟨y5, r6, r7⟩ : S77)], AC, cC, conds, by rw [hl1], HFX.out.le, ⟨by rw [hl1]; omega, fun v hv => by
                  rcases List.mem_append.1 hv with hv | hv
                  · exact HMD.out.2.1 v hv
                  · rw [List.mem_singleton.1 hv]
                    exact some3_ok HY5.out, HMD.out.2.2⟩, by rw [hl1]; exact q2, ⟨p, p1, by omega, p3⟩, q4⟩
            · have hax1 : Aside0 (AX w0 g B2 Bs d (b + 102) FV FC (.slice A vars.length c) (.slice AC conds.length cC) vars conds ((w4.alloc (.cells #[.string ⟨#[113]⟩, .string ⟨#[105]⟩, .string ⟨#[]⟩] 9)).drew)) := ⟨HA4.out.below (below_drew (below_alloc (Below.refl _ _) _))⟩
              have hax2 : Aside0 (AX w0 g B2 Bs d (b + 102) FV FC (.slice A vars.length c) (.slice AC conds.length cC) vars conds (((w4.alloc (.cells #[.string ⟨#[113]⟩, .string ⟨#[105]⟩, .string ⟨#[]⟩] 9)).alloc (.cells #[.int .i64 1, .int .i64 0, .int .i64 1001] 3)).drew)) := ⟨HA4.out.below (below_drew (below_alloc (below_alloc (Below.refl _ _) _) _))⟩
              have hax3 : Aside0 (AX w0 g B2 Bs d (b + 102) FV FC (.slice A vars.length c) (.slice AC conds.length cC) vars conds (((w4.alloc (.cells #[.int .i64 1, .int .i64 0, .int .i64 1001] 3)).alloc (.cells #[.string ⟨#[113]⟩, .string ⟨#[105]⟩, .string ⟨#[]⟩] 9)).drew)) := ⟨HA4.out.below (below_drew (below_alloc (below_alloc (Below.refl _ _) _) _))⟩
              have hsr1 : Aside0 (StrRow ((w4.alloc (.cells #[.string ⟨#[113]⟩, .string ⟨#[105]⟩, .string ⟨#[]⟩] 9)).drew) w4.heap.size [⟨#[113]⟩, ⟨#[105]⟩, ⟨#[]⟩]) := ⟨blk_new w4 _⟩
              have hsr2 : Aside0 (StrRow (((w4.alloc (.cells #[.string ⟨#[113]⟩, .string ⟨#[105]⟩, .string ⟨#[]⟩] 9)).alloc (.cells #[.int .i64 1, .int .i64 0, .int .i64 1001] 3)).drew) w4.heap.size [⟨#[113]⟩, ⟨#[105]⟩, ⟨#[]⟩]) := ⟨blk_alloc hsr1.out _⟩
              have hsr3 : Aside0 (StrRow (((w4.alloc (.cells #[.int .i64 1, .int .i64 0, .int .i64 1001] 3)).alloc (.cells #[.string ⟨#[113]⟩, .string ⟨#[105]⟩, .string ⟨#[]⟩] 9)).drew) (w4.heap.size + 1) [⟨#[113]⟩, ⟨#[105]⟩, ⟨#[]⟩]) := ⟨by
                have := blk_new (w4.alloc (.cells #[.int .i64 1, .int .i64 0, .int .i64 1001] 3)) (.cells #[.string ⟨#[113]⟩, .string ⟨#[105]⟩, .string ⟨#[]⟩] 9)
                rw [show (w4.alloc (.cells #[.int .i64 1, .int .i64 0, .int .i64 1001] 3)).heap.size = w4.heap.size + 1 by simp] at this
                exact this⟩
              have hir2 : Aside0 (IntRow (((w4.alloc (.cells #[.string ⟨#[113]⟩, .string ⟨#[105]⟩, .string ⟨#[]⟩] 9)).alloc (.cells #[.int .i64 1, .int .i64 0, .int .i64 1001] 3)).drew) (w4.heap.size + 1) [1, 0, 1001]) := ⟨by
                have := blk_new (w4.alloc (.cells #[.string ⟨#[113]⟩, .string ⟨#[105]⟩, .string ⟨#[]⟩] 9)) (.cells #[.int .i64 1, .int .i64 0, .int .i64 1001] 3)
                rw [show (w4.alloc (.cells #[.string ⟨#[113]⟩, .string ⟨#[105]⟩, .string ⟨#[]⟩] 9)).heap.size = w4.heap.size + 1 by simp] at this
                exact this⟩
              have hir3 : Aside0 (IntRow (((w4.alloc (.cells #[.int .i64 1, .int .i64 0, .int .i64 1001] 3)).alloc (.cells #[.string ⟨#[113]⟩, .string ⟨#[105]⟩, .string ⟨#[]⟩] 9)).drew) w4.heap.size [1, 0, 1001]) := ⟨blk_alloc (blk_new w4 _) _⟩
              have hgl := Aside0.mk HA4.out.st.lt
              have HL32 : Aside0 ((conds.length + 1) * 32 ≤ 140737488355328) := ⟨by have := HCM.out.1; omega⟩
              go_wp2
              go_region_law (first | (refine Kd.N_append_step k33 w0.heap.size (by rfl) (.tmp 110) (.tmp 120) 27 33 (.agg #[.int .i64 0, .slice none 0 0]) 32 (by rfl) Tryz.underlying27 info33 rfl (by decide) (by decide) (.slice AC conds.length cC) conds ⟨0, [⟨y5, r7⟩]⟩ [.int .i64 0, .slice (some ⟨w7.heap.size, 0, none⟩) 1 1] (fun k => FC k ∨ k = w7.heap.size ∨ w7.heap.size + 1 ≤ k) (fun k => k = w7.heap.size) (by rfl) ?hx (fk57one (blk_new w7 _)) (fun k hk => ⟨.inr (.inl hk), fun e => by have h1 := (HA7.out.ac _ (HA7.out.nc.1 k e.symm)).1.2; omega⟩) (fun k hk => .inr (.inr (by simpa using hk))) (Kd.N_mono (HA7.out.below (below_alloc (Below.refl _ _) _)).nc (fun _ h => .inl h)) (HA7.out.below (below_alloc (Below.refl _ _) _)).bw (HA7.out.below (below_alloc (Below.refl _ _) _)).bw.size HL32.out ?_; (case hx => go_simp); intro v8 w8 hN8 hB8 hg8 hat8; obtain ⟨A8, c8, rfl⟩ := Kd.N_slice hN8; have HN8 := Aside0.mk hN8; have HB8 := Aside0.mk hB8; have HG8 := Aside0.mk hg8; have HA8 := Aside0.mk (HA7.out.below (below_alloc (Below.refl _ _) (.cells #[.string y5, .int .i64 r7] 79))); have b8 := blk_grown HA8.out.blk HG8.out (fun e => (HA8.out.ac _ (HA8.out.nc.1 _ e.symm)).2.2.1 rfl); have d8 : w8.cell? ⟨Bs, 1, none⟩ = some (.slice AC conds.length cC) := (blk_cell b8 1).trans rfl; have f8 := blk_frozen b8 1; have l8 := blk_lt b8; clear hN8 hB8 hg8 hat8 b8) | (go_simp; go_at_call 8; refine (AX_some (by first | exact hax1.out | exact hax2.out | exact hax3.out) (by omega) _ [⟨#[113]⟩, ⟨#[105]⟩, ⟨#[]⟩] (by first | exact hsr1.out | exact hsr2.out | exact hsr3.out) (by simp) (by simp) 3 rfl).mono ?_; rintro e w5 ⟨y5, rfl, hy5, HA5, HK5, ⟨⟨v0, v1, v2, v3, v4⟩, _⟩⟩; have HY5 := Aside0.mk hy5; clear hy5) | (go_simp; go_at_call 40; refine (AX_pickAt (by first | exact HA5.out | exact HA5.out.below (below_alloc (Below.refl _ _) _)) (by omega) _ [1, 0, 1001] (by first | exact blk_new w5 _ | exact (HK5.out.2 _ (blk_lt hir2.out) (by have h2 := hgl.out; omega) (by simp)).trans hir2.out | exact (HK5.out.2 _ (blk_lt hir3.out) (by have h2 := hgl.out; omega) (by simp)).trans hir3.out) (by simp) (by simp) 3 rfl).mono ?_; rintro e w7 ⟨r7, rfl, HA7, ⟨⟨y0, y1, y2, y3, y4⟩, _⟩⟩))
              all_goals
                obtain ⟨FC', i1⟩ := HA8.out.setC (FT := fun k => k = w7.heap.size) (fun k hk => by
                  subst hk
                  have h1 := HA7.out.bw.size
                  have h2 := HA7.out.st.lt
                  have h3 := blk_lt HA7.out.blk
                  have h4 := blk_lt HA7.out.b2
                  exact ⟨⟨h1, by simp⟩, by omega, by omega, by omega, fun hf => by have h5 := (HA7.out.av _ hf).1.2; omega⟩) HB8.out HG8.out (Kd.N_mono HN8.out (fun k hk => by simpa using hk))
                have hl1 : (conds ++ [(⟨0, [⟨y5, r7⟩]⟩ : S33)]).length = conds.length + 1 := by simp
                generalize hW9 : w8.setCell ⟨Bs, 1, none⟩ (.slice A8 (conds ++ [(⟨0, [⟨y5, r7⟩]⟩ : S33)]).length c8) = W9 at i1
                rw [hl1] at hW9
                rw [hW9]
                have HFX := Aside0.mk i1.fin
                obtain ⟨⟨z0, z1, z2, z3, z4⟩, z5, z6, z7, z8, z9⟩ := tail_of i1.blk i1.b2
                rw [hl1] at z1
                have HL1 := Aside0.mk hl1
                clear i1 hl1 hW9
                go_wp2
                obtain ⟨q1, q2, q3, q4⟩ := HFX.out.done
                have hl1 := HL1.out
                rw [hl1] at q1
                refine bodyPost_ret (results_cell_row rfl _ _ B2 29 #[.slice A vars.length c, .slice A8 (conds.length + 1) c8] (0, 0) _ rfl q1 Tryz.underlying29 rfl (by kernel_rfl)) rfl ?_
                obtain ⟨p, p1, p2, p3⟩ := q3
                rw [hl1] at q2 q4 p3
                exact ⟨A, c, vars, A8, c8, conds ++ [(⟨0, [⟨y5, r7⟩]⟩ : S33)], by rw [hl1], HFX.out.le, ⟨HMD.out.1, HMD.out.2.1, by rw [hl1]; have := HCM.out.1; omega, fun f hf => by
                  rcases List.mem_append.1 hf with hf | hf
                  · exact HCM.out.2 f hf
                  · rw [List.mem_singleton.1 hf]
                    exact ⟨by simp, fun t ht => by rw [List.mem_singleton.1 ht]; exact some3_ok2 HY5.out⟩⟩, by rw [hl1]; exact q2, ⟨p, p1, by omega, p3⟩, q4⟩
            · have HCF := Aside0.mk (Kd.N_F HA4.out.nc)
              go_wp2_with (go_at_call 42; refine (Repeat_calls FC AC cC conds w4 HCF.out (Kd.N_reads' HA4.out.nc).2.1 HCM.out.1).mono ?_; rintro e w5 ⟨A5, c5, l5, rfl, hle5, hF5, hm5, hl5, hb5⟩; have HF5 := Aside0.mk hF5; have HM5 := Aside0.mk hm5; have HL5 := Aside0.mk hl5; have HE5 := Aside0.mk hle5; have HB5 := Aside0.mk hb5; obtain ⟨⟨v0, v1, v2, v3, v4⟩, u0, u1, u2, u3, u4⟩ := tail_of (blk_below HA4.out.blk hb5) (blk_below HA4.out.b2 hb5); clear hF5 hm5 hl5 hle5 hb5)
              have HFX := Aside0.mk (HA4.out.again HB5.out HF5.out HE5.out)
              obtain ⟨q1, q2, q3, q4⟩ := HFX.out.done
              refine bodyPost_ret (results_cell_row rfl _ _ B2 29 #[.slice A vars.length c, .slice A5 l5.length c5] (0, 0) _ rfl q1 Tryz.underlying29 rfl (by kernel_rfl)) rfl ?_
              obtain ⟨p, p1, p2, p3⟩ := q3
              exact ⟨A, c, vars, A5, c5, l5, rfl, HFX.out.le, ⟨HMD.out.1, HMD.out.2.1, by have := HL5.out; omega, fun f hf => HCM.out.2 f (HM5.out f hf)⟩, q2, ⟨p, p1, by omega, p3⟩, q4⟩
            · by_cases hp : 0 < vars.length
              · have hpz : (0 : Int) < (vars.length : Int) := by omega
                obtain ⟨gv, cap, hve, _, _, cells, hcells⟩ := Kd.N_form HA4.out.nv hp
                injection hve with hA hn hc
                subst hA
                subst hc
                have HC : Aside0 (∀ W, AX w0 g B2 Bs d (b + 102) FV FC (.slice (some ⟨gv, 0, none⟩) vars.length c) (.slice AC conds.length cC) vars conds W → Calls Tryz.prog 40 #[.pointer (some ⟨g, 0, none⟩), .slice (some ⟨W.heap.size, 0, none⟩) 3 3] (W.alloc (.cells #[.int .i64 (-1000001), .int .i64 (-1000000), .int .i64 0] 3)) fun e w' => ∃ r : Int, e = .returned (.int .i64 r) ∧ Aside0 (AX w0 g B2 Bs d (b + 103) FV FC (.slice (some ⟨gv, 0, none⟩) vars.length c) (.slice AC conds.length cC) vars conds w') ∧ (∃ y : Int, w'.cell? ⟨gv, 1, none⟩ = some (.int .i64 y)) ∧ w'.frozen? ⟨gv, 1, none⟩ = false ∧ gv < w'.heap.size ∧ TailC B2 Bs (.slice (some ⟨gv, 0, none⟩) vars.length c) (.slice AC conds.length cC) w') := ⟨fun W hA => (AX_pick hA (by omega) [-1000001, -1000000, 0] (by simp) (by simp) 3 rfl).mono fun e w' ⟨r, he, hr, hax, hkp⟩ => by
                  obtain ⟨ad, e1, x0, x1, x2⟩ := at_T77 (Kd.N_reads' hax.nv).2.2 0 (by omega) (by omega)
                  injection e1 with e1
                  subst e1
                  obtain ⟨cl, hcl⟩ := Kd.N_typed hax.nv gv rfl
                  exact ⟨r, he, ⟨hax⟩, ⟨_, x1⟩, blk_frozen hcl 1, blk_lt hcl, tail_of hax.blk hax.b2⟩⟩
                have hgv : ¬ gv = B2 := (HA4.out.av _ (HA4.out.nv.1 gv rfl)).2.2.2.1
                have hgs : ¬ gv = Bs := (HA4.out.av _ (HA4.out.nv.1 gv rfl)).2.2.1
                clear hcells
                go_wp2
                go_region_law (go_simp; go_at_call 40; refine (HC.out _ (by first | exact HA4.out.below (below_drew (Below.refl _ _)) | exact HA4.out)).mono ?_; rintro e w5 ⟨r5, rfl, HA5, ⟨y5, x5⟩, f5, l5, ⟨⟨v0, v1, v2, v3, v4⟩, u0, u1, u2, u3, u4⟩⟩)
                all_goals
                  obtain ⟨vs', e1, e2, hfx⟩ := HA5.out.first hp r5
                  have HFX := Aside0.mk hfx
                  have HE1 := Aside0.mk e1
                  have HE2 := Aside0.mk e2
                  clear hfx e1 e2
                  go_wp2
                  obtain ⟨q1, q2, q3, q4⟩ := HFX.out.done
                  rw [HE1.out] at q1
                  refine bodyPost_ret (results_cell_row rfl _ _ B2 29 #[.slice (some ⟨gv, 0, none⟩) vars.length c, .slice AC conds.length cC] (0, 0) _ rfl q1 Tryz.underlying29 rfl (by kernel_rfl)) rfl ?_
                  obtain ⟨p, p1, p2, p3⟩ := q3
                  have e1 := HE1.out
                  rw [e1] at q2 q4 p3
                  exact ⟨some ⟨gv, 0, none⟩, c, vs', AC, cC, conds, by rw [e1], HFX.out.le, ⟨by rw [e1]; exact HMD.out.1, fun v hv => by
                    obtain ⟨u, hu, e⟩ := HE2.out v hv
                    rw [e]
                    exact HMD.out.2.1 u hu, HMD.out.2.2⟩, by rw [e1]; exact q2, ⟨p, p1, by omega, p3⟩, q4⟩
              · have hpz : ¬ (0 : Int) < (vars.length : Int) := by omega
                go_wp2
                have HFX := Aside0.mk (HA4.out.fin.done)
                obtain ⟨q1, q2, q3, q4⟩ := HFX.out
                refine bodyPost_ret (results_cell_row rfl _ _ B2 29 #[.slice A vars.length c, .slice AC conds.length cC] (0, 0) _ rfl q1 Tryz.underlying29 rfl (by kernel_rfl)) rfl ?_
                obtain ⟨p, p1, p2, p3⟩ := q3
                exact ⟨A, c, vars, AC, cC, conds, rfl, HA4.out.fin.le, HMD.out, q2, ⟨p, p1, by omega, p3⟩, q4⟩
end Go.Proofs.YtjgakaembhmhpaaGreatDoor.PA
