/- Part of the proof of FormsOverSets (the walk: affine's functions); what it proves holds without further conditions. -/
import Derived.WalkSpells
import Derived.Deep.RegionLaw
import Derived.Test.YtjgakaembhmhpaaGreatDoorPB
set_option linter.unusedVariables false
set_option linter.unusedSimpArgs false
namespace Go.Proofs.YtjgakaembhmhpaaGreatDoor.PA
open Go.RowKit Go.Proofs.YtjgakaembhmhpaaGreatDoorW.PrintWords Go.Proofs.YtjgakaembhmhpaaGreatDoorW.PrintLast Go.Proofs.YtjgakaembhmhpaaGreatDoorW.PrintMore Go.Proofs.YtjgakaembhmhpaaGreatDoorM
theorem i64w (n : Int) : IntKind.i64.wrap n = wrap64 n := by rw [IntKind.wrap_i64, wrap64]
def foldTerms (of : ByteArray → Int) (n : Int) (l : List S79) : Int := l.foldl (fun n t => wrap64 (n + wrap64 (t.f1 * of t.f0))) n
theorem foldTerms_snoc (of : ByteArray → Int) (n : Int) (l : List S79) (k : Nat) (h : k < l.length) : foldTerms of n (l.take (k + 1)) = wrap64 (foldTerms of n (l.take k) + wrap64 ((l.getD k z79).f1 * of (l.getD k z79).f0)) := by
  unfold foldTerms
  rw [List.take_succ_eq_append_getElem h, List.foldl_append]
  simp [List.getD, List.getElem?_eq_getElem h]
set_option maxHeartbeats 4000000 in
theorem lin_Value_calls (g : Nat) (lb : Array Value) (a0 : Int) (A : Option Addr) (c : Nat) (l : List S79) (of : ByteArray → Int) (w : World) (hr : Kd.C k79 w A l.length l)
    (eg : ∀ args w, (callFunc g args).run Tryz.prog w = .ok (.enter g args) w)
    (hp : ∀ (W : World) (x : S79), x ∈ l → Below w.heap.size w W → Calls Tryz.prog g (#[.string x.f0] ++ lb) W fun e w' => e = .returned (.int .i64 (of x.f0)) ∧ Below W.heap.size W w') :
    Calls Tryz.prog 115 #[.agg #[.int .i64 a0, .slice A l.length c], .func (.func g) #[] lb] w fun e w' => e = .returned (.int .i64 (foldTerms of a0 l)) ∧ Below w.heap.size w w' := by
  have HR := Aside0.mk hr
  have HP := Aside0.mk hp
  clear hr hp
  have hm := HR.out.2.1
  go_enter Tryz.func115, Tryz.ntmps115
  go_wp2
  go_loopg [5, 7, 13] l.length (fun gg s5 s7 s13 wr => ∃ kk : Nat, kk ≤ l.length ∧ l.length - kk ≤ gg ∧ s13 = .int .i64 kk ∧ s5 = .int .i64 (foldTerms of a0 (l.take kk)) ∧ Aside0 (Below w.heap.size w wr))
  case atStart => exact ⟨0, Nat.zero_le _, by omega, rfl, rfl, ⟨below_alloc (Below.refl _ w) _⟩⟩
  case round =>
    obtain ⟨kk, hkk, hg, rfl, rfl, BW⟩ := hrel
    by_cases hlt : kk < l.length
    · have hltz : (kk : Int) < (l.length : Int) := by omega
      obtain ⟨ad, e, hx0, hx1⟩ := at_T79 HR.out (kk : Int) (by omega) (by omega)
      cases e
      replace hx0 := (BW.out.cell (World.block_lt_of_cell? w _ hx0)).trans hx0
      replace hx1 := (BW.out.cell (World.block_lt_of_cell? w _ hx1)).trans hx1
      simp only [Int.toNat_natCast] at hx0 hx1
      have hy : rd_T79 l (kk : Int) = l[kk] := by simp [rd_T79, List.getD, List.getElem?_eq_getElem hlt]
      have HM : Aside0 (rd_T79 l (kk : Int) ∈ l) := ⟨by rw [hy]; exact List.getElem_mem hlt⟩
      have HQ := Aside0.mk (foldTerms_snoc of a0 l kk hlt)
      have HY : Aside0 (l.getD kk z79 = rd_T79 l (kk : Int)) := ⟨rfl⟩
      clear hy
      generalize foldTerms of a0 (l.take kk) = acc at *
      generalize rd_T79 l (kk : Int) = y at *
      obtain ⟨y0, y1⟩ := y
      go_wp2_with fail
      have BB : Aside0 (Below w.heap.size w (wr.alloc (.cells #[.string y0, .int .i64 y1] 79))) := ⟨below_alloc BW.out _⟩
      have e0 := (blk_cell (blk_new wr (.cells #[.string y0, .int .i64 y1] 79)) 0).trans rfl
      have e1 := (blk_cell (blk_new wr (.cells #[.string y0, .int .i64 y1] 79)) 1).trans rfl
      have hlt2 : wr.heap.size < (wr.alloc (.cells #[.string y0, .int .i64 y1] 79)).heap.size := by simp
      generalize wr.alloc (.cells #[.string y0, .int .i64 y1] 79) = W1 at *
      generalize wr.heap.size = B at *
      have HC : Aside0 (∀ W : World, (W.cell? ⟨B, 0, none⟩ = some (.string y0) ∧ W.cell? ⟨B, 1, none⟩ = some (.int .i64 y1) ∧ B < W.heap.size ∧ Aside0 (Below w.heap.size w W)) → Calls Tryz.prog g (#[.string y0] ++ lb) W fun e w' => e = .returned (.int .i64 (of y0)) ∧ (w'.cell? ⟨B, 0, none⟩ = some (.string y0) ∧ w'.cell? ⟨B, 1, none⟩ = some (.int .i64 y1) ∧ B < w'.heap.size ∧ Aside0 (Below w.heap.size w w'))) :=
        ⟨fun W ⟨s0, s1, s2, s3⟩ => (HP.out W ⟨y0, y1⟩ HM.out s3.out).mono fun e w' ⟨he, hb⟩ => ⟨he, (hb.cell (p := ⟨B, 0, none⟩) s2).trans s0, (hb.cell (p := ⟨B, 1, none⟩) s2).trans s1, Nat.lt_of_lt_of_le s2 hb.size, ⟨below_step s3.out hb⟩⟩⟩
      go_region_held3 (fun W => W.cell? ⟨B, 0, none⟩ = some (.string y0) ∧ W.cell? ⟨B, 1, none⟩ = some (.int .i64 y1) ∧ B < W.heap.size ∧ Aside0 (Below w.heap.size w W)) (first | exact ⟨e0, e1, hlt2, ⟨below_drew BB.out⟩⟩ | assumption) (first | (go_at_fn g; refine (HC.out _ (by assumption)).mono ?_; rintro e w' ⟨rfl, hS⟩))
      rename_i hh
      obtain ⟨_, _, _, BN⟩ := hh
      go_wp2
      go_roundg (l.length - (kk + 1))
      case measure => omega
      case rel => exact ⟨kk + 1, by omega, by omega, by go_num, by rw [HQ.out, HY.out, i64w, i64w], BN⟩
    · have hltz : ¬ (kk : Int) < (l.length : Int) := by omega
      have : kk = l.length := by omega
      subst this
      rw [List.take_length] at *
      go_wp2
      go_ret
      exact ⟨rfl, BW.out⟩
def inSides (sides : List S77) (x : List Int) (f : S33) : Prop := ∀ t, t ∈ f.f1 → 0 ≤ idxFrom (fun s : S77 => s.f0.toList == t.f0.toList) sides 0 ∧ idxFrom (fun s : S77 => s.f0.toList == t.f0.toList) sides 0 < x.length
def valueOf (sides : List S77) (x : List Int) (f : S33) : Int := foldTerms (fun n => rd x (idxFrom (fun s : S77 => s.f0.toList == n.toList) sides 0)) f.f0 f.f1
set_option maxHeartbeats 4000000 in
theorem value1_calls (n : ByteArray) (sides : List S77) (conds : List S33) (x : List Int) (As Ac Ax : Option Addr) (cs cc cx : Nat) (W : World) (Bx Bs : Nat)
    (hbx : W.heap[Bx]? = some (.cells #[.slice Ax x.length cx] 22 (0, 0))) (hbs : W.heap[Bs]? = some (.cells #[.slice As sides.length cs, .slice Ac conds.length cc] 29 (0, 0)))
    (hs : Kd.C k77 W As sides.length sides) (hcs : sides.length ≤ cs) (hc : Kd.C k33 W Ac conds.length conds) (hcc : conds.length ≤ cc) (hx : Kd.C (Kd.int .i64) W Ax x.length x)
    (h0 : 0 ≤ idxFrom (fun s : S77 => s.f0.toList == n.toList) sides 0) (h1 : idxFrom (fun s : S77 => s.f0.toList == n.toList) sides 0 < x.length) :
    Calls Tryz.prog 116 #[.string n, .pointer (some ⟨Bx, 0, none⟩), .pointer (some ⟨Bs, 0, none⟩)] W fun e w' => e = .returned (.int .i64 (rd x (idxFrom (fun s : S77 => s.f0.toList == n.toList) sides 0))) ∧ Below W.heap.size W w' := by
  have e0 : W.cell? ⟨Bx, 0, none⟩ = some (.slice Ax x.length cx) := (blk_cell hbx 0).trans rfl
  have e1 : W.cell? ⟨Bs, 0, none⟩ = some (.slice As sides.length cs) := (blk_cell hbs 0).trans rfl
  have e2 : W.cell? ⟨Bs, 1, none⟩ = some (.slice Ac conds.length cc) := (blk_cell hbs 1).trans rfl
  obtain ⟨ad, rfl, e3⟩ := Kd.at_int hx _ h0 h1
  have HS := Aside0.mk hs
  have HCc := Aside0.mk hc
  have HC : ∀ W1 : World, (W1.cell? ⟨Bx, 0, none⟩ = some (.slice (some ad) x.length cx) ∧ W1.cell? ⟨Bs, 0, none⟩ = some (.slice As sides.length cs) ∧ W1.cell? ⟨Bs, 1, none⟩ = some (.slice Ac conds.length cc) ∧ W1.cell? (ad.add (idxFrom (fun s : S77 => s.f0.toList == n.toList) sides 0).toNat) = some (.int .i64 (rd x (idxFrom (fun s : S77 => s.f0.toList == n.toList) sides 0))) ∧ Aside0 (Below W.heap.size W W1)) →
      Calls Tryz.prog 59 #[.agg #[.slice As sides.length cs, .slice Ac conds.length cc], .string n] W1 fun e w' => e = .returned (.int .i64 (idxFrom (fun s : S77 => s.f0.toList == n.toList) sides 0)) ∧ (w'.cell? ⟨Bx, 0, none⟩ = some (.slice (some ad) x.length cx) ∧ w'.cell? ⟨Bs, 0, none⟩ = some (.slice As sides.length cs) ∧ w'.cell? ⟨Bs, 1, none⟩ = some (.slice Ac conds.length cc) ∧ w'.cell? (ad.add (idxFrom (fun s : S77 => s.f0.toList == n.toList) sides 0).toNat) = some (.int .i64 (rd x (idxFrom (fun s : S77 => s.f0.toList == n.toList) sides 0))) ∧ Aside0 (Below W.heap.size W w')) :=
    fun W1 ⟨s0, s1, s2, s3, s4⟩ => (affine_side.calls As cs sides Ac cc conds n _ W1 (Kd.C_below HS.out s4.out) hcs (Kd.C_below HCc.out s4.out) hcc rfl).mono fun e w' ⟨he, hb⟩ =>
      ⟨he, pw_cell_below hb s0, pw_cell_below hb s1, pw_cell_below hb s2, pw_cell_below hb s3, ⟨below_step s4.out hb⟩⟩
  have HCA := Aside0.mk HC
  clear HC hs hc hx hbx hbs
  generalize idxFrom (fun s : S77 => s.f0.toList == n.toList) sides 0 = ix at *
  go_enter Tryz.func116, Tryz.ntmps116
  go_wp2
  go_region_held3 (fun W1 => W1.cell? ⟨Bx, 0, none⟩ = some (.slice (some ad) x.length cx) ∧ W1.cell? ⟨Bs, 0, none⟩ = some (.slice As sides.length cs) ∧ W1.cell? ⟨Bs, 1, none⟩ = some (.slice Ac conds.length cc) ∧ W1.cell? (ad.add ix.toNat) = some (.int .i64 (rd x ix)) ∧ Aside0 (Below W.heap.size W W1)) (first | exact ⟨e0, e1, e2, e3, ⟨below_drew (Below.refl _ _)⟩⟩ | assumption) (first | (go_at_call 59; refine (HCA.out _ (by assumption)).mono ?_; rintro e w' ⟨rfl, hS⟩))
  rename_i hh
  obtain ⟨_, _, _, _, BN⟩ := hh
  go_wp2
  go_ret
  exact ⟨rfl, BN.out⟩
set_option maxHeartbeats 4000000 in
theorem value_calls (sides : List S77) (conds : List S33) (f : S33) (x : List Int) (As Ac Af Ax : Option Addr) (cs cc cf cx : Nat) (w : World)
    (hs : Kd.C k77 w As sides.length sides) (hcs : sides.length ≤ cs) (hc : Kd.C k33 w Ac conds.length conds) (hcc : conds.length ≤ cc) (hf : Kd.C k79 w Af f.f1.length f.f1) (hx : Kd.C (Kd.int .i64) w Ax x.length x)
    (hin : inSides sides x f) :
    Calls Tryz.prog 55 #[.agg #[.slice As sides.length cs, .slice Ac conds.length cc], .agg #[.int .i64 f.f0, .slice Af f.f1.length cf], .slice Ax x.length cx] w fun e w' => e = .returned (.int .i64 (valueOf sides x f)) ∧ Below w.heap.size w w' := by
  have HS := Aside0.mk hs
  have HCc := Aside0.mk hc
  have HF := Aside0.mk hf
  have HX := Aside0.mk hx
  have HIN := Aside0.mk hin
  clear hs hc hf hx hin
  have eg := enters_of Tryz.func116 (by kernel_rfl) rfl
  go_enter Tryz.func55, Tryz.ntmps55
  go_wp2_with (go_at_call 115; refine (lin_Value_calls 116 _ f.f0 _ _ f.f1 (fun n => rd x (idxFrom (fun s : S77 => s.f0.toList == n.toList) sides 0)) _ (Kd.C_below HF.out (below_alloc (below_alloc (below_alloc (Below.refl _ _) _) _) _)) eg ?_).mono ?_; rotate_left; rintro e w' ⟨rfl, hb⟩)
  · go_ret
    exact ⟨rfl, below_step (below_alloc (below_alloc (below_alloc (Below.refl _ _) _) _) _) hb⟩
  · intro W t ht hB
    have hB' := below_step (below_alloc (below_alloc (below_alloc (Below.refl _ w) _) _) _) hB
    exact value1_calls t.f0 sides conds x As Ac Ax cs cc cx W (w.heap.size + 2) w.heap.size (blk_below (by simpa using blk_new ((w.alloc _).alloc _) _) hB) (blk_below (blk_alloc (blk_alloc (blk_new w _) _) _) hB)
      (Kd.C_below HS.out hB') hcs (Kd.C_below HCc.out hB') hcc (Kd.C_below HX.out hB') (HIN.out t ht).1 (HIN.out t ht).2
set_option maxHeartbeats 4000000 in
theorem inside1_calls (sides : List S77) (conds : List S33) (f : S33) (x : List Int) (As Ac Af Ax : Option Addr) (cs cc cf cx : Nat) (W : World) (Bs Bx : Nat)
    (hbx : W.heap[Bx]? = some (.cells #[.slice Ax x.length cx] 22 (0, 0))) (hbs : W.heap[Bs]? = some (.cells #[.slice As sides.length cs, .slice Ac conds.length cc] 29 (0, 0)))
    (hs : Kd.C k77 W As sides.length sides) (hcs : sides.length ≤ cs) (hc : Kd.C k33 W Ac conds.length conds) (hcc : conds.length ≤ cc) (hf : Kd.C k79 W Af f.f1.length f.f1) (hx : Kd.C (Kd.int .i64) W Ax x.length x)
    (hin : inSides sides x f) :
    Calls Tryz.prog 133 #[.agg #[.int .i64 f.f0, .slice Af f.f1.length cf], .pointer (some ⟨Bs, 0, none⟩), .pointer (some ⟨Bx, 0, none⟩)] W fun e w' => e = .returned (.bool (decide (valueOf sides x f < 0))) ∧ Below W.heap.size W w' := by
  have e0 : W.cell? ⟨Bx, 0, none⟩ = some (.slice Ax x.length cx) := (blk_cell hbx 0).trans rfl
  have e1 : W.cell? ⟨Bs, 0, none⟩ = some (.slice As sides.length cs) := (blk_cell hbs 0).trans rfl
  have e2 : W.cell? ⟨Bs, 1, none⟩ = some (.slice Ac conds.length cc) := (blk_cell hbs 1).trans rfl
  have l0 := blk_lt hbx
  have l1 := blk_lt hbs
  have HS := Aside0.mk hs
  have HCc := Aside0.mk hc
  have HF := Aside0.mk hf
  have HX := Aside0.mk hx
  have HIN := Aside0.mk hin
  clear hs hc hf hx hin hbx hbs
  go_enter Tryz.func133, Tryz.ntmps133
  go_wp2_with (go_at_call 55; refine (value_calls sides conds f x _ _ _ _ _ _ _ _ _ (Kd.C_below HS.out (below_alloc (Below.refl _ _) _)) hcs (Kd.C_below HCc.out (below_alloc (Below.refl _ _) _)) hcc (Kd.C_below HF.out (below_alloc (Below.refl _ _) _)) (Kd.C_below HX.out (below_alloc (Below.refl _ _) _)) HIN.out).mono ?_; rintro e w' ⟨rfl, hb⟩)
  go_ret
  exact ⟨rfl, below_step (below_alloc (Below.refl _ _) _) hb⟩
set_option maxHeartbeats 2000000 in
theorem IndexFunc_Form (g : Nat) (lb : Array Value) (A : Option Addr) (c : Nat) (l : List S33) (p : S33 → Bool) (w : World) (hr : Kd.C k33 w A l.length l)
    (eg : ∀ args w, (callFunc g args).run Tryz.prog w = .ok (.enter g args) w)
    (hp : ∀ (W : World) (x : S33) (A1 : Option Addr) (c1 : Nat), x ∈ l → Below w.heap.size w W → x.f1.length ≤ c1 → Kd.C k79 W A1 x.f1.length x.f1 → Calls Tryz.prog g (#[.agg #[.int .i64 x.f0, .slice A1 x.f1.length c1]] ++ lb) W fun e w' => e = .returned (.bool (p x)) ∧ Below W.heap.size W w') :
    Calls Tryz.prog 129 #[.slice A l.length c, .func (.func g) #[] lb] w fun e w' => e = .returned (.int .i64 (idxFrom p l 0)) ∧ Below w.heap.size w w' := by
  have HR := Aside0.mk hr
  have HP := Aside0.mk hp
  clear hr hp
  have hm := HR.out.2.1
  go_enter Tryz.func129, Tryz.ntmps129
  go_wp2
  go_loopg [5, 8] l.length (fun gg _ s8 wr => ∃ kk : Nat, kk ≤ l.length ∧ l.length - kk ≤ gg ∧ s8 = .int .i64 kk ∧ Aside0 (Below w.heap.size w wr) ∧ Aside0 (idxFrom p l 0 = idxFrom p (l.drop kk) kk))
  case atStart => exact ⟨0, Nat.zero_le _, by omega, rfl, ⟨Below.refl _ w⟩, ⟨by simp⟩⟩
  case round =>
    obtain ⟨kk, hkk, hg, rfl, BW, A⟩ := hrel
    by_cases hlt : kk < l.length
    · have hltz : (kk : Int) < (l.length : Int) := by omega
      obtain ⟨ad, A1, c1, e, hx0, hx1, hle, hC⟩ := at_T33 HR.out (kk : Int) (by omega) (by omega)
      cases e
      replace hx0 := (BW.out.cell (World.block_lt_of_cell? w _ hx0)).trans hx0
      replace hx1 := (BW.out.cell (World.block_lt_of_cell? w _ hx1)).trans hx1
      simp only [Int.toNat_natCast] at hx0 hx1
      have hy : rd_T33 l (kk : Int) = l[kk] := by simp [rd_T33, List.getD, List.getElem?_eq_getElem hlt]
      have hcall := HP.out wr (rd_T33 l (kk : Int)) A1 c1 (by rw [hy]; exact List.getElem_mem hlt) BW.out hle (Kd.C_below hC BW.out)
      have HQ := Aside0.mk (idxFrom_drop p l z33 kk hlt)
      have HY : Aside0 (l.getD kk z33 = rd_T33 l (kk : Int)) := ⟨rfl⟩
      clear hy hC hle
      cases hq : p (rd_T33 l (kk : Int)) with
      | true =>
        rw [hq] at hcall
        have HQ2 := Aside0.mk hq
        clear hq
        go_wp2_with (go_at_fn g; refine hcall.mono ?_; rintro e w' ⟨rfl, hb'⟩)
        go_ret
        refine ⟨?_, below_step BW.out hb'⟩
        rw [A.out, HQ.out, HY.out, HQ2.out]
        rfl
      | false =>
        rw [hq] at hcall
        have HQ2 := Aside0.mk hq
        clear hq
        go_wp2_with (go_at_fn g; refine hcall.mono ?_; rintro e w' ⟨rfl, hb'⟩)
        go_roundg (l.length - (kk + 1))
        case measure => omega
        case rel =>
          refine ⟨kk + 1, by omega, by omega, by go_num, ⟨below_step BW.out hb'⟩, ⟨?_⟩⟩
          rw [A.out, HQ.out, HY.out, HQ2.out]
          rfl
    · have hltz : ¬ (kk : Int) < (l.length : Int) := by omega
      have : kk = l.length := by omega
      subst this
      go_wp2
      go_ret
      refine ⟨?_, BW.out⟩
      rw [A.out, List.drop_length]
      rfl
theorem idxFrom_ge {α : Type} (p : α → Bool) : ∀ (l : List α) (i : Int), 0 ≤ i → decide (0 ≤ idxFrom p l i) = l.any p
  | [], i, h => by simp [idxFrom]
  | x :: l, i, h => by
    rw [idxFrom, List.any_cons]
    split
    · rename_i hx
      simp [hx, h]
    · rename_i hx
      rw [idxFrom_ge p l (i + 1) (by omega)]
      simp [hx]
set_option maxHeartbeats 2000000 in
theorem ContainsFunc_Form (g : Nat) (lb : Array Value) (A : Option Addr) (c : Nat) (l : List S33) (p : S33 → Bool) (w : World) (hr : Kd.C k33 w A l.length l)
    (eg : ∀ args w, (callFunc g args).run Tryz.prog w = .ok (.enter g args) w)
    (hp : ∀ (W : World) (x : S33) (A1 : Option Addr) (c1 : Nat), x ∈ l → Below w.heap.size w W → x.f1.length ≤ c1 → Kd.C k79 W A1 x.f1.length x.f1 → Calls Tryz.prog g (#[.agg #[.int .i64 x.f0, .slice A1 x.f1.length c1]] ++ lb) W fun e w' => e = .returned (.bool (p x)) ∧ Below W.heap.size W w') :
    Calls Tryz.prog 132 #[.slice A l.length c, .func (.func g) #[] lb] w fun e w' => e = .returned (.bool (l.any p)) ∧ Below w.heap.size w w' := by
  have HG := Aside0.mk (idxFrom_ge p l 0 (by omega))
  have hcall := IndexFunc_Form g lb A c l p w hr eg hp
  clear hr hp
  generalize idxFrom p l 0 = ix at *
  go_enter Tryz.func132, Tryz.ntmps132
  go_wp2_with (go_at_call 129; refine hcall.mono ?_; rintro e w' ⟨rfl, hb'⟩)
  go_ret
  exact ⟨by rw [← HG.out]; rfl, hb'⟩
theorem kit_In_eq (a b c : Int) : kit_In.f a b c = some (decide (b ≤ a) && decide (a ≤ c)) := by
  unfold kit_In.f
  by_cases h : a ≥ b
  · rw [if_pos h]
    have : decide (b ≤ a) = true := decide_eq_true h
    rw [this, Bool.true_and]
  · rw [if_neg h]
    have : decide (b ≤ a) = false := decide_eq_false h
    rw [this, Bool.false_and]
def withinB : List S77 → List Int → Bool
  | s :: ss, n :: ns => (decide (s.f1 ≤ n) && decide (n ≤ s.f2)) && withinB ss ns
  | _, _ => true
theorem withinB_drop (sides : List S77) (x : List Int) (k : Nat) (h : k < x.length) (h2 : k < sides.length) :
    withinB (sides.drop k) (x.drop k) = ((decide ((sides.getD k z77).f1 ≤ x.getD k 0) && decide (x.getD k 0 ≤ (sides.getD k z77).f2)) && withinB (sides.drop (k + 1)) (x.drop (k + 1))) := by
  rw [List.drop_eq_getElem_cons h, List.drop_eq_getElem_cons h2, withinB]
  simp [List.getD, List.getElem?_eq_getElem h, List.getElem?_eq_getElem h2]
theorem withinB_nil (l : List S77) : withinB l [] = true := by cases l <;> rfl
def okConds (sides : List S77) (x : List Int) (conds : List S33) : Bool := conds.all fun f => f.f1.all fun t => decide (0 ≤ idxFrom (fun s : S77 => s.f0.toList == t.f0.toList) sides 0) && decide (idxFrom (fun s : S77 => s.f0.toList == t.f0.toList) sides 0 < x.length)
theorem okConds_in {sides : List S77} {x : List Int} {conds : List S33} (h : okConds sides x conds = true) {f : S33} (hf : f ∈ conds) : inSides sides x f := by
  intro t ht
  have h1 := List.all_eq_true.1 h f hf
  have h2 := List.all_eq_true.1 h1 t ht
  simp only [Bool.and_eq_true, decide_eq_true_eq] at h2
  exact h2
def insideB (sides : List S77) (conds : List S33) (x : List Int) : Bool := withinB sides x && !(conds.any fun f => decide (valueOf sides x f < 0))
def affine_inside.f (l0_0 : List S77) (l0_1 : List S33) (l1 : List Int) : Option Bool := if decide (l1.length ≤ l0_0.length) && okConds l0_0 l1 l0_1 then some (insideB l0_0 l0_1 l1) else none
set_option maxHeartbeats 4000000 in
theorem affine_inside.calls (A0_0 : Option Addr) (c0_0 : Nat) (l0_0 : List S77) (A0_1 : Option Addr) (c0_1 : Nat) (l0_1 : List S33) (A1 : Option Addr) (c1 : Nat) (l1 : List Int) (r : Bool) (w : World) (hr0_0 : Kd.C k77 w A0_0 l0_0.length l0_0) (hc0_0 : l0_0.length ≤ c0_0) (hr0_1 : Kd.C k33 w A0_1 l0_1.length l0_1) (hc0_1 : l0_1.length ≤ c0_1) (hr1 : Kd.C (Kd.int .i64) w A1 l1.length l1) (hc1 : l1.length ≤ c1) (h : affine_inside.f l0_0 l0_1 l1 = some r) :
    Calls Tryz.prog 82 #[.agg #[.slice A0_0 l0_0.length c0_0, .slice A0_1 l0_1.length c0_1], .slice A1 l1.length c1] w fun e w' => e = .returned (.bool r) ∧ Below w.heap.size w w' := by
  unfold affine_inside.f at h
  by_cases hcond : (decide (l1.length ≤ l0_0.length) && okConds l0_0 l1 l0_1) = true
  · rw [if_pos hcond] at h
    obtain rfl := Option.some.inj h
    clear h
    rw [Bool.and_eq_true, decide_eq_true_eq] at hcond
    obtain ⟨hlen, hok⟩ := hcond
    have HOK := Aside0.mk hok
    have HS := Aside0.mk hr0_0
    have HCc := Aside0.mk hr0_1
    have HX := Aside0.mk hr1
    have hm := HX.out.2.1
    have hm0 := HS.out.2.1
    clear hok hr0_0 hr0_1 hr1
    have eg := enters_of Tryz.func133 (by kernel_rfl) rfl
    go_enter Tryz.func82, Tryz.ntmps82
    go_wp2
    have BB := blk_alloc (blk_new w (.cells #[.slice A0_0 l0_0.length c0_0, .slice A0_1 l0_1.length c0_1] 29)) (.cells #[.slice A1 l1.length c1] 22)
    have BX : ((w.alloc (.cells #[.slice A0_0 l0_0.length c0_0, .slice A0_1 l0_1.length c0_1] 29)).alloc (.cells #[.slice A1 l1.length c1] 22)).heap[w.heap.size + 1]? = some (.cells #[.slice A1 l1.length c1] 22 (0, 0)) := by simpa using blk_new (w.alloc (.cells #[.slice A0_0 l0_0.length c0_0, .slice A0_1 l0_1.length c0_1] 29)) (.cells #[.slice A1 l1.length c1] 22)
    have BW0 : Below w.heap.size w ((w.alloc (.cells #[.slice A0_0 l0_0.length c0_0, .slice A0_1 l0_1.length c0_1] 29)).alloc (.cells #[.slice A1 l1.length c1] 22)) := below_alloc (below_alloc (Below.refl _ _) _) _
    have HBB := Aside0.mk BB
    have HBX := Aside0.mk BX
    have HBW := Aside0.mk BW0
    clear BB BX BW0
    generalize (w.alloc (.cells #[.slice A0_0 l0_0.length c0_0, .slice A0_1 l0_1.length c0_1] 29)).alloc (.cells #[.slice A1 l1.length c1] 22) = W0 at *
    generalize w.heap.size + 1 = B1 at *
    generalize hB0 : w.heap.size = B0 at *
    go_loopg [5, 6, 9] l1.length (fun gg _ _ s9 wr => ∃ kk : Nat, kk ≤ l1.length ∧ l1.length - kk ≤ gg ∧ s9 = .int .i64 kk ∧ Aside0 (Below W0.heap.size W0 wr) ∧ Aside0 (withinB l0_0 l1 = withinB (l0_0.drop kk) (l1.drop kk)))
    case atStart => exact ⟨0, Nat.zero_le _, by omega, rfl, ⟨Below.refl _ _⟩, ⟨by simp⟩⟩
    case round =>
      obtain ⟨kk, hkk, hg, rfl, BW, AQ⟩ := hrel
      have b0 := blk_below HBB.out BW.out
      have b1 := blk_below HBX.out BW.out
      have z0 : wr.cell? ⟨B0, 0, none⟩ = some (.slice A0_0 l0_0.length c0_0) := (blk_cell b0 0).trans rfl
      have z1 : wr.cell? ⟨B0, 1, none⟩ = some (.slice A0_1 l0_1.length c0_1) := (blk_cell b0 1).trans rfl
      have z2 : wr.cell? ⟨B1, 0, none⟩ = some (.slice A1 l1.length c1) := (blk_cell b1 0).trans rfl
      have BWW : Aside0 (Below w.heap.size w wr) := ⟨below_then (hB0 ▸ HBW.out) (hB0 ▸ HBW.out.size) BW.out⟩
      by_cases hlt : kk < l1.length
      · have hltz : (kk : Int) < (l1.length : Int) := by omega
        have hltz0 : (kk : Int) < (l0_0.length : Int) := by omega
        obtain ⟨ad, e, hx0⟩ := Kd.at_int HX.out (kk : Int) (by omega) (by omega)
        cases e
        obtain ⟨ad0, e, hs0, hs1, hs2⟩ := at_T77 HS.out (kk : Int) (by omega) (by omega)
        cases e
        replace hx0 := pw_cell_below BWW.out hx0
        replace hs1 := pw_cell_below BWW.out hs1
        replace hs2 := pw_cell_below BWW.out hs2
        clear hs0
        simp only [Int.toNat_natCast] at hx0 hs1 hs2
        have HQ := Aside0.mk (withinB_drop l0_0 l1 kk hlt (by omega))
        have HY : Aside0 (l0_0.getD kk z77 = rd_T77 l0_0 (kk : Int)) := ⟨rfl⟩
        have HY2 : Aside0 (l1.getD kk 0 = rd l1 (kk : Int)) := ⟨rfl⟩
        have hK := kit_In_eq (rd l1 (kk : Int)) (rd_T77 l0_0 (kk : Int)).f1 (rd_T77 l0_0 (kk : Int)).f2
        generalize rd l1 (kk : Int) = n at *
        generalize rd_T77 l0_0 (kk : Int) = y at *
        obtain ⟨y0, y1, y2⟩ := y
        have HK := Aside0.mk hK
        clear hK
        cases hb : (decide (y1 ≤ n) && decide (n ≤ y2)) with
        | true =>
          have HB := Aside0.mk hb
          have HK2 : Aside0 (kit_In.f n y1 y2 = some true) := ⟨by rw [HK.out, hb]⟩
          clear hb HK
          go_wp2
          go_quiet (first | (go_at_call 113; (with_reducible refine (kit_In.calls _ _ _ _ _ HK2.out).mono ?_); rintro e w' ⟨rfl, ⟨nd, rfl⟩⟩; (try first | exact ⟨rfl, _, World.drewN_drewN _ _ _⟩ | exact ⟨rfl, _, Eq.trans (World.drewN_drewN _ _ _) (congrArg (World.drewN _) (Nat.add_assoc _ _ _))⟩)))
          go_wp2
          go_roundg (l1.length - (kk + 1))
          case measure => omega
          case rel =>
            refine ⟨kk + 1, by omega, by omega, by go_num, ⟨pw_below_drewN BW.out _⟩, ⟨?_⟩⟩
            rw [AQ.out, HQ.out, HY.out, HY2.out]
            simp only
            rw [HB.out, Bool.true_and]
        | false =>
          have HB := Aside0.mk hb
          have HK2 : Aside0 (kit_In.f n y1 y2 = some false) := ⟨by rw [HK.out, hb]⟩
          clear hb HK
          go_wp2
          go_quiet (first | (go_at_call 113; (with_reducible refine (kit_In.calls _ _ _ _ _ HK2.out).mono ?_); rintro e w' ⟨rfl, ⟨nd, rfl⟩⟩; (try first | exact ⟨rfl, _, World.drewN_drewN _ _ _⟩ | exact ⟨rfl, _, Eq.trans (World.drewN_drewN _ _ _) (congrArg (World.drewN _) (Nat.add_assoc _ _ _))⟩)))
          go_wp2
          go_ret
          refine ⟨?_, pw_below_drewN BWW.out _⟩
          unfold insideB
          rw [AQ.out, HQ.out, HY.out, HY2.out]
          simp only
          rw [HB.out]
          rfl
      · have hltz : ¬ (kk : Int) < (l1.length : Int) := by omega
        have : kk = l1.length := by omega
        subst this
        go_wp2_with (go_at_call 132; refine (ContainsFunc_Form 133 _ _ _ l0_1 (fun f => decide (valueOf l0_0 l1 f < 0)) _ (Kd.C_below HCc.out BWW.out) eg ?_).mono ?_; rotate_left; rintro e w' ⟨rfl, hb⟩)
        · go_ret
          refine ⟨?_, below_step BWW.out hb⟩
          unfold insideB
          rw [AQ.out, List.drop_length, withinB_nil, Bool.true_and]
          rfl
        · intro W f Af cf hf hB hle hC
          have hB' := below_step BWW.out hB
          exact inside1_calls l0_0 l0_1 f l1 _ _ _ _ _ _ _ _ W _ _ (blk_below b1 hB) (blk_below b0 hB) (Kd.C_below HS.out hB') hc0_0 (Kd.C_below HCc.out hB') hc0_1 hC (Kd.C_below HX.out hB') (okConds_in HOK.out hf)
  · rw [if_neg hcond] at h
    exact absurd h (by simp)
def IntRow (W : World) (X : Nat) (xs : List Int) : Prop := W.heap[X]? = some (.cells (nums .i64 xs).toArray 3 (0, 0))
theorem IntRow.cell {W : World} {X : Nat} {xs : List Int} (h : IntRow W X xs) (i : Nat) (hi : i < xs.length) : W.cell? ⟨X, i, none⟩ = some (.int .i64 (xs.getD i 0)) := by
  rw [blk_cell h i]
  simp [nums, List.getElem?_eq_getElem hi, List.getD]
theorem IntRow.frozen {W : World} {X : Nat} {xs : List Int} (h : IntRow W X xs) (i : Nat) : W.frozen? ⟨X, i, none⟩ = false := blk_frozen h i
theorem IntRow.set {W : World} {X : Nat} {xs : List Int} (h : IntRow W X xs) (i : Nat) (v : Int) : IntRow (W.setCell ⟨X, i, none⟩ (.int .i64 v)) X (xs.set i v) := by
  unfold IntRow
  rw [blk_set h i]
  simp [nums, List.map_set]
theorem IntRow.reads {W : World} {X : Nat} {xs : List Int} (h : IntRow W X xs) (hl : xs.length ≤ 9223372036854775807) : Kd.C (Kd.int .i64) W (some ⟨X, 0, none⟩) xs.length xs := by
  refine ⟨rfl, hl, fun _ => ⟨_, rfl, fun j p hj => ⟨[.int .i64 p], rfl, rfl, fun i u hu => ?_⟩⟩⟩
  have hjl := (List.getElem?_eq_some_iff.1 hj).1
  cases i with
  | zero =>
    simp only [List.getElem?_cons_zero, Option.some.injEq] at hu
    subst hu
    have hc := h.cell j hjl
    have e : xs.getD j 0 = p := by rw [List.getD_eq_getElem?_getD, hj]; rfl
    rw [e] at hc
    show W.cell? (Addr.add ⟨X, 0, none⟩ (j * 1 + 0)) = _
    rw [Nat.mul_one, Nat.add_zero, add_plain]
    exact hc
  | succ i => simp at hu
theorem IntRow.lt {W : World} {X : Nat} {xs : List Int} (h : IntRow W X xs) : X < W.heap.size := blk_lt h
theorem IntRow.same {W W' : World} {X : Nat} {xs : List Int} (h : IntRow W X xs) (e : W'.heap[X]? = W.heap[X]?) : IntRow W' X xs := e.trans h
def nextOdo : List S77 → List Int → Option (List Int)
  | s :: ss, n :: ns => match nextOdo ss ns with
    | some t => some (n :: t)
    | none => if n = s.f2 then none else some (wrap64 (n + 1) :: ss.map (·.f1))
  | _, _ => none
theorem nextOdo_some : ∀ (i : Nat) (sides : List S77) (x t : List Int), sides.length = x.length → i ≤ x.length → nextOdo (sides.drop i) (x.drop i) = some t → nextOdo sides x = some (x.take i ++ t)
  | 0, sides, x, t, _, _, h => by simpa using h
  | i + 1, [], x, t, hl, hi, h => by
    cases x with
    | nil => simp at hi
    | cons n ns => simp at hl
  | i + 1, s :: ss, [], t, hl, hi, h => by simp at hl
  | i + 1, s :: ss, n :: ns, t, hl, hi, h => by
    have := nextOdo_some i ss ns t (by simpa using hl) (by simpa using hi) (by simpa using h)
    rw [nextOdo, this]
    simp
theorem nextOdo_at (i : Nat) (sides : List S77) (x : List Int) (hl : sides.length = x.length) (hi : i < x.length) (h : nextOdo (sides.drop (i + 1)) (x.drop (i + 1)) = none) :
    nextOdo (sides.drop i) (x.drop i) = if x.getD i 0 = (sides.getD i z77).f2 then none else some (wrap64 (x.getD i 0 + 1) :: (sides.drop (i + 1)).map (·.f1)) := by
  rw [List.drop_eq_getElem_cons hi, List.drop_eq_getElem_cons (show i < sides.length by omega), nextOdo, h]
  simp [List.getD, List.getElem?_eq_getElem hi, List.getElem?_eq_getElem (show i < sides.length by omega)]
section
variable {σ : Type}
def eachL (sides : List S77) (conds : List S33) (st : σ → List Int → Bool × σ) : Nat → σ → List Int → Option σ
  | 0, _, _ => none
  | k + 1, s, x => if insideB sides conds x = true then (if (st s x).1 = true then (nextOdo sides x).elim (some (st s x).2) (fun x' => eachL sides conds st k (st s x).2 x') else some (st s x).2)
      else (nextOdo sides x).elim (some s) (fun x' => eachL sides conds st k s x')
def eachF (k : Nat) (sides : List S77) (conds : List S33) (st : σ → List Int → Bool × σ) (s : σ) : Option σ :=
  if sides.any (fun v => decide (v.f2 < v.f1)) then some s else eachL sides conds st k s (sides.map (·.f1))
def EachStep (w0 : World) (g : Nat) (lb : Array Value) (I : Bool → σ → (Nat → Prop) → World → Prop) (st : σ → List Int → Bool × σ) (m : Nat) : Prop :=
  ∀ (W : World) (s : σ) (F : Nat → Prop) (X : Nat) (x : List Int), I true s F W → (∀ k, F k → w0.heap.size ≤ k) → Below w0.heap.size w0 W → IntRow W X x → ¬ F X → x.length = m →
    Calls Tryz.prog g (#[.slice (some ⟨X, 0, none⟩) x.length x.length] ++ lb) W fun e w' => e = .returned (.bool (st s x).1) ∧ ∃ F', I (st s x).1 (st s x).2 F' w' ∧ (∀ k, F' k → F k ∨ W.heap.size ≤ k) ∧ Kept W w' F ∧ Below w0.heap.size w0 w'
def EachStays (I : σ → (Nat → Prop) → World → Prop) : Prop := (∀ s F W W', I s F W → W.heap.size ≤ W'.heap.size → (∀ k, F k → W'.heap[k]? = W.heap[k]?) → I s F W') ∧ ∀ s F W, I s F W → ∀ k, F k → k < W.heap.size
end
theorem made_zero (m : Nat) : madeCells #[.int .i64 0] m = (nums .i64 (List.replicate m 0)).toArray := by
  apply Array.ext'
  simp [madeCells, nums]
  apply List.ext_getElem
  · simp
  · intro i h1 h2
    simp [Nat.mod_one]
section
variable {σ : Type}
def EW (w0 w : World) (F0 : Nat → Prop) (I : σ → (Nat → Prop) → World → Prop) (box : Array Value) (B0 X : Nat) (s : σ) (x : List Int) (wr : World) : Prop :=
  ∃ F, I s F wr ∧ (∀ k, F k → F0 k ∨ w.heap.size ≤ k) ∧ (¬ F B0 ∧ ¬ F X) ∧ IntRow wr X x ∧ wr.heap[B0]? = some (.cells box 29 (0, 0)) ∧ Kept w wr F0 ∧ Below w0.heap.size w0 wr
theorem EW.below {w0 w : World} {F0 : Nat → Prop} {I : σ → (Nat → Prop) → World → Prop} {box : Array Value} {B0 X : Nat} {s : σ} {x : List Int} {wr w1 : World} (hI : EachStays I) (h : EW w0 w F0 I box B0 X s x wr) (hb : Below wr.heap.size wr w1) : EW w0 w F0 I box B0 X s x w1 := by
  obtain ⟨F, h1, h2, h3, h4, h5, h6, h7⟩ := h
  exact ⟨F, hI.1 s F wr w1 h1 hb.size (fun k hk => hb.block k (hI.2 s F wr h1 k hk)), h2, h3, h4.same (hb.block X h4.lt), (hb.block B0 (blk_lt h5)).trans h5, h6.below hb, below_then h7 h7.size hb⟩
theorem EW.setRow {w0 w : World} {F0 : Nat → Prop} {I : σ → (Nat → Prop) → World → Prop} {box : Array Value} {B0 X : Nat} {s : σ} {x : List Int} {wr : World} (hI : EachStays I) (h : EW w0 w F0 I box B0 X s x wr) (hw : w0.heap.size ≤ w.heap.size) (hX : w.heap.size ≤ X) (hne : B0 ≠ X) (i : Nat) (v : Int) : EW w0 w F0 I box B0 X s (x.set i v) (wr.setCell ⟨X, i, none⟩ (.int .i64 v)) := by
  obtain ⟨F, h1, h2, h3, h4, h5, h6, h7⟩ := h
  exact ⟨F, hI.1 s F wr _ h1 (by simp [World.setCell]) (fun k hk => Below.heap_setCell wr _ _ k (fun e => h3.2 (by subst e; exact hk))), h2, h3, h4.set i v, (Below.heap_setCell wr _ _ B0 hne).trans h5, h6.setCell (.inr hX) _, h7.setCell (by show w0.heap.size ≤ X; omega) _⟩
theorem EW.row {w0 w : World} {F0 : Nat → Prop} {I : σ → (Nat → Prop) → World → Prop} {box : Array Value} {B0 X : Nat} {s : σ} {x : List Int} {wr : World} (h : EW w0 w F0 I box B0 X s x wr) : IntRow wr X x := by
  obtain ⟨F, h1, h2, h3, h4, h5, h6, h7⟩ := h
  exact h4
theorem EW.box {w0 w : World} {F0 : Nat → Prop} {I : σ → (Nat → Prop) → World → Prop} {box : Array Value} {B0 X : Nat} {s : σ} {x : List Int} {wr : World} (h : EW w0 w F0 I box B0 X s x wr) : wr.heap[B0]? = some (.cells box 29 (0, 0)) := by
  obtain ⟨F, h1, h2, h3, h4, h5, h6, h7⟩ := h
  exact h5
theorem EW.base {w0 w : World} {F0 : Nat → Prop} {I : σ → (Nat → Prop) → World → Prop} {box : Array Value} {B0 X : Nat} {s : σ} {x : List Int} {wr : World} (h : EW w0 w F0 I box B0 X s x wr) : Below w0.heap.size w0 wr := by
  obtain ⟨F, h1, h2, h3, h4, h5, h6, h7⟩ := h
  exact h7
theorem EW.finish {w0 w : World} {F0 : Nat → Prop} {I : σ → (Nat → Prop) → World → Prop} {box : Array Value} {B0 X : Nat} {s : σ} {x : List Int} {wr : World} (h : EW w0 w F0 I box B0 X s x wr) : ∃ F', I s F' wr ∧ (∀ k, F' k → F0 k ∨ w.heap.size ≤ k) ∧ Kept w wr F0 ∧ Below w0.heap.size w0 wr := by
  obtain ⟨F, h1, h2, h3, h4, h5, h6, h7⟩ := h
  exact ⟨F, h1, h2, h6, h7⟩
def EachAt (w0 : World) (g : Nat) (lb : Array Value) (I : Bool → σ → (Nat → Prop) → World → Prop) (st : σ → List Int → Bool × σ) (s : σ) (x : List Int) : Prop :=
  ∀ (W : World) (F : Nat → Prop) (X : Nat), I true s F W → (∀ k, F k → w0.heap.size ≤ k) → Below w0.heap.size w0 W → IntRow W X x → ¬ F X →
    Calls Tryz.prog g (#[.slice (some ⟨X, 0, none⟩) x.length x.length] ++ lb) W fun e w' => e = .returned (.bool (st s x).1) ∧ ∃ F', I (st s x).1 (st s x).2 F' w' ∧ (∀ k, F' k → F k ∨ W.heap.size ≤ k) ∧ Kept W w' F ∧ Below w0.heap.size w0 w'
theorem EachStep.at_ {w0 : World} {g : Nat} {lb : Array Value} {I : Bool → σ → (Nat → Prop) → World → Prop} {st : σ → List Int → Bool × σ} {m : Nat} (h : EachStep w0 g lb I st m) (s : σ) (x : List Int) (hx : x.length = m) : EachAt w0 g lb I st s x :=
  fun W F X h1 h2 h3 h4 h5 => h W s F X x h1 h2 h3 h4 h5 hx
def Ends (sides : List S77) (conds : List S33) (st : σ → List Int → Bool × σ) (s' t : σ) : Prop := t = s' ∨ ∃ k y, eachL sides conds st k t y = some s'
theorem EW.step {w0 w : World} {F0 : Nat → Prop} {g : Nat} {lb : Array Value} {I : Bool → σ → (Nat → Prop) → World → Prop} {st : σ → List Int → Bool × σ} {box : Array Value} {B0 X : Nat} {s : σ} {x : List Int} {wr : World} (hst : EachAt w0 g lb I st s x) (hw : w0.heap.size ≤ w.heap.size) (hF : ∀ k, F0 k → w0.heap.size ≤ k) (h : EW w0 w F0 (I true) box B0 X s x wr) :
    Calls Tryz.prog g (#[.slice (some ⟨X, 0, none⟩) x.length x.length] ++ lb) wr fun e w' => e = .returned (.bool (st s x).1) ∧ EW w0 w F0 (I (st s x).1) box B0 X (st s x).2 x w' := by
  obtain ⟨F, h1, h2, h3, h4, h5, h6, h7⟩ := h
  refine (hst wr F X h1 (fun k hk => (h2 k hk).elim (hF k) (fun h => Nat.le_trans hw h)) h7 h4 h3.2).mono fun e w' ⟨he, F', i1, i2, i3, i4⟩ => ⟨he, F', i1, fun k hk => (i2 k hk).elim (h2 k) (fun h => .inr (Nat.le_trans h6.1 h)), ⟨fun hk => (i2 _ hk).elim h3.1 (fun h => by have := blk_lt h5; omega), fun hk => (i2 _ hk).elim h3.2 (fun h => by have := h4.lt; omega)⟩, ?_, blk_kept h5 i3 h3.1, h6.then_ i3 h2, i4⟩
  exact h4.same (i3.2 X h4.lt h3.2)
theorem EW.imp {w0 w : World} {F0 : Nat → Prop} {I J : σ → (Nat → Prop) → World → Prop} {box : Array Value} {B0 X : Nat} {s : σ} {x : List Int} {wr : World} (hIJ : ∀ s F W, I s F W → J s F W) (h : EW w0 w F0 I box B0 X s x wr) : EW w0 w F0 J box B0 X s x wr := by
  obtain ⟨F, h1, h2⟩ := h
  exact ⟨F, hIJ _ _ _ h1, h2⟩
theorem row_set (x l : List Int) (i : Nat) (v : Int) (h : i < x.length) : (x.take (i + 1) ++ l).set i v = x.take i ++ (v :: l) := by
  rw [List.take_succ_eq_append_getElem h]
  have hl : (x.take i).length = i := by simp; omega
  rw [List.append_assoc, List.set_append_right _ _ (by omega), hl, Nat.sub_self]
  simp
def initRow (sides : List S77) (k : Nat) : List Int := (sides.take k).map (·.f1) ++ List.replicate (sides.length - k) 0
theorem initRow_length (sides : List S77) (k : Nat) (h : k ≤ sides.length) : (initRow sides k).length = sides.length := by simp [initRow]; omega
theorem initRow_set (sides : List S77) (k : Nat) (h : k < sides.length) : (initRow sides k).set k (sides.getD k z77).f1 = initRow sides (k + 1) := by
  unfold initRow
  have e : sides.length - k = (sides.length - (k + 1)) + 1 := by omega
  have e2 : (sides.take (k + 1)).map (·.f1) = (sides.take k).map (·.f1) ++ [(sides.getD k z77).f1] := by
    rw [List.take_succ_eq_append_getElem h, List.map_append]
    simp [List.getD, List.getElem?_eq_getElem h]
  have hl : ((sides.take k).map (·.f1)).length = k := by simp; omega
  rw [e, List.replicate_succ, e2, List.set_append_right _ _ (by omega), hl, Nat.sub_self, List.set_cons_zero, List.append_assoc]
  rfl
theorem initRow_all (sides : List S77) : initRow sides sides.length = sides.map (·.f1) := by simp [initRow]
set_option maxHeartbeats 4000000 in
theorem each_callsB (k : Nat) (g : Nat) (lb : Array Value) (I : Bool → σ → (Nat → Prop) → World → Prop) (st : σ → List Int → Bool × σ) (sides : List S77) (conds : List S33) (As Ac : Option Addr) (cs cc : Nat) (s0 s' : σ) (F0 : Nat → Prop) (w0 w : World)
    (hs : Kd.C k77 w0 As sides.length sides) (hcs : sides.length ≤ cs) (hc : Kd.C k33 w0 Ac conds.length conds) (hcc : conds.length ≤ cc)
    (hB : Below w0.heap.size w0 w) (hI : I true s0 F0 w) (hF : ∀ k, F0 k → w0.heap.size ≤ k) (hst : ∀ s x, x.length = sides.length → insideB sides conds x = true → Ends sides conds st s' (st s x).2 → EachAt w0 g lb I st s x) (hstay : EachStays (I true)) (hIJ : ∀ s F W, I true s F W → I false s F W)
    (eg : ∀ args w, (callFunc g args).run Tryz.prog w = .ok (.enter g args) w) (hm : sides.length ≤ 8) (hok : ∀ x : List Int, x.length = sides.length → okConds sides x conds = true)
    (h : eachF k sides conds st s0 = some s') :
    Calls Tryz.prog 53 #[.agg #[.slice As sides.length cs, .slice Ac conds.length cc], .func (.func g) #[] lb] w fun e w' => e = .returned (.tuple #[]) ∧ ∃ F', I false s' F' w' ∧ (∀ k, F' k → F0 k ∨ w.heap.size ≤ k) ∧ Kept w w' F0 ∧ Below w0.heap.size w0 w' := by
  have HS := Aside0.mk hs
  have HCc := Aside0.mk hc
  have HST := Aside0.mk hst
  have HSY := Aside0.mk hstay
  have HOK := Aside0.mk hok
  have HH := Aside0.mk h
  have HF := Aside0.mk hF
  have HIJ := Aside0.mk hIJ
  have hw0 := hB.size
  have hmk := print_make (P := Tryz.prog) 22 3 .i64 8 Tryz.underlying22 info3 (by decide) sides.length (by omega)
  have E0 : Aside0 (EW w0 w F0 (I true) #[.slice As sides.length cs, .slice Ac conds.length cc] w.heap.size (w.heap.size + 1) s0 (initRow sides 0) ((w.alloc (.cells #[.slice As sides.length cs, .slice Ac conds.length cc] 29)).alloc (.cells (madeCells #[.int .i64 0] sides.length) 3))) := by
    have hlt := hstay.2 s0 F0 w hI
    have hb2 : Below w.heap.size w ((w.alloc (.cells #[.slice As sides.length cs, .slice Ac conds.length cc] 29)).alloc (.cells (madeCells #[.int .i64 0] sides.length) 3)) := below_alloc (below_alloc (Below.refl _ _) _) _
    refine ⟨F0, hstay.1 s0 F0 w _ hI hb2.size (fun k hk => hb2.block k (hlt k hk)), fun k hk => .inl hk, ⟨fun hk => by have := hlt _ hk; omega, fun hk => by have := hlt _ hk; omega⟩, ?_, blk_alloc (blk_new w _) _, Kept.of_below hb2 _, below_then hB hw0 hb2⟩
    unfold IntRow
    rw [show initRow sides 0 = List.replicate sides.length 0 by simp [initRow], ← made_zero]
    simpa using blk_new (w.alloc (.cells #[.slice As sides.length cs, .slice Ac conds.length cc] 29)) (.cells (madeCells #[.int .i64 0] sides.length) 3)
  clear hs hc hst hstay hok h hF hI hB hIJ
  go_enter Tryz.func53, Tryz.ntmps53
  go_wp2
  have hX : w.heap.size ≤ w.heap.size + 1 := Nat.le_succ _
  have hne : w.heap.size ≠ w.heap.size + 1 := by omega
  generalize (w.alloc (.cells #[.slice As sides.length cs, .slice Ac conds.length cc] 29)).alloc (.cells (madeCells #[.int .i64 0] sides.length) 3) = W2 at *
  generalize hB0 : w.heap.size = B0 at *
  have HB0 := Aside0.mk hB0
  clear hB0 hmk
  generalize B0 + 1 = X at *
  go_loopg [5, 6, 15] sides.length (fun gg _ _ s15 wr => ∃ kk : Nat, kk ≤ sides.length ∧ sides.length - kk ≤ gg ∧ s15 = .int .i64 kk ∧ Aside0 (EW w0 w F0 (I true) #[.slice As sides.length cs, .slice Ac conds.length cc] B0 X s0 (initRow sides kk) wr) ∧ Aside0 (∀ j, j < kk → ¬ (sides.getD j z77).f2 < (sides.getD j z77).f1))
  case atStart => exact ⟨0, Nat.zero_le _, by omega, rfl, E0, ⟨fun j hj => absurd hj (Nat.not_lt_zero _)⟩⟩
  case round =>
    obtain ⟨kk, hkk, hg, rfl, BW, AQ⟩ := hrel
    by_cases hlt : kk < sides.length
    · have hltz : (kk : Int) < (sides.length : Int) := by omega
      obtain ⟨ad0, e, hs0, hs1, hs2⟩ := at_T77 HS.out (kk : Int) (by omega) (by omega)
      cases e
      replace hs0 := pw_cell_below BW.out.base hs0
      replace hs1 := pw_cell_below BW.out.base hs1
      replace hs2 := pw_cell_below BW.out.base hs2
      simp only [Int.toNat_natCast] at hs0 hs1 hs2
      have HY : Aside0 (sides.getD kk z77 = rd_T77 sides (kk : Int)) := ⟨rfl⟩
      have HRS := Aside0.mk (initRow_set sides kk hlt)
      generalize rd_T77 sides (kk : Int) = y at *
      obtain ⟨y0, y1, y2⟩ := y
      have hrow := BW.out.row.cell kk (by rw [initRow_length _ _ hkk]; exact hlt)
      have hfz := BW.out.row.frozen kk
      have hXl := BW.out.row.lt
      generalize (initRow sides kk).getD kk 0 = q0 at *
      by_cases hgt : y2 < y1
      · go_wp2
        refine bodyPost_ret (results_none rfl _ _ _) rfl ⟨rfl, ?_⟩
        have hany : sides.any (fun v => decide (v.f2 < v.f1)) = true := by
          refine List.any_eq_true.2 ⟨sides.getD kk z77, ?_, ?_⟩
          · simp [List.getD, List.getElem?_eq_getElem hlt]
          · rw [HY.out]
            exact decide_eq_true hgt
        have HH2 := HH.out
        unfold eachF at HH2
        rw [if_pos hany] at HH2
        obtain rfl := Option.some.inj HH2
        exact (BW.out.below HSY.out (below_alloc (Below.refl _ _) _)).imp HIJ.out |>.finish
      · go_wp2
        go_roundg (sides.length - (kk + 1))
        case measure => omega
        case rel =>
          refine ⟨kk + 1, by omega, by omega, by go_num, ⟨?_⟩, ⟨fun j hj => ?_⟩⟩
          · rw [← HRS.out, HY.out]
            exact (BW.out.setRow HSY.out (by have := HB0.out; omega) (by have := HB0.out; omega) hne _ _).below HSY.out (below_alloc (Below.refl _ _) _)
          · by_cases e : j = kk
            · subst e
              rw [HY.out]
              exact hgt
            · exact AQ.out j (by omega)
    · have hltz : ¬ (kk : Int) < (sides.length : Int) := by omega
      have : kk = sides.length := by omega
      subst this
      have HNA : Aside0 (sides.any (fun v => decide (v.f2 < v.f1)) = false) := ⟨by
        rw [List.any_eq_false]
        intro v hv
        obtain ⟨j, hj, rfl⟩ := List.getElem_of_mem hv
        have := AQ.out j hj
        simpa [List.getD, List.getElem?_eq_getElem hj] using this⟩
      have HL : Aside0 (eachL sides conds st k s0 (sides.map (·.f1)) = some s') := ⟨by
        have := HH.out
        unfold eachF at this
        rw [HNA.out] at this
        simpa using this⟩
      clear HNA AQ HH
      rw [initRow_all] at BW
      go_wp2
      go_loopg [7] k (fun gq _ wr => ∃ (s : σ) (x : List Int), Aside0 (gq ≤ k) ∧ Aside0 (x.length = sides.length) ∧ Aside0 (EW w0 w F0 (I true) #[.slice As sides.length cs, .slice Ac conds.length cc] B0 X s x wr) ∧ Aside0 (eachL sides conds st gq s x = some s'))
      case atStart => exact ⟨s0, _, ⟨Nat.le_refl _⟩, ⟨by simp⟩, BW, HL⟩
      case round =>
        clear BW HL hkk hg hlt hltz E0
        obtain ⟨s, x, HK, HX, BW, HL⟩ := hrel
        cases gk with
        | zero => exact absurd HL.out (by simp [eachL])
        | succ k1 =>
          have HIN : Aside0 (affine_inside.f sides conds x = some (insideB sides conds x)) := ⟨by
            unfold affine_inside.f
            rw [if_pos]
            rw [Bool.and_eq_true, decide_eq_true_eq]
            exact ⟨by have := HX.out; omega, HOK.out x HX.out⟩⟩
          have HC1 : Aside0 (Calls Tryz.prog 82 #[.agg #[.slice As sides.length cs, .slice Ac conds.length cc], .slice (some ⟨X, 0, none⟩) sides.length sides.length] wr fun e w' => e = .returned (.bool (insideB sides conds x)) ∧ EW w0 w F0 (I true) #[.slice As sides.length cs, .slice Ac conds.length cc] B0 X s x w') := ⟨by
            have hrd := BW.out.row.reads (by have := HX.out; omega)
            have hx := HX.out
            have hc := affine_inside.calls As cs sides Ac cc conds (some ⟨X, 0, none⟩) x.length x _ wr (Kd.C_below HS.out BW.out.base) hcs (Kd.C_below HCc.out BW.out.base) hcc hrd (Nat.le_refl _) HIN.out
            rw [hx] at hc
            exact hc.mono fun e w' ⟨he, hb⟩ => ⟨he, BW.out.below HSY.out hb⟩⟩
          have e0 : wr.cell? ⟨B0, 0, none⟩ = some (.slice As sides.length cs) := (blk_cell BW.out.box 0).trans rfl
          have e1 : wr.cell? ⟨B0, 1, none⟩ = some (.slice Ac conds.length cc) := (blk_cell BW.out.box 1).trans rfl
          have HL2 := HL.out
          unfold eachL at HL2
          cases hin : insideB sides conds x with
          | false =>
            rw [hin] at HC1 HL2
            have HN : Aside0 ((nextOdo sides x).elim (some s) (fun x' => eachL sides conds st k1 s x') = some s') := ⟨by simpa using HL2⟩
            clear hin HL2 HIN HL
            go_wp2_with (go_at_call 82; refine HC1.out.mono ?_; rintro e w' ⟨rfl, HE0⟩)
            have HE := Aside0.mk HE0
            clear HE0 e0 e1 HC1 BW
            go_loopg [7] sides.length (fun gg s7 wr2 => ∃ (j : Nat) (q : Int), j ≤ sides.length ∧ j ≤ gg ∧ s7 = .int .i64 q ∧ q + 1 = j ∧ Aside0 (EW w0 w F0 (I true) #[.slice As sides.length cs, .slice Ac conds.length cc] B0 X s (x.take j ++ (sides.map (·.f1)).drop j) wr2) ∧ Aside0 (nextOdo (sides.drop j) (x.drop j) = none))
            case atStart => exact ⟨sides.length, (sides.length : Int) - 1, Nat.le_refl _, Nat.le_refl _, by first | rfl | (simp; done), by omega, ⟨by have := HX.out; rw [List.take_of_length_le (by omega), List.drop_of_length_le (by simp), List.append_nil]; exact HE.out⟩, ⟨by have := HX.out; rw [List.drop_of_length_le (by omega), List.drop_of_length_le (by omega)]; rfl⟩⟩
            case round =>
              obtain ⟨j, q, hj, hjg, rfl, hq, BE, BN⟩ := hrel
              cases j with
              | zero =>
                obtain rfl : q = -1 := by omega
                have e0 := (blk_cell BE.out.box 0).trans rfl
                have e1 := (blk_cell BE.out.box 1).trans rfl
                go_wp2
                go_quiet (fail)
                go_wp2
                refine bodyPost_ret (results_none rfl _ _ _) rfl ⟨rfl, ?_⟩
                have HN2 := HN.out
                rw [show nextOdo sides x = none from by simpa using BN.out] at HN2
                obtain rfl := Option.some.inj HN2
                exact (BE.out.below HSY.out (pw_below_drewN (Below.refl _ _) _)).imp HIJ.out |>.finish
              | succ i =>
                obtain rfl : q = (i : Int) := by omega
                have hil : i < x.length := by have := HX.out; omega
                have hsl : (i : Int) < (sides.length : Int) := by omega
                have e0 : wr.cell? ⟨B0, 0, none⟩ = some (.slice As sides.length cs) := (blk_cell BE.out.box 0).trans rfl
                have e1 : wr.cell? ⟨B0, 1, none⟩ = some (.slice Ac conds.length cc) := (blk_cell BE.out.box 1).trans rfl
                have hlen : (x.take (i + 1) ++ (sides.map (·.f1)).drop (i + 1)).length = sides.length := by have := HX.out; simp; omega
                have hrow := BE.out.row.cell i (by rw [hlen]; omega)
                have hfz := BE.out.row.frozen i
                have hgd : (x.take (i + 1) ++ (sides.map (·.f1)).drop (i + 1)).getD i 0 = x.getD i 0 := by
                  rw [List.getD_eq_getElem?_getD, List.getD_eq_getElem?_getD, List.getElem?_append_left (by simp; omega), List.getElem?_take_of_lt (by omega)]
                rw [hgd] at hrow
                obtain ⟨ad0, e, hs0, hs1, hs2⟩ := at_T77 HS.out (i : Int) (by omega) (by omega)
                cases e
                replace hs1 := pw_cell_below BE.out.base hs1
                replace hs2 := pw_cell_below BE.out.base hs2
                clear hs0 hlen hgd
                simp only [Int.toNat_natCast] at hs1 hs2
                have HAT := Aside0.mk (nextOdo_at i sides x (by have := HX.out; omega) hil BN.out)
                have HY : Aside0 (sides.getD i z77 = rd_T77 sides (i : Int)) := ⟨rfl⟩
                have HXI : Aside0 (x.take i ++ [x.getD i 0] ++ (sides.map (·.f1)).drop (i + 1) = x.take (i + 1) ++ (sides.map (·.f1)).drop (i + 1)) := ⟨by
                  rw [List.take_succ_eq_append_getElem hil]
                  simp [List.getD, List.getElem?_eq_getElem hil]⟩
                generalize rd_T77 sides (i : Int) = y at *
                obtain ⟨y0, y1, y2⟩ := y
                have HLD : Aside0 (y1 :: (sides.map (·.f1)).drop (i + 1) = (sides.map (·.f1)).drop i) := ⟨by
                  rw [List.drop_eq_getElem_cons (show i < (sides.map (·.f1)).length by simp; omega)]
                  have e := congrArg S77.f1 HY.out
                  simp only [List.getD, List.getElem?_eq_getElem (show i < sides.length by omega), Option.getD_some] at e
                  simp [e]⟩
                by_cases heq : x.getD i 0 = y2
                · have HNX : Aside0 (nextOdo (sides.drop i) (x.drop i) = none) := ⟨by rw [HAT.out, HY.out]; exact if_pos heq⟩
                  have hbeq : (x.getD i 0 == y2) = true := beq_iff_eq.2 heq
                  have HEQ := Aside0.mk heq
                  clear heq HAT
                  generalize x.getD i 0 = xi at *
                  go_wp2
                  go_quiet (fail)
                  go_wp2
                  go_roundg i
                  case measure => omega
                  case rel =>
                    refine ⟨i, (i : Int) - 1, by omega, Nat.le_refl _, by first | rfl | (simp; done), by omega, ⟨?_⟩, HNX⟩
                    rw [← HLD.out, ← row_set x _ i _ hil]
                    exact (BE.out.below HSY.out (pw_below_drewN (Below.refl _ _) _)).setRow HSY.out (by have := HB0.out; omega) (by have := HB0.out; omega) hne _ _
                · have HNX : Aside0 (nextOdo sides x = some (x.take i ++ (wrap64 (x.getD i 0 + 1) :: (sides.map (·.f1)).drop (i + 1)))) := ⟨by
                    refine nextOdo_some i sides x _ (by have := HX.out; omega) (by omega) ?_
                    rw [HAT.out, HY.out, if_neg heq]
                    simp⟩
                  have hbeq : (x.getD i 0 == y2) = false := beq_eq_false_iff_ne.2 heq
                  clear heq HAT HXI
                  generalize x.getD i 0 = xi at *
                  go_wp2
                  go_quiet (fail)
                  go_wp2
                  go_roundg k1
                  case measure => omega
                  case rel =>
                    refine ⟨s, x.take i ++ (wrap64 (xi + 1) :: (sides.map (·.f1)).drop (i + 1)), ⟨by have := HK.out; omega⟩, ⟨by have := HX.out; simp; omega⟩, ⟨?_⟩, ⟨by have h2 := HN.out; rw [HNX.out] at h2; exact h2⟩⟩
                    rw [← row_set x _ i _ hil]
                    exact (BE.out.below HSY.out (pw_below_drewN (Below.refl _ _) _)).setRow HSY.out (by have := HB0.out; omega) (by have := HB0.out; omega) hne _ _
          | true =>
            rw [hin] at HC1 HL2
            simp only [if_true] at HL2
            have HEN : Aside0 (Ends sides conds st s' (st s x).2) := ⟨by
              have h0 := HL2
              by_cases h1 : (st s x).1 = true
              · rw [if_pos h1] at h0
                cases hn : nextOdo sides x with
                | none => rw [hn] at h0; exact .inl (by simpa using h0)
                | some x' => rw [hn] at h0; exact .inr ⟨_, x', by simpa using h0⟩
              · rw [if_neg h1] at h0
                exact .inl (by simpa using h0)⟩
            have HS2 : Aside0 (∀ w', EW w0 w F0 (I true) #[.slice As sides.length cs, .slice Ac conds.length cc] B0 X s x w' → Calls Tryz.prog g (#[.slice (some ⟨X, 0, none⟩) sides.length sides.length] ++ lb) w' fun e w' => e = .returned (.bool (st s x).1) ∧ EW w0 w F0 (I (st s x).1) #[.slice As sides.length cs, .slice Ac conds.length cc] B0 X (st s x).2 x w') := ⟨fun w' hE => by
              have hc := hE.step (HST.out s x HX.out hin HEN.out) (by have := HB0.out; omega) HF.out
              rw [HX.out] at hc
              exact hc⟩
            cases hb : (st s x).1 with
            | false =>
              rw [hb] at HL2 HS2
              have HN : Aside0 ((st s x).2 = s') := ⟨by simpa using HL2⟩
              clear hin HL2 HIN HL hb
              go_wp2_with (first | (go_at_call 82; refine HC1.out.mono ?_; rintro e w' ⟨rfl, HE0⟩) | (go_at_fn g; refine (HS2.out _ (by assumption)).mono ?_; rintro e w' ⟨rfl, HE1⟩))
              refine bodyPost_ret (results_none rfl _ _ _) rfl ⟨rfl, ?_⟩
              have h2 := HN.out
              subst h2
              exact HE1.finish
            | true =>
              rw [hb] at HL2 HS2
              have HN : Aside0 ((nextOdo sides x).elim (some (st s x).2) (fun x' => eachL sides conds st k1 (st s x).2 x') = some s') := ⟨by simpa using HL2⟩
              clear hin HL2 HIN HL hb
              go_wp2_with (first | (go_at_call 82; refine HC1.out.mono ?_; rintro e w' ⟨rfl, HE0⟩) | (go_at_fn g; refine (HS2.out _ (by assumption)).mono ?_; rintro e w' ⟨rfl, HE1⟩))
              have HE := Aside0.mk HE1
              clear HE1 e0 e1 HC1 BW
              go_loopg [7] sides.length (fun gg s7 wr2 => ∃ (j : Nat) (q : Int), j ≤ sides.length ∧ j ≤ gg ∧ s7 = .int .i64 q ∧ q + 1 = j ∧ Aside0 (EW w0 w F0 (I true) #[.slice As sides.length cs, .slice Ac conds.length cc] B0 X (st s x).2 (x.take j ++ (sides.map (·.f1)).drop j) wr2) ∧ Aside0 (nextOdo (sides.drop j) (x.drop j) = none))
              case atStart => exact ⟨sides.length, (sides.length : Int) - 1, Nat.le_refl _, Nat.le_refl _, by first | rfl | (simp; done), by omega, ⟨by have := HX.out; rw [List.take_of_length_le (by omega), List.drop_of_length_le (by simp), List.append_nil]; exact HE.out⟩, ⟨by have := HX.out; rw [List.drop_of_length_le (by omega), List.drop_of_length_le (by omega)]; rfl⟩⟩
              case round =>
                obtain ⟨j, q, hj, hjg, rfl, hq, BE, BN⟩ := hrel
                cases j with
                | zero =>
                  obtain rfl : q = -1 := by omega
                  have e0 := (blk_cell BE.out.box 0).trans rfl
                  have e1 := (blk_cell BE.out.box 1).trans rfl
                  go_wp2
                  go_quiet (fail)
                  go_wp2
                  refine bodyPost_ret (results_none rfl _ _ _) rfl ⟨rfl, ?_⟩
                  have HN2 := HN.out
                  rw [show nextOdo sides x = none from by simpa using BN.out] at HN2
                  obtain rfl := Option.some.inj HN2
                  exact (BE.out.below HSY.out (pw_below_drewN (Below.refl _ _) _)).imp HIJ.out |>.finish
                | succ i =>
                  obtain rfl : q = (i : Int) := by omega
                  have hil : i < x.length := by have := HX.out; omega
                  have hsl : (i : Int) < (sides.length : Int) := by omega
                  have e0 : wr.cell? ⟨B0, 0, none⟩ = some (.slice As sides.length cs) := (blk_cell BE.out.box 0).trans rfl
                  have e1 : wr.cell? ⟨B0, 1, none⟩ = some (.slice Ac conds.length cc) := (blk_cell BE.out.box 1).trans rfl
                  have hlen : (x.take (i + 1) ++ (sides.map (·.f1)).drop (i + 1)).length = sides.length := by have := HX.out; simp; omega
                  have hrow := BE.out.row.cell i (by rw [hlen]; omega)
                  have hfz := BE.out.row.frozen i
                  have hgd : (x.take (i + 1) ++ (sides.map (·.f1)).drop (i + 1)).getD i 0 = x.getD i 0 := by
                    rw [List.getD_eq_getElem?_getD, List.getD_eq_getElem?_getD, List.getElem?_append_left (by simp; omega), List.getElem?_take_of_lt (by omega)]
                  rw [hgd] at hrow
                  obtain ⟨ad0, e, hs0, hs1, hs2⟩ := at_T77 HS.out (i : Int) (by omega) (by omega)
                  cases e
                  replace hs1 := pw_cell_below BE.out.base hs1
                  replace hs2 := pw_cell_below BE.out.base hs2
                  clear hs0 hlen hgd
                  simp only [Int.toNat_natCast] at hs1 hs2
                  have HAT := Aside0.mk (nextOdo_at i sides x (by have := HX.out; omega) hil BN.out)
                  have HY : Aside0 (sides.getD i z77 = rd_T77 sides (i : Int)) := ⟨rfl⟩
                  have HXI : Aside0 (x.take i ++ [x.getD i 0] ++ (sides.map (·.f1)).drop (i + 1) = x.take (i + 1) ++ (sides.map (·.f1)).drop (i + 1)) := ⟨by
                    rw [List.take_succ_eq_append_getElem hil]
                    simp [List.getD, List.getElem?_eq_getElem hil]⟩
                  generalize rd_T77 sides (i : Int) = y at *
                  obtain ⟨y0, y1, y2⟩ := y
                  have HLD : Aside0 (y1 :: (sides.map (·.f1)).drop (i + 1) = (sides.map (·.f1)).drop i) := ⟨by
                    rw [List.drop_eq_getElem_cons (show i < (sides.map (·.f1)).length by simp; omega)]
                    have e := congrArg S77.f1 HY.out
                    simp only [List.getD, List.getElem?_eq_getElem (show i < sides.length by omega), Option.getD_some] at e
                    simp [e]⟩
                  by_cases heq : x.getD i 0 = y2
                  · have HNX : Aside0 (nextOdo (sides.drop i) (x.drop i) = none) := ⟨by rw [HAT.out, HY.out]; exact if_pos heq⟩
                    have hbeq : (x.getD i 0 == y2) = true := beq_iff_eq.2 heq
                    have HEQ := Aside0.mk heq
                    clear heq HAT
                    generalize x.getD i 0 = xi at *
                    go_wp2
                    go_quiet (fail)
                    go_wp2
                    go_roundg i
                    case measure => omega
                    case rel =>
                      refine ⟨i, (i : Int) - 1, by omega, Nat.le_refl _, by first | rfl | (simp; done), by omega, ⟨?_⟩, HNX⟩
                      rw [← HLD.out, ← row_set x _ i _ hil]
                      exact (BE.out.below HSY.out (pw_below_drewN (Below.refl _ _) _)).setRow HSY.out (by have := HB0.out; omega) (by have := HB0.out; omega) hne _ _
                  · have HNX : Aside0 (nextOdo sides x = some (x.take i ++ (wrap64 (x.getD i 0 + 1) :: (sides.map (·.f1)).drop (i + 1)))) := ⟨by
                      refine nextOdo_some i sides x _ (by have := HX.out; omega) (by omega) ?_
                      rw [HAT.out, HY.out, if_neg heq]
                      simp⟩
                    have hbeq : (x.getD i 0 == y2) = false := beq_eq_false_iff_ne.2 heq
                    clear heq HAT HXI
                    generalize x.getD i 0 = xi at *
                    go_wp2
                    go_quiet (fail)
                    go_wp2
                    go_roundg k1
                    case measure => omega
                    case rel =>
                      refine ⟨(st s x).2, x.take i ++ (wrap64 (xi + 1) :: (sides.map (·.f1)).drop (i + 1)), ⟨by have := HK.out; omega⟩, ⟨by have := HX.out; simp; omega⟩, ⟨?_⟩, ⟨by have h2 := HN.out; rw [HNX.out] at h2; exact h2⟩⟩
                      rw [← row_set x _ i _ hil]
                      exact (BE.out.below HSY.out (pw_below_drewN (Below.refl _ _) _)).setRow HSY.out (by have := HB0.out; omega) (by have := HB0.out; omega) hne _ _
theorem each_calls (k : Nat) (g : Nat) (lb : Array Value) (I : Bool → σ → (Nat → Prop) → World → Prop) (st : σ → List Int → Bool × σ) (sides : List S77) (conds : List S33) (As Ac : Option Addr) (cs cc : Nat) (s0 s' : σ) (F0 : Nat → Prop) (w0 w : World)
    (hs : Kd.C k77 w0 As sides.length sides) (hcs : sides.length ≤ cs) (hc : Kd.C k33 w0 Ac conds.length conds) (hcc : conds.length ≤ cc)
    (hB : Below w0.heap.size w0 w) (hI : I true s0 F0 w) (hF : ∀ k, F0 k → w0.heap.size ≤ k) (hst : EachStep w0 g lb I st sides.length) (hstay : EachStays (I true)) (hIJ : ∀ s F W, I true s F W → I false s F W)
    (eg : ∀ args w, (callFunc g args).run Tryz.prog w = .ok (.enter g args) w) (hm : sides.length ≤ 8) (hok : ∀ x : List Int, x.length = sides.length → okConds sides x conds = true)
    (h : eachF k sides conds st s0 = some s') :
    Calls Tryz.prog 53 #[.agg #[.slice As sides.length cs, .slice Ac conds.length cc], .func (.func g) #[] lb] w fun e w' => e = .returned (.tuple #[]) ∧ ∃ F', I false s' F' w' ∧ (∀ k, F' k → F0 k ∨ w.heap.size ≤ k) ∧ Kept w w' F0 ∧ Below w0.heap.size w0 w' :=
  each_callsB k g lb I st sides conds As Ac cs cc s0 s' F0 w0 w hs hcs hc hcc hB hI hF (fun s x hx _ _ => hst.at_ s x hx) hstay hIJ eg hm hok h
end
def okSet (sides : List S77) (conds : List S33) : Bool := decide (sides.length ≤ 8) && okConds sides (sides.map (·.f1)) conds
theorem okSet_all {sides : List S77} {conds : List S33} (h : okSet sides conds = true) : sides.length ≤ 8 ∧ ∀ x : List Int, x.length = sides.length → okConds sides x conds = true := by
  unfold okSet at h
  rw [Bool.and_eq_true, decide_eq_true_eq] at h
  refine ⟨h.1, fun x hx => ?_⟩
  have h2 := h.2
  unfold okConds at h2 ⊢
  rw [hx]
  rw [List.length_map] at h2
  exact h2
theorem count1_calls (Bn : Nat) (n : Int) (A : Option Addr) (m c : Nat) (W : World) (hb : W.heap[Bn]? = some (.cells #[.int .i64 n] 3 (0, 0))) :
    Calls Tryz.prog 128 #[.slice A m c, .pointer (some ⟨Bn, 0, none⟩)] W fun e w' => e = .returned (.bool true) ∧ w' = W.setCell ⟨Bn, 0, none⟩ (.int .i64 (wrap64 (n + 1))) := by
  have h0 : W.cell? ⟨Bn, 0, none⟩ = some (.int .i64 n) := (blk_cell hb 0).trans rfl
  have h1 := blk_frozen hb 0
  go_enter Tryz.func128, Tryz.ntmps128
  go_wp2
  go_ret
  exact ⟨rfl, rfl⟩
def ICount (Bn : Nat) (n : Int) (F : Nat → Prop) (W : World) : Prop := (∀ k, F k → k = Bn) ∧ F Bn ∧ W.heap[Bn]? = some (.cells #[.int .i64 n] 3 (0, 0))
def stCount (n : Int) (x : List Int) : Bool × Int := (true, wrap64 (n + 1))
theorem count_stays (Bn : Nat) : EachStays (ICount Bn) :=
  ⟨fun n F W W' ⟨h1, h2, h3⟩ _ hs => ⟨h1, h2, (hs Bn h2).trans h3⟩, fun n F W ⟨h1, h2, h3⟩ k hk => by rw [h1 k hk]; exact blk_lt h3⟩
theorem count_step (w0 : World) (Bn m : Nat) : EachStep w0 128 #[.pointer (some ⟨Bn, 0, none⟩)] (fun _ => ICount Bn) stCount m := by
  intro W n F X x ⟨h1, h2, h3⟩ hF hB hX hnX hx
  refine (count1_calls Bn n _ _ _ W h3).mono fun e w' ⟨he, hw⟩ => ⟨he, F, ⟨h1, h2, ?_⟩, fun k hk => .inl hk, ?_, ?_⟩
  · rw [hw, blk_set h3 0]
    rfl
  · rw [hw]
    exact (Kept.refl W F).setCell (.inl h2) _
  · rw [hw]
    exact hB.setCell (hF Bn h2) _
def affine_Count.f (k : Nat) (l0_0 : List S77) (l0_1 : List S33) : Option (Int × Int) :=
  (affine_CheckSet.f k l0_0 l0_1).bind fun e => if e = 0 then (if okSet l0_0 l0_1 = true then (eachF k l0_0 l0_1 stCount 0).bind fun n => some (n, 0) else none) else some (0, e)
set_option maxHeartbeats 4000000 in
theorem affine_Count.calls (k : Nat) (A0_0 : Option Addr) (c0_0 : Nat) (l0_0 : List S77) (A0_1 : Option Addr) (c0_1 : Nat) (l0_1 : List S33) (r1 : Int) (r2 : Int) (w : World) (hr0_0 : Kd.C k77 w A0_0 l0_0.length l0_0) (hc0_0 : l0_0.length ≤ c0_0) (hr0_1 : Kd.C k33 w A0_1 l0_1.length l0_1) (hc0_1 : l0_1.length ≤ c0_1) (h : affine_Count.f k l0_0 l0_1 = some (r1, r2)) :
    Calls Tryz.prog 73 #[.agg #[.slice A0_0 l0_0.length c0_0, .slice A0_1 l0_1.length c0_1]] w fun e w' => e = .returned (.tuple #[.int .i64 r1, .int .i64 r2]) ∧ Below w.heap.size w w' := by
  have HS := Aside0.mk hr0_0
  have HCc := Aside0.mk hr0_1
  clear hr0_0 hr0_1
  unfold affine_Count.f at h
  obtain ⟨e, he, h⟩ := Option.bind_eq_some_iff.1 h
  have HCK := Aside0.mk he
  clear he
  by_cases e0 : e = 0
  · rw [if_pos e0] at h
    subst e0
    by_cases hok : okSet l0_0 l0_1 = true
    · rw [if_pos hok] at h
      obtain ⟨n, hn, h⟩ := Option.bind_eq_some_iff.1 h
      have HN := Aside0.mk hn
      have HOK := Aside0.mk (okSet_all hok)
      clear hn hok
      simp only [Option.some.injEq, Prod.mk.injEq] at h
      obtain ⟨rfl, rfl⟩ := h
      have eg := enters_of Tryz.func128 (by kernel_rfl) rfl
      go_enter Tryz.func73, Tryz.ntmps73
      go_wp2_with (first | (go_at_call 51; refine (affine_CheckSet.calls k _ _ l0_0 _ _ l0_1 0 _ (Kd.C_below HS.out (below_alloc (Below.refl _ _) _)) hc0_0 (Kd.C_below HCc.out (below_alloc (Below.refl _ _) _)) hc0_1 HCK.out).mono ?_; rintro e w1 ⟨rfl, hb⟩; have z0 : w1.cell? ⟨w.heap.size, 0, none⟩ = some (.slice A0_0 l0_0.length c0_0) := (blk_cell (blk_below (blk_new w _) hb) 0).trans rfl; have z1 : w1.cell? ⟨w.heap.size, 1, none⟩ = some (.slice A0_1 l0_1.length c0_1) := (blk_cell (blk_below (blk_new w _) hb) 1).trans rfl; have zl := blk_lt (blk_below (blk_new w _) hb); have HB := Aside0.mk (below_step (below_alloc (Below.refl w.heap.size w) _) hb); clear hb) | (go_at_call 53; refine (each_calls k 128 _ (fun _ => ICount w1.heap.size) stCount l0_0 l0_1 _ _ _ _ 0 n (fun b => b = w1.heap.size) w _ HS.out hc0_0 HCc.out hc0_1 (below_alloc HB.out _) ⟨fun _ hk => hk, rfl, blk_new _ _⟩ (fun b hk => by have h2 := HB.out.size; omega) (count_step w w1.heap.size _) (count_stays _) (fun _ _ _ h => h) eg HOK.out.1 HOK.out.2 HN.out).mono ?_; rintro e w2 ⟨rfl, F', ⟨i1, i2, i3⟩, i4, i5, i6⟩; have z3 : w2.cell? ⟨w1.heap.size, 0, none⟩ = some (.int .i64 n) := (blk_cell i3 0).trans rfl))
      go_ret2
      exact ⟨rfl, i6⟩
    · rw [if_neg hok] at h
      exact absurd h (by simp)
  · rw [if_neg e0] at h
    simp only [Option.some.injEq, Prod.mk.injEq] at h
    obtain ⟨rfl, rfl⟩ := h
    have e1 : (e != 0) = true := bne_iff_ne.2 e0
    go_enter Tryz.func73, Tryz.ntmps73
    go_wp2_with (go_at_call 51; refine (affine_CheckSet.calls k _ _ l0_0 _ _ l0_1 e _ (Kd.C_below HS.out (below_alloc (Below.refl _ _) _)) hc0_0 (Kd.C_below HCc.out (below_alloc (Below.refl _ _) _)) hc0_1 HCK.out).mono ?_; rintro e w1 ⟨rfl, hb⟩)
    go_ret2
    exact ⟨rfl, below_step (below_alloc (Below.refl _ _) _) hb⟩
set_option maxHeartbeats 2000000 in
theorem Clone_ints (ad : Addr) (c : Nat) (xs : List Int) (w : World) (hr : Kd.C (Kd.int .i64) w (some ad) xs.length xs) (hl : xs.length * 8 ≤ 140737488355328) :
    Calls Tryz.prog 95 #[.slice (some ad) xs.length c] w fun e w' => ∃ v : Value, e = .returned v ∧ Kd.R (Kd.int .i64) 3 w' w.heap.size (fun _ => True) v xs ∧ Below w.heap.size w w' := by
  have HR := Aside0.mk hr
  have HL := Aside0.mk hl
  clear hr hl
  have hq : ∀ W : World, (binOp .eql 22 (.slice (some ad) xs.length c) (.slice none 0 0)).run Tryz.prog W = .ok (.bool false) W := fun W => Lib.run_eql_slice_nil W 22 3 _ _ _ _ _ Tryz.underlying22
  go_enter Tryz.func95, Tryz.ntmps95
  go_wp2_with (first | ((with_reducible refine gate_dst (N := 5) rfl ?_); refine Kd.R_lit (Kd.int .i64) w.heap.size 3 ?hg (N := 5) ?hd (xs := ([] : List Int)) (inner := []) (ok := fun _ => True) (okp := fun _ => True) ?hr ?hp (fun _ hk => hk) trivial (Below.refl _ _) (Nat.le_refl _) (by simp) ?_; (case hd => rfl); (case hg => rfl); (case hr => first | (go_simp; done) | (go_simp; rfl)); (case hp => exact Reps.none _ _); intro v1 w1 HO HB hg hat; have HOA := Aside0.mk HO; have HBA := Aside0.mk HB; clear HO HB hg hat) | (at_builtin; refine Kd.R_append_row (Value.int .i64) (0 : Int) (h1 := fun _ => rfl) w.heap.size rfl (.tmp 5) (.tmp 6) 22 3 (.int .i64 0) 8 rfl Tryz.underlying22 info3 rfl (by decide) v1 [] xs (some ad) xs.length c (fun _ => True) rfl rfl (fun _ _ => trivial) HOA.out (Kd.C_below HR.out HBA.out) HBA.out HBA.out.size (by have := HL.out; simpa using this) ?_; intro v2 w2 HO2 HB2 hg hat; have HOB := Aside0.mk HO2; have HBB := Aside0.mk HB2; clear HO2 HB2 hg hat))
  go_ret
  exact ⟨v2, rfl, HOB.out, HBB.out⟩
theorem info22 : (Tryz.prog.info? 22).map (fun i => (i.zero, i.size, i.bytes)) = some (some (.slice none 0 0), 1, 24) := by kernel_rfl
def INs (Bo base : Nat) (s : List (List Int)) (F : Nat → Prop) (W : World) : Prop :=
  F Bo ∧ (∀ k, F k → k < W.heap.size) ∧ ∃ v : Value, W.heap[Bo]? = some (.cells #[v] 48 (0, 0)) ∧ Kd.N (Kd.slice 3 (Kd.int .i64)) 22 W base (fun k => F k ∧ k ≠ Bo) v s
theorem Ns_stays (Bo base : Nat) : EachStays (INs Bo base) :=
  ⟨fun s F W W' ⟨h2, h4, v, h5, h7⟩ hle hs => ⟨h2, fun k hk => Nat.lt_of_lt_of_le (h4 k hk) hle, v, (hs Bo h2).trans h5, Kd.N_step h7 (fun k hk _ => hs k hk.1)⟩, fun s F W ⟨h2, h4, _⟩ k hk => h4 k hk⟩
theorem Ns_set {Bo base : Nat} {s : List (List Int)} {F : Nat → Prop} {W w1 : World} {v : Value} {s' : List (List Int)} (h : INs Bo base s F W) (hk : Kept W w1 (fun k => F k ∧ k ≠ Bo))
    (hR : Kd.N (Kd.slice 3 (Kd.int .i64)) 22 w1 base (fun k => (F k ∧ k ≠ Bo) ∨ W.heap.size ≤ k) v s') :
    ∃ F', INs Bo base s' F' (w1.setCell ⟨Bo, 0, none⟩ v) ∧ (∀ k, F' k → F k ∨ W.heap.size ≤ k) ∧ Kept W (w1.setCell ⟨Bo, 0, none⟩ v) F := by
  obtain ⟨h2, h4, u, h5, h7⟩ := h
  have hsz : (w1.setCell ⟨Bo, 0, none⟩ v).heap.size = w1.heap.size := by simp [World.setCell]
  have b5 : w1.heap[Bo]? = some (.cells #[u] 48 (0, 0)) := (hk.2 Bo (blk_lt h5) (fun h => h.2 rfl)).trans h5
  refine ⟨fun k => F k ∨ (W.heap.size ≤ k ∧ k < w1.heap.size), ⟨.inl h2, fun k hk' => ?_, v, blk_put b5 0 v rfl, ?_⟩, fun k hk' => hk'.imp id And.left, ?_⟩
  · rw [hsz]
    exact hk'.elim (fun h => Nat.lt_of_lt_of_le (h4 k h) hk.1) And.right
  · have hR3 : Kd.N (Kd.slice 3 (Kd.int .i64)) 22 w1 base (fun k => (F k ∨ (W.heap.size ≤ k ∧ k < w1.heap.size)) ∧ k ≠ Bo) v s' := Kd.N_mono (Kd.N_bound hR) (fun k hk' => by
      obtain ⟨ho, hl⟩ := hk'
      rcases ho with ho | ho
      · exact ⟨.inl ho.1, ho.2⟩
      · have l5 := blk_lt h5
        exact ⟨.inr ⟨ho, hl⟩, by omega⟩)
    exact Kd.N_far (p := ⟨Bo, 0, none⟩) hR3 (fun k hk' => hk'.2) _
  · exact (hk.mono (fun k h => h.1)).setCell (.inl h2) _
end Go.Proofs.YtjgakaembhmhpaaGreatDoor.PA
