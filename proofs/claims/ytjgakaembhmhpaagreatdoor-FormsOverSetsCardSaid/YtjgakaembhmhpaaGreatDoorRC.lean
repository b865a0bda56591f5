/- Part of the proof of FormsOverSets (the walk: images); what it proves holds without further conditions. -/
import Derived.Deep.RegionLaw
import Derived.Shelf.SlSortCmp.NoneTotal
import Derived.Test.YtjgakaembhmhpaaGreatDoorRF
import Derived.Test.YtjgakaembhmhpaaGreatDoorSA
set_option linter.unusedVariables false
set_option linter.unusedSimpArgs false
namespace Go.Proofs.YtjgakaembhmhpaaGreatDoor.PA
open Go.RowKit Go.Proofs.YtjgakaembhmhpaaGreatDoorW.PrintWords Go.Proofs.YtjgakaembhmhpaaGreatDoorW.PrintLast Go.Proofs.YtjgakaembhmhpaaGreatDoorW.PrintMore Go.Proofs.YtjgakaembhmhpaaGreatDoorM
theorem sort_says : SortSays := fun W g cap d hH hg hl => by
  have eg : ∀ args w, (callFunc 62 args).run Tryz.prog w = .ok (.enter 62 args) w := enters_of Tryz.func62 (by kernel_rfl) rfl
  have hcon := Any.slices_SortFunc Tryz.sortI (encR (w := W) (g := g)) (fun _ => rfl) cmpR (swoR W g) 62 #[] g 0 cap d W eg (cmpR_lays W g d.size) hH hg hl
  change Calls Tryz.prog 61 _ _ _ at hcon
  exact hcon
def rowsOf (l0 : List S77) (L : List S33) (P : List (List Int)) : List (List Int) := P.map fun x => L.map fun f => refVal l0 x f
structure TabF (L : List S33) (AF : Option Addr) (cF : Nat) (w : World) : Prop where
  rd : Kd.C k33 w AF L.length L
  cap : L.length ≤ cF
  few : L.length ≤ 1000
theorem TabF.below {L : List S33} {AF : Option Addr} {cF : Nat} {w w' : World} (h : TabF L AF cF w) (hb : Below w.heap.size w w') : TabF L AF cF w' := ⟨Kd.C_below h.rd hb, h.cap, h.few⟩
structure OutW (w1 : World) (O : Nat → Prop) (v : Value) (xs : List (List Int)) (W : World) : Prop where
  n : Kd.N (Kd.slice 3 KI) 22 W w1.heap.size O v xs
  ge : ∀ k, O k → w1.heap.size ≤ k ∧ k < W.heap.size
  b : Below w1.heap.size w1 W
theorem OutW.below {w1 : World} {O : Nat → Prop} {v : Value} {xs : List (List Int)} {W W' : World} (h : OutW w1 O v xs W) (hb : Below W.heap.size W W') : OutW w1 O v xs W' :=
  ⟨Kd.N_below h.n hb, fun k hk => ⟨(h.ge k hk).1, Nat.lt_of_lt_of_le (h.ge k hk).2 hb.size⟩, below_step h.b hb⟩
structure RowW (w1 : World) (O R : Nat → Prop) (v u : Value) (xs : List (List Int)) (ys : List Int) (W : World) : Prop where
  o : OutW w1 O v xs W
  n : Kd.N KI 3 W w1.heap.size R u ys
  ge : ∀ k, R k → w1.heap.size ≤ k ∧ k < W.heap.size
  ap : ∀ k, O k → ¬ R k
theorem RowW.below {w1 : World} {O R : Nat → Prop} {v u : Value} {xs : List (List Int)} {ys : List Int} {W W' : World} (h : RowW w1 O R v u xs ys W) (hb : Below W.heap.size W W') : RowW w1 O R v u xs ys W' :=
  ⟨h.o.below hb, Kd.N_below h.n hb, fun k hk => ⟨(h.ge k hk).1, Nat.lt_of_lt_of_le (h.ge k hk).2 hb.size⟩, h.ap⟩
theorem RowW.put {w1 : World} {O R : Nat → Prop} {v u u' : Value} {xs : List (List Int)} {ys ys' : List Int} {W W' : World} (h : RowW w1 O R v u xs ys W) (hn : Kd.N KI 3 W' w1.heap.size (fun k => R k ∨ W.heap.size ≤ k) u' ys') (hb : Below w1.heap.size w1 W') (hg : W.grownBy W' u.ownBlock) :
    RowW w1 O (fun k => (R k ∨ W.heap.size ≤ k) ∧ k < W'.heap.size) v u' xs ys' W' := by
  have hsz : W.heap.size ≤ W'.heap.size := hg.size
  refine ⟨⟨Kd.N_grown h.o.n hg (fun k hk e => h.ap k hk (h.n.1 k e.symm)), fun k hk => ⟨(h.o.ge k hk).1, Nat.lt_of_lt_of_le (h.o.ge k hk).2 hsz⟩, hb⟩, Kd.N_bound hn, fun k hk => ⟨?_, hk.2⟩, fun k hk hr => ?_⟩
  · rcases hk.1 with a | a
    · exact (h.ge k a).1
    · exact Nat.le_trans h.o.b.size a
  · rcases hr.1 with a | a
    · exact h.ap k hk a
    · have := (h.o.ge k hk).2
      omega
theorem RowW.start {w1 : World} {O : Nat → Prop} {v : Value} {xs : List (List Int)} {W : World} (h : OutW w1 O v xs W) : RowW w1 O (fun _ => False) v (.slice none 0 0) xs [] W :=
  ⟨h, Kd.N_nil _ _ _ _ _, fun k hk => hk.elim, fun k _ hk => hk⟩
theorem sort_none (p : Option Addr) (cap : Nat) (fv : Value) (w : World) : Calls Tryz.prog 61 #[.slice p 0 cap, fv] w fun e w' => e = .returned (.tuple #[]) ∧ w' = w := by
  have hcon := AnyF.slices_SortFunc_none (P := Tryz.prog) (ρ := Tryz.sortI_ren) { Tryz.sortI with } p cap fv w
  change Calls Tryz.prog 61 _ _ _ at hcon
  exact hcon
theorem compact_none (p : Option Addr) (cap : Nat) (fv : Value) (w : World) : Calls Tryz.prog 125 #[.slice p 0 cap, fv] w fun e w' => e = .returned (.slice p 0 cap) ∧ w' = w := by
  go_enter Tryz.func125, Tryz.ntmps125
  go_wp2
  go_ret
  exact ⟨rfl, rfl⟩
theorem squash_le : ∀ l : List (List Int), (squash l).length ≤ l.length
  | [] => Nat.le_refl _
  | [x] => Nat.le_refl _
  | x :: y :: t => by
    have ih := squash_le (y :: t)
    unfold squash
    by_cases e : x = y
    · rw [if_pos e]; exact Nat.le_trans ih (Nat.le_succ _)
    · rw [if_neg e, List.length_cons, List.length_cons]; exact Nat.succ_le_succ ih
theorem map_take_succ {α β : Type} (h : α → β) (l : List α) {k : Nat} (hk : k < l.length) : (l.take (k + 1)).map h = (l.take k).map h ++ [h l[k]] := by
  rw [List.take_succ_eq_append_getElem hk, List.map_append]
  rfl
set_option maxHeartbeats 4000000 in
set_option maxRecDepth 100000 in
theorem tables_calls {A A' AF : Option Addr} {c c' cF : Nat} {l0 : List S77} {l1 : List S33} {L : List S33} {w : World} (h : SetAt A c l0 A' c' l1 w) (g : TabF L AF cF w) (e0 : setFault l0 l1 = 0) (ho : ∀ f ∈ L, okForm f = true) :
    Calls Tryz.prog 69 #[.agg #[.slice A l0.length c, .slice A' l1.length c'], .slice AF L.length cF] w fun e w' => ∃ (X : Option Addr) (cx : Nat) (zs : List (List Int)), e = .returned (.slice X (squash zs).length cx) ∧ zs.Perm (rowsOf l0 L (ptsOf l0 l1)) ∧ Ris zs ∧ Kd.C (Kd.slice 3 KI) w' X (squash zs).length (squash zs) ∧ Below w.heap.size w w' := by
  have HV := Aside0.mk (valid_of e0)
  have HE := Aside0.mk e0
  have HPM := Aside0.mk (pts_mem HV.out)
  have HPS := Aside0.mk (pts_small HV.out)
  have HA := Aside0.mk h
  have HG := Aside0.mk g
  have HO := Aside0.mk ho
  have hLs := g.few
  have hB1 := Aside0.mk (below_alloc (Below.refl w.heap.size w) (.cells #[.slice A l0.length c, .slice A' l1.length c'] 29))
  have hb1 := Aside0.mk (blk_new w (.cells #[.slice A l0.length c, .slice A' l1.length c'] 29))
  clear h g e0 ho
  go_enter Tryz.func69, Tryz.ntmps69
  go_wp2_with (go_at_call 34; refine (L_pointsIn (HA.out.below hB1.out) HE.out).mono ?_; rintro e w1 ⟨XP, cP, rfl, hCP, hb⟩; have HCP := Aside0.mk hCP; have HB1 := Aside0.mk (below_step hB1.out hb); have HX1 := Aside0.mk (blk_below hb1.out hb); have hmax := Kd.C_max hCP; clear hCP hb)
  generalize hP : ptsOf l0 l1 = P at *
  go_loopg [5, 7, 8, 10, 14, 20] P.length (fun gg s5 _ _ _ s14 _ wr => ∃ (kk : Nat) (O : Nat → Prop) (v : Value), kk ≤ P.length ∧ P.length - kk ≤ gg ∧ s5 = v ∧ s14 = .int .i64 kk ∧ Aside0 (OutW w1 O v (rowsOf l0 L (P.take kk)) wr))
  case atStart => exact ⟨0, fun _ => False, .slice none 0 0, Nat.zero_le _, by omega, rfl, rfl, ⟨Kd.N_nil _ _ _ _ _, fun k hk => hk.elim, Below.refl _ _⟩⟩
  case round =>
    obtain ⟨kk, O, v, hkk, hg, hv, rfl, HW⟩ := hrel
    obtain ⟨AO, cO, rfl⟩ := Kd.N_slice HW.out.n
    subst hv
    by_cases hlt : kk < P.length
    · have hltz : (kk : Int) < (P.length : Int) := by omega
      obtain ⟨ad, B0, b0, e, k0, g0, hC0⟩ := at_LI HCP.out (kk : Int) (by omega) (by omega)
      cases e
      replace k0 := pw_cell_below HW.out.b k0
      simp only [Int.toNat_natCast] at k0
      have hmem : rd_LI P (kk : Int) ∈ P := by
        have : rd_LI P (kk : Int) = P[kk] := by simp [rd_LI, List.getD, List.getElem?_eq_getElem hlt]
        rw [this]; exact List.getElem_mem hlt
      have HM := Aside0.mk (HPM.out _ hmem)
      have HTK : Aside0 (rowsOf l0 L (P.take (kk + 1)) = rowsOf l0 L (P.take kk) ++ [L.map fun f => refVal l0 (rd_LI P (kk : Int)) f]) := ⟨by
        have : rd_LI P (kk : Int) = P[kk] := by simp [rd_LI, List.getD, List.getElem?_eq_getElem hlt]
        rw [this]
        exact map_take_succ _ P hlt⟩
      have HLO : Aside0 ((rowsOf l0 L (P.take kk)).length = kk) := ⟨by simp [rowsOf]; omega⟩
      have HC0 := Aside0.mk hC0
      clear hC0 g0 hmem
      generalize rd_LI P (kk : Int) = x at *
      generalize rowsOf l0 L (P.take kk) = xs at *
      have HXW : Aside0 (∀ n ∈ x, (Lit.int .i64 n).wf = true) := ⟨fun n hn => wf_of (by have := HM.out.2 n hn; omega)⟩
      go_wp2
      go_loopg [8, 10, 20] L.length (fun gg s8 _ s20 wr => ∃ (jj : Nat) (R : Nat → Prop) (u : Value), jj ≤ L.length ∧ L.length - jj ≤ gg ∧ s8 = u ∧ s20 = .int .i64 jj ∧ Aside0 (RowW w1 O R (.slice AO xs.length cO) u xs ((L.take jj).map fun f => refVal l0 x f) wr))
      case atStart => exact ⟨0, _, _, Nat.zero_le _, by omega, rfl, rfl, ⟨RowW.start HW.out⟩⟩
      case round =>
        obtain ⟨jj, R, u, hjj, hg2, hu, rfl, HRW⟩ := hrel
        obtain ⟨AU, cU, rfl⟩ := Kd.N_slice HRW.out.n
        subst hu
        by_cases hlt2 : jj < L.length
        · have hltz2 : (jj : Int) < (L.length : Int) := by omega
          have HBR := Aside0.mk (below_then HB1.out HB1.out.size HRW.out.o.b)
          have HSA := Aside0.mk (HA.out.below HBR.out)
          have HGA := Aside0.mk (HG.out.below HBR.out)
          obtain ⟨ad2, A1, c1, e, f0, f1, hle, hC⟩ := at_T33 HGA.out.rd (jj : Int) (by omega) (by omega)
          cases e
          simp only [Int.toNat_natCast] at f0 f1
          have hy : rd_T33 L (jj : Int) = L[jj] := by simp [rd_T33, List.getD, List.getElem?_eq_getElem hlt2]
          have HOF := Aside0.mk (HO.out (rd_T33 L (jj : Int)) (by rw [hy]; exact List.getElem_mem hlt2))
          have HTJ : Aside0 ((L.take (jj + 1)).map (fun f => refVal l0 x f) = (L.take jj).map (fun f => refVal l0 x f) ++ [refVal l0 x (rd_T33 L (jj : Int))]) := ⟨by
            rw [hy]
            exact map_take_succ _ L hlt2⟩
          have HLJ : Aside0 (((L.take jj).map fun f => refVal l0 x f).length = jj) := ⟨by simp; omega⟩
          have HCT := Aside0.mk hC
          clear hy hC hle
          generalize rd_T33 L (jj : Int) = f at *
          generalize (L.take jj).map (fun f => refVal l0 x f) = ys at *
          go_wp2
          have BN := blk_new wr (.cells #[.int .i64 f.f0, .slice A1 f.f1.length c1] 33)
          have q0 := (blk_cell BN 0).trans rfl
          have q1 := (blk_cell BN 1).trans rfl
          have HBN := Aside0.mk (below_alloc (Below.refl wr.heap.size wr) (.cells #[.int .i64 f.f0, .slice A1 f.f1.length c1] 33))
          have HRA := Aside0.mk (HRW.out.below HBN.out)
          have HSA2 := Aside0.mk (HSA.out.below HBN.out)
          have HCT2 := Aside0.mk (Kd.C_below HCT.out HBN.out)
          have HXC := Aside0.mk (Kd.C_below HC0.out HRA.out.o.b)
          have HX1' := Aside0.mk (blk_below HX1.out HRA.out.o.b)
          have y0 := (blk_cell HX1'.out 0).trans rfl
          have y1 := (blk_cell HX1'.out 1).trans rfl
          have HL8 : Aside0 ((ys.length + 1) * 8 ≤ 140737488355328) := ⟨by have := HLJ.out; omega⟩
          clear BN f0 f1
          generalize wr.alloc (.cells #[.int .i64 f.f0, .slice A1 f.f1.length c1] 33) = W1 at *
          go_region_law (first | (go_simp; go_at_call 66; refine (poly_says HCT2.out HOF.out _ (by first | exact Below.refl _ _ | exact below_drew (Below.refl _ _))).mono ?_; rintro e w2 ⟨b, rfl, HPB, HB2⟩; have z0 : w2.cell? ⟨w.heap.size, 0, none⟩ = some (.slice A l0.length c) := pw_cell_below HB2.out y0; have z1 : w2.cell? ⟨w.heap.size, 1, none⟩ = some (.slice A' l1.length c') := pw_cell_below HB2.out y1) | (go_simp; go_at_call 68; obtain ⟨D, hD, hP2⟩ := HPB.out; refine (at_says HSA2.out HV.out HXC.out HM.out.1 HXW.out _ (by first | exact HB2.out | exact below_drew HB2.out) b _ D hD).mono ?_; rintro e w3 ⟨b2, rfl, HMB, HB3⟩) | (go_simp; go_at_call 67; refine (val_says (by first | exact HB3.out | exact below_drew HB3.out) b b2 _ D hP2 HMB.out).mono ?_; rintro e w4 ⟨rfl, HB4⟩; have HR4 := Aside0.mk (HRA.out.below HB4.out)) | (refine Kd.N_append_step KI w1.heap.size (by rfl) (.tmp 24) (.tmp 31) 22 3 (.int .i64 0) 8 (by rfl) Tryz.underlying22 info3 rfl (by decide) (by decide) (.slice AU ys.length cU) ys (refVal l0 x f) [.int .i64 (refVal l0 x f)] (fun k => R k ∨ w4.heap.size ≤ k) (fun _ => False) (by rfl) (by rfl) (fun _ _ => rfl) (fun _ hk => hk.elim) (fun _ hk => .inr hk) (Kd.N_mono HR4.out.n (fun _ hk => .inl hk)) HR4.out.o.b HR4.out.o.b.size HL8.out ?_; intro v5 w5 hN5 hB5 hg5 hat5; have HR5 := Aside0.mk (HR4.out.put hN5 hB5 hg5); clear hN5 hB5 hg5 hat5))
          all_goals
            have HR6 : Aside0 (RowW w1 O (fun k => (R k ∨ w4.heap.size ≤ k) ∧ k < w5.heap.size) (.slice AO xs.length cO) v5 xs ((L.take (jj + 1)).map fun f => refVal l0 x f) w5) := ⟨by rw [HTJ.out]; exact HR5.out⟩
            clear HR5 HR4 HPB HMB hD hP2
            go_wp2
            go_roundg (L.length - (jj + 1))
            case measure => omega
            case rel => exact ⟨jj + 1, _, v5, by omega, by omega, rfl, by go_num, HR6⟩
        · have hltz2 : ¬ (jj : Int) < (L.length : Int) := by omega
          have ej : jj = L.length := by omega
          subst ej
          have HTL : Aside0 ((L.take L.length).map (fun f => refVal l0 x f) = L.map fun f => refVal l0 x f) := ⟨by rw [List.take_length]⟩
          have HRZ : Aside0 (RowW w1 O R (.slice AO xs.length cO) (.slice AU (L.map fun f => refVal l0 x f).length cU) xs (L.map fun f => refVal l0 x f) wr) := ⟨by rw [← HTL.out]; exact HRW.out⟩
          clear HRW
          rw [HTL.out]
          have HL24 : Aside0 ((xs.length + 1) * 24 ≤ 140737488355328) := ⟨by have := HLO.out; have := HPS.out; omega⟩
          generalize L.map (fun f => refVal l0 x f) = ys at *
          have hfk := Aside0.mk (Kd.FK_slice_mk (e := 3) (Kd.N_reads' HRZ.out.n).2.1 (Kd.N_F HRZ.out.n))
          go_wp2_with (at_builtin; refine Kd.N_append (Kd.slice 3 KI) w1.heap.size rfl (.tmp 34) (.tmp 36) 48 22 (.slice none 0 0) 24 rfl Tryz.underlying48 info22 rfl (by decide) (by decide) (.slice AO xs.length cO) xs ys [.slice AU ys.length cU] (fun k => O k ∨ R k ∨ wr.heap.size ≤ k) R rfl rfl hfk.out (fun k hk => ⟨.inr (.inl hk), fun e => HRZ.out.ap k (HRZ.out.o.n.1 k e.symm) hk⟩) (fun _ h => .inr (.inr h)) (Kd.N_mono HRZ.out.o.n (fun _ h => .inl h)) HRZ.out.o.b HRZ.out.o.b.size HL24.out ?_; intro v6 w6 hN6 hB6 hg6 hat6; have HN6 := Aside0.mk hN6; have HB6 := Aside0.mk hB6; have HG6 := Aside0.mk hg6; clear hN6 hB6 hg6 hat6)
          go_roundg (P.length - (kk + 1))
          case measure => omega
          case rel => exact ⟨kk + 1, fun k => (O k ∨ R k ∨ wr.heap.size ≤ k) ∧ k < w6.heap.size, v6, by omega, by omega, rfl, by go_num, ⟨by
            have hsz : wr.heap.size ≤ w6.heap.size := HG6.out.size
            rw [HTK.out]
            exact ⟨Kd.N_bound HN6.out, fun k hk => ⟨by
              rcases hk.1 with a | a | a
              · exact (HRZ.out.o.ge k a).1
              · exact (HRZ.out.ge k a).1
              · exact Nat.le_trans HRZ.out.o.b.size a, hk.2⟩, HB6.out⟩⟩⟩
    · have hltz : ¬ (kk : Int) < (P.length : Int) := by omega
      have ek : kk = P.length := by omega
      subst ek
      have HTL : Aside0 (rowsOf l0 L (P.take P.length) = rowsOf l0 L P) := ⟨by rw [List.take_length]⟩
      have HWZ : Aside0 (OutW w1 O (.slice AO (rowsOf l0 L P).length cO) (rowsOf l0 L P) wr) := ⟨by rw [← HTL.out]; exact HW.out⟩
      have HLZ : Aside0 ((rowsOf l0 L P).length ≤ 200000) := ⟨by have := HPS.out; simpa [rowsOf] using this⟩
      rw [HTL.out]
      clear HW HTL
      generalize hxs : rowsOf l0 L P = xs at *
      have HXS : Aside0 (rowsOf l0 L (ptsOf l0 l1) = xs) := ⟨by rw [hP, hxs]⟩
      clear hxs hP
      by_cases hx : xs = []
      · subst hx
        go_wp2_with (first | (go_at_call 61; refine (sort_none AO cO _ wr).mono ?_; rintro e w7 ⟨rfl, rfl⟩) | (go_at_call 125; refine (compact_none AO cO _ w7).mono ?_; rintro e w8 ⟨rfl, rfl⟩))
        go_ret
        exact ⟨AO, cO, [], rfl, by rw [HXS.out], List.Pairwise.nil, ⟨rfl, Nat.zero_le _, fun h => absurd h (Nat.lt_irrefl 0)⟩, below_then HB1.out HB1.out.size HWZ.out.b⟩
      · have hpos := List.length_pos_iff.2 hx
        obtain ⟨g, cap, e, hg1, hg2, _⟩ := Kd.N_form HWZ.out.n hpos
        obtain ⟨rfl, rfl⟩ : AO = some ⟨g, 0, none⟩ ∧ cO = cap := by
          injection e with e1 e2 e3
          exact ⟨e1, e3⟩
        have HRA := Aside0.mk (RowsAt.of_N HWZ.out.n)
        have HCAP := Aside0.mk (Kd.N_reads' HWZ.out.n).2.1
        have HSR := Aside0.mk (SortRows sort_says (cap := cO) HRA.out hg2 hg1 HWZ.out.b (by have := HLZ.out; omega))
        clear e hpos
        go_wp2_with (first | (go_at_call 61; refine HSR.out.mono ?_; rintro e w7 ⟨rfl, zs, hzp, hzr, hza, hzk, hzb⟩; have HZP := Aside0.mk hzp; have HZR := Aside0.mk hzr; have HZA := Aside0.mk hza; have HZK := Aside0.mk hzk; have HZB := Aside0.mk hzb; have HZL := Aside0.mk hzp.length_eq; clear hzp hzr hza hzk hzb; rw [← HZL.out]) | (go_at_call 125; refine (CompactRows (w0 := w1) HZA.out (by have := HZL.out; have := HCAP.out; omega) hg1 (by have := HZK.out.1; omega) HZB.out (by have := HZL.out; have := HLZ.out; omega)).mono ?_; rintro e w8 ⟨rfl, hca, hck, hcb⟩))
        go_ret
        have hql : (squash zs).length ≤ zs.length := squash_le zs
        exact ⟨some ⟨g, 0, none⟩, cO, zs, rfl, by rw [HXS.out]; exact HZP.out, HZR.out, hca.C (by have := HZL.out; have := HLZ.out; omega), below_then HB1.out HB1.out.size hcb⟩
end Go.Proofs.YtjgakaembhmhpaaGreatDoor.PA
