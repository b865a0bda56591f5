/- Part of the proof of FormsOverSets (the walk: Image and Projected); what it proves holds without further conditions. -/
import Derived.Maps.OwnSet
import Derived.Test.YtjgakaembhmhpaaGreatDoorRE
import Derived.Test.YtjgakaembhmhpaaGreatDoorQB
set_option linter.unusedVariables false
set_option linter.unusedSimpArgs false
namespace Go.Proofs.YtjgakaembhmhpaaGreatDoor.PA
open Go.RowKit Go.Proofs.YtjgakaembhmhpaaGreatDoorW.PrintWords Go.Proofs.YtjgakaembhmhpaaGreatDoorW.PrintLast Go.Proofs.YtjgakaembhmhpaaGreatDoorW.PrintMore Go.Proofs.YtjgakaembhmhpaaGreatDoorM
theorem runL_image (sides : List S77) (L : List S33) : ∀ (P : List (List Int)) (p : Nat × List (List Int)), runL (fun _ => true) (stImage sides L) p P = (p.1 + P.length, ddF p.2 (P.map fun x => L.map fun f => valueOf sides x f))
  | [], p => rfl
  | x :: P, p => by
    rw [runL, if_pos rfl, if_pos (show (stImage sides L p x).1 = true from rfl), runL_image sides L P, List.map_cons, ddF_cons]
    show (p.1 + 1 + P.length, _) = (p.1 + (P.length + 1), _)
    rw [Nat.add_assoc, Nat.add_comm 1]
    rfl
def imageV (l0 : List S77) (l1 : List S33) (L : List S33) : Int × Int :=
  if setFault l0 l1 = 0 then (if oversS (l0.map (·.f0)) L = 0 then (((dd (rowsOf l0 L (ptsOf l0 l1))).length : Int), 0) else (0, oversS (l0.map (·.f0)) L)) else (0, setFault l0 l1)
theorem image_run {l0 : List S77} {l1 L : List S33} (h : Valid l0 l1) (ho : oversS (l0.map (·.f0)) L = 0) : runL (fun _ => true) (stImage l0 L) (0, []) (ptsOf l0 l1) = ((ptsOf l0 l1).length, dd (rowsOf l0 L (ptsOf l0 l1))) := by
  rw [runL_image, Nat.zero_add]
  have : (ptsOf l0 l1).map (fun x => L.map fun f => valueOf l0 x f) = rowsOf l0 L (ptsOf l0 l1) := by
    unfold rowsOf
    apply List.map_congr_left
    intro x _
    apply List.map_congr_left
    intro f hf
    exact value_over h (overs_all ho f hf) x
  rw [this]
  rfl
theorem image_start (w : World) (m : Nat) : IImage (w.heap.size + 1) w.heap.size m (0, []) (fun k => k = w.heap.size + 1 ∨ k = w.heap.size) ((w.alloc (.map #[] 0)).alloc (.cells #[.map (some w.heap.size)] 90)) := by
  refine ⟨fun k hk => hk, .inl rfl, .inr rfl, by omega, ?_, .map [], ?_, SetIs.nil m⟩
  · have := blk_new (w.alloc (.map #[] 0)) (.cells #[.map (some w.heap.size)] 90)
    simpa using this
  · have := World.ownsMap_made (H := Unit) w Tryz.prog 9 (plainElem Tryz.prog 4)
    exact mb_below this (below_alloc (Below.refl _ _) _)
theorem bodyCheck {A A' : Option Addr} {c c' : Nat} {l0 : List S77} {l1 : List S33} (e0 : setFault l0 l1 = 0) {W : World} (h : SetAt A c l0 A' c' l1 W) : Calls Tryz.prog 51 #[.agg #[.slice A l0.length c, .slice A' l1.length c']] W fun e w' => e = .returned (.int .i64 0) ∧ Below W.heap.size W w' :=
  (L_check h).mono fun e w' ⟨he, hb⟩ => ⟨by rw [he, e0], hb⟩
set_option maxHeartbeats 4000000 in
set_option maxRecDepth 100000 in
theorem L_image {A A' AF : Option Addr} {c c' cF : Nat} {l0 : List S77} {l1 L : List S33} {w : World} (h : SetAt A c l0 A' c' l1 w) (g : TabF L AF cF w) (hn : ∀ f ∈ L, f.f1.length ≤ 1000 ∧ ∀ t ∈ f.f1, t.f0.size ≤ 100) (hl : L.length ≤ 8) (ht : Tab w) {r1 r2 : Int} (hv : imageV l0 l1 L = (r1, r2)) :
    Calls Tryz.prog 14 #[.agg #[.slice A l0.length c, .slice A' l1.length c'], .slice AF L.length cF] w fun e w' => e = .returned (.tuple #[.int .i64 r1, .int .i64 r2]) ∧ Below w.heap.size w w' := by
  have HA := Aside0.mk h
  have hB1 := Aside0.mk (below_alloc (below_alloc (Below.refl w.heap.size w) (.cells #[.slice A l0.length c, .slice A' l1.length c'] 29)) (.cells #[.slice AF L.length cF] 27))
  by_cases e0 : setFault l0 l1 = 0
  · have HG := Aside0.mk g
    have HN := Aside0.mk hn
    have HT := Aside0.mk ht
    have HE0 := Aside0.mk e0
    have HV := Aside0.mk (valid_of e0)
    have HR : Aside0 ((if oversS (l0.map (·.f0)) L = 0 then (((dd (rowsOf l0 L (ptsOf l0 l1))).length : Int), 0) else (0, oversS (l0.map (·.f0)) L)) = (r1, r2)) := ⟨by unfold imageV at hv; rwa [if_pos e0] at hv⟩
    have hmm := @run_makeMap Tryz.prog
    have hb1 := Aside0.mk (blk_alloc (blk_new w (.cells #[.slice A l0.length c, .slice A' l1.length c'] 29)) (.cells #[.slice AF L.length cF] 27))
    have hb2 : Aside0 (((w.alloc (.cells #[.slice A l0.length c, .slice A' l1.length c'] 29)).alloc (.cells #[.slice AF L.length cF] 27)).heap[w.heap.size + 1]? = some (.cells #[.slice AF L.length cF] 27 (0, 0))) := ⟨by have := blk_new (w.alloc (.cells #[.slice A l0.length c, .slice A' l1.length c'] 29)) (.cells #[.slice AF L.length cF] 27); simpa using this⟩
    have h8 : ¬ (8 : Int) < (L.length : Int) := by omega
    clear h g hn ht e0 hv
    have eg := enters_of Tryz.func56 (by kernel_rfl) rfl
    go_enter Tryz.func14, Tryz.ntmps14
    go_wp2_with (go_at_call 51; refine (bodyCheck HE0.out (HA.out.below hB1.out)).mono ?_; rintro e w1 ⟨rfl, hb⟩; have HB1 := Aside0.mk (below_step hB1.out hb); have HX1 := Aside0.mk (blk_below hb1.out hb); have HX2 := Aside0.mk (blk_below hb2.out hb); have y2 : w1.cell? ⟨w.heap.size + 1, 0, none⟩ = some (.slice AF L.length cF) := (blk_cell HX2.out 0).trans rfl; clear hb)
    clear y2
    go_loopg [8, 9, 21] L.length (fun gg _ _ s21 wr => ∃ kk : Nat, kk ≤ L.length ∧ L.length - kk ≤ gg ∧ s21 = .int .i64 kk ∧ Aside0 (Below w1.heap.size w1 wr) ∧ Aside0 (oversS (l0.map (·.f0)) L = oversS (l0.map (·.f0)) (L.drop kk)))
    case atStart => exact ⟨0, Nat.zero_le _, by omega, rfl, ⟨Below.refl _ _⟩, ⟨by simp⟩⟩
    case round =>
      obtain ⟨kk, hkk, hg, rfl, HB, AQ⟩ := hrel
      have HBR := Aside0.mk (below_step HB1.out HB.out)
      have HGA := Aside0.mk (HG.out.below HBR.out)
      have HSA := Aside0.mk (HA.out.below HBR.out)
      have HX1' := Aside0.mk (blk_below HX1.out HB.out)
      have HX2' := Aside0.mk (blk_below HX2.out HB.out)
      have t0 : wr.cell? ⟨w.heap.size, 0, none⟩ = some (.slice A l0.length c) := (blk_cell HX1'.out 0).trans rfl
      have t1 : wr.cell? ⟨w.heap.size, 1, none⟩ = some (.slice A' l1.length c') := (blk_cell HX1'.out 1).trans rfl
      have lB := blk_lt HX1'.out
      by_cases hlt : kk < L.length
      · have hltz : (kk : Int) < (L.length : Int) := by omega
        obtain ⟨ad, A1, c1, e, f0, f1, hle, hC⟩ := at_T33 HGA.out.rd (kk : Int) (by omega) (by omega)
        cases e
        simp only [Int.toNat_natCast] at f0 f1
        have hy : rd_T33 L (kk : Int) = L[kk] := by simp [rd_T33, List.getD, List.getElem?_eq_getElem hlt]
        have HNF := Aside0.mk (HN.out (rd_T33 L (kk : Int)) (by rw [hy]; exact List.getElem_mem hlt))
        have HAQ : Aside0 (oversS (l0.map (·.f0)) L = if overS (l0.map (·.f0)) (rd_T33 L (kk : Int)) = 0 then oversS (l0.map (·.f0)) (L.drop (kk + 1)) else overS (l0.map (·.f0)) (rd_T33 L (kk : Int))) := ⟨by rw [AQ.out, hy, List.drop_eq_getElem_cons hlt]; rfl⟩
        have HFA := Aside0.mk (FormAt.mk hC hle HNF.out.1 HNF.out.2)
        clear hy hC hle
        generalize rd_T33 L (kk : Int) = f at *
        have HBN := Aside0.mk (below_alloc (Below.refl wr.heap.size wr) (.cells #[.int .i64 f.f0, .slice A1 f.f1.length c1] 33))
        have HOC := Aside0.mk (L_over (HSA.out.below HBN.out) (HFA.out.below HBN.out))
        by_cases ho : overS (l0.map (·.f0)) f = 0
        · have HO := Aside0.mk ho
          have HAQ2 : Aside0 (oversS (l0.map (·.f0)) L = oversS (l0.map (·.f0)) (L.drop (kk + 1))) := ⟨by rw [HAQ.out, if_pos ho]⟩
          clear ho HAQ
          go_wp2_with (go_at_call 52; refine HOC.out.mono ?_; rintro e w2 ⟨rfl, hb⟩; rw [HO.out]; have HB2 := Aside0.mk (below_step HB.out (below_step HBN.out hb)); clear hb)
          go_roundg (L.length - (kk + 1))
          case measure => omega
          case rel => exact ⟨kk + 1, by omega, by omega, by go_num, HB2, HAQ2⟩
        · have e2 : (overS (l0.map (·.f0)) f != 0) = true := bne_iff_ne.2 ho
          have HZ : Aside0 (r1 = 0 ∧ r2 = overS (l0.map (·.f0)) f) := ⟨by
            have h1 := HAQ.out
            rw [if_neg ho] at h1
            have h2 := HR.out
            rw [h1, if_neg ho] at h2
            simp only [Prod.mk.injEq] at h2
            exact ⟨h2.1.symm, h2.2.symm⟩⟩
          clear ho HAQ
          generalize overS (l0.map (·.f0)) f = q at *
          go_wp2_with (go_at_call 52; refine HOC.out.mono ?_; rintro e w2 ⟨rfl, hb⟩; have HB2 := Aside0.mk (below_step HB.out (below_step HBN.out hb)); clear hb)
          go_ret2
          rw [HZ.out.1, HZ.out.2]
          exact ⟨rfl, below_step HB1.out HB2.out⟩
      · have hltz : ¬ (kk : Int) < (L.length : Int) := by omega
        have ek : kk = L.length := by omega
        subst ek
        have HOS : Aside0 (oversS (l0.map (·.f0)) L = 0) := ⟨by rw [AQ.out, List.drop_length]; rfl⟩
        have HZ : Aside0 (r1 = ((dd (rowsOf l0 L (ptsOf l0 l1))).length : Int) ∧ r2 = 0) := ⟨by
          have h2 := HR.out
          rw [if_pos HOS.out] at h2
          simp only [Prod.mk.injEq] at h2
          exact ⟨h2.1.symm, h2.2.symm⟩⟩
        have HBW := Aside0.mk (below_alloc (below_alloc (Below.refl wr.heap.size wr) (.map #[] 0)) (.cells #[.map (some wr.heap.size)] 90))
        have HTW := Aside0.mk (HT.out.below HBR.out)
        have HST := Aside0.mk (image_start wr L.length)
        have HEC : Aside0 (Calls Tryz.prog 53 #[.agg #[.slice A l0.length c, .slice A' l1.length c'], .func (.func 56) #[] #[.pointer (some ⟨w.heap.size + 1, 0, none⟩), .pointer (some ⟨w.heap.size, 0, none⟩), .pointer (some ⟨wr.heap.size + 1, 0, none⟩)]] ((wr.alloc (.map #[] 0)).alloc (.cells #[.map (some wr.heap.size)] 90)) fun e w' => e = .returned (.tuple #[]) ∧ ∃ D n, Aside0 (Below wr.heap.size wr w') ∧ w'.cell? ⟨wr.heap.size + 1, 0, none⟩ = some (.map (some wr.heap.size)) ∧ Aside0 (MB w' wr.heap.size n D) ∧ Aside0 (Maps.size D = (dd (rowsOf l0 L (ptsOf l0 l1))).length)) := ⟨by
          refine (each_callsB 300000 56 #[.pointer (some ⟨w.heap.size + 1, 0, none⟩), .pointer (some ⟨w.heap.size, 0, none⟩), .pointer (some ⟨wr.heap.size + 1, 0, none⟩)] (fun _ => IImage (wr.heap.size + 1) wr.heap.size L.length) (stImage l0 L) l0 l1 A A' c c' (0, []) ((ptsOf l0 l1).length, dd (rowsOf l0 L (ptsOf l0 l1))) (fun k => k = wr.heap.size + 1 ∨ k = wr.heap.size) wr _ HSA.out.hs HSA.out.hc HSA.out.ks HSA.out.kc HBW.out HST.out (fun k hk => by omega) ?_ (image_stays _ _ _) (fun _ _ _ h => h) eg HV.out.len (okSet_all (okSet_valid HV.out)).2 ((each_pts HV.out (stImage l0 L) (0, []) 300000 (by omega)).trans (congrArg some (image_run HV.out HOS.out)))).mono ?_
          · intro s x hx _ hE
            have h1 := ends_le Prod.fst (fun (s : Nat × List (List Int)) x => (Nat.le_succ s.1 : s.1 ≤ (stImage l0 L s x).2.1)) hE
            have h2 : (stImage l0 L s x).2.1 = s.1 + 1 := rfl
            have h3 := pts_small HV.out
            exact image_at wr l0 l1 L A A' AF c c' cF w.heap.size (w.heap.size + 1) (wr.heap.size + 1) wr.heap.size L.length HX1'.out HX2'.out HSA.out.hs HSA.out.hc HSA.out.ks HSA.out.kc HGA.out.rd HGA.out.few HTW.out s x (by rw [hx]; exact HV.out.len) (fun f hf => inSides_of (overs_all HOS.out f hf) x hx) (by simp only at h1; omega) (fun f hf => value_wf (overs_all HOS.out f hf) x)
          · rintro e w' ⟨he, F', ⟨i0, i1, i2, i3, i4, D, i5, i6⟩, j1, j2, j3⟩
            exact ⟨he, D, _, ⟨j3⟩, (blk_cell i4 0).trans rfl, ⟨i5⟩, ⟨i6.size⟩⟩⟩
        clear HST HBW HTW HGA HSA
        go_wp2_with (first | (go_at_call 53; refine HEC.out.mono ?_; rintro e w3 ⟨rfl, D, nD, HB3, c3, HM3, HD3⟩; clear HEC) | (at_len; refine wpList_len_own _ rfl _ _ rfl 9 4 Tryz.underlying90 _ wr.heap.size nD D rfl HM3.out ?_))
        go_ret2
        rw [HZ.out.1, HZ.out.2, HD3.out]
        exact ⟨rfl, below_step HBR.out HB3.out⟩
  · have e2 : (setFault l0 l1 != 0) = true := bne_iff_ne.2 e0
    have HZ : Aside0 (r1 = 0 ∧ r2 = setFault l0 l1) := ⟨by
      unfold imageV at hv
      rw [if_neg e0] at hv
      simp only [Prod.mk.injEq] at hv
      exact ⟨hv.1.symm, hv.2.symm⟩⟩
    clear h g hn ht e0 hv
    go_enter Tryz.func14, Tryz.ntmps14
    go_wp2_with (go_at_call 51; refine (L_check (HA.out.below hB1.out)).mono ?_; rintro e w1 ⟨rfl, hb⟩; have HB1 := Aside0.mk (below_step hB1.out hb); clear hb)
    go_ret2
    rw [HZ.out.1, HZ.out.2]
    exact ⟨rfl, HB1.out⟩
theorem within_mem : ∀ (sides : List S77) (x : List Int), x.length = sides.length → withinB sides x = true → (∀ s ∈ sides, -1000000 ≤ s.f1 ∧ s.f2 ≤ 1000000) → ∀ n ∈ x, -1000000 ≤ n ∧ n ≤ 1000000
  | [], [], _, _, _, n, hn => by simp at hn
  | [], _ :: _, h, _, _, _, _ => by simp at h
  | _ :: _, [], h, _, _, _, _ => by simp at h
  | s :: ss, m :: ms, h, hw, hb, n, hn => by
    simp only [withinB, Bool.and_eq_true, decide_eq_true_eq] at hw
    rcases List.mem_cons.1 hn with rfl | hn
    · have := hb s List.mem_cons_self
      omega
    · exact within_mem ss ms (by simpa using h) hw.2 (fun t ht => hb t (List.mem_cons_of_mem _ ht)) n hn
theorem plainElem_bool_inv {P : Program} {e : TypeId} (he : P.underlying e = some .bool) {v : Value} {z : DataW Unit × List MemPlace} (h : plainElem P e v = some z) : ∃ q, v = .bool q ∧ z = (.lit (.bool q), []) := by
  unfold plainElem at h
  rw [he] at h
  cases v <;> simp at h
  exact ⟨_, rfl, h.symm⟩
theorem N_made (w : World) : Kd.N KI 3 (w.alloc (.cells #[] 3)) w.heap.size (fun k => k = w.heap.size) (.slice (some ⟨w.heap.size, 0, none⟩) 0 0) [] :=
  Kd.R_N ⟨fun k hk => by simp [Value.ownBlock] at hk; exact hk.symm, [], World.ownsRow_made w #[] 0 (Nat.le_refl _) (Nat.zero_le _) (by simp), Reps.none _ _⟩
theorem mb_same {W W' : World} {b n : Nat} {D : DataW Unit} (h : MB W b n D) (e : W'.heap[b]? = W.heap[b]?) : MB W' b n D := by
  obtain ⟨es, clock, h1, h2⟩ := h
  exact ⟨es, clock, e.trans h1, h2⟩
theorem MB_look {W : World} {b n : Nat} {D : DataW Unit} {m : Nat} {ks : List (List Int)} (h : MB W b n D) (hs : SetB m D ks) (ys : List Int) (hm : ys.length = m) (hkey : keyOf Tryz.prog 9 (.string ⟨(rowText ys).toArray⟩) = some (kS (keyB ys))) :
    (Instr.lookup 90 (.map (some b)) (.string ⟨(rowText ys).toArray⟩) false).run Tryz.prog W = .ok (.bool (decide (ys ∈ ks))) W := by
  obtain ⟨v, ps, hrun, hv⟩ := h.lookup mlaw Tryz.underlying90 (Tryz.zeroValue4 W) (plainElem_bool Tryz.underlying4 false) hkey
  obtain ⟨q, rfl, hq⟩ := plainElem_bool_inv Tryz.underlying4 hv
  simp only [Prod.mk.injEq] at hq
  have h2 := (hs.at_ ys hm).symm.trans hq.1
  simp only [DataW.lit.injEq, Lit.bool.injEq] at h2
  rw [hrun, h2]
def IProj (Bf b Bo base m : Nat) (bb : Bool) (ks : List (List Int)) (F : Nat → Prop) (W : World) : Prop :=
  (bb = true → ks.length ≤ 5000) ∧ F Bf ∧ F b ∧ F Bo ∧ (∀ k, F k → k < W.heap.size) ∧ (Bf ≠ b ∧ Bf ≠ Bo ∧ Bo ≠ b) ∧ W.heap[Bf]? = some (.cells #[.map (some b)] 90 (0, 0)) ∧ (∃ D, MB W b ks.length D ∧ SetB m D ks) ∧ ∃ v, W.heap[Bo]? = some (.cells #[v] 48 (0, 0)) ∧ Kd.N (Kd.slice 3 KI) 22 W base (fun k => F k ∧ k ≠ Bo ∧ k ≠ Bf ∧ k ≠ b) v ks
theorem proj_stays (Bf b Bo base m : Nat) : EachStays (IProj Bf b Bo base m true) :=
  ⟨fun s F W W' ⟨h0, h1, h2, h3, h4, h5, h6, ⟨D, h7, h8⟩, v, h9, h10⟩ hle hs => ⟨h0, h1, h2, h3, fun k hk => Nat.lt_of_lt_of_le (h4 k hk) hle, h5, (hs Bf h1).trans h6, ⟨D, mb_same h7 (hs b h2), h8⟩, v, (hs Bo h3).trans h9, Kd.N_step h10 (fun k hk _ => hs k hk.1)⟩, fun s F W ⟨h0, h1, h2, h3, h4, _⟩ k hk => h4 k hk⟩
theorem proj_new {Bf b Bo base m : Nat} {ks : List (List Int)} {F : Nat → Prop} {w0 W w2 w6 w7 : World} {D' : DataW Unit} {v v7 : Value} {ys : List Int} {R : Nat → Prop} {bb : Bool} (hI : IProj Bf b Bo base m true ks F W) (hb0 : W.heap[Bo]? = some (.cells #[v] 48 (0, 0))) (hN : Kd.N (Kd.slice 3 KI) 22 W base (fun k => F k ∧ k ≠ Bo ∧ k ≠ Bf ∧ k ≠ b) v ks)
    (hB2 : Below W.heap.size W w2) (hg6 : w2.grownBy w6 (some b)) (hO6 : MB w6 b (ks.length + 1) D') (hS : SetB m D' (ks ++ [ys])) (hg7 : w6.grownBy w7 v.ownBlock) (hN7 : Kd.N (Kd.slice 3 KI) 22 w7 base (fun k => (F k ∧ k ≠ Bo ∧ k ≠ Bf ∧ k ≠ b) ∨ R k ∨ w6.heap.size ≤ k) v7 (ks ++ [ys])) (hR : ∀ k, R k → W.heap.size ≤ k)
    (hF : ∀ k, F k → w0.heap.size ≤ k) (hB : Below w0.heap.size w0 W) (h5 : bb = true → (ks ++ [ys]).length ≤ 5000) :
    ∃ F', IProj Bf b Bo base m bb (ks ++ [ys]) F' (w7.setCell ⟨Bo, 0, none⟩ v7) ∧ (∀ k, F' k → F k ∨ W.heap.size ≤ k) ∧ Kept W (w7.setCell ⟨Bo, 0, none⟩ v7) F ∧ Below w0.heap.size w0 (w7.setCell ⟨Bo, 0, none⟩ v7) := by
  obtain ⟨i0, i1, i2, i3, i4, ⟨d1, d2, d3⟩, i6, _, _⟩ := hI
  have hv : ∀ k, some k = v.ownBlock → F k ∧ k ≠ Bo ∧ k ≠ Bf ∧ k ≠ b := fun k hk => hN.1 k hk.symm
  have s26 : w2.heap.size ≤ w6.heap.size := hg6.size
  have s67 : w6.heap.size ≤ w7.heap.size := hg7.size
  have sW2 : W.heap.size ≤ w2.heap.size := hB2.size
  have hsz : (w7.setCell ⟨Bo, 0, none⟩ v7).heap.size = w7.heap.size := by simp [World.setCell]
  have same6 : ∀ k, k < W.heap.size → k ≠ b → w6.heap[k]? = W.heap[k]? := fun k hk hn => (hg6.block k (by omega) (fun e => hn (Option.some.inj e))).trans (hB2.block k hk)
  have same7 : ∀ k, k < W.heap.size → k ≠ b → some k ≠ v.ownBlock → w7.heap[k]? = W.heap[k]? := fun k hk hn hn2 => (hg7.block k (by omega) hn2).trans (same6 k hk hn)
  have b7 : w7.heap[Bo]? = some (.cells #[v] 48 (0, 0)) := (same7 Bo (blk_lt hb0) d3 (fun e => (hv Bo e).2.1 rfl)).trans hb0
  have hbl := i4 b i2
  have hbol := i4 Bo i3
  have hbfl := i4 Bf i1
  refine ⟨fun k => F k ∨ (W.heap.size ≤ k ∧ k < w7.heap.size), ⟨h5, .inl i1, .inl i2, .inl i3, fun k hk => ?_, ⟨d1, d2, d3⟩, ?_, ⟨D', ?_, hS⟩, v7, blk_put b7 0 v7 rfl, ?_⟩, fun k hk => hk.imp id And.left, ?_, ?_⟩
  · rw [hsz]
    exact hk.elim (fun h => by have := i4 k h; omega) And.right
  · exact (Below.heap_setCell w7 ⟨Bo, 0, none⟩ v7 Bf d2).trans ((same7 Bf hbfl d1 (fun e => (hv Bf e).2.2.1 rfl)).trans i6)
  · rw [show (ks ++ [ys]).length = ks.length + 1 by simp]
    exact mb_same hO6 ((Below.heap_setCell w7 ⟨Bo, 0, none⟩ v7 b (Ne.symm d3)).trans (hg7.block b (by omega) (fun e => (hv b e).2.2.2 rfl)))
  · refine Kd.N_far (p := ⟨Bo, 0, none⟩) (Kd.N_mono (Kd.N_bound hN7) (fun k hk => ?_)) (fun k hk => hk.2.1) _
    obtain ⟨ho, hl⟩ := hk
    rcases ho with ho | ho | ho
    · exact ⟨.inl ho.1, ho.2⟩
    · have := hR k ho
      exact ⟨.inr ⟨this, hl⟩, by omega, by omega, by omega⟩
    · exact ⟨.inr ⟨by omega, hl⟩, by omega, by omega, by omega⟩
  · exact Kept.setCell (p := ⟨Bo, 0, none⟩) (Kept.of_grown hg7 (Kept.of_grown hg6 (Kept.of_below hB2 F) (fun k hk => by injection hk with hk; subst hk; exact .inl i2)) (fun k hk => .inl (hv k hk.symm).1)) (.inl i3) _
  · refine Below.setCell (p := ⟨Bo, 0, none⟩) (((below_then hB hB.size hB2).grown hg6 (Nat.le_trans hB.size sW2) (fun k hk => by injection hk with hk; subst hk; exact hF _ i2)).grown hg7 (Nat.le_trans hB.size (Nat.le_trans sW2 s26)) (fun k hk => hF _ (hv k hk.symm).1)) (hF _ i3) _
def pIdx (sides : List S77) (x : List Int) (n : ByteArray) : Int := rd x (idxFrom (fun s : S77 => s.f0.toList == n.toList) sides 0)
set_option maxHeartbeats 2000000 in
set_option maxRecDepth 100000 in
theorem proj_at (w0 : World) (sides : List S77) (conds : List S33) (ns : List ByteArray) (As Ac AN : Option Addr) (cs cc cN Bs BN Bf b Bo : Nat)
    (hbs : w0.heap[Bs]? = some (.cells #[.slice As sides.length cs, .slice Ac conds.length cc] 29 (0, 0))) (hbn : w0.heap[BN]? = some (.cells #[.slice AN ns.length cN] 37 (0, 0)))
    (hs : Kd.C k77 w0 As sides.length sides) (hcs : sides.length ≤ cs) (hc : Kd.C k33 w0 Ac conds.length conds) (hcc : conds.length ≤ cc) (hN : Kd.C Kd.string w0 AN ns.length ns) (hNs : ns.length ≤ 8) (ht : Tab w0)
    (ks : List (List Int)) (x : List Int) (hx8 : x.length ≤ 8) (hin : ∀ n ∈ ns, 0 ≤ idxFrom (fun s : S77 => s.f0.toList == n.toList) sides 0 ∧ idxFrom (fun s : S77 => s.f0.toList == n.toList) sides 0 < x.length) (hxw : ∀ n ∈ x, -1000000 ≤ n ∧ n ≤ 1000000) :
    EachAt w0 60 #[.pointer (some ⟨BN, 0, none⟩), .pointer (some ⟨Bs, 0, none⟩), .pointer (some ⟨Bf, 0, none⟩), .pointer (some ⟨Bo, 0, none⟩)] (fun bb => IProj Bf b Bo w0.heap.size ns.length bb) (stProj sides ns) ks x := by
  intro W F X hI hF hB hX hnX
  have HI := Aside0.mk hI
  have HFF := Aside0.mk hF
  have HB := Aside0.mk hB
  have HX := Aside0.mk (hX.reads (by omega))
  have HNN := Aside0.mk (Kd.C_below hN hB)
  have n0 : W.cell? ⟨BN, 0, none⟩ = some (.slice AN ns.length cN) := (blk_cell (blk_below hbn hB) 0).trans rfl
  have lN := blk_lt (blk_below hbn hB)
  have HBS := Aside0.mk (blk_below hbs hB)
  have HIN := Aside0.mk hin
  have HXW := Aside0.mk hxw
  have HN0 := Aside0.mk (N_made W)
  clear hI hF hB hX hbn hin hxw
  go_enter Tryz.func60, Tryz.ntmps60
  go_wp2
  go_loopg [7, 9, 14] ns.length (fun gg s7 _ s14 wr => ∃ (jj : Nat) (R : Nat → Prop) (u : Value), jj ≤ ns.length ∧ ns.length - jj ≤ gg ∧ s7 = u ∧ s14 = .int .i64 jj ∧ Aside0 (Kd.N KI 3 wr W.heap.size R u ((ns.take jj).map (pIdx sides x))) ∧ Aside0 (∀ k, R k → W.heap.size ≤ k) ∧ Aside0 (Below W.heap.size W wr))
  case atStart => exact ⟨0, _, _, Nat.zero_le _, by omega, rfl, rfl, HN0, ⟨fun k hk => by rw [hk]; exact Nat.le_refl _⟩, ⟨below_alloc (Below.refl _ _) _⟩⟩
  case round =>
    obtain ⟨jj, R, u, hjj, hg, hu, rfl, HN, HRW, HBW⟩ := hrel
    obtain ⟨AU, cU, rfl⟩ := Kd.N_slice HN.out
    subst hu
    by_cases hlt : jj < ns.length
    · have hltz : (jj : Int) < (ns.length : Int) := by omega
      obtain ⟨ad, e, hx0⟩ := Kd.at_string HNN.out (jj : Int) (by omega) (by omega)
      cases e
      replace hx0 := pw_cell_below HBW.out hx0
      simp only [Int.toNat_natCast] at hx0
      have hy : rdOf ByteArray.empty ns (jj : Int) = ns[jj] := by simp [rdOf, List.getD, List.getElem?_eq_getElem hlt]
      have HIX := Aside0.mk (HIN.out (rdOf ByteArray.empty ns (jj : Int)) (by rw [hy]; exact List.getElem_mem hlt))
      have HTJ : Aside0 ((ns.take (jj + 1)).map (pIdx sides x) = (ns.take jj).map (pIdx sides x) ++ [rd x (idxFrom (fun s : S77 => s.f0.toList == (rdOf ByteArray.empty ns (jj : Int)).toList) sides 0)]) := ⟨by rw [hy]; exact map_take_succ _ ns hlt⟩
      have HLJ : Aside0 (((ns.take jj).map (pIdx sides x)).length = jj) := ⟨by simp; omega⟩
      clear hy
      generalize rdOf ByteArray.empty ns (jj : Int) = n at *
      generalize (ns.take jj).map (pIdx sides x) = ys at *
      have HBT := Aside0.mk (below_then HB.out HB.out.size HBW.out)
      have t0 : wr.cell? ⟨Bs, 0, none⟩ = some (.slice As sides.length cs) := (blk_cell (blk_below HBS.out HBW.out) 0).trans rfl
      have t1 : wr.cell? ⟨Bs, 1, none⟩ = some (.slice Ac conds.length cc) := (blk_cell (blk_below HBS.out HBW.out) 1).trans rfl
      have HSC := Aside0.mk (affine_side.calls As cs sides Ac cc conds n _ wr (Kd.C_below hs HBT.out) hcs (Kd.C_below hc HBT.out) hcc rfl)
      obtain ⟨ad2, e2, hx2⟩ := Kd.at_int HX.out _ HIX.out.1 HIX.out.2
      have h0 := HIX.out.1
      have h1 := HIX.out.2
      generalize idxFrom (fun s : S77 => s.f0.toList == n.toList) sides 0 = ix at *
      cases e2
      rw [add_plain] at hx2
      replace hx2 := pw_cell_below HBW.out hx2
      have HL8 : Aside0 ((ys.length + 1) * 8 ≤ 140737488355328) := ⟨by have := HLJ.out; omega⟩
      generalize rd x ix = vv at *
      go_wp2_with (first | (go_at_call 59; refine HSC.out.mono ?_; rintro e w2 ⟨rfl, hb⟩; have HB2 := Aside0.mk (below_step HBW.out hb); have HN2 := Aside0.mk (Kd.N_below HN.out hb); have hx3 := pw_cell_below hb hx2; clear hb) | (at_builtin; refine Kd.N_append KI W.heap.size rfl (.tmp 18) (.tmp 25) 22 3 (.int .i64 0) 8 rfl Tryz.underlying22 info3 rfl (by decide) (by decide) (.slice AU ys.length cU) ys vv [.int .i64 vv] (fun k => R k ∨ w2.heap.size ≤ k) (fun _ => False) rfl rfl (fun _ _ => rfl) (fun _ hk => hk.elim) (fun _ h => .inr h) (Kd.N_mono HN2.out (fun _ h => .inl h)) HB2.out HB2.out.size HL8.out ?_; intro v6 w6 hN6 hB6 hg6 hat6; have HN6 := Aside0.mk hN6; have HB6 := Aside0.mk hB6; clear hN6 hB6 hg6 hat6))
      go_roundg (ns.length - (jj + 1))
      case measure => omega
      case rel => exact ⟨jj + 1, fun k => R k ∨ w2.heap.size ≤ k, v6, by omega, by omega, rfl, by go_num, ⟨by rw [HTJ.out]; exact HN6.out⟩, ⟨fun k hk => hk.elim (HRW.out k) (fun h => Nat.le_trans HB2.out.size h)⟩, HB6⟩
    · have hltz : ¬ (jj : Int) < (ns.length : Int) := by omega
      have ej : jj = ns.length := by omega
      subst ej
      have HTL : Aside0 ((ns.take ns.length).map (pIdx sides x) = pRow sides ns x) := ⟨by rw [List.take_length]; rfl⟩
      have HNZ : Aside0 (Kd.N KI 3 wr W.heap.size R (.slice AU (pRow sides ns x).length cU) (pRow sides ns x)) := ⟨by rw [← HTL.out]; exact HN.out⟩
      have HYW : Aside0 (∀ n ∈ pRow sides ns x, (Lit.int .i64 n).wf = true) := ⟨fun n hn => by
        obtain ⟨f, hf, rfl⟩ := List.mem_map.1 hn
        have hi := HIN.out f hf
        have hlt : (idxFrom (fun s : S77 => s.f0.toList == f.toList) sides 0).toNat < x.length := by omega
        have : rd x (idxFrom (fun s : S77 => s.f0.toList == f.toList) sides 0) ∈ x := by
          simp only [rd, List.getD, List.getElem?_eq_getElem hlt, Option.getD_some]
          exact List.getElem_mem hlt
        exact wf_of (by have := HXW.out _ this; omega)⟩
      have HYL : Aside0 ((pRow sides ns x).length = ns.length) := ⟨by simp [pRow]⟩
      have HST : Aside0 (stProj sides ns ks x = (decide ((if pRow sides ns x ∈ ks then ks else ks ++ [pRow sides ns x]).length ≤ 5000), if pRow sides ns x ∈ ks then ks else ks ++ [pRow sides ns x])) := ⟨rfl⟩
      rw [HTL.out]
      clear HN HTL
      generalize pRow sides ns x = ys at *
      obtain ⟨i0, i1, i2, i3, i4, ⟨d1, d2, d3⟩, i6, ⟨D, i7, i8⟩, v, i9, i10⟩ := HI.out
      obtain ⟨AO, cO, rfl⟩ := Kd.N_slice i10
      have HWT := Aside0.mk ((ht.below HB.out).below HBW.out)
      have HBf := Aside0.mk (blk_below i6 HBW.out)
      have HBo := Aside0.mk (blk_below i9 HBW.out)
      have c0 : wr.cell? ⟨Bf, 0, none⟩ = some (.map (some b)) := (blk_cell HBf.out 0).trans rfl
      have HKC := Aside0.mk (key_calls AU cU ys wr (Kd.N_reads' HNZ.out).2.2 (by have := HYL.out; omega) HYW.out HWT.out)
      have hkey : keyOf Tryz.prog 9 (.string ⟨(rowText ys).toArray⟩) = some (kS (keyB ys)) := kS_key (s := keyB ys) (by
        have := rowText_len ys HYW.out
        have := HYL.out
        show (rowText ys).toArray.size ≤ maxLen
        rw [List.size_toArray]
        unfold maxLen
        omega)
      have hk5 := i0 rfl
      have H7 := Aside0.mk i7
      have H8 := Aside0.mk i8
      have H10 := Aside0.mk i10
      have H9 := Aside0.mk i9
      have D3 := Aside0.mk d3
      have HBO := Aside0.mk i3
      clear i0 i1 i2 i3 i4 d1 d2 d3 i6 i7 i8 i9 i10
      by_cases hq : ys ∈ ks
      · have HS2 : Aside0 (stProj sides ns ks x = (true, ks)) := ⟨by rw [HST.out, if_pos hq, decide_eq_true hk5]⟩
        have hd : decide (ys ∈ ks) = true := decide_eq_true hq
        have hk5z : (ks.length : Int) ≤ 5000 := by omega
        clear hq
        go_wp2_with (go_at_call 57; refine HKC.out.mono ?_; rintro e w2 ⟨rfl, hb⟩; have HB2 := Aside0.mk (below_step HBW.out hb); have c2 : w2.cell? ⟨Bf, 0, none⟩ = some (.map (some b)) := pw_cell_below hb c0; have hlk := MB_look (mb_below H7.out HB2.out) H8.out ys HYL.out hkey; rw [hd] at hlk; have c4 : w2.cell? ⟨Bo, 0, none⟩ = some (.slice AO ks.length cO) := (blk_cell (blk_below HBo.out hb) 0).trans rfl; clear hb)
        go_ret
        rw [HS2.out]
        obtain ⟨i0, i1, i2, i3, i4, d, i6, i7, i9⟩ := HI.out
        have hst := (proj_stays Bf b Bo w0.heap.size ns.length).1 ks F W w2 HI.out HB2.out.size (fun k hk => HB2.out.block k (i4 k hk))
        exact ⟨rfl, F, hst, fun k hk => .inl hk, Kept.of_below HB2.out F, below_then HB.out HB.out.size HB2.out⟩
      · have hd : decide (ys ∈ ks) = false := decide_eq_false hq
        have HQ := Aside0.mk hq
        have HPR : Aside0 (∀ (W1 : World), Below W.heap.size W W1 → ∃ w6, (Instr.mapUpdate 90 (.map (some b)) (.string ⟨(rowText ys).toArray⟩) (.bool true)).run Tryz.prog W1 = .ok () w6 ∧ MB w6 b (ks.length + 1) (D.put (kS (keyB ys)) (.lit (.bool true))) ∧ W1.grownBy w6 (some b)) := ⟨fun W1 hb => (show MB W1 b ks.length D from mb_below H7.out hb).update (t := 90) (e := 4) mlaw Tryz.underlying90 (by unfold maxLen; omega) hkey (plainElem_bool Tryz.underlying4 true)⟩
        have HL24 : Aside0 ((ks.length + 1) * 24 ≤ 140737488355328) := ⟨by omega⟩
        have HBI : Aside0 (F b) := ⟨HI.out.2.2.1⟩
        have HFL : Aside0 (∀ k, F k → k < W.heap.size) := ⟨HI.out.2.2.2.2.1⟩
        have HBL := Aside0.mk (HFL.out b HBI.out)
        clear hq
        have HS2 : Aside0 (stProj sides ns ks x = (decide ((ks.length : Int) + 1 ≤ 5000), ks ++ [ys])) := ⟨by
          rw [HST.out, if_neg HQ.out]
          exact congrArg (·, ks ++ [ys]) (decide_eq_decide.2 (by rw [List.length_append, List.length_singleton]; omega))⟩
        go_wp2_with (first | (go_at_call 57; refine HKC.out.mono ?_; rintro e w2 ⟨rfl, hb⟩; have HBr2 := Aside0.mk hb; have HB2 := Aside0.mk (below_step HBW.out hb); have c2 : w2.cell? ⟨Bf, 0, none⟩ = some (.map (some b)) := pw_cell_below hb c0; have hlk := MB_look (mb_below H7.out HB2.out) H8.out ys HYL.out hkey; rw [hd] at hlk; obtain ⟨w6, hrun, hO6, hG6⟩ := HPR.out w2 HB2.out; have HO6 := Aside0.mk hO6; have HG6 := Aside0.mk hG6; have HB6 := Aside0.mk ((below_then HB.out HB.out.size HB2.out).grown hG6 (Nat.le_trans HB.out.size HB2.out.size) (fun k hk => by injection hk with hk; subst hk; exact HFF.out _ HBI.out)); have b6 := Aside0.mk (blk_grown (blk_below HBo.out hb) hG6 (fun e => D3.out (Option.some.inj e))); have c6 : w6.cell? ⟨Bo, 0, none⟩ = some (.slice AO ks.length cO) := (blk_cell b6.out 0).trans rfl; have HNO6 := Aside0.mk (Kd.N_grown (Kd.N_below H10.out HB2.out) hG6 (fun k hk e => hk.2.2.2 (Option.some.inj e))); have HNR6 := Aside0.mk (Kd.N_grown (Kd.N_below HNZ.out hb) hG6 (fun k hk e => by have h1 := HRW.out k hk; have h2 := HBL.out; injection e with e; omega)); have hfk := Aside0.mk (Kd.FK_slice_mk (e := 3) (Kd.N_reads' HNR6.out).2.1 (Kd.N_F HNR6.out)); clear hb hO6 hG6) | (at_builtin; refine Kd.N_append (Kd.slice 3 KI) w0.heap.size rfl (.tmp 36) (.tmp 38) 48 22 (.slice none 0 0) 24 rfl Tryz.underlying48 info22 rfl (by decide) (by decide) (.slice AO ks.length cO) ks ys [.slice AU ys.length cU] (fun k => (F k ∧ k ≠ Bo ∧ k ≠ Bf ∧ k ≠ b) ∨ R k ∨ w6.heap.size ≤ k) R rfl rfl hfk.out (fun k hk => ⟨.inr (.inl hk), fun e => by have h1 := HRW.out k hk; have h2 := HFL.out k (HNO6.out.1 k e.symm).1; omega⟩) (fun _ h => .inr (.inr h)) (Kd.N_mono HNO6.out (fun _ h => .inl h)) HB6.out HB6.out.size HL24.out ?_; intro v7 w7 hN7 hB7 hg7 hat7; obtain ⟨A7, c7, rfl⟩ := Kd.N_slice hN7; have HN7 := Aside0.mk hN7; have HG7 := Aside0.mk hg7; have b7 := blk_grown b6.out hg7 (fun e => (HNO6.out.1 Bo e.symm).2.1 rfl); have c7' : w7.cell? ⟨Bo, 0, none⟩ = some (.slice AO ks.length cO) := (blk_cell b7 0).trans rfl; have f7 := blk_frozen b7 0; have l7 := blk_lt b7; clear hN7 hB7 hg7 hat7 b7))
        go_ret
        rw [HS2.out]
        have hS8 := H8.out.put ys HYL.out HQ.out
        obtain ⟨F', j1, j2, j3, j4⟩ := proj_new (bb := decide ((ks.length : Int) + 1 ≤ 5000)) HI.out H9.out H10.out HB2.out HG6.out HO6.out hS8 HG7.out HN7.out HRW.out HFF.out HB.out (fun h => by
          have := of_decide_eq_true h
          rw [List.length_append, List.length_singleton]
          omega)
        rw [show (ks ++ [ys]).length = ks.length + 1 by simp] at j1 j3 j4
        exact ⟨rfl, F', j1, j2, j3, j4⟩
def projRows (l0 : List S77) (l1 : List S33) (ns : List ByteArray) : List (List Int) := (ptsOf l0 l1).map (pRow l0 ns)
def ProjIs (l0 : List S77) (l1 : List S33) (ns : List ByteArray) (zs : List (List Int)) (r : Int) : Prop :=
  (setFault l0 l1 ≠ 0 → zs = [] ∧ r = setFault l0 l1) ∧ (setFault l0 l1 = 0 → namesS l0 [] ns ≠ 0 → zs = [] ∧ r = namesS l0 [] ns) ∧
    (setFault l0 l1 = 0 → namesS l0 [] ns = 0 → (5000 < (dd (projRows l0 l1 ns)).length → zs = [] ∧ r = 12) ∧ ((dd (projRows l0 l1 ns)).length ≤ 5000 → r = 0 ∧ Rise zs ∧ ∀ x, x ∈ zs ↔ x ∈ projRows l0 l1 ns))
theorem bytes_ext {a b : ByteArray} (h : a.toList = b.toList) : a = b := by
  rw [ByteArray.toList_eq, ByteArray.toList_eq] at h
  cases a; cases b
  simp only at h
  rw [Array.toList_inj.1 h]
theorem names_ok {l0 : List S77} : ∀ (ns done : List ByteArray), namesS l0 done ns = 0 → ∀ n ∈ ns, nameOk n = true ∧ n ∈ l0.map (·.f0)
  | [], _, _, n, hn => by simp at hn
  | m :: r, done, h, n, hn => by
    unfold namesS at h
    by_cases h1 : nameOk m = true
    · rw [if_pos h1] at h
      by_cases h2 : (l0.any fun s => s.f0.toList == m.toList) = true
      · rw [if_pos h2] at h
        by_cases h3 : (done.any fun x => decide (m = x)) = true
        · rw [if_pos h3] at h; simp at h
        · rw [if_neg h3] at h
          rcases List.mem_cons.1 hn with rfl | hn
          · obtain ⟨s, hs, he⟩ := List.any_eq_true.1 h2
            exact ⟨h1, List.mem_map.2 ⟨s, hs, bytes_ext (beq_iff_eq.1 he)⟩⟩
          · exact names_ok r _ h n hn
      · rw [if_neg h2] at h; simp at h
    · rw [if_neg h1] at h; simp at h
theorem proj_names {l0 : List S77} {l1 : List S33} {ns : List ByteArray} {v : Int} (e0 : setFault l0 l1 = 0) (h : namesS l0 [] ns = v) (hv : v ≠ 0) : ProjIs l0 l1 ns [] v :=
  ⟨fun h' => absurd e0 h', fun _ _ => ⟨rfl, h.symm⟩, fun _ h2 => absurd (h.symm.trans h2) hv⟩
theorem proj_start (w : World) (m : Nat) : IProj (w.heap.size + 1) w.heap.size (w.heap.size + 1 + 1) w.heap.size m true [] (fun k => k = w.heap.size + 1 ∨ k = w.heap.size ∨ k = w.heap.size + 1 + 1) (((w.alloc (.map #[] 0)).alloc (.cells #[.map (some w.heap.size)] 90)).alloc (.cells #[.slice none 0 0] 48)) := by
  refine ⟨fun _ => Nat.zero_le _, .inl rfl, .inr (.inl rfl), .inr (.inr rfl), fun k hk => by simp; omega, ⟨by omega, by omega, by omega⟩, blk_alloc ?_ _, ⟨.map [], ?_, SetB.nil m⟩, .slice none 0 0, ?_, Kd.N_nil _ _ _ _ _⟩
  · have := blk_new (w.alloc (.map #[] 0)) (.cells #[.map (some w.heap.size)] 90)
    simpa using this
  · have := World.ownsMap_made (H := Unit) w Tryz.prog 9 (plainElem Tryz.prog 4)
    exact mb_below this (below_alloc (below_alloc (Below.refl _ _) _) _)
  · have := blk_new ((w.alloc (.map #[] 0)).alloc (.cells #[.map (some w.heap.size)] 90)) (.cells #[.slice none 0 0] 48)
    simpa using this
theorem name58 (n : ByteArray) (h : n.size ≤ 100) (W : World) : Calls Tryz.prog 58 #[.string n] W fun e w' => e = .returned (.bool (nameOk n)) ∧ Below W.heap.size W w' :=
  (kit_IsName.calls 1000 n _ W (isName_f n (by omega) 1000 (by omega))).mono fun e w' ⟨he, hd⟩ => ⟨he, below_drawn0 (Below.refl _ _) hd⟩
set_option maxHeartbeats 4000000 in
set_option maxRecDepth 100000 in
theorem L_projected {A A' AN : Option Addr} {c c' cN : Nat} {l0 : List S77} {l1 : List S33} {ns : List ByteArray} {w : World} (h : SetAt A c l0 A' c' l1 w) (hL : Kd.C Kd.string w AN ns.length ns) (hcN : ns.length ≤ cN) (hl : ns.length ≤ 8) (hsz : ∀ n ∈ ns, n.size ≤ 100) (ht : Tab w) :
    Calls Tryz.prog 15 #[.agg #[.slice A l0.length c, .slice A' l1.length c'], .slice AN ns.length cN] w fun e w' => ∃ (X : Option Addr) (cx : Nat) (zs : List (List Int)) (r : Int), e = .returned (.tuple #[.slice X zs.length cx, .int .i64 r]) ∧ Aside0 (ProjIs l0 l1 ns zs r) ∧ Aside0 (Kd.C (Kd.slice 3 KI) w' X zs.length zs) ∧ Aside0 (Below w.heap.size w w') := by
  have HA := Aside0.mk h
  have hB1 := Aside0.mk (below_alloc (below_alloc (Below.refl w.heap.size w) (.cells #[.slice A l0.length c, .slice A' l1.length c'] 29)) (.cells #[.slice AN ns.length cN] 37))
  by_cases e0 : setFault l0 l1 = 0
  · have HL := Aside0.mk hL
    have HS := Aside0.mk hsz
    have HT := Aside0.mk ht
    have HE0 := Aside0.mk e0
    have HV := Aside0.mk (valid_of e0)
    have hmm := @run_makeMap Tryz.prog
    have hb1 := Aside0.mk (blk_alloc (blk_new w (.cells #[.slice A l0.length c, .slice A' l1.length c'] 29)) (.cells #[.slice AN ns.length cN] 37))
    have hb2 : Aside0 (((w.alloc (.cells #[.slice A l0.length c, .slice A' l1.length c'] 29)).alloc (.cells #[.slice AN ns.length cN] 37)).heap[w.heap.size + 1]? = some (.cells #[.slice AN ns.length cN] 37 (0, 0))) := ⟨by have := blk_new (w.alloc (.cells #[.slice A l0.length c, .slice A' l1.length c'] 29)) (.cells #[.slice AN ns.length cN] 37); simpa using this⟩
    have h8 : ¬ (8 : Int) < (ns.length : Int) := by omega
    clear h hL hsz ht e0
    have eg := enters_of Tryz.func60 (by kernel_rfl) rfl
    go_enter Tryz.func15, Tryz.ntmps15
    go_wp2_with (go_at_call 51; refine (bodyCheck HE0.out (HA.out.below hB1.out)).mono ?_; rintro e w1 ⟨rfl, hb⟩; have HB1 := Aside0.mk (below_step hB1.out hb); have HX1 := Aside0.mk (blk_below hb1.out hb); have HX2 := Aside0.mk (blk_below hb2.out hb); have y2 : w1.cell? ⟨w.heap.size + 1, 0, none⟩ = some (.slice AN ns.length cN) := (blk_cell HX2.out 0).trans rfl; clear hb)
    clear y2
    go_loopg [7, 8, 21, 26, 30, 35] ns.length (fun gg _ _ s21 _ _ _ wr => ∃ kk : Nat, kk ≤ ns.length ∧ ns.length - kk ≤ gg ∧ s21 = .int .i64 kk ∧ Aside0 (Below w1.heap.size w1 wr) ∧ Aside0 (namesS l0 [] ns = namesS l0 (ns.take kk) (ns.drop kk)))
    case atStart => exact ⟨0, Nat.zero_le _, by omega, rfl, ⟨Below.refl _ _⟩, ⟨by simp⟩⟩
    case round =>
      obtain ⟨kk, hkk, hg, rfl, HB, AQ⟩ := hrel
      have HBR := Aside0.mk (below_step HB1.out HB.out)
      have HSA := Aside0.mk (HA.out.below HBR.out)
      have HX1' := Aside0.mk (blk_below HX1.out HB.out)
      have HX2' := Aside0.mk (blk_below HX2.out HB.out)
      have t0 : wr.cell? ⟨w.heap.size, 0, none⟩ = some (.slice A l0.length c) := (blk_cell HX1'.out 0).trans rfl
      have t1 : wr.cell? ⟨w.heap.size, 1, none⟩ = some (.slice A' l1.length c') := (blk_cell HX1'.out 1).trans rfl
      have t2 : wr.cell? ⟨w.heap.size + 1, 0, none⟩ = some (.slice AN ns.length cN) := (blk_cell HX2'.out 0).trans rfl
      have lB := blk_lt HX1'.out
      by_cases hlt : kk < ns.length
      · have hltz : (kk : Int) < (ns.length : Int) := by omega
        obtain ⟨ad, e, hx0⟩ := Kd.at_string HL.out (kk : Int) (by omega) (by omega)
        cases e
        replace hx0 := pw_cell_below HBR.out hx0
        simp only [Int.toNat_natCast] at hx0
        have hy : rdOf ByteArray.empty ns (kk : Int) = ns[kk] := by simp [rdOf, List.getD, List.getElem?_eq_getElem hlt]
        have HSZ := Aside0.mk (HS.out (rdOf ByteArray.empty ns (kk : Int)) (by rw [hy]; exact List.getElem_mem hlt))
        have HAQ : Aside0 (namesS l0 [] ns = namesS l0 (ns.take kk) (rdOf ByteArray.empty ns (kk : Int) :: ns.drop (kk + 1))) := ⟨by rw [AQ.out, hy, List.drop_eq_getElem_cons hlt]⟩
        have HTK : Aside0 (ns.take (kk + 1) = ns.take kk ++ [rdOf ByteArray.empty ns (kk : Int)]) := ⟨by rw [hy, List.take_succ_eq_append_getElem hlt]⟩
        clear hy
        generalize rdOf ByteArray.empty ns (kk : Int) = n at *
        have HN := Aside0.mk (name58 n HSZ.out)
        have HSC := Aside0.mk (affine_side.calls A c l0 A' c' l1 n _ wr HSA.out.hs HSA.out.hc HSA.out.ks HSA.out.kc rfl)
        have HIX := Aside0.mk (idxFrom_ge (fun s : S77 => s.f0.toList == n.toList) l0 0 (by omega))
        have HCN := Aside0.mk (contains_f (ns.take kk) n 2000 (by rw [List.length_take]; omega) (by rw [List.length_take]; omega))
        have HLT : Aside0 ((ns.take kk).length = kk) := ⟨by rw [List.length_take]; omega⟩
        have HCC : Aside0 (∀ W, Below wr.heap.size wr W → Calls Tryz.prog 48 #[.slice (some ad) kk cN, .string n] W fun e w' => e = .returned (.bool ((ns.take kk).any fun x => decide (n = x))) ∧ Drawn0 W w') := ⟨fun W hb => by
          have := slices_Contains_string_string.calls 2000 (some ad) cN (ns.take kk) n _ W (Kd.C_below (Kd.C_take (Kd.C_below HL.out HBR.out) hkk) hb) (by rw [List.length_take]; omega) HCN.out
          rw [HLT.out] at this
          exact this⟩
        have hkc : (kk : Int) ≤ (cN : Int) := by omega
        have hk0 : (0 : Int) ≤ (kk : Int) := by omega
        obtain ⟨ix, HIQ⟩ : ∃ ix, Aside0 (idxFrom (fun s : S77 => s.f0.toList == n.toList) l0 0 = ix) := ⟨_, ⟨rfl⟩⟩
        rw [HIQ.out] at HIX
        cases hn : nameOk n with
        | false =>
          rw [hn] at HN
          have HE : Aside0 (namesS l0 [] ns = 5) := ⟨by rw [HAQ.out, namesS, hn]; rfl⟩
          go_wp2_with (go_at_call 58; refine (HN.out _).mono ?_; rintro e w2 ⟨rfl, hd⟩; have HB2 := Aside0.mk hd; have u0 : w2.cell? ⟨w.heap.size, 0, none⟩ = some (.slice A l0.length c) := pw_cell_below HB2.out t0; have u1 : w2.cell? ⟨w.heap.size, 1, none⟩ = some (.slice A' l1.length c') := pw_cell_below HB2.out t1; have u2 := pw_cell_below HB2.out t2; have HS2 := Aside0.mk (HSA.out.below HB2.out); clear hd)
          go_ret2
          exact ⟨none, 0, [], 5, rfl, ⟨proj_names HE0.out HE.out (by decide)⟩, ⟨Kd.C_nil _ _⟩, ⟨below_step HBR.out HB2.out⟩⟩
        | true =>
          rw [hn] at HN
          cases ha : l0.any (fun s => s.f0.toList == n.toList) with
          | false =>
            have HE : Aside0 (namesS l0 [] ns = 8) := ⟨by rw [HAQ.out, namesS, hn, ha]; rfl⟩
            have hix : ix < 0 := by
              have := HIX.out
              rw [ha, decide_eq_false_iff_not] at this
              omega
            clear ha
            go_wp2_with (first | (go_at_call 58; refine (HN.out _).mono ?_; rintro e w2 ⟨rfl, hd⟩; have HB2 := Aside0.mk hd; have u0 : w2.cell? ⟨w.heap.size, 0, none⟩ = some (.slice A l0.length c) := pw_cell_below HB2.out t0; have u1 : w2.cell? ⟨w.heap.size, 1, none⟩ = some (.slice A' l1.length c') := pw_cell_below HB2.out t1; have u2 := pw_cell_below HB2.out t2; have HS2 := Aside0.mk (HSA.out.below HB2.out); clear hd) | (go_at_call 59; refine (affine_side.calls A c l0 A' c' l1 n _ w2 HS2.out.hs HS2.out.hc HS2.out.ks HS2.out.kc rfl).mono ?_; rintro e w3 ⟨rfl, hb⟩; rw [HIQ.out]; have HB3 := Aside0.mk (below_step HB2.out hb); have v2 := pw_cell_below hb u2; clear hb))
            go_ret2
            exact ⟨none, 0, [], 8, rfl, ⟨proj_names HE0.out HE.out (by decide)⟩, ⟨Kd.C_nil _ _⟩, ⟨below_step HBR.out HB3.out⟩⟩
          | true =>
            have hix : ¬ ix < 0 := by
              have := HIX.out
              rw [ha, decide_eq_true_eq] at this
              omega
            cases hd : (ns.take kk).any (fun x => decide (n = x)) with
            | true =>
              have HE : Aside0 (namesS l0 [] ns = 6) := ⟨by rw [HAQ.out, namesS, hn, ha, hd]; rfl⟩
              rw [hd] at HCC
              clear ha hd
              go_wp2_with (first | (go_at_call 58; refine (HN.out _).mono ?_; rintro e w2 ⟨rfl, hd⟩; have HB2 := Aside0.mk hd; have u0 : w2.cell? ⟨w.heap.size, 0, none⟩ = some (.slice A l0.length c) := pw_cell_below HB2.out t0; have u1 : w2.cell? ⟨w.heap.size, 1, none⟩ = some (.slice A' l1.length c') := pw_cell_below HB2.out t1; have u2 := pw_cell_below HB2.out t2; have HS2 := Aside0.mk (HSA.out.below HB2.out); clear hd) | (go_at_call 59; refine (affine_side.calls A c l0 A' c' l1 n _ w2 HS2.out.hs HS2.out.hc HS2.out.ks HS2.out.kc rfl).mono ?_; rintro e w3 ⟨rfl, hb⟩; rw [HIQ.out]; have HB3 := Aside0.mk (below_step HB2.out hb); have v2 := pw_cell_below hb u2; clear hb) | (go_at_call 48; refine (HCC.out _ HB3.out).mono ?_; rintro e w4 ⟨rfl, hd⟩; have HB4 := Aside0.mk (below_step HB3.out (below_drawn0 (Below.refl _ _) hd)); clear hd))
              go_ret2
              exact ⟨none, 0, [], 6, rfl, ⟨proj_names HE0.out HE.out (by decide)⟩, ⟨Kd.C_nil _ _⟩, ⟨below_step HBR.out HB4.out⟩⟩
            | false =>
              have HE : Aside0 (namesS l0 [] ns = namesS l0 (ns.take (kk + 1)) (ns.drop (kk + 1))) := ⟨by rw [HAQ.out, namesS, hn, ha, hd, HTK.out]; rfl⟩
              rw [hd] at HCC
              clear ha hd
              go_wp2_with (first | (go_at_call 58; refine (HN.out _).mono ?_; rintro e w2 ⟨rfl, hd⟩; have HB2 := Aside0.mk hd; have u0 : w2.cell? ⟨w.heap.size, 0, none⟩ = some (.slice A l0.length c) := pw_cell_below HB2.out t0; have u1 : w2.cell? ⟨w.heap.size, 1, none⟩ = some (.slice A' l1.length c') := pw_cell_below HB2.out t1; have u2 := pw_cell_below HB2.out t2; have HS2 := Aside0.mk (HSA.out.below HB2.out); clear hd) | (go_at_call 59; refine (affine_side.calls A c l0 A' c' l1 n _ w2 HS2.out.hs HS2.out.hc HS2.out.ks HS2.out.kc rfl).mono ?_; rintro e w3 ⟨rfl, hb⟩; rw [HIQ.out]; have HB3 := Aside0.mk (below_step HB2.out hb); have v2 := pw_cell_below hb u2; clear hb) | (go_at_call 48; refine (HCC.out _ HB3.out).mono ?_; rintro e w4 ⟨rfl, hd⟩; have HB4 := Aside0.mk (below_step HB3.out (below_drawn0 (Below.refl _ _) hd)); clear hd))
              go_roundg (ns.length - (kk + 1))
              case measure => omega
              case rel => exact ⟨kk + 1, by omega, by omega, by go_num, ⟨below_step HB.out HB4.out⟩, HE⟩
      · have hltz : ¬ (kk : Int) < (ns.length : Int) := by omega
        have ek : kk = ns.length := by omega
        subst ek
        have HNS : Aside0 (namesS l0 [] ns = 0) := ⟨by rw [AQ.out, List.drop_length]; rfl⟩
        have HNO := Aside0.mk (names_ok ns [] HNS.out)
        have HRP := Aside0.mk (runL_proj l0 ns (ptsOf l0 l1) [] (Nat.zero_le _))
        have HBW := Aside0.mk (below_alloc (below_alloc (below_alloc (Below.refl wr.heap.size wr) (.map #[] 0)) (.cells #[.map (some wr.heap.size)] 90)) (.cells #[.slice none 0 0] 48))
        have HTW := Aside0.mk (HT.out.below HBR.out)
        have HST := Aside0.mk (proj_start wr ns.length)
        obtain ⟨ks, HKS⟩ : ∃ ks, Aside0 (runL (fun _ => true) (stProj l0 ns) [] (ptsOf l0 l1) = ks) := ⟨_, ⟨rfl⟩⟩
        rw [HKS.out] at HRP
        have HEC : Aside0 (Calls Tryz.prog 53 #[.agg #[.slice A l0.length c, .slice A' l1.length c'], .func (.func 60) #[] #[.pointer (some ⟨w.heap.size + 1, 0, none⟩), .pointer (some ⟨w.heap.size, 0, none⟩), .pointer (some ⟨wr.heap.size + 1, 0, none⟩), .pointer (some ⟨wr.heap.size + 1 + 1, 0, none⟩)]] (((wr.alloc (.map #[] 0)).alloc (.cells #[.map (some wr.heap.size)] 90)).alloc (.cells #[.slice none 0 0] 48)) fun e w' => e = .returned (.tuple #[]) ∧ ∃ (AO : Option Addr) (cO : Nat) (F : Nat → Prop), Aside0 (Below wr.heap.size wr w') ∧ Aside0 (w'.heap[wr.heap.size + 1 + 1]? = some (.cells #[.slice AO ks.length cO] 48 (0, 0))) ∧ Aside0 (Kd.N (Kd.slice 3 KI) 22 w' wr.heap.size (fun k => F k ∧ k ≠ wr.heap.size + 1 + 1) (.slice AO ks.length cO) ks)) := ⟨by
          refine (each_callsB 300000 60 #[.pointer (some ⟨w.heap.size + 1, 0, none⟩), .pointer (some ⟨w.heap.size, 0, none⟩), .pointer (some ⟨wr.heap.size + 1, 0, none⟩), .pointer (some ⟨wr.heap.size + 1 + 1, 0, none⟩)] (fun bb => IProj (wr.heap.size + 1) wr.heap.size (wr.heap.size + 1 + 1) wr.heap.size ns.length bb) (stProj l0 ns) l0 l1 A A' c c' [] ks (fun k => k = wr.heap.size + 1 ∨ k = wr.heap.size ∨ k = wr.heap.size + 1 + 1) wr _ HSA.out.hs HSA.out.hc HSA.out.ks HSA.out.kc HBW.out HST.out (fun k hk => by omega) ?_ (proj_stays _ _ _ _ _) (fun s F W h => ⟨fun h' => absurd h' (by decide), h.2⟩) eg HV.out.len (okSet_all (okSet_valid HV.out)).2 ((each_pts HV.out (stProj l0 ns) [] 300000 (by omega)).trans (congrArg some HKS.out))).mono ?_
          · intro s x hx hib hE
            unfold insideB at hib
            rw [Bool.and_eq_true] at hib
            exact proj_at wr l0 l1 ns A A' AN c c' cN w.heap.size (w.heap.size + 1) (wr.heap.size + 1) wr.heap.size (wr.heap.size + 1 + 1) HX1'.out HX2'.out HSA.out.hs HSA.out.hc HSA.out.ks HSA.out.kc (Kd.C_below HL.out HBR.out) hl HTW.out s x (by rw [hx]; exact HV.out.len) (fun n hn => by
              obtain ⟨j, j1, j2, _⟩ := idx_at l0 n (HNO.out n hn).2
              rw [j2, hx]
              omega) (within_mem l0 x hx hib.1 (fun s hs => ⟨(HV.out.sd s hs).2.1.1, (HV.out.sd s hs).2.2.2⟩))
          · rintro e w' ⟨he, F', ⟨i0, i1, i2, i3, i4, i5, i6, i7, v, i8, i9⟩, j1, j2, j3⟩
            obtain ⟨AO, cO, rfl⟩ := Kd.N_slice i9
            exact ⟨he, AO, cO, F', ⟨j3⟩, ⟨i8⟩, ⟨Kd.N_mono i9 (fun k hk => ⟨hk.1, hk.2.1⟩)⟩⟩⟩
        clear HST HBW HTW HSA
        have lB1 := Nat.lt_succ_of_lt lB
        have lB2 := Nat.lt_succ_of_lt lB1
        rw [Nat.succ_eq_add_one] at lB1 lB2
        by_cases h5 : ks.length ≤ 5000
        · have HDD : Aside0 (ks = dd (projRows l0 l1 ns)) := ⟨by
            refine HRP.out.1 ?_
            rcases Nat.lt_or_ge 5000 (ddF [] ((ptsOf l0 l1).map (pRow l0 ns))).length with h | h
            · have := HRP.out.2 h
              omega
            · exact h⟩
          have HPI : Aside0 (∀ zs : List (List Int), zs.Perm ks → Ris zs → ProjIs l0 l1 ns zs 0) := ⟨fun zs hp hr => ⟨fun h => absurd HE0.out h, fun _ h => absurd HNS.out h, fun _ _ => ⟨fun h => by rw [← HDD.out] at h; omega, fun _ => ⟨rfl, hr.rise (hp.nodup_iff.2 (by rw [HDD.out]; exact dd_nodup _)), fun x => by rw [hp.mem_iff, HDD.out, dd_mem]⟩⟩⟩⟩
          have h5z : ¬ (5000 : Int) < (ks.length : Int) := by omega
          clear HRP HKS HDD
          by_cases hx : ks = []
          · subst hx
            go_wp2_with (first | (go_at_call 53; refine HEC.out.mono ?_; rintro e w3 ⟨rfl, AO, cO, F, HB3, HO3, HN3⟩; have c3 : w3.cell? ⟨wr.heap.size + 1 + 1, 0, none⟩ = some (.slice AO 0 cO) := (blk_cell HO3.out 0).trans rfl; clear HEC) | (go_at_call 61; refine (sort_none AO cO _ w3).mono ?_; rintro e w4 ⟨rfl, rfl⟩))
            go_ret2
            exact ⟨AO, cO, [], 0, rfl, ⟨HPI.out [] (List.Perm.refl _) List.Pairwise.nil⟩, ⟨⟨rfl, Nat.zero_le _, fun h => absurd h (Nat.lt_irrefl 0)⟩⟩, ⟨below_step HBR.out HB3.out⟩⟩
          · have hpos := List.length_pos_iff.2 hx
            have HK5 := Aside0.mk h5
            go_wp2_with (first | (go_at_call 53; refine HEC.out.mono ?_; rintro e w3 ⟨rfl, AO, cO, F, HB3, HO3, HN3⟩; obtain ⟨g, cap, e, hg1, hg2, _⟩ := Kd.N_form HN3.out hpos; injection e with e1 e2 e3; subst e1; subst e3; have c3 : w3.cell? ⟨wr.heap.size + 1 + 1, 0, none⟩ = some (.slice (some ⟨g, 0, none⟩) ks.length cO) := (blk_cell HO3.out 0).trans rfl; have HRA := Aside0.mk (RowsAt.of_N HN3.out); have HGO : Aside0 (wr.heap.size + 1 + 1 ≠ g) := ⟨fun e => (HN3.out.1 g rfl).2 e.symm⟩; have HSR := Aside0.mk (SortRows sort_says (cap := cO) HRA.out hg2 hg1 HB3.out (by have := HK5.out; omega)); clear HEC e2 hg1 hg2) | (go_at_call 61; refine HSR.out.mono ?_; rintro e w4 ⟨rfl, zs, hzp, hzr, hza, hzk, hzb⟩; have HZP := Aside0.mk hzp; have HZR := Aside0.mk hzr; have HZA := Aside0.mk hza; have HZB := Aside0.mk hzb; have HZL := Aside0.mk hzp.length_eq; have c4 : w4.cell? ⟨wr.heap.size + 1 + 1, 0, none⟩ = some (.slice (some ⟨g, 0, none⟩) ks.length cO) := (blk_cell (blk_kept HO3.out hzk HGO.out) 0).trans rfl; clear hzp hzr hza hzk hzb))
            go_ret2
            exact ⟨some ⟨g, 0, none⟩, cO, zs, 0, by rw [HZL.out]; rfl, ⟨HPI.out zs HZP.out HZR.out⟩, ⟨HZA.out.C (by have := HZL.out; have := HK5.out; omega)⟩, ⟨below_step HBR.out HZB.out⟩⟩
        · have HDD : Aside0 (5000 < (dd (projRows l0 l1 ns)).length) := ⟨by
            rcases Nat.lt_or_ge 5000 (ddF [] ((ptsOf l0 l1).map (pRow l0 ns))).length with h | h
            · exact h
            · have := HRP.out.1 h
              rw [← this] at h
              exact absurd h h5⟩
          have h5z : (5000 : Int) < (ks.length : Int) := by omega
          clear HRP HKS
          go_wp2_with (go_at_call 53; refine HEC.out.mono ?_; rintro e w3 ⟨rfl, AO, cO, F, HB3, HO3, HN3⟩; have c3 : w3.cell? ⟨wr.heap.size + 1 + 1, 0, none⟩ = some (.slice AO ks.length cO) := (blk_cell HO3.out 0).trans rfl)
          go_ret2
          exact ⟨none, 0, [], 12, rfl, ⟨⟨fun h => absurd HE0.out h, fun _ h => absurd HNS.out h, fun _ _ => ⟨fun _ => ⟨rfl, rfl⟩, fun h => by have := HDD.out; omega⟩⟩⟩, ⟨Kd.C_nil _ _⟩, ⟨below_step HBR.out HB3.out⟩⟩
  · have e2 : (setFault l0 l1 != 0) = true := bne_iff_ne.2 e0
    have HZ : Aside0 (ProjIs l0 l1 ns [] (setFault l0 l1)) := ⟨⟨fun _ => ⟨rfl, rfl⟩, fun h => absurd h e0, fun h => absurd h e0⟩⟩
    clear h hL hsz ht e0
    go_enter Tryz.func15, Tryz.ntmps15
    go_wp2_with (go_at_call 51; refine (L_check (HA.out.below hB1.out)).mono ?_; rintro e w1 ⟨rfl, hb⟩; have HB1 := Aside0.mk (below_step hB1.out hb); clear hb)
    go_ret2
    exact ⟨none, 0, [], _, rfl, HZ, ⟨Kd.C_nil _ _⟩, HB1⟩
end Go.Proofs.YtjgakaembhmhpaaGreatDoor.PA
