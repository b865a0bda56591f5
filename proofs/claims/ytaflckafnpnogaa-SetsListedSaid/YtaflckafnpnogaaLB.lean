/- Part of the proof of SetsListed (the law's walk); what it proves holds without further conditions. -/
import Derived.Test.YtaflckafnpnogaaLA
namespace Go.Proofs.Ytaflckafnpnogaa.PA
open Go.RowKit Go.Proofs.YtaflckafnpnogaaW.PrintWords Go.Proofs.YtaflckafnpnogaaW.PrintLast Go.Proofs.YtaflckafnpnogaaW.PrintMore Go.Proofs.YtaflckafnpnogaaM
set_option linter.unusedVariables false
set_option linter.unusedSimpArgs false
set_option maxHeartbeats 16000000 in
set_option maxRecDepth 100000 in
theorem law_front (hA : ASetSays) (a0 : Option Addr) (c0 : Nat) (z : List Int) (w : World) (hr : Kd.C (Kd.int .i64) w a0 z.length z) (hc : z.length ≤ c0) :
    Calls Try.prog 3 #[.slice a0 z.length c0] w fun e w' => e = .returned (.bool true) ∧ Below w.heap.size w w' := by
  have hst : StOk w (w.alloc (.cells #[.slice a0 z.length c0, .int .i64 0] 25)) w.heap.size z 0 := ⟨0, Int.le_refl _, Int.le_refl _, a0, c0, blk_new w _, Nat.le_refl _, hr⟩
  have HP1 := Aside0.mk (hA w _ w.heap.size 0 z hst (by omega) (below_alloc (Below.refl _ _) _))
  clear hst hr
  go_enter Try.func3, Try.ntmps3
  go_wp2_with (first | (go_at_call 4; refine HP1.out.mono ?_; rintro e w2 ⟨A, c, l0, A', c', l1, rfl, hle, ⟨m0, m1, m2, m3⟩, ⟨ok, hF, hF', hg⟩, hS, hB⟩; have HS2 := Aside0.mk (hS.below (below_alloc (Below.refl _ _) (.cells #[.slice A l0.length c, .slice A' l1.length c'] 29))); have HB2 := Aside0.mk (below_step hB (below_alloc (Below.refl w2.heap.size w2) (.cells #[.slice A l0.length c, .slice A' l1.length c'] 29))); have HF2 := Aside0.mk (Kd.F_alloc hF (.cells #[.slice A l0.length c, .slice A' l1.length c'] 29)); have HF3 := Aside0.mk (Kd.F_alloc hF' (.cells #[.slice A l0.length c, .slice A' l1.length c'] 29)); have HBQ := Aside0.mk (blk_new w2 (.cells #[.slice A l0.length c, .slice A' l1.length c'] 29)); have HGL := Aside0.mk hS.lt; have HLE := Aside0.mk hle; have HM1 := Aside0.mk m1; have HM3 := Aside0.mk m3; have HM2 := Aside0.mk m2; have HOK := Aside0.mk hg; clear hF hF' hS hB hle m1 m2 m3 hg) | (go_at_call 5; refine (St_Values HS2.out (by omega) HB2.out l0.length (by omega)).mono ?_; rintro e w4 ⟨X, cx, x, rfl, hxc, hxl, hxC, hB4, hK4⟩; have HX4 := Aside0.mk hxC; have HB4 := Aside0.mk hB4; have HK4 := Aside0.mk hK4; have bq := HK4.out.2 _ (blk_lt HBQ.out) (by have := HGL.out; omega) (by simp); have z0 : w4.cell? ⟨w2.heap.size, 0, none⟩ = some (.slice A l0.length c) := (blk_cell (bq.trans HBQ.out) 0).trans rfl; have z1 : w4.cell? ⟨w2.heap.size, 1, none⟩ = some (.slice A' l1.length c') := (blk_cell (bq.trans HBQ.out) 1).trans rfl; have HBQ4 := Aside0.mk (bq.trans HBQ.out); clear hxC hB4 hK4 bq))
  have HA4 : Aside0 (SetAt A c l0 A' c' l1 w4) := ⟨Kd.F_now (Kd.F_keep HF2.out HK4.out (fun k hk e => HOK.out (e ▸ hk))), HLE.out.1, Kd.F_now (Kd.F_keep HF3.out HK4.out (fun k hk e => HOK.out (e ▸ hk))), HLE.out.2, HM1.out, HM2.out, HM3.out⟩
  have HBW : Aside0 (Below w.heap.size w w4) := ⟨HB4.out⟩
  clear HP1 HS2 HB2 HF2 HF3 HBQ HGL HLE HM1 HM2 HM3 HOK HK4
  by_cases hm : setFault l0 l1 = 0
  · have HM := Aside0.mk hm; have HB4r := Aside0.mk (Below.refl w4.heap.size w4)
    clear hm
    by_cases hp : ptsOf l0 l1 = []
    · have HP := Aside0.mk hp
      clear hp
      by_cases hx : x.length = l0.length
      · have HX := Aside0.mk hx
        clear hx
        refine (L_fault0 HA4.out HM.out).mono ?_
        rintro e w5 ⟨rfl, hb⟩
        obtain ⟨HB5, y50, y51⟩ := stp HBQ4 HB4r hb; clear hb
        go_wp2_with (first | (go_at_call 7; refine (L_has (b := isPointB l0 l1 x) (r := 0) (HA4.out.below HB5.out) (Kd.C_below HX4.out HB5.out) hxc (by rw [if_pos HM.out, if_pos HX.out])).mono ?_; rintro e w6 ⟨rfl, hb⟩; obtain ⟨HB6, y60, y61⟩ := stp HBQ4 HB5 hb; clear hb) | (go_at_call 8; refine (L_countN (n := 0) (HA4.out.below HB6.out) HM.out (by rw [HP.out]; rfl)).mono ?_; rintro e w7 ⟨rfl, hb⟩; obtain ⟨HB7, y70, y71⟩ := stp HBQ4 HB6 hb; clear hb) | (go_at_call 9; refine (L_points (s := []) (r := 0) (HA4.out.below HB7.out) (by rw [if_pos HM.out, HP.out]; rfl)).mono ?_; rintro e w8 ⟨X8, c8, rfl, hC8, hb⟩; obtain ⟨HB8, y80, y81⟩ := stp HBQ4 HB7 hb; clear hb; clear hC8) | (go_at_call 10; refine (L_least (s := []) (b := false) (r := 0) (HA4.out.below HB8.out) (by rw [if_pos HM.out, HP.out])).mono ?_; rintro e w9 ⟨X9, c9, rfl, ⟨hl9, hC9⟩, hb⟩; obtain ⟨HB9, y90, y91⟩ := stp HBQ4 HB8 hb; clear hb; clear hC9 hl9) | (go_at_call 11; refine (L_greatest (s := []) (b := false) (r := 0) (HA4.out.below HB9.out) (by rw [if_pos HM.out, HP.out]; rfl)).mono ?_; rintro e w10 ⟨X10, c10, rfl, ⟨hl10, hC10⟩, hb⟩; obtain ⟨HB10, y100, y101⟩ := stp HBQ4 HB9 hb; clear hb; clear hC10 hl10))
        refine (when_f (by have := HX.out; simp; omega) _ _).mono ?_
        rintro e w11 ⟨rfl, hb⟩
        obtain ⟨HB11, y110, y111⟩ := stp HBQ4 HB10 hb; clear hb
        have HER := Aside0.mk (errs0_says w11.heap.size 32 0 _ (blk_new w11 _))
        go_wp2_with (first | (go_at_call 12; refine HER.out.mono ?_; rintro e w12 ⟨rfl, hb⟩;  obtain ⟨HB12, y120, y121⟩ := stp HBQ4 ⟨below_alloc HB11.out _⟩ hb; clear hb HER) | (go_at_call 14; refine (HasIn_calls l0 l1 x A A' X c c' cx _ _ (HA4.out.below HB12.out).hs (HA4.out.below HB12.out).hc (HA4.out.below HB12.out).ks (HA4.out.below HB12.out).kc (Kd.C_below HX4.out HB12.out) (isPoint_f (valid_of HM.out) x HX.out)).mono ?_; rintro e w13 ⟨rfl, hb⟩;  obtain ⟨HB13, y130, y131⟩ := stp HBQ4 HB12 hb; clear hb))
        refine (L_pointsIn0 (HA4.out.below HB13.out) HM.out HP.out).mono ?_
        rintro e w14 ⟨XP, cP, rfl, hb⟩
        obtain ⟨HB14, y140, y141⟩ := stp HBQ4 HB13 hb; clear hb
        go_wp2_with (first | (go_at_call 13; refine (when_f (by decide) 12 w14).mono ?_; rintro e w15 ⟨rfl, hb⟩; obtain ⟨HB15, y150, y151⟩ := stp HBQ4 HB14 hb; clear hb) | (go_at_call 16; refine (L_check0 (HA4.out.below HB15.out) HM.out).mono ?_; rintro e w16 ⟨rfl, hb⟩; have HB16 := bst HB15 hb; clear hb) | (go_at_call 17; refine (same_nil2 X8 c8 XP cP w16).mono ?_; rintro e w17 ⟨rfl, hb⟩; have HB17 := bst HB16 hb; clear hb) | (go_at_call 18; have HH := HB18; clear HH; refine (equal_nil X10 c10 w18).mono ?_; rintro e w19 ⟨rfl, hb⟩; have HB19 := bst HB18 hb; clear hb) | (go_at_call 18; refine (equal_nil X9 c9 w17).mono ?_; rintro e w18 ⟨rfl, hb⟩; have HB18 := bst HB17 hb; clear hb) | (go_at_call 19; refine (counted_calls _).mono ?_; rintro e w20 ⟨rfl, hb⟩; have HB20 := bst HB19 hb; clear hb))
        go_ret
        exact ⟨rfl, below_then HBW.out HBW.out.size HB20.out⟩
      · have HX := Aside0.mk hx
        clear hx
        refine (L_fault0 HA4.out HM.out).mono ?_
        rintro e w5 ⟨rfl, hb⟩
        obtain ⟨HB5, y50, y51⟩ := stp HBQ4 HB4r hb; clear hb
        go_wp2_with (first | (go_at_call 7; refine (L_has (b := false) (r := 3) (HA4.out.below HB5.out) (Kd.C_below HX4.out HB5.out) hxc (by rw [if_pos HM.out, if_neg HX.out])).mono ?_; rintro e w6 ⟨rfl, hb⟩; obtain ⟨HB6, y60, y61⟩ := stp HBQ4 HB5 hb; clear hb) | (go_at_call 8; refine (L_countN (n := 0) (HA4.out.below HB6.out) HM.out (by rw [HP.out]; rfl)).mono ?_; rintro e w7 ⟨rfl, hb⟩; obtain ⟨HB7, y70, y71⟩ := stp HBQ4 HB6 hb; clear hb) | (go_at_call 9; refine (L_points (s := []) (r := 0) (HA4.out.below HB7.out) (by rw [if_pos HM.out, HP.out]; rfl)).mono ?_; rintro e w8 ⟨X8, c8, rfl, hC8, hb⟩; obtain ⟨HB8, y80, y81⟩ := stp HBQ4 HB7 hb; clear hb; clear hC8) | (go_at_call 10; refine (L_least (s := []) (b := false) (r := 0) (HA4.out.below HB8.out) (by rw [if_pos HM.out, HP.out])).mono ?_; rintro e w9 ⟨X9, c9, rfl, ⟨hl9, hC9⟩, hb⟩; obtain ⟨HB9, y90, y91⟩ := stp HBQ4 HB8 hb; clear hb; clear hC9 hl9) | (go_at_call 11; refine (L_greatest (s := []) (b := false) (r := 0) (HA4.out.below HB9.out) (by rw [if_pos HM.out, HP.out]; rfl)).mono ?_; rintro e w10 ⟨X10, c10, rfl, ⟨hl10, hC10⟩, hb⟩; obtain ⟨HB10, y100, y101⟩ := stp HBQ4 HB9 hb; clear hb; clear hC10 hl10))
        refine (when_t (by have := HX.out; simp; omega) _ _).mono ?_
        rintro e w11 ⟨rfl, hb⟩
        obtain ⟨HB11, y110, y111⟩ := stp HBQ4 HB10 hb; clear hb
        have HER := Aside0.mk (errs0_says w11.heap.size 32 3 _ (blk_new w11 _))
        go_wp2_with (first | (go_at_call 12; refine HER.out.mono ?_; rintro e w12 ⟨rfl, hb⟩;  obtain ⟨HB12, y120, y121⟩ := stp HBQ4 ⟨below_alloc HB11.out _⟩ hb; clear hb HER))
        refine (L_pointsIn0 (HA4.out.below HB12.out) HM.out HP.out).mono ?_
        rintro e w13 ⟨XP, cP, rfl, hb⟩
        obtain ⟨HB13, y130, y131⟩ := stp HBQ4 HB12 hb; clear hb
        go_wp2_with (first | (go_at_call 13; refine (when_f (by decide) 12 w13).mono ?_; rintro e w14 ⟨rfl, hb⟩; obtain ⟨HB14, y140, y141⟩ := stp HBQ4 HB13 hb; clear hb) | (go_at_call 16; refine (L_check0 (HA4.out.below HB14.out) HM.out).mono ?_; rintro e w15 ⟨rfl, hb⟩; have HB15 := bst HB14 hb; clear hb) | (go_at_call 17; refine (same_nil2 X8 c8 XP cP w15).mono ?_; rintro e w16 ⟨rfl, hb⟩; have HB16 := bst HB15 hb; clear hb) | (go_at_call 18; have HH := HB17; clear HH; refine (equal_nil X10 c10 w17).mono ?_; rintro e w18 ⟨rfl, hb⟩; have HB18 := bst HB17 hb; clear hb) | (go_at_call 18; refine (equal_nil X9 c9 w16).mono ?_; rintro e w17 ⟨rfl, hb⟩; have HB17 := bst HB16 hb; clear hb) | (go_at_call 19; refine (counted_calls _).mono ?_; rintro e w19 ⟨rfl, hb⟩; have HB19 := bst HB18 hb; clear hb))
        go_ret
        exact ⟨rfl, below_then HBW.out HBW.out.size HB19.out⟩
    · have HP := Aside0.mk hp
      clear hp
      by_cases hq : (ptsOf l0 l1).length ≤ 5000
      · have HQ := Aside0.mk hq
        clear hq
        by_cases hx : x.length = l0.length
        · have HX := Aside0.mk hx
          clear hx
          refine (L_fault0 HA4.out HM.out).mono ?_
          rintro e w5 ⟨rfl, hb⟩
          obtain ⟨HB5, y50, y51⟩ := stp HBQ4 HB4r hb; clear hb
          go_wp2_with (first | (go_at_call 7; refine (L_has (b := isPointB l0 l1 x) (r := 0) (HA4.out.below HB5.out) (Kd.C_below HX4.out HB5.out) hxc (by rw [if_pos HM.out, if_pos HX.out])).mono ?_; rintro e w6 ⟨rfl, hb⟩; obtain ⟨HB6, y60, y61⟩ := stp HBQ4 HB5 hb; clear hb) | (go_at_call 8; refine (L_countN (n := ((ptsOf l0 l1).length : Int)) (HA4.out.below HB6.out) HM.out (rfl)).mono ?_; rintro e w7 ⟨rfl, hb⟩; obtain ⟨HB7, y70, y71⟩ := stp HBQ4 HB6 hb; clear hb) | (go_at_call 9; refine (L_points (s := ptsOf l0 l1) (r := 0) (HA4.out.below HB7.out) (by rw [if_pos HM.out, if_pos HQ.out])).mono ?_; rintro e w8 ⟨X8, c8, rfl, hC8, hb⟩; have HC8 := Aside0.mk hC8; have HS8 := Aside0.mk (Below.refl w8.heap.size w8); obtain ⟨HB8, y80, y81⟩ := stp HBQ4 HB7 hb; clear hb; clear hC8) | (go_at_call 10; refine (L_least (s := rd_LI (ptsOf l0 l1) 0) (b := true) (r := 0) (HA4.out.below HB8.out) (by rw [if_pos HM.out]; exact least_val HP.out)).mono ?_; rintro e w9 ⟨X9, c9, rfl, ⟨hl9, hC9⟩, hb⟩; have HC9 := Aside0.mk hC9; have HL9 := Aside0.mk hl9; have HS9 := bst HS8 hb; have HT9 := Aside0.mk (Below.refl w9.heap.size w9); obtain ⟨HB9, y90, y91⟩ := stp HBQ4 HB8 hb; clear hb; clear hC9 hl9) | (go_at_call 11; refine (L_greatest (s := rd_LI (ptsOf l0 l1) (((ptsOf l0 l1).length : Int) - 1)) (b := true) (r := 0) (HA4.out.below HB9.out) (by rw [if_pos HM.out]; exact great_val HP.out)).mono ?_; rintro e w10 ⟨X10, c10, rfl, ⟨hl10, hC10⟩, hb⟩; have HC10 := Aside0.mk hC10; have HL10 := Aside0.mk hl10; have HS10 := bst HS9 hb; have HT10 := bst HT9 hb; have HU10 := Aside0.mk (Below.refl w10.heap.size w10); obtain ⟨HB10, y100, y101⟩ := stp HBQ4 HB9 hb; clear hb; clear hC10 hl10))
          refine (when_f (by have := HX.out; simp; omega) _ _).mono ?_
          rintro e w11 ⟨rfl, hb⟩
          have HS11 := bst HS10 hb; have HT11 := bst HT10 hb; have HU11 := bst HU10 hb; obtain ⟨HB11, y110, y111⟩ := stp HBQ4 HB10 hb; clear hb
          have HER := Aside0.mk (errs0_says w11.heap.size 32 0 _ (blk_new w11 _))
          go_wp2_with (first | (go_at_call 12; refine HER.out.mono ?_; rintro e w12 ⟨rfl, hb⟩; have HS12 := bst ⟨below_alloc HS11.out _⟩ hb; have HT12 := bst ⟨below_alloc HT11.out _⟩ hb; have HU12 := bst ⟨below_alloc HU11.out _⟩ hb; obtain ⟨HB12, y120, y121⟩ := stp HBQ4 ⟨below_alloc HB11.out _⟩ hb; clear hb HER) | (go_at_call 14; refine (HasIn_calls l0 l1 x A A' X c c' cx _ _ (HA4.out.below HB12.out).hs (HA4.out.below HB12.out).hc (HA4.out.below HB12.out).ks (HA4.out.below HB12.out).kc (Kd.C_below HX4.out HB12.out) (isPoint_f (valid_of HM.out) x HX.out)).mono ?_; rintro e w13 ⟨rfl, hb⟩; have HS13 := bst HS12 hb; have HT13 := bst HT12 hb; have HU13 := bst HU12 hb; obtain ⟨HB13, y130, y131⟩ := stp HBQ4 HB12 hb; clear hb))
          refine (L_pointsIn (HA4.out.below HB13.out) HM.out).mono ?_
          rintro e w14 ⟨XP, cP, rfl, hCP, hb⟩
          have HS14 := bst HS13 hb; have HT14 := bst HT13 hb; have HU14 := bst HU13 hb; obtain ⟨HB14, y140, y141⟩ := stp HBQ4 HB13 hb; clear hb
          have hpos := List.length_pos_iff.2 HP.out
          have hposz : (0 : Int) < ((ptsOf l0 l1).length : Int) := by omega
          obtain ⟨ad, B0, b0, e, k0, g0, hC0⟩ := at_LI hCP 0 (Int.le_refl _) hposz
          cases e
          have k0a := (show Addr.add ad 0 = ad by cases ad; rfl) ▸ (show _ = _ from k0)
          obtain ⟨ad', B1, b1, e, k1, g1, hC1⟩ := at_LI hCP (((ptsOf l0 l1).length : Int) - 1) (by omega) (by omega)
          cases e
          have hmaxz : ((ptsOf l0 l1).length : Int) ≤ 9223372036854775807 := by have := Kd.C_max hCP; omega
          have honez : (1 : Int) ≤ ((ptsOf l0 l1).length : Int) := by omega
          have hltz : ((ptsOf l0 l1).length : Int) - 1 < ((ptsOf l0 l1).length : Int) := by omega
          have hen : (((ptsOf l0 l1).length : Int) - 1).toNat = (ptsOf l0 l1).length - 1 := by omega
          rw [hen] at k1
          clear hen
          have hwz : IntKind.i64.wrap (((ptsOf l0 l1).length : Int) - 1) = ((ptsOf l0 l1).length : Int) - 1 := by rw [i64w]; exact IntWalk.wrap64_in _ (by omega)
          have HCP := Aside0.mk hCP; have HC0 := Aside0.mk hC0; have HC1 := Aside0.mk hC1; have HG0 := Aside0.mk g0; have HG1 := Aside0.mk g1; clear hCP hC0 hC1 g0 g1
          have hlz : ((ptsOf l0 l1).length : Int) ≤ 5000 := by have := HQ.out; omega
          go_wp2
          go_quiet (fail)
          have HB15 : Aside0 (Below w4.heap.size w4 (w14.drewN nq)) := ⟨pw_below_drewN HB14.out nq⟩
          have HS15 : Aside0 (Below w8.heap.size w8 (w14.drewN nq)) := ⟨pw_below_drewN HS14.out nq⟩
          have HT15 : Aside0 (Below w9.heap.size w9 (w14.drewN nq)) := ⟨pw_below_drewN HT14.out nq⟩
          have HU15 : Aside0 (Below w10.heap.size w10 (w14.drewN nq)) := ⟨pw_below_drewN HU14.out nq⟩
          have HV15 : Aside0 (Below w14.heap.size w14 (w14.drewN nq)) := ⟨pw_below_drewN (Below.refl _ _) nq⟩
          generalize w14.drewN nq = w15 at *
          have y150 := (stp HBQ4 HB15 (Below.refl _ _)).2.1; have y151 := (stp HBQ4 HB15 (Below.refl _ _)).2.2
          go_wp2_with (first | (go_at_call 13; refine (when_f (by first | rfl | (simp; omega)) 12 w15).mono ?_; rintro e w16 ⟨rfl, hb⟩; have HS16 := bst HS15 hb; have HT16 := bst HT15 hb; have HU16 := bst HU15 hb; have HV16 := bst HV15 hb; obtain ⟨HB16, y160, y161⟩ := stp HBQ4 HB15 hb; clear hb) | (go_at_call 16; refine (L_check0 (HA4.out.below HB16.out) HM.out).mono ?_; rintro e w17 ⟨rfl, hb⟩; have HS17 := bst HS16 hb; have HT17 := bst HT16 hb; have HU17 := bst HU16 hb; have HV17 := bst HV16 hb; have HB17 := bst HB16 hb; clear hb) | (go_at_call 17; refine (same_same X8 c8 _ cP _ w17 (Kd.C_below HC8.out HS17.out) (Kd.C_below HCP.out HV17.out)).mono ?_; rintro e w18 ⟨rfl, hb⟩; have HS18 := bst HS17 hb; have HT18 := bst HT17 hb; have HU18 := bst HU17 hb; have HV18 := bst HV17 hb; have HB18 := bst HB17 hb; clear hb) | (go_at_call 18; have HH := HB19; clear HH; refine (equal_same X10 c10 B1 b1 _ w19 (Kd.C_below HC10.out HU19.out) HL10.out (Kd.C_below HC1.out HV19.out) HG1.out).mono ?_; rintro e w20 ⟨rfl, hb⟩; have HB20 := bst HB19 hb; clear hb) | (go_at_call 18; refine (equal_same X9 c9 B0 b0 _ w18 (Kd.C_below HC9.out HT18.out) HL9.out (Kd.C_below HC0.out HV18.out) HG0.out).mono ?_; rintro e w19 ⟨rfl, hb⟩; have HS19 := bst HS18 hb; have HT19 := bst HT18 hb; have HU19 := bst HU18 hb; have HV19 := bst HV18 hb; have HB19 := bst HB18 hb; clear hb) | (go_at_call 19; refine (counted_calls _).mono ?_; rintro e w21 ⟨rfl, hb⟩; have HB21 := bst HB20 hb; clear hb))
          go_ret
          exact ⟨rfl, below_then HBW.out HBW.out.size HB21.out⟩
        · have HX := Aside0.mk hx
          clear hx
          refine (L_fault0 HA4.out HM.out).mono ?_
          rintro e w5 ⟨rfl, hb⟩
          obtain ⟨HB5, y50, y51⟩ := stp HBQ4 HB4r hb; clear hb
          go_wp2_with (first | (go_at_call 7; refine (L_has (b := false) (r := 3) (HA4.out.below HB5.out) (Kd.C_below HX4.out HB5.out) hxc (by rw [if_pos HM.out, if_neg HX.out])).mono ?_; rintro e w6 ⟨rfl, hb⟩; obtain ⟨HB6, y60, y61⟩ := stp HBQ4 HB5 hb; clear hb) | (go_at_call 8; refine (L_countN (n := ((ptsOf l0 l1).length : Int)) (HA4.out.below HB6.out) HM.out (rfl)).mono ?_; rintro e w7 ⟨rfl, hb⟩; obtain ⟨HB7, y70, y71⟩ := stp HBQ4 HB6 hb; clear hb) | (go_at_call 9; refine (L_points (s := ptsOf l0 l1) (r := 0) (HA4.out.below HB7.out) (by rw [if_pos HM.out, if_pos HQ.out])).mono ?_; rintro e w8 ⟨X8, c8, rfl, hC8, hb⟩; have HC8 := Aside0.mk hC8; have HS8 := Aside0.mk (Below.refl w8.heap.size w8); obtain ⟨HB8, y80, y81⟩ := stp HBQ4 HB7 hb; clear hb; clear hC8) | (go_at_call 10; refine (L_least (s := rd_LI (ptsOf l0 l1) 0) (b := true) (r := 0) (HA4.out.below HB8.out) (by rw [if_pos HM.out]; exact least_val HP.out)).mono ?_; rintro e w9 ⟨X9, c9, rfl, ⟨hl9, hC9⟩, hb⟩; have HC9 := Aside0.mk hC9; have HL9 := Aside0.mk hl9; have HS9 := bst HS8 hb; have HT9 := Aside0.mk (Below.refl w9.heap.size w9); obtain ⟨HB9, y90, y91⟩ := stp HBQ4 HB8 hb; clear hb; clear hC9 hl9) | (go_at_call 11; refine (L_greatest (s := rd_LI (ptsOf l0 l1) (((ptsOf l0 l1).length : Int) - 1)) (b := true) (r := 0) (HA4.out.below HB9.out) (by rw [if_pos HM.out]; exact great_val HP.out)).mono ?_; rintro e w10 ⟨X10, c10, rfl, ⟨hl10, hC10⟩, hb⟩; have HC10 := Aside0.mk hC10; have HL10 := Aside0.mk hl10; have HS10 := bst HS9 hb; have HT10 := bst HT9 hb; have HU10 := Aside0.mk (Below.refl w10.heap.size w10); obtain ⟨HB10, y100, y101⟩ := stp HBQ4 HB9 hb; clear hb; clear hC10 hl10))
          refine (when_t (by have := HX.out; simp; omega) _ _).mono ?_
          rintro e w11 ⟨rfl, hb⟩
          have HS11 := bst HS10 hb; have HT11 := bst HT10 hb; have HU11 := bst HU10 hb; obtain ⟨HB11, y110, y111⟩ := stp HBQ4 HB10 hb; clear hb
          have HER := Aside0.mk (errs0_says w11.heap.size 32 3 _ (blk_new w11 _))
          go_wp2_with (first | (go_at_call 12; refine HER.out.mono ?_; rintro e w12 ⟨rfl, hb⟩; have HS12 := bst ⟨below_alloc HS11.out _⟩ hb; have HT12 := bst ⟨below_alloc HT11.out _⟩ hb; have HU12 := bst ⟨below_alloc HU11.out _⟩ hb; obtain ⟨HB12, y120, y121⟩ := stp HBQ4 ⟨below_alloc HB11.out _⟩ hb; clear hb HER))
          refine (L_pointsIn (HA4.out.below HB12.out) HM.out).mono ?_
          rintro e w13 ⟨XP, cP, rfl, hCP, hb⟩
          have HS13 := bst HS12 hb; have HT13 := bst HT12 hb; have HU13 := bst HU12 hb; obtain ⟨HB13, y130, y131⟩ := stp HBQ4 HB12 hb; clear hb
          have hpos := List.length_pos_iff.2 HP.out
          have hposz : (0 : Int) < ((ptsOf l0 l1).length : Int) := by omega
          obtain ⟨ad, B0, b0, e, k0, g0, hC0⟩ := at_LI hCP 0 (Int.le_refl _) hposz
          cases e
          have k0a := (show Addr.add ad 0 = ad by cases ad; rfl) ▸ (show _ = _ from k0)
          obtain ⟨ad', B1, b1, e, k1, g1, hC1⟩ := at_LI hCP (((ptsOf l0 l1).length : Int) - 1) (by omega) (by omega)
          cases e
          have hmaxz : ((ptsOf l0 l1).length : Int) ≤ 9223372036854775807 := by have := Kd.C_max hCP; omega
          have honez : (1 : Int) ≤ ((ptsOf l0 l1).length : Int) := by omega
          have hltz : ((ptsOf l0 l1).length : Int) - 1 < ((ptsOf l0 l1).length : Int) := by omega
          have hen : (((ptsOf l0 l1).length : Int) - 1).toNat = (ptsOf l0 l1).length - 1 := by omega
          rw [hen] at k1
          clear hen
          have hwz : IntKind.i64.wrap (((ptsOf l0 l1).length : Int) - 1) = ((ptsOf l0 l1).length : Int) - 1 := by rw [i64w]; exact IntWalk.wrap64_in _ (by omega)
          have HCP := Aside0.mk hCP; have HC0 := Aside0.mk hC0; have HC1 := Aside0.mk hC1; have HG0 := Aside0.mk g0; have HG1 := Aside0.mk g1; clear hCP hC0 hC1 g0 g1
          have hlz : ((ptsOf l0 l1).length : Int) ≤ 5000 := by have := HQ.out; omega
          go_wp2
          go_quiet (fail)
          have HB14 : Aside0 (Below w4.heap.size w4 (w13.drewN nq)) := ⟨pw_below_drewN HB13.out nq⟩
          have HS14 : Aside0 (Below w8.heap.size w8 (w13.drewN nq)) := ⟨pw_below_drewN HS13.out nq⟩
          have HT14 : Aside0 (Below w9.heap.size w9 (w13.drewN nq)) := ⟨pw_below_drewN HT13.out nq⟩
          have HU14 : Aside0 (Below w10.heap.size w10 (w13.drewN nq)) := ⟨pw_below_drewN HU13.out nq⟩
          have HV14 : Aside0 (Below w13.heap.size w13 (w13.drewN nq)) := ⟨pw_below_drewN (Below.refl _ _) nq⟩
          generalize w13.drewN nq = w14 at *
          have y140 := (stp HBQ4 HB14 (Below.refl _ _)).2.1; have y141 := (stp HBQ4 HB14 (Below.refl _ _)).2.2
          go_wp2_with (first | (go_at_call 13; refine (when_f (by first | rfl | (simp; omega)) 12 w14).mono ?_; rintro e w15 ⟨rfl, hb⟩; have HS15 := bst HS14 hb; have HT15 := bst HT14 hb; have HU15 := bst HU14 hb; have HV15 := bst HV14 hb; obtain ⟨HB15, y150, y151⟩ := stp HBQ4 HB14 hb; clear hb) | (go_at_call 16; refine (L_check0 (HA4.out.below HB15.out) HM.out).mono ?_; rintro e w16 ⟨rfl, hb⟩; have HS16 := bst HS15 hb; have HT16 := bst HT15 hb; have HU16 := bst HU15 hb; have HV16 := bst HV15 hb; have HB16 := bst HB15 hb; clear hb) | (go_at_call 17; refine (same_same X8 c8 _ cP _ w16 (Kd.C_below HC8.out HS16.out) (Kd.C_below HCP.out HV16.out)).mono ?_; rintro e w17 ⟨rfl, hb⟩; have HS17 := bst HS16 hb; have HT17 := bst HT16 hb; have HU17 := bst HU16 hb; have HV17 := bst HV16 hb; have HB17 := bst HB16 hb; clear hb) | (go_at_call 18; have HH := HB18; clear HH; refine (equal_same X10 c10 B1 b1 _ w18 (Kd.C_below HC10.out HU18.out) HL10.out (Kd.C_below HC1.out HV18.out) HG1.out).mono ?_; rintro e w19 ⟨rfl, hb⟩; have HB19 := bst HB18 hb; clear hb) | (go_at_call 18; refine (equal_same X9 c9 B0 b0 _ w17 (Kd.C_below HC9.out HT17.out) HL9.out (Kd.C_below HC0.out HV17.out) HG0.out).mono ?_; rintro e w18 ⟨rfl, hb⟩; have HS18 := bst HS17 hb; have HT18 := bst HT17 hb; have HU18 := bst HU17 hb; have HV18 := bst HV17 hb; have HB18 := bst HB17 hb; clear hb) | (go_at_call 19; refine (counted_calls _).mono ?_; rintro e w20 ⟨rfl, hb⟩; have HB20 := bst HB19 hb; clear hb))
          go_ret
          exact ⟨rfl, below_then HBW.out HBW.out.size HB20.out⟩
      · have HQ := Aside0.mk hq
        clear hq
        by_cases hx : x.length = l0.length
        · have HX := Aside0.mk hx
          clear hx
          refine (L_fault0 HA4.out HM.out).mono ?_
          rintro e w5 ⟨rfl, hb⟩
          obtain ⟨HB5, y50, y51⟩ := stp HBQ4 HB4r hb; clear hb
          go_wp2_with (first | (go_at_call 7; refine (L_has (b := isPointB l0 l1 x) (r := 0) (HA4.out.below HB5.out) (Kd.C_below HX4.out HB5.out) hxc (by rw [if_pos HM.out, if_pos HX.out])).mono ?_; rintro e w6 ⟨rfl, hb⟩; obtain ⟨HB6, y60, y61⟩ := stp HBQ4 HB5 hb; clear hb) | (go_at_call 8; refine (L_countN (n := ((ptsOf l0 l1).length : Int)) (HA4.out.below HB6.out) HM.out (rfl)).mono ?_; rintro e w7 ⟨rfl, hb⟩; obtain ⟨HB7, y70, y71⟩ := stp HBQ4 HB6 hb; clear hb) | (go_at_call 9; refine (L_points (s := []) (r := 12) (HA4.out.below HB7.out) (by rw [if_pos HM.out, if_neg HQ.out])).mono ?_; rintro e w8 ⟨X8, c8, rfl, hC8, hb⟩; obtain ⟨HB8, y80, y81⟩ := stp HBQ4 HB7 hb; clear hb; clear hC8) | (go_at_call 10; refine (L_least (s := rd_LI (ptsOf l0 l1) 0) (b := true) (r := 0) (HA4.out.below HB8.out) (by rw [if_pos HM.out]; exact least_val HP.out)).mono ?_; rintro e w9 ⟨X9, c9, rfl, ⟨hl9, hC9⟩, hb⟩; have HC9 := Aside0.mk hC9; have HL9 := Aside0.mk hl9; have HT9 := Aside0.mk (Below.refl w9.heap.size w9); obtain ⟨HB9, y90, y91⟩ := stp HBQ4 HB8 hb; clear hb; clear hC9 hl9) | (go_at_call 11; refine (L_greatest (s := rd_LI (ptsOf l0 l1) (((ptsOf l0 l1).length : Int) - 1)) (b := true) (r := 0) (HA4.out.below HB9.out) (by rw [if_pos HM.out]; exact great_val HP.out)).mono ?_; rintro e w10 ⟨X10, c10, rfl, ⟨hl10, hC10⟩, hb⟩; have HC10 := Aside0.mk hC10; have HL10 := Aside0.mk hl10; have HT10 := bst HT9 hb; have HU10 := Aside0.mk (Below.refl w10.heap.size w10); obtain ⟨HB10, y100, y101⟩ := stp HBQ4 HB9 hb; clear hb; clear hC10 hl10))
          refine (when_f (by have := HX.out; simp; omega) _ _).mono ?_
          rintro e w11 ⟨rfl, hb⟩
          have HT11 := bst HT10 hb; have HU11 := bst HU10 hb; obtain ⟨HB11, y110, y111⟩ := stp HBQ4 HB10 hb; clear hb
          have HER := Aside0.mk (errs0_says w11.heap.size 32 0 _ (blk_new w11 _))
          go_wp2_with (first | (go_at_call 12; refine HER.out.mono ?_; rintro e w12 ⟨rfl, hb⟩; have HT12 := bst ⟨below_alloc HT11.out _⟩ hb; have HU12 := bst ⟨below_alloc HU11.out _⟩ hb; obtain ⟨HB12, y120, y121⟩ := stp HBQ4 ⟨below_alloc HB11.out _⟩ hb; clear hb HER) | (go_at_call 14; refine (HasIn_calls l0 l1 x A A' X c c' cx _ _ (HA4.out.below HB12.out).hs (HA4.out.below HB12.out).hc (HA4.out.below HB12.out).ks (HA4.out.below HB12.out).kc (Kd.C_below HX4.out HB12.out) (isPoint_f (valid_of HM.out) x HX.out)).mono ?_; rintro e w13 ⟨rfl, hb⟩; have HT13 := bst HT12 hb; have HU13 := bst HU12 hb; obtain ⟨HB13, y130, y131⟩ := stp HBQ4 HB12 hb; clear hb))
          refine (L_pointsIn (HA4.out.below HB13.out) HM.out).mono ?_
          rintro e w14 ⟨XP, cP, rfl, hCP, hb⟩
          have HT14 := bst HT13 hb; have HU14 := bst HU13 hb; obtain ⟨HB14, y140, y141⟩ := stp HBQ4 HB13 hb; clear hb
          have hpos := List.length_pos_iff.2 HP.out
          have hposz : (0 : Int) < ((ptsOf l0 l1).length : Int) := by omega
          obtain ⟨ad, B0, b0, e, k0, g0, hC0⟩ := at_LI hCP 0 (Int.le_refl _) hposz
          cases e
          have k0a := (show Addr.add ad 0 = ad by cases ad; rfl) ▸ (show _ = _ from k0)
          obtain ⟨ad', B1, b1, e, k1, g1, hC1⟩ := at_LI hCP (((ptsOf l0 l1).length : Int) - 1) (by omega) (by omega)
          cases e
          have hmaxz : ((ptsOf l0 l1).length : Int) ≤ 9223372036854775807 := by have := Kd.C_max hCP; omega
          have honez : (1 : Int) ≤ ((ptsOf l0 l1).length : Int) := by omega
          have hltz : ((ptsOf l0 l1).length : Int) - 1 < ((ptsOf l0 l1).length : Int) := by omega
          have hen : (((ptsOf l0 l1).length : Int) - 1).toNat = (ptsOf l0 l1).length - 1 := by omega
          rw [hen] at k1
          clear hen
          have hwz : IntKind.i64.wrap (((ptsOf l0 l1).length : Int) - 1) = ((ptsOf l0 l1).length : Int) - 1 := by rw [i64w]; exact IntWalk.wrap64_in _ (by omega)
          have HCP := Aside0.mk hCP; have HC0 := Aside0.mk hC0; have HC1 := Aside0.mk hC1; have HG0 := Aside0.mk g0; have HG1 := Aside0.mk g1; clear hCP hC0 hC1 g0 g1
          have hlz : (5000 : Int) < ((ptsOf l0 l1).length : Int) := by have := HQ.out; omega
          go_wp2
          go_quiet (fail)
          have HB15 : Aside0 (Below w4.heap.size w4 (w14.drewN nq)) := ⟨pw_below_drewN HB14.out nq⟩
          have HT15 : Aside0 (Below w9.heap.size w9 (w14.drewN nq)) := ⟨pw_below_drewN HT14.out nq⟩
          have HU15 : Aside0 (Below w10.heap.size w10 (w14.drewN nq)) := ⟨pw_below_drewN HU14.out nq⟩
          have HV15 : Aside0 (Below w14.heap.size w14 (w14.drewN nq)) := ⟨pw_below_drewN (Below.refl _ _) nq⟩
          generalize w14.drewN nq = w15 at *
          have y150 := (stp HBQ4 HB15 (Below.refl _ _)).2.1; have y151 := (stp HBQ4 HB15 (Below.refl _ _)).2.2
          go_wp2_with (first | (go_at_call 13; refine (when_t (by first | rfl | (simp; omega)) 12 w15).mono ?_; rintro e w16 ⟨rfl, hb⟩; have HT16 := bst HT15 hb; have HU16 := bst HU15 hb; have HV16 := bst HV15 hb; obtain ⟨HB16, y160, y161⟩ := stp HBQ4 HB15 hb; clear hb) | (go_at_call 16; refine (L_check0 (HA4.out.below HB16.out) HM.out).mono ?_; rintro e w17 ⟨rfl, hb⟩; have HT17 := bst HT16 hb; have HU17 := bst HU16 hb; have HV17 := bst HV16 hb; have HB17 := bst HB16 hb; clear hb) | (go_at_call 17; refine (same_nil X8 c8 w17).mono ?_; rintro e w18 ⟨rfl, hb⟩; have HT18 := bst HT17 hb; have HU18 := bst HU17 hb; have HV18 := bst HV17 hb; have HB18 := bst HB17 hb; clear hb) | (go_at_call 18; have HH := HB19; clear HH; refine (equal_same X10 c10 B1 b1 _ w19 (Kd.C_below HC10.out HU19.out) HL10.out (Kd.C_below HC1.out HV19.out) HG1.out).mono ?_; rintro e w20 ⟨rfl, hb⟩; have HB20 := bst HB19 hb; clear hb) | (go_at_call 18; refine (equal_same X9 c9 B0 b0 _ w18 (Kd.C_below HC9.out HT18.out) HL9.out (Kd.C_below HC0.out HV18.out) HG0.out).mono ?_; rintro e w19 ⟨rfl, hb⟩; have HT19 := bst HT18 hb; have HU19 := bst HU18 hb; have HV19 := bst HV18 hb; have HB19 := bst HB18 hb; clear hb) | (go_at_call 19; refine (counted_calls _).mono ?_; rintro e w21 ⟨rfl, hb⟩; have HB21 := bst HB20 hb; clear hb))
          go_ret
          exact ⟨rfl, below_then HBW.out HBW.out.size HB21.out⟩
        · have HX := Aside0.mk hx
          clear hx
          refine (L_fault0 HA4.out HM.out).mono ?_
          rintro e w5 ⟨rfl, hb⟩
          obtain ⟨HB5, y50, y51⟩ := stp HBQ4 HB4r hb; clear hb
          go_wp2_with (first | (go_at_call 7; refine (L_has (b := false) (r := 3) (HA4.out.below HB5.out) (Kd.C_below HX4.out HB5.out) hxc (by rw [if_pos HM.out, if_neg HX.out])).mono ?_; rintro e w6 ⟨rfl, hb⟩; obtain ⟨HB6, y60, y61⟩ := stp HBQ4 HB5 hb; clear hb) | (go_at_call 8; refine (L_countN (n := ((ptsOf l0 l1).length : Int)) (HA4.out.below HB6.out) HM.out (rfl)).mono ?_; rintro e w7 ⟨rfl, hb⟩; obtain ⟨HB7, y70, y71⟩ := stp HBQ4 HB6 hb; clear hb) | (go_at_call 9; refine (L_points (s := []) (r := 12) (HA4.out.below HB7.out) (by rw [if_pos HM.out, if_neg HQ.out])).mono ?_; rintro e w8 ⟨X8, c8, rfl, hC8, hb⟩; obtain ⟨HB8, y80, y81⟩ := stp HBQ4 HB7 hb; clear hb; clear hC8) | (go_at_call 10; refine (L_least (s := rd_LI (ptsOf l0 l1) 0) (b := true) (r := 0) (HA4.out.below HB8.out) (by rw [if_pos HM.out]; exact least_val HP.out)).mono ?_; rintro e w9 ⟨X9, c9, rfl, ⟨hl9, hC9⟩, hb⟩; have HC9 := Aside0.mk hC9; have HL9 := Aside0.mk hl9; have HT9 := Aside0.mk (Below.refl w9.heap.size w9); obtain ⟨HB9, y90, y91⟩ := stp HBQ4 HB8 hb; clear hb; clear hC9 hl9) | (go_at_call 11; refine (L_greatest (s := rd_LI (ptsOf l0 l1) (((ptsOf l0 l1).length : Int) - 1)) (b := true) (r := 0) (HA4.out.below HB9.out) (by rw [if_pos HM.out]; exact great_val HP.out)).mono ?_; rintro e w10 ⟨X10, c10, rfl, ⟨hl10, hC10⟩, hb⟩; have HC10 := Aside0.mk hC10; have HL10 := Aside0.mk hl10; have HT10 := bst HT9 hb; have HU10 := Aside0.mk (Below.refl w10.heap.size w10); obtain ⟨HB10, y100, y101⟩ := stp HBQ4 HB9 hb; clear hb; clear hC10 hl10))
          refine (when_t (by have := HX.out; simp; omega) _ _).mono ?_
          rintro e w11 ⟨rfl, hb⟩
          have HT11 := bst HT10 hb; have HU11 := bst HU10 hb; obtain ⟨HB11, y110, y111⟩ := stp HBQ4 HB10 hb; clear hb
          have HER := Aside0.mk (errs0_says w11.heap.size 32 3 _ (blk_new w11 _))
          go_wp2_with (first | (go_at_call 12; refine HER.out.mono ?_; rintro e w12 ⟨rfl, hb⟩; have HT12 := bst ⟨below_alloc HT11.out _⟩ hb; have HU12 := bst ⟨below_alloc HU11.out _⟩ hb; obtain ⟨HB12, y120, y121⟩ := stp HBQ4 ⟨below_alloc HB11.out _⟩ hb; clear hb HER))
          refine (L_pointsIn (HA4.out.below HB12.out) HM.out).mono ?_
          rintro e w13 ⟨XP, cP, rfl, hCP, hb⟩
          have HT13 := bst HT12 hb; have HU13 := bst HU12 hb; obtain ⟨HB13, y130, y131⟩ := stp HBQ4 HB12 hb; clear hb
          have hpos := List.length_pos_iff.2 HP.out
          have hposz : (0 : Int) < ((ptsOf l0 l1).length : Int) := by omega
          obtain ⟨ad, B0, b0, e, k0, g0, hC0⟩ := at_LI hCP 0 (Int.le_refl _) hposz
          cases e
          have k0a := (show Addr.add ad 0 = ad by cases ad; rfl) ▸ (show _ = _ from k0)
          obtain ⟨ad', B1, b1, e, k1, g1, hC1⟩ := at_LI hCP (((ptsOf l0 l1).length : Int) - 1) (by omega) (by omega)
          cases e
          have hmaxz : ((ptsOf l0 l1).length : Int) ≤ 9223372036854775807 := by have := Kd.C_max hCP; omega
          have honez : (1 : Int) ≤ ((ptsOf l0 l1).length : Int) := by omega
          have hltz : ((ptsOf l0 l1).length : Int) - 1 < ((ptsOf l0 l1).length : Int) := by omega
          have hen : (((ptsOf l0 l1).length : Int) - 1).toNat = (ptsOf l0 l1).length - 1 := by omega
          rw [hen] at k1
          clear hen
          have hwz : IntKind.i64.wrap (((ptsOf l0 l1).length : Int) - 1) = ((ptsOf l0 l1).length : Int) - 1 := by rw [i64w]; exact IntWalk.wrap64_in _ (by omega)
          have HCP := Aside0.mk hCP; have HC0 := Aside0.mk hC0; have HC1 := Aside0.mk hC1; have HG0 := Aside0.mk g0; have HG1 := Aside0.mk g1; clear hCP hC0 hC1 g0 g1
          have hlz : (5000 : Int) < ((ptsOf l0 l1).length : Int) := by have := HQ.out; omega
          go_wp2
          go_quiet (fail)
          have HB14 : Aside0 (Below w4.heap.size w4 (w13.drewN nq)) := ⟨pw_below_drewN HB13.out nq⟩
          have HT14 : Aside0 (Below w9.heap.size w9 (w13.drewN nq)) := ⟨pw_below_drewN HT13.out nq⟩
          have HU14 : Aside0 (Below w10.heap.size w10 (w13.drewN nq)) := ⟨pw_below_drewN HU13.out nq⟩
          have HV14 : Aside0 (Below w13.heap.size w13 (w13.drewN nq)) := ⟨pw_below_drewN (Below.refl _ _) nq⟩
          generalize w13.drewN nq = w14 at *
          have y140 := (stp HBQ4 HB14 (Below.refl _ _)).2.1; have y141 := (stp HBQ4 HB14 (Below.refl _ _)).2.2
          go_wp2_with (first | (go_at_call 13; refine (when_t (by first | rfl | (simp; omega)) 12 w14).mono ?_; rintro e w15 ⟨rfl, hb⟩; have HT15 := bst HT14 hb; have HU15 := bst HU14 hb; have HV15 := bst HV14 hb; obtain ⟨HB15, y150, y151⟩ := stp HBQ4 HB14 hb; clear hb) | (go_at_call 16; refine (L_check0 (HA4.out.below HB15.out) HM.out).mono ?_; rintro e w16 ⟨rfl, hb⟩; have HT16 := bst HT15 hb; have HU16 := bst HU15 hb; have HV16 := bst HV15 hb; have HB16 := bst HB15 hb; clear hb) | (go_at_call 17; refine (same_nil X8 c8 w16).mono ?_; rintro e w17 ⟨rfl, hb⟩; have HT17 := bst HT16 hb; have HU17 := bst HU16 hb; have HV17 := bst HV16 hb; have HB17 := bst HB16 hb; clear hb) | (go_at_call 18; have HH := HB18; clear HH; refine (equal_same X10 c10 B1 b1 _ w18 (Kd.C_below HC10.out HU18.out) HL10.out (Kd.C_below HC1.out HV18.out) HG1.out).mono ?_; rintro e w19 ⟨rfl, hb⟩; have HB19 := bst HB18 hb; clear hb) | (go_at_call 18; refine (equal_same X9 c9 B0 b0 _ w17 (Kd.C_below HC9.out HT17.out) HL9.out (Kd.C_below HC0.out HV17.out) HG0.out).mono ?_; rintro e w18 ⟨rfl, hb⟩; have HT18 := bst HT17 hb; have HU18 := bst HU17 hb; have HV18 := bst HV17 hb; have HB18 := bst HB17 hb; clear hb) | (go_at_call 19; refine (counted_calls _).mono ?_; rintro e w20 ⟨rfl, hb⟩; have HB20 := bst HB19 hb; clear hb))
          go_ret
          exact ⟨rfl, below_then HBW.out HBW.out.size HB20.out⟩
  · refine (L_fault HA4.out).mono ?_
    rintro e w5 ⟨rfl, hb⟩
    have HB5 := Aside0.mk (hb)
    have q5 := blk_below HBQ4.out HB5.out
    have y50 : w5.cell? ⟨w2.heap.size, 0, none⟩ = some (.slice A l0.length c) := (blk_cell q5 0).trans rfl
    have y51 : w5.cell? ⟨w2.heap.size, 1, none⟩ = some (.slice A' l1.length c') := (blk_cell q5 1).trans rfl
    clear q5
    clear hb
    go_wp2_with (first | (go_at_call 7; refine (L_has (HA4.out.below HB5.out) (Kd.C_below HX4.out HB5.out) hxc (if_neg hm)).mono ?_; rintro e w6 ⟨rfl, hb⟩; have HB6 := Aside0.mk (below_step HB5.out hb); have q6 := blk_below HBQ4.out HB6.out; have y60 : w6.cell? ⟨w2.heap.size, 0, none⟩ = some (.slice A l0.length c) := (blk_cell q6 0).trans rfl; have y61 : w6.cell? ⟨w2.heap.size, 1, none⟩ = some (.slice A' l1.length c') := (blk_cell q6 1).trans rfl; clear q6; clear hb) | (go_at_call 8; refine (L_count1 (HA4.out.below HB6.out) hm).mono ?_; rintro e w7 ⟨rfl, hb⟩; have HB7 := Aside0.mk (below_step HB6.out hb); have q7 := blk_below HBQ4.out HB7.out; have y70 : w7.cell? ⟨w2.heap.size, 0, none⟩ = some (.slice A l0.length c) := (blk_cell q7 0).trans rfl; have y71 : w7.cell? ⟨w2.heap.size, 1, none⟩ = some (.slice A' l1.length c') := (blk_cell q7 1).trans rfl; clear q7; clear hb) | (go_at_call 9; refine (L_points (HA4.out.below HB7.out) (if_neg hm)).mono ?_; rintro e w8 ⟨X8, c8, rfl, hC8, hb⟩; have HC8 := Aside0.mk hC8; have HB8 := Aside0.mk (below_step HB7.out hb); have q8 := blk_below HBQ4.out HB8.out; have y80 : w8.cell? ⟨w2.heap.size, 0, none⟩ = some (.slice A l0.length c) := (blk_cell q8 0).trans rfl; have y81 : w8.cell? ⟨w2.heap.size, 1, none⟩ = some (.slice A' l1.length c') := (blk_cell q8 1).trans rfl; clear q8; clear hb hC8) | (go_at_call 10; refine (L_least (HA4.out.below HB8.out) (if_neg hm)).mono ?_; rintro e w9 ⟨X9, c9, rfl, hC9, hb⟩; have HC9 := Aside0.mk hC9; have HB9w := Aside0.mk hb; have HB9 := Aside0.mk (below_step HB8.out hb); have q9 := blk_below HBQ4.out HB9.out; have y90 : w9.cell? ⟨w2.heap.size, 0, none⟩ = some (.slice A l0.length c) := (blk_cell q9 0).trans rfl; have y91 : w9.cell? ⟨w2.heap.size, 1, none⟩ = some (.slice A' l1.length c') := (blk_cell q9 1).trans rfl; clear q9; clear hb hC9) | (go_at_call 11; refine (L_greatest (HA4.out.below HB9.out) (if_neg hm)).mono ?_; rintro e w10 ⟨X10, c10, rfl, hC10, hb⟩; have HC10 := Aside0.mk hC10; have HB10 := Aside0.mk (below_step HB9.out hb); have q10 := blk_below HBQ4.out HB10.out; have y100 : w10.cell? ⟨w2.heap.size, 0, none⟩ = some (.slice A l0.length c) := (blk_cell q10 0).trans rfl; have y101 : w10.cell? ⟨w2.heap.size, 1, none⟩ = some (.slice A' l1.length c') := (blk_cell q10 1).trans rfl; clear q10; clear hb hC10))
    refine (when_says _ _ _).mono ?_
    rintro e w11 ⟨rfl, hb⟩
    have HB11 := Aside0.mk (below_step HB10.out hb)
    have q11 := blk_below HBQ4.out HB11.out
    have y110 : w11.cell? ⟨w2.heap.size, 0, none⟩ = some (.slice A l0.length c) := (blk_cell q11 0).trans rfl
    have y111 : w11.cell? ⟨w2.heap.size, 1, none⟩ = some (.slice A' l1.length c') := (blk_cell q11 1).trans rfl
    clear q11
    clear hb
    generalize (if ((x.length : Int) != (l0.length : Int)) = true then (3 : Int) else 0) = v3 at *
    have HER := Aside0.mk (errs_says w11.heap.size 32 (setFault l0 l1) v3 _ (blk_new w11 _))
    rw [if_neg hm] at HER
    go_wp2_with (first | (go_at_call 12; refine HER.out.mono ?_; rintro e w12 ⟨rfl, hb⟩; have HB12 := Aside0.mk (below_step (below_alloc HB11.out _) hb); have q12 := blk_below HBQ4.out HB12.out; have y120 : w12.cell? ⟨w2.heap.size, 0, none⟩ = some (.slice A l0.length c) := (blk_cell q12 0).trans rfl; have y121 : w12.cell? ⟨w2.heap.size, 1, none⟩ = some (.slice A' l1.length c') := (blk_cell q12 1).trans rfl; clear q12; clear hb) | (go_at_call 16; refine (L_check (HA4.out.below HB12.out)).mono ?_; rintro e w13 ⟨rfl, hb⟩; have HB13 := Aside0.mk (below_step HB12.out hb); have q13 := blk_below HBQ4.out HB13.out; have y130 : w13.cell? ⟨w2.heap.size, 0, none⟩ = some (.slice A l0.length c) := (blk_cell q13 0).trans rfl; have y131 : w13.cell? ⟨w2.heap.size, 1, none⟩ = some (.slice A' l1.length c') := (blk_cell q13 1).trans rfl; clear q13; clear hb))
    refine (same_nil X8 c8 w13).mono ?_
    rintro e w14 ⟨rfl, hb⟩
    have HB14 := Aside0.mk (below_step HB13.out hb)
    clear hb
    go_wp2_with (first | (go_at_call 18; have HB16 := HB15.out; clear HB16; refine (equal_nil X10 c10 w15).mono ?_; rintro e w16 ⟨rfl, hb⟩; have HB16 := Aside0.mk (below_step HB15.out hb); clear hb) | (go_at_call 18; refine (equal_nil X9 c9 w14).mono ?_; rintro e w15 ⟨rfl, hb⟩; have HB15 := Aside0.mk (below_step HB14.out hb); clear hb) | (go_at_call 19; refine (counted_calls _).mono ?_; rintro e w17 ⟨rfl, hb⟩; have HB17 := Aside0.mk (below_step HB16.out hb); clear hb))
    go_ret
    exact ⟨rfl, below_then HBW.out HBW.out.size HB17.out⟩
end Go.Proofs.Ytaflckafnpnogaa.PA
