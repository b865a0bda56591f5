/- Part of the proof of FormsOverSets (the law's walk); what it proves holds without further conditions. -/
import Derived.Test.YtjgakaembhmhpaaGreatDoorLB
import Derived.Test.YtjgakaembhmhpaaGreatDoorHD
set_option linter.unusedVariables false
set_option linter.unusedSimpArgs false
namespace Go.Proofs.YtjgakaembhmhpaaGreatDoor.PA
open Go.RowKit Go.Proofs.YtjgakaembhmhpaaGreatDoorW.PrintWords Go.Proofs.YtjgakaembhmhpaaGreatDoorW.PrintLast Go.Proofs.YtjgakaembhmhpaaGreatDoorW.PrintMore Go.Proofs.YtjgakaembhmhpaaGreatDoorM
set_option maxHeartbeats 16000000 in
set_option maxRecDepth 100000 in
theorem law_calls (a0 : Option Addr) (c0 : Nat) (z : List Int) (w : World) (hr : Kd.C (Kd.int .i64) w a0 z.length z) (hc : z.length ≤ c0) (ht : Tab w) :
    Calls Tryz.prog 3 #[.slice a0 z.length c0] w fun e w' => e = .returned (.bool true) ∧ Below w.heap.size w w' := by
  have hst : StOk w (w.alloc (.cells #[.slice a0 z.length c0, .int .i64 0] 25)) w.heap.size z 0 := ⟨0, Int.le_refl _, Int.le_refl _, a0, c0, blk_new w _, Nat.le_refl _, hr⟩
  have HP1 := Aside0.mk (ASet_calls w _ w.heap.size 0 z hst (by omega) (below_alloc (Below.refl _ _) _))
  have HT := Aside0.mk ht
  have HQ1 : Aside0 (∀ W, StOk w W w.heap.size z 1110 → Below w.heap.size w W → Calls Tryz.prog 8 #[.pointer (some ⟨w.heap.size, 0, none⟩), .slice (some ⟨W.heap.size, 0, none⟩) 5 5] (W.alloc (.cells #[.string ⟨#[105]⟩, .string ⟨#[106]⟩, .string ⟨#[105]⟩, .string ⟨#[122, 122]⟩, .string ⟨#[]⟩] 9)) fun e w' => ∃ r, e = .returned (.string r) ∧ Aside0 (r.size ≤ 100) ∧ Aside0 (StOk w w' w.heap.size z 1111) ∧ Aside0 (Below w.heap.size w w') ∧ Aside0 (KeepBut W w' w.heap.size none)) := ⟨fun W h1 h2 => St_someNew h1 (by omega) h2 [⟨#[105]⟩, ⟨#[106]⟩, ⟨#[105]⟩, ⟨#[122, 122]⟩, ⟨#[]⟩] (by simp) (by simp) (by decide) 5 rfl⟩
  have HQ2 : Aside0 (∀ W, StOk w W w.heap.size z 1111 → Below w.heap.size w W → Calls Tryz.prog 8 #[.pointer (some ⟨w.heap.size, 0, none⟩), .slice (some ⟨W.heap.size, 0, none⟩) 3 3] (W.alloc (.cells #[.string ⟨#[106]⟩, .string ⟨#[107]⟩, .string ⟨#[105]⟩] 9)) fun e w' => ∃ r, e = .returned (.string r) ∧ Aside0 (r.size ≤ 100) ∧ Aside0 (StOk w w' w.heap.size z 1112) ∧ Aside0 (Below w.heap.size w w') ∧ Aside0 (KeepBut W w' w.heap.size none)) := ⟨fun W h1 h2 => St_someNew h1 (by omega) h2 [⟨#[106]⟩, ⟨#[107]⟩, ⟨#[105]⟩] (by simp) (by simp) (by decide) 3 rfl⟩
  clear hst hr ht
  go_enter Tryz.func3, Tryz.ntmps3
  go_wp2_with (first | (go_at_call 5; refine HP1.out.mono ?_; rintro e w2 ⟨A, c, l0, A', c', l1, rfl, hle, hmod, ⟨ok, hF, hF', hg⟩, hS, hB⟩; have HS2 := Aside0.mk hS; have HB2 := Aside0.mk hB; have HF2 := Aside0.mk hF; have HF2' := Aside0.mk hF'; have HLE := Aside0.mk hle; have HMO := Aside0.mk hmod; have HG2 := Aside0.mk hg; have HGL := Aside0.mk hS.lt; clear hF hF' hS hB hle hmod hg HP1) | (go_at_call 6; refine (AnyForm_calls w w2 w.heap.size 1000 z HS2.out (by omega) HB2.out).mono ?_; rintro e w3 ⟨X, cap, a, l, rfl, hl, hX, HT3, HS3, HB3, HK3⟩; have HLL := Aside0.mk hl; have HX3 := Aside0.mk hX; clear hl hX) | (go_at_call 7; refine (FormList_calls w w3 w.heap.size 1010 z HS3.out (by omega) HB3.out).mono ?_; rintro e w4 ⟨AF, cF, L, rfl, hL, HF4, HS4, HB4, HK4⟩; have HLF := Aside0.mk hL; clear hL) | (go_at_call 8; refine (HQ2.out _ HS5.out HB5.out).mono ?_; rintro e w6 ⟨n2, rfl, HN2, HS6, HB6, HK6⟩) | (go_at_call 8; refine (HQ1.out _ HS4.out HB4.out).mono ?_; rintro e w5 ⟨n1, rfl, HN1, HS5, HB5, HK5⟩) | (go_at_call 9; refine (St_Flip (HS6.out.below (below_alloc (below_alloc (below_alloc (Below.refl _ _) _) _) _)) (by omega) (below_then HB6.out HB6.out.size (below_alloc (below_alloc (below_alloc (Below.refl _ _) _) _) _)) 4 (by omega) (by omega)).mono ?_; rintro e w7 ⟨q, rfl, hs7, hb7, hk7⟩; have HS7 := Aside0.mk hs7; have HB7 := Aside0.mk hb7; have HK7 := Aside0.mk hk7; clear hs7 hb7 hk7; obtain ⟨ok2, hF4, hg4⟩ := HF4.out; have HLW : Aside0 (∀ (wS : World), KeepBut (((w6.alloc (.cells #[.string n1, .string n2] 9)).alloc (.cells #[.slice A l0.length c, .slice A' l1.length c'] 29)).alloc (.cells #[.int .i64 a, .slice (some ⟨X, 0, none⟩) l.length cap] 33)) wS w.heap.size none → Below w.heap.size w wS → ∀ ns : List ByteArray, ns = [n1, n2].take ns.length → LawAt w A A' c c' l0 l1 X cap ⟨a, l⟩ AF cF L w6.heap.size ns (w6.heap.size + 1) wS) := ⟨fun wS hkS hbS ns hn => law_at (wS := wS) (a := a) (n1 := n1) (n2 := n2) HT.out HLE.out HMO.out HF2.out HF2'.out HG2.out HLL.out HX3.out HGL.out HT3.out HK3.out HLF.out hF4 hg4 HK4.out (HK5.out.trans HK6.out (.inl rfl)) rfl hkS hbS HN1.out HN2.out ns hn⟩; clear hF4 hg4; obtain ⟨HLA, y0, y1, y2, y3, yl, ym⟩ := (HLW.out w7 HK7.out HB7.out [n1, n2] rfl).step (Below.refl _ _); cases q) | (go_at_call 10; refine (St_Next HS7.out (by omega) HB7.out 2 (by omega) (by omega)).mono ?_; rintro e w8 ⟨r, rfl, hr, hs8, hb8, hk8⟩; have HB8 := Aside0.mk hb8; have HK8 := Aside0.mk hk8; clear hs8 hb8 hk8; obtain ⟨kn, rfl⟩ : ∃ kn : Nat, r = (kn : Int) := ⟨r.toNat, by omega⟩; have hkn0 : (0 : Int) ≤ (kn : Int) := hr.1; have hkn2 : (kn : Int) ≤ 2 := (by omega); have hkn3 : kn ≤ 2 := (by omega); clear hr; obtain ⟨ns, hns, hlen⟩ : ∃ ns : List ByteArray, ns = [n1, n2].take ns.length ∧ ns.length = kn := ⟨[n1, n2].take kn, by rw [take_len2 n1 n2 hkn3], take_len2 n1 n2 hkn3⟩; subst hlen; clear y0 y1 y2 y3 yl ym HLA; obtain ⟨HLA, y0, y1, y2, y3, yl, ym⟩ := (HLW.out w8 (HK7.out.trans HK8.out (.inl rfl)) HB8.out ns hns).step (Below.refl _ _); clear hns))
  all_goals clear HLW HF2 HF2' HG2 HMO HLE HX3 HGL HT3 HK3 HF4 HK4 HK5 HK6 HS2 HB2 HS3 HB3 HS4 HB4 HS5 HB5 HQ1 HQ2 HLL HLF HN1 HN2
  all_goals
    as_aux_lemma =>
      by_cases e0 : setFault l0 l1 = 0
      · have HE0 := Aside0.mk e0
        clear e0
        obtain ⟨r1, r2, r3, r4, HRV⟩ : ∃ r1 r2 r3 r4, Aside0 (rangeV l0 l1 ⟨a, l⟩ = (r1, r2, r3, r4)) := ⟨_, _, _, _, ⟨rfl⟩⟩
        obtain ⟨i1, i2, HIV⟩ : ∃ i1 i2, Aside0 (imageV l0 l1 L = (i1, i2)) := ⟨_, _, ⟨rfl⟩⟩
        obtain ⟨o1, HO1⟩ : ∃ o, Aside0 (overS (l0.map (·.f0)) ⟨a, l⟩ = o) := ⟨_, ⟨rfl⟩⟩
        obtain ⟨o2, HO2⟩ : ∃ o, Aside0 (oversS (l0.map (·.f0)) L = o) := ⟨_, ⟨rfl⟩⟩
        obtain ⟨bI, HBI⟩ : ∃ b, Aside0 ((decide (r4 = 0) && (!r3 || decide (0 ≤ r1))) = b) := ⟨_, ⟨rfl⟩⟩
        refine (L_fault0 HLA.out.set HE0.out).mono ?_
        rintro e wn ⟨rfl, hb⟩
        clear y0 y1 y2 y3 yl ym
        have HLB := HLA
        clear HLA
        obtain ⟨HLA, y0, y1, y2, y3, yl, ym⟩ := HLB.out.step hb
        clear HLB
        clear hb
        go_wp2_with (first | (go_at_call 12; refine (L_range HLA.out.set HLA.out.form HRV.out).mono ?_; rintro e wn ⟨rfl, hb⟩; clear y0 y1 y2 y3 yl ym; have HLB := HLA; clear HLA; obtain ⟨HLA, y0, y1, y2, y3, yl, ym⟩ := HLB.out.step hb; clear HLB; clear hb) | (go_at_call 13; refine (L_implies2 HLA.out.set HLA.out.form HRV.out HBI.out).mono ?_; rintro e wn ⟨rfl, hb⟩; clear y0 y1 y2 y3 yl ym; have HLB := HLA; clear HLA; obtain ⟨HLA, y0, y1, y2, y3, yl, ym⟩ := HLB.out.step hb; clear HLB; clear hb) | (go_at_call 14; refine (L_image HLA.out.set HLA.out.tab HLA.out.tabs (by have := HLA.out.tl; omega) HLA.out.tb HIV.out).mono ?_; rintro e wn ⟨rfl, hb⟩; clear y0 y1 y2 y3 yl ym; have HLB := HLA; clear HLA; obtain ⟨HLA, y0, y1, y2, y3, yl, ym⟩ := HLB.out.step hb; clear HLB; clear hb) | (go_at_call 15; refine (L_projected HLA.out.set HLA.out.names HLA.out.nl (by have := HLA.out.nl; omega) HLA.out.nsz HLA.out.tb).mono ?_; rintro e wn ⟨XP, cP, zs, rP, rfl, HPI, HCP, HBP⟩; have hb := HBP.out; clear y0 y1 y2 y3 yl ym; have HLB := HLA; clear HLA; obtain ⟨HLA, y0, y1, y2, y3, yl, ym⟩ := HLB.out.step hb; clear HLB; clear hb) | (go_at_call 16; refine (L_over2 HLA.out.set HLA.out.form (by have := HLA.out.nl0; omega) HO1.out).mono ?_; rintro e wn ⟨rfl, hb⟩; have HCQ := HCP; clear HCP; have HCP := Aside0.mk (Kd.C_below HCQ.out hb); clear HCQ; clear y0 y1 y2 y3 yl ym; have HLB := HLA; clear HLA; obtain ⟨HLA, y0, y1, y2, y3, yl, ym⟩ := HLB.out.step hb; clear HLB; clear hb))
        obtain ⟨⟨o3, HO3⟩, LA, hLA, HLL⟩ := HLA.out.o3
        have HLB := Aside0.mk hLA
        have HLE := Aside0.mk HLL
        clear y0 y1 y2 y3 yl ym HLA hLA HLL
        go_loopg [20, 23, 90] L.length (fun gg s20 _ s90 wr => ∃ (kk : Nat) (q : Int), kk ≤ L.length ∧ L.length - kk ≤ gg ∧ s20 = .int .i64 q ∧ s90 = .int .i64 kk ∧ Aside0 (LA wr) ∧ Aside0 (Kd.C (Kd.slice 3 KI) wr XP zs.length zs) ∧ Aside0 (oversS (l0.map (·.f0)) L = if q = 0 then oversS (l0.map (·.f0)) (L.drop kk) else q))
        case atStart => exact ⟨0, 0, Nat.zero_le _, by omega, rfl, rfl, HLB, HCP, ⟨by simp⟩⟩
        case round =>
          clear HCP HLB
          obtain ⟨kk, q, hkk, hg, rfl, rfl, HLR, HCP, AQ⟩ := hrel
          obtain ⟨HLA, y0, y1, y2, y3, yl, ym⟩ := ((HLE.out _).1 HLR.out).step (Below.refl _ _)
          by_cases hlt : kk < L.length
          · skip
            as_aux_lemma =>
              have hltz : (kk : Int) < (L.length : Int) := by omega
              have hL3 := HLA.out.tl
              obtain ⟨ad, A1, c1, e, f0, f1, hle, hC⟩ := at_T33 HLA.out.tab.rd (kk : Int) (by omega) (by omega)
              cases e
              simp only [Int.toNat_natCast] at f0 f1
              have hy : rd_T33 L (kk : Int) = L[kk] := by simp [rd_T33, List.getD, List.getElem?_eq_getElem hlt]
              have HNF := Aside0.mk (HLA.out.tabs (rd_T33 L (kk : Int)) (by rw [hy]; exact List.getElem_mem hlt))
              have HAQ : Aside0 (oversS (l0.map (·.f0)) (L.drop kk) = if overS (l0.map (·.f0)) (rd_T33 L (kk : Int)) = 0 then oversS (l0.map (·.f0)) (L.drop (kk + 1)) else overS (l0.map (·.f0)) (rd_T33 L (kk : Int))) := ⟨by rw [hy, List.drop_eq_getElem_cons hlt]; rfl⟩
              have HFA := Aside0.mk (FormAt.mk hC hle HNF.out.1 HNF.out.2)
              clear hy hC hle
              generalize rd_T33 L (kk : Int) = f at *
              obtain ⟨o, HO⟩ : ∃ o, Aside0 (overS (l0.map (·.f0)) f = o) := ⟨_, ⟨rfl⟩⟩
              obtain ⟨p, HP⟩ : ∃ p, Aside0 ((if q = 0 then o else q) = p) := ⟨_, ⟨rfl⟩⟩
              have HBN := Aside0.mk (below_alloc (Below.refl wr.heap.size wr) (.cells #[.int .i64 f.f0, .slice A1 f.f1.length c1] 33))
              have HOC := Aside0.mk (L_over2 (HLA.out.set.below HBN.out) (HFA.out.below HBN.out) (by have := HLA.out.nl0; omega) HO.out)
              go_wp2_with (first | (go_at_call 16; refine HOC.out.mono ?_; rintro e w17 ⟨rfl, hb⟩; have HBa := Aside0.mk (below_step HBN.out hb); have HER := Aside0.mk (errs_says2 w17.heap.size 40 q o p _ (blk_new w17 _) HP.out); clear hb) | (go_at_call 17; refine HER.out.mono ?_; rintro e w18 ⟨rfl, hb⟩; have HBb := Aside0.mk (below_step HBa.out (below_step (below_alloc (Below.refl _ _) _) hb)); clear hb))
              go_roundg (L.length - (kk + 1))
              case measure => omega
              case rel => exact ⟨kk + 1, p, by omega, by omega, rfl, by go_num, ⟨(HLE.out _).2 (HLA.out.below HBb.out)⟩, ⟨Kd.C_below HCP.out HBb.out⟩, ⟨by rw [AQ.out, HAQ.out, HO.out, ← HP.out]; exact errs_if q o _⟩⟩
          · skip
            as_aux_lemma =>
              have hltz : ¬ (kk : Int) < (L.length : Int) := by omega
              have ek : kk = L.length := by omega
              subst ek
              have hq : q = o2 := by
                have h1 := AQ.out
                rw [List.drop_length, HO2.out] at h1
                rw [h1]
                by_cases h : q = 0
                · rw [if_pos h, h]; rfl
                · rw [if_neg h]
              subst hq
              clear AQ hltz HLR HLE
              rcases law_one HE0.out HO1.out HRV.out HBI.out with ⟨rfl, rfl, HFR, HOK, ⟨rfl, rfl⟩ | ⟨rfl, rfl, hd⟩ | ⟨rfl, rfl, hd⟩⟩ | ⟨hb1, rfl, rfl, rfl, rfl, rfl⟩
              all_goals
                clear HO1 HRV HBI
                rcases law_two HE0.out HO2.out HIV.out with ⟨rfl, rfl, HII, HOL⟩ | ⟨hb2, rfl, rfl⟩
                all_goals
                  clear HO2 HIV
                  rcases law_three HE0.out HO3.out HPI.out with ⟨rfl, rfl, rfl, HNO, HMANY⟩ | ⟨rfl, rfl, HNO, HSQ, hfew⟩ | ⟨hb3, rfl, rfl⟩
                  all_goals
                    as_aux_lemma =>
                      clear HPI
                      go_wp2_with (first | (go_at_call 18; refine (L_names2 HLA.out.set HLA.out.names (by have := HLA.out.nl; omega) (by have := HLA.out.nl; omega) HLA.out.nsz HO3.out).mono ?_; rintro e wn ⟨rfl, hb⟩; have HCQ := HCP; clear HCP; have HCP := Aside0.mk (Kd.C_below HCQ.out hb); clear HCQ; clear y0 y1 y2 y3 yl ym; have HLB := HLA; clear HLA; obtain ⟨HLA, y0, y1, y2, y3, yl, ym⟩ := HLB.out.step hb; clear HLB; clear hb) | (go_at_call 19; refine (L_rangeIn2 HLA.out.set HLA.out.form HE0.out HOK.out HFR.out).mono ?_; rintro e wn ⟨rfl, hb⟩; have HCQ := HCP; clear HCP; have HCP := Aside0.mk (Kd.C_below HCQ.out hb); clear HCQ; clear y0 y1 y2 y3 yl ym; have HLB := HLA; clear HLA; obtain ⟨HLA, y0, y1, y2, y3, yl, ym⟩ := HLB.out.step hb; clear HLB; clear hb) | (go_at_call 20; refine (L_imageIn2 HLA.out.set HLA.out.tab HE0.out HOL.out HII.out).mono ?_; rintro e wn ⟨rfl, hb⟩; have HCQ := HCP; clear HCP; have HCP := Aside0.mk (Kd.C_below HCQ.out hb); clear HCQ; clear y0 y1 y2 y3 yl ym; have HLB := HLA; clear HLA; obtain ⟨HLA, y0, y1, y2, y3, yl, ym⟩ := HLB.out.step hb; clear HLB; clear hb) | (go_at_call 21; refine (L_projIn2 HLA.out.set HLA.out.names (by have := HLA.out.nl; omega) HE0.out HNO.out HSQ.out).mono ?_; rintro e wn ⟨X2, c2, rfl, HC2, HBX⟩; have hb := HBX.out; have HCQ := HCP; clear HCP; have HCP := Aside0.mk (Kd.C_below HCQ.out hb); clear HCQ; clear y0 y1 y2 y3 yl ym; have HLB := HLA; clear HLA; obtain ⟨HLA, y0, y1, y2, y3, yl, ym⟩ := HLB.out.step hb; clear HLB; clear hb) | (go_at_call 21; refine (L_projIn3 HLA.out.set HLA.out.names (by have := HLA.out.nl; omega) HE0.out HNO.out HMANY.out).mono ?_; rintro e wn ⟨X2, c2, n2, hn2, rfl, HBX⟩; have hb := HBX.out; have HCQ := HCP; clear HCP; have HCP := Aside0.mk (Kd.C_below HCQ.out hb); clear HCQ; clear y0 y1 y2 y3 yl ym; have HLB := HLA; clear HLA; obtain ⟨HLA, y0, y1, y2, y3, yl, ym⟩ := HLB.out.step hb; clear HLB; clear hb) | (go_at_call 22; have HD := HC2; refine (when_f (by first | rfl | (simp; omega)) 12 _).mono ?_; rintro e wn ⟨rfl, hb⟩; clear HC2; have HC2 := Aside0.mk (Kd.C_below HD.out hb); clear HD; have HCQ := HCP; clear HCP; have HCP := Aside0.mk (Kd.C_below HCQ.out hb); clear HCQ; clear y0 y1 y2 y3 yl ym; have HLB := HLA; clear HLA; obtain ⟨HLA, y0, y1, y2, y3, yl, ym⟩ := HLB.out.step hb; clear HLB; clear hb) | (go_at_call 22; have HD := HMANY; clear HD; refine (when_t (by first | rfl | (simp; omega)) 12 _).mono ?_; rintro e wn ⟨rfl, hb⟩; have HCQ := HCP; clear HCP; have HCP := Aside0.mk (Kd.C_below HCQ.out hb); clear HCQ; clear y0 y1 y2 y3 yl ym; have HLB := HLA; clear HLA; obtain ⟨HLA, y0, y1, y2, y3, yl, ym⟩ := HLB.out.step hb; clear HLB; clear hb) | (go_at_call 23; have HD := HC2; clear HD; refine (same_same XP cP X2 c2 zs _ HCP.out HC2.out).mono ?_; rintro e wn ⟨rfl, hb⟩; clear y0 y1 y2 y3 yl ym; have HLB := HLA; clear HLA; obtain ⟨HLA, y0, y1, y2, y3, yl, ym⟩ := HLB.out.step hb; clear HLB; clear hb) | (go_at_call 23; refine (same_nil XP cP _).mono ?_; rintro e wn ⟨rfl, hb⟩; clear y0 y1 y2 y3 yl ym; have HLB := HLA; clear HLA; obtain ⟨HLA, y0, y1, y2, y3, yl, ym⟩ := HLB.out.step hb; clear HLB; clear hb) | (go_at_call 24; refine (counted_calls _).mono ?_; rintro e wn ⟨rfl, hb⟩; clear y0 y1 y2 y3 yl ym; have HLB := HLA; clear HLA; obtain ⟨HLA, y0, y1, y2, y3, yl, ym⟩ := HLB.out.step hb; clear HLB; clear hb))
                      go_ret
                      exact ⟨rfl, HLA.out.bw⟩
      · skip
        as_aux_lemma =>
          obtain ⟨s, HS⟩ : ∃ s, Aside0 (setFault l0 l1 = s) := ⟨_, ⟨rfl⟩⟩
          have hs0 : s ≠ 0 := fun h => e0 (HS.out.trans h)
          have hbs : (s == 0) = false := beq_eq_false_iff_ne.2 hs0
          have HRV : Aside0 (rangeV l0 l1 ⟨a, l⟩ = (0, 0, false, s)) := ⟨by unfold rangeV; rw [if_neg e0, HS.out]⟩
          have HIV : Aside0 (imageV l0 l1 L = (0, s)) := ⟨by unfold imageV; rw [if_neg e0, HS.out]⟩
          have HBI : Aside0 ((decide (s = 0) && (!false || decide ((0 : Int) ≤ 0))) = false) := ⟨by simp [hs0]⟩
          have HE0 := Aside0.mk e0
          clear e0 hs0
          refine (L_fault2 HLA.out.set HS.out).mono ?_
          rintro e wn ⟨rfl, hb⟩
          clear y0 y1 y2 y3 yl ym
          have HLB := HLA
          clear HLA
          obtain ⟨HLA, y0, y1, y2, y3, yl, ym⟩ := HLB.out.step hb
          clear HLB
          clear hb
          go_wp2_with (first | (go_at_call 12; refine (L_range HLA.out.set HLA.out.form HRV.out).mono ?_; rintro e wn ⟨rfl, hb⟩; clear y0 y1 y2 y3 yl ym; have HLB := HLA; clear HLA; obtain ⟨HLA, y0, y1, y2, y3, yl, ym⟩ := HLB.out.step hb; clear HLB; clear hb) | (go_at_call 13; refine (L_implies2 HLA.out.set HLA.out.form HRV.out HBI.out).mono ?_; rintro e wn ⟨rfl, hb⟩; clear y0 y1 y2 y3 yl ym; have HLB := HLA; clear HLA; obtain ⟨HLA, y0, y1, y2, y3, yl, ym⟩ := HLB.out.step hb; clear HLB; clear hb) | (go_at_call 14; refine (L_image HLA.out.set HLA.out.tab HLA.out.tabs (by have := HLA.out.tl; omega) HLA.out.tb HIV.out).mono ?_; rintro e wn ⟨rfl, hb⟩; clear y0 y1 y2 y3 yl ym; have HLB := HLA; clear HLA; obtain ⟨HLA, y0, y1, y2, y3, yl, ym⟩ := HLB.out.step hb; clear HLB; clear hb) | (go_at_call 15; refine (L_projected HLA.out.set HLA.out.names HLA.out.nl (by have := HLA.out.nl; omega) HLA.out.nsz HLA.out.tb).mono ?_; rintro e wn ⟨XP, cP, zs, rP, rfl, HPI, HCP, HBP⟩; have hb := HBP.out; clear y0 y1 y2 y3 yl ym; have HLB := HLA; clear HLA; obtain ⟨HLA, y0, y1, y2, y3, yl, ym⟩ := HLB.out.step hb; clear HLB; clear hb; obtain ⟨rfl, hrP⟩ := HPI.out.1 HE0.out; obtain rfl : rP = s := hrP.trans HS.out) | (go_at_call 23; refine (same_nil XP cP _).mono ?_; rintro e wn ⟨rfl, hb⟩; clear y0 y1 y2 y3 yl ym; have HLB := HLA; clear HLA; obtain ⟨HLA, y0, y1, y2, y3, yl, ym⟩ := HLB.out.step hb; clear HLB; clear hb) | (go_at_call 24; refine (counted_calls _).mono ?_; rintro e wn ⟨rfl, hb⟩; clear y0 y1 y2 y3 yl ym; have HLB := HLA; clear HLA; obtain ⟨HLA, y0, y1, y2, y3, yl, ym⟩ := HLB.out.step hb; clear HLB; clear hb))
          go_ret
          exact ⟨rfl, HLA.out.bw⟩
end Go.Proofs.YtjgakaembhmhpaaGreatDoor.PA
namespace Go.Proofs.YtjgakaembhmhpaaGreatDoor.PA
open Go.RowKit Go.Proofs.YtjgakaembhmhpaaGreatDoorW.PrintWords Go.Proofs.YtjgakaembhmhpaaGreatDoorW.PrintLast Go.Proofs.YtjgakaembhmhpaaGreatDoorW.PrintMore Go.Proofs.YtjgakaembhmhpaaGreatDoorM
theorem FormsOverSets.walk (a0 : Option Addr) (len0 cap0 : Nat) (z0 : List Int) (w : World) (w0 : (a0 = none ∧ len0 = 0 ∧ cap0 = 0 ∧ z0 = []) ∨ ∃ x, a0 = some x ∧ len0 ≤ cap0 ∧ cap0 ≤ maxLen ∧ z0.length = cap0 ∧ (∀ i, i < z0.length → w.cell? (x.add i) = some (.int .i64 (z0.getD i 0))) ∧ ∀ n ∈ z0, (Lit.int .i64 n).wf = true) (ht : Tab w) :
    Calls Tryz.prog 3 #[.slice a0 len0 cap0] w fun e w' => e = .returned (.bool true) ∧ Below w.heap.size w w' := by
  obtain ⟨l0, rfl, hr0, hm0, hw0, hc0⟩ := ReadsInt.ofRowC w0
  exact law_calls a0 cap0 l0 w (Kd.C_of_reads (d := (0 : Int)) (h1 := fun _ => rfl) hr0) hc0 ht
end Go.Proofs.YtjgakaembhmhpaaGreatDoor.PA
