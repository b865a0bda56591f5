/- Part of the proof of FormsOverSets (the walk: forms over sets); what it proves holds without further conditions. -/
import Derived.Test.YtjgakaembhmhpaaGreatDoorRA
import Derived.Test.YtjgakaembhmhpaaGreatDoorHB
import Derived.Test.YtjgakaembhmhpaaGreatDoorNA
set_option linter.unusedVariables false
set_option linter.unusedSimpArgs false
namespace Go.Proofs.YtjgakaembhmhpaaGreatDoor.PA
open Go.RowKit Go.Proofs.YtjgakaembhmhpaaGreatDoorW.PrintWords Go.Proofs.YtjgakaembhmhpaaGreatDoorW.PrintLast Go.Proofs.YtjgakaembhmhpaaGreatDoorW.PrintMore Go.Proofs.YtjgakaembhmhpaaGreatDoorM
set_option maxHeartbeats 4000000 in
set_option maxRecDepth 100000 in
theorem at_calls (l0_0 : List S77) (l0_1 : List S33) (l1 : List Int) (A0_0 A0_1 A1 : Option Addr) (c0_0 c0_1 c1 : Nat) (w : World)
    (hs : Kd.C k77 w A0_0 l0_0.length l0_0) (hcs : l0_0.length ≤ c0_0) (hx : Kd.C (Kd.int .i64) w A1 l1.length l1) (hlen : l0_0.length = l1.length) (hl8 : l0_0.length < 1000)
    (hok : ∀ s ∈ l0_0, s.f0.size ≤ maxLen) (hwf : ∀ n ∈ l1, (Lit.int .i64 n).wf = true) :
    Calls Tryz.prog 68 #[.agg #[.slice A0_0 l0_0.length c0_0, .slice A0_1 l0_1.length c0_1], .slice A1 l1.length c1] w fun e w' => ∃ b D, e = .returned (.map (some b)) ∧ w.heap.size ≤ b ∧ MO w' b l0_0.length D ∧ Aside0 (∀ s, mAt D s = xAt l0_0 l1 l0_0.length s) ∧ Below w.heap.size w w' := by
  have HLEN := Aside0.mk hlen
  clear hlen
  have HS := Aside0.mk hs
  have HX := Aside0.mk hx
  have HOK := Aside0.mk hok
  have HWF0 := Aside0.mk hwf
  have hm := HS.out.2.1
  have hmm := @run_makeMap Tryz.prog
  have hom : ∀ o, MO ((w.alloc o).alloc (.map #[] 0)) (w.heap.size + 1) 0 (.map []) := fun o => by
    have := World.ownsMap_made (H := Unit) (w.alloc o) Tryz.prog 9 (plainElem Tryz.prog 3)
    rwa [show (w.alloc o).heap.size = w.heap.size + 1 by simp] at this
  clear hs hx hok hwf
  go_enter Tryz.func68, Tryz.ntmps68
  go_wp2
  have bb : ((w.alloc (.cells #[.slice A0_0 l0_0.length c0_0, .slice A0_1 l0_1.length c0_1] 29)).alloc (.map #[] 0)).heap[w.heap.size]? = some (.cells #[.slice A0_0 l0_0.length c0_0, .slice A0_1 l0_1.length c0_1] 29 (0, 0)) := blk_below (blk_new w _) (below_alloc (Below.refl _ _) _)
  have HB := Aside0.mk (below_alloc (below_alloc (Below.refl w.heap.size w) (.cells #[.slice A0_0 l0_0.length c0_0, .slice A0_1 l0_1.length c0_1] 29)) (.map #[] 0))
  have ho := (hom (.cells #[.slice A0_0 l0_0.length c0_0, .slice A0_1 l0_1.length c0_1] 29))
  have BB := Aside0.mk bb
  have HO := Aside0.mk ho
  clear bb ho hom
  generalize (w.alloc (.cells #[.slice A0_0 l0_0.length c0_0, .slice A0_1 l0_1.length c0_1] 29)).alloc (.map #[] 0) = W0 at *
  go_loopg [6, 7, 12] l0_0.length (fun gg _ _ s12 wr => ∃ (kk : Nat) (Dx : DataW Unit), kk ≤ l0_0.length ∧ l0_0.length - kk ≤ gg ∧ s12 = .int .i64 kk ∧ Aside0 (MO wr (w.heap.size + 1) kk Dx) ∧ Aside0 (∀ s, mAt Dx s = xAt l0_0 l1 kk s) ∧ Aside0 (Below w.heap.size w wr))
  case atStart => exact ⟨0, _, Nat.zero_le _, by omega, rfl, HO, ⟨fun _ => rfl⟩, HB⟩
  case round =>
    obtain ⟨kk, Dx, hkk, hg, rfl, HO, HD, BW⟩ := hrel
    by_cases hlt : kk < l0_0.length
    · have hltz : (kk : Int) < (l0_0.length : Int) := by omega
      have hlt1 : kk < l1.length := by have := HLEN.out; omega
      have hltz1 : (kk : Int) < (l1.length : Int) := by omega
      obtain ⟨ad, e, hx0⟩ := Kd.at_int HX.out (kk : Int) (by omega) (by omega)
      cases e
      obtain ⟨ad0, e, hs0, hs1, hs2⟩ := at_T77 HS.out (kk : Int) (by omega) (by omega)
      cases e
      replace hx0 := pw_cell_below BW.out hx0
      replace hs0 := pw_cell_below BW.out hs0
      replace hs1 := pw_cell_below BW.out hs1
      replace hs2 := pw_cell_below BW.out hs2
      simp only [Int.toNat_natCast] at hx0 hs0 hs1 hs2
      have hy : rd_T77 l0_0 (kk : Int) = l0_0[kk] := by simp [rd_T77, List.getD, List.getElem?_eq_getElem hlt]
      have hy2 : rd l1 (kk : Int) = l1[kk] := by simp [rd, rdOf, List.getD, List.getElem?_eq_getElem hlt1]
      have HSZ := Aside0.mk (HOK.out (rd_T77 l0_0 (kk : Int)) (by rw [hy]; exact List.getElem_mem hlt))
      have HWF := Aside0.mk (HWF0.out (rd l1 (kk : Int)) (by rw [hy2]; exact List.getElem_mem hlt1))
      have HXN : Aside0 (∀ s, xAt l0_0 l1 (kk + 1) s = if s = (rd_T77 l0_0 (kk : Int)).f0 then rd l1 (kk : Int) else xAt l0_0 l1 kk s) := ⟨fun s => rfl⟩
      clear hy hy2
      generalize rd l1 (kk : Int) = n at *
      generalize rd_T77 l0_0 (kk : Int) = y at *
      obtain ⟨y0, y1, y2⟩ := y
      go_wp2
      have BN := blk_new wr (.cells #[.string y0, .int .i64 y1, .int .i64 y2] 77)
      have e0 := (blk_cell BN 0).trans rfl
      have BW1 := Aside0.mk (below_alloc BW.out (.cells #[.string y0, .int .i64 y1, .int .i64 y2] 77))
      have BO1 := Aside0.mk (below_alloc (Below.refl wr.heap.size wr) (.cells #[.string y0, .int .i64 y1, .int .i64 y2] 77))
      replace hx0 := pw_cell_below BO1.out hx0
      have HO1 := Aside0.mk (owns_below HO.out BO1.out)
      clear BN BO1 HO hs0 hs1 hs2
      generalize wr.alloc (.cells #[.string y0, .int .i64 y1, .int .i64 y2] 77) = W1 at *
      generalize hwb : wr.heap.size = WB at *
      have hkey := kS_key HSZ.out
      obtain ⟨w6, hrun, hO6, hG6⟩ := (show MO (W1.drew) (w.heap.size + 1) kk Dx from HO1.out).update (t := 99) (e := 3) mlaw Tryz.underlying99 (by unfold maxLen; omega) hkey (plainElem_int Tryz.underlying3 HWF.out)
      have HO6 := Aside0.mk hO6
      have HG6 := Aside0.mk hG6
      clear hO6 hG6
      have HN6 : Aside0 (∀ s, mAt (Dx.put (kS y0) (.lit (.int .i64 n))) s = xAt l0_0 l1 (kk + 1) s) := ⟨fun s => by rw [mAt_put (owns_neat HO1.out), HXN.out, HD.out]⟩
      have BW6 := Aside0.mk ((below_drew BW1.out).grown HG6.out (below_drew BW1.out).size (fun j hj => by cases hj; omega))
      go_region_law (fail)
      all_goals
        clear hrun
        go_wp2
        go_roundg (l0_0.length - (kk + 1))
        case measure => omega
        case rel => exact ⟨kk + 1, _, by omega, by omega, by go_num, HO6, HN6, BW6⟩
    · have hltz : ¬ (kk : Int) < (l0_0.length : Int) := by omega
      have : kk = l0_0.length := by omega
      subst this
      go_wp2
      go_ret
      exact ⟨_, rfl, by omega, Dx, HO.out, HD, BW.out⟩
theorem over_cd {sides : List S77} {f : S33} (ho : overS (sides.map (·.f0)) f = 0) : (-1000000 ≤ f.f0 ∧ f.f0 ≤ 1000000) ∧ f.f1.length ≤ 12 ∧ ∀ t ∈ f.f1, (nameOk t.f0 = true ∧ -1000 ≤ t.f1 ∧ t.f1 ≤ 1000) ∧ t.f0 ∈ sides.map (·.f0) := by
  unfold overS at ho
  by_cases c1 : formFaultS f.f0 f.f1 = 0
  · rw [if_pos c1] at ho
    cases c2 : f.f1.all (fun t => (sides.map (·.f0)).any fun x => decide (t.f0 = x)) with
    | false => rw [c2] at ho; simp at ho
    | true =>
      unfold formFaultS at c1
      by_cases c3 : inB f.f0 (-1000000) 1000000 = true
      · rw [if_pos c3] at c1
        by_cases c4 : f.f1.length > 12
        · rw [if_pos c4] at c1; simp at c1
        · rw [if_neg c4] at c1
          refine ⟨inB_iff.1 c3, by omega, fun t ht => ⟨terms_zero _ _ c1 t ht, ?_⟩⟩
          have := List.all_eq_true.1 c2 t ht
          obtain ⟨x, hx, he⟩ := List.any_eq_true.1 this
          rw [decide_eq_true_eq] at he
          rw [he]
          exact hx
      · rw [if_neg c3] at c1; simp at c1
  · rw [if_neg c1] at ho
    exact absurd ho c1
theorem valid_one {sides : List S77} {conds : List S33} {f : S33} (h : Valid sides conds) (ho : overS (sides.map (·.f0)) f = 0) : Valid sides [f] :=
  ⟨h.len, h.sd, h.nd, by simp, fun g hg => by rw [List.mem_singleton.1 hg]; exact over_cd ho, h.em⟩
theorem value_over {sides : List S77} {conds : List S33} {f : S33} (h : Valid sides conds) (ho : overS (sides.map (·.f0)) f = 0) (x : List Int) : valueOf sides x f = refVal sides x f :=
  value_eq (valid_one h ho) x (List.mem_singleton.2 rfl)
theorem okForm_over {sides : List S77} {f : S33} (ho : overS (sides.map (·.f0)) f = 0) : okForm f = true := by
  obtain ⟨h1, h2, h3⟩ := over_cd ho
  unfold okForm
  simp only [Bool.and_eq_true, decide_eq_true_eq, List.all_eq_true]
  refine ⟨wf_of (by omega), by omega, fun t ht => ?_⟩
  have := name_size (h3 t ht).1.1
  unfold maxLen
  omega
theorem valsFrom_mem : ∀ (c : Nat) (lo v : Int), v ∈ valsFrom lo c → lo ≤ v ∧ v < lo + c
  | 0, _, _, h => by simp [valsFrom] at h
  | c + 1, lo, v, h => by
    rw [valsFrom, List.mem_cons] at h
    rcases h with rfl | h
    · omega
    · have := valsFrom_mem c (lo + 1) v h
      omega
theorem allP_mem : ∀ (sides : List S77), (∀ s ∈ sides, (-1000000 ≤ s.f1 ∧ s.f1 ≤ 1000000) ∧ (-1000000 ≤ s.f2 ∧ s.f2 ≤ 1000000)) → ∀ x ∈ allP sides, x.length = sides.length ∧ ∀ n ∈ x, -1000000 ≤ n ∧ n ≤ 1000000
  | [], _, x, hx => by
    simp only [allP, List.mem_singleton] at hx
    subst hx
    simp
  | s :: r, hs, x, hx => by
    simp only [allP, List.mem_flatMap, List.mem_map] at hx
    obtain ⟨v, hv, y, hy, rfl⟩ := hx
    have h1 := allP_mem r (fun s hs' => hs s (List.mem_cons_of_mem _ hs')) y hy
    have h2 := valsFrom_mem _ _ _ hv
    have h3 := hs s List.mem_cons_self
    refine ⟨by simp [h1.1], fun n hn => ?_⟩
    rcases List.mem_cons.1 hn with rfl | hn
    · omega
    · exact h1.2 n hn
theorem pts_mem {sides : List S77} {conds : List S33} (h : Valid sides conds) (x : List Int) (hx : x ∈ ptsOf sides conds) : x.length = sides.length ∧ ∀ n ∈ x, -1000000 ≤ n ∧ n ≤ 1000000 := by
  unfold ptsOf at hx
  by_cases hb : sides.any (fun v => decide (v.f2 < v.f1)) = true
  · rw [if_pos hb] at hx
    simp at hx
  · rw [if_neg hb, List.mem_filter] at hx
    exact allP_mem sides (fun s hs => (h.sd s hs).2) x hx.1
def stRV (n : Int) (s : Int × Int × Bool) : Int × Int × Bool := if s.2.2 = true then (if n < s.1 then n else s.1, if s.2.1 < n then n else s.2.1, true) else (n, n, true)
def foldR (sides : List S77) (f : S33) (P : List (List Int)) (s : Int × Int × Bool) : Int × Int × Bool := P.foldl (fun s x => stRV (refVal sides x f) s) s
theorem rangeS_ref {sides : List S77} {conds : List S33} {f : S33} (h : Valid sides conds) (ho : overS (sides.map (·.f0)) f = 0) : rangeS sides conds f = foldR sides f (ptsOf sides conds) (0, 0, false) := by
  unfold rangeS foldR
  generalize ((0 : Int), (0 : Int), false) = s0
  generalize ptsOf sides conds = P
  induction P generalizing s0 with
  | nil => rfl
  | cons x P ih =>
    rw [runL, if_pos rfl, List.foldl_cons]
    rw [if_pos (show (stRange sides f s0 x).1 = true from rfl), ih]
    have : (stRange sides f s0 x).2 = stRV (refVal sides x f) s0 := by
      unfold stRange stRV
      rw [value_over h ho]
    rw [this]
theorem poly_says {Af : Option Addr} {cf : Nat} {f : S33} {W : World} (g : Kd.C k79 W Af f.f1.length f.f1) (ho : okForm f = true) (W1 : World) (hb : Below W.heap.size W W1) :
    Calls Tryz.prog 66 #[.agg #[.int .i64 f.f0, .slice Af f.f1.length cf]] W1 fun e w' => ∃ b, e = .returned (.map (some b)) ∧ Aside0 (∃ D, MO w' b (f.f1.length + 1) D ∧ PolyIs D f.f0 f.f1) ∧ Aside0 (Below W.heap.size W w') := by
  unfold okForm at ho
  simp only [Bool.and_eq_true, decide_eq_true_eq, List.all_eq_true] at ho
  exact (polyOf_calls f.f0 f.f1 Af cf W1 (Kd.C_below g hb) ho.1 ho.2.1 (fun t ht => ho.2.2 t ht)).mono fun e w' ⟨b, D, he, h1, h2, h3, h4⟩ => ⟨b, he, ⟨D, h2, h3.out⟩, ⟨below_step hb h4⟩⟩
theorem at_says {A A' X : Option Addr} {c c' cx : Nat} {l0 : List S77} {l1 : List S33} {x : List Int} {W : World} (h : SetAt A c l0 A' c' l1 W) (hv : Valid l0 l1) (hx : Kd.C (Kd.int .i64) W X x.length x) (hxl : x.length = l0.length) (hxw : ∀ n ∈ x, (Lit.int .i64 n).wf = true)
    (W1 : World) (hb : Below W.heap.size W W1) (b n : Nat) (D : DataW Unit) (hm : MO W1 b n D) :
    Calls Tryz.prog 68 #[.agg #[.slice A l0.length c, .slice A' l1.length c'], .slice X x.length cx] W1 fun e w' => ∃ b2, e = .returned (.map (some b2)) ∧ Aside0 (MO w' b n D ∧ ∃ D2, MO w' b2 l0.length D2 ∧ ∀ s, mAt D2 s = xAt l0 x l0.length s) ∧ Aside0 (Below W.heap.size W w') :=
  (at_calls l0 l1 x A A' X c c' cx W1 (Kd.C_below h.hs hb) h.hc (Kd.C_below hx hb) hxl.symm (by have := hv.len; omega) (fun s hs => by have := name_size (hv.sd s hs).1; unfold maxLen; omega) hxw).mono fun e w' ⟨b2, D2, he, h1, h2, h3, h4⟩ => ⟨b2, he, ⟨owns_below hm h4, D2, h2, h3.out⟩, ⟨below_step hb h4⟩⟩
theorem val_says {l0 : List S77} {x : List Int} {f : S33} {W W1 : World} (hb : Below W.heap.size W W1) (b b2 n : Nat) (D : DataW Unit) (hp : PolyIs D f.f0 f.f1) (h : MO W1 b n D ∧ ∃ D2, MO W1 b2 l0.length D2 ∧ ∀ s, mAt D2 s = xAt l0 x l0.length s) :
    Calls Tryz.prog 67 #[.map (some b), .map (some b2)] W1 fun e w' => e = .returned (.int .i64 (refVal l0 x f)) ∧ Aside0 (Below W.heap.size W w') := by
  obtain ⟨h1, D2, h2, h3⟩ := h
  refine (value54_calls b b2 n l0.length D D2 W1 h1 h2).mono fun e w' ⟨he, hb2⟩ => ⟨?_, ⟨below_step hb hb2⟩⟩
  rw [he, hp (weigh D2)]
  have := polyVal_ref h3 f
  unfold polyVal at this
  rw [this]
set_option maxHeartbeats 4000000 in
set_option maxRecDepth 100000 in
theorem rangeIn_calls {A A' Af : Option Addr} {c c' cf : Nat} {l0 : List S77} {l1 : List S33} {f : S33} {w : World} (h : SetAt A c l0 A' c' l1 w) (g : FormAt Af cf f w) (e0 : setFault l0 l1 = 0) (ho : okForm f = true) :
    Calls Tryz.prog 19 #[.agg #[.slice A l0.length c, .slice A' l1.length c'], .agg #[.int .i64 f.f0, .slice Af f.f1.length cf]] w fun e w' => e = .returned (.tuple #[.int .i64 (foldR l0 f (ptsOf l0 l1) (0, 0, false)).1, .int .i64 (foldR l0 f (ptsOf l0 l1) (0, 0, false)).2.1, .bool (foldR l0 f (ptsOf l0 l1) (0, 0, false)).2.2]) ∧ Below w.heap.size w w' := by
  have HV := Aside0.mk (valid_of e0)
  have HE := Aside0.mk e0
  have HPM := Aside0.mk (pts_mem HV.out)
  have HA := Aside0.mk h
  have HG := Aside0.mk g
  have HO := Aside0.mk ho
  have hB1 := Aside0.mk (below_alloc (below_alloc (Below.refl w.heap.size w) (.cells #[.slice A l0.length c, .slice A' l1.length c'] 29)) (.cells #[.int .i64 f.f0, .slice Af f.f1.length cf] 33))
  have hb1 := Aside0.mk (blk_alloc (blk_new w (.cells #[.slice A l0.length c, .slice A' l1.length c'] 29)) (.cells #[.int .i64 f.f0, .slice Af f.f1.length cf] 33))
  have hb2 : Aside0 (((w.alloc (.cells #[.slice A l0.length c, .slice A' l1.length c'] 29)).alloc (.cells #[.int .i64 f.f0, .slice Af f.f1.length cf] 33)).heap[w.heap.size + 1]? = some (.cells #[.int .i64 f.f0, .slice Af f.f1.length cf] 33)) := ⟨by have := blk_new (w.alloc (.cells #[.slice A l0.length c, .slice A' l1.length c'] 29)) (.cells #[.int .i64 f.f0, .slice Af f.f1.length cf] 33); simpa using this⟩
  clear h g e0 ho
  go_enter Tryz.func19, Tryz.ntmps19
  go_wp2_with (go_at_call 34; refine (L_pointsIn (HA.out.below hB1.out) HE.out).mono ?_; rintro e w1 ⟨XP, cP, rfl, hCP, hb⟩; have HCP := Aside0.mk hCP; have HB1 := Aside0.mk (below_step hB1.out hb); have HX1 := Aside0.mk (blk_below hb1.out hb); have HX2 := Aside0.mk (blk_below hb2.out hb); have hmax := Kd.C_max hCP; clear hCP hb)
  generalize hP : ptsOf l0 l1 = P at *
  go_loopg [4, 5, 6, 8, 9, 13] P.length (fun gg s4 s5 s6 _ _ s13 wr => ∃ (kk : Nat) (lo hi : Int) (is : Bool), kk ≤ P.length ∧ P.length - kk ≤ gg ∧ s4 = .int .i64 lo ∧ s5 = .int .i64 hi ∧ s6 = .bool is ∧ s13 = .int .i64 kk ∧ Aside0 (Below w1.heap.size w1 wr) ∧ Aside0 (foldR l0 f P (0, 0, false) = foldR l0 f (P.drop kk) (lo, hi, is)))
  case atStart => exact ⟨0, 0, 0, false, Nat.zero_le _, by omega, rfl, rfl, rfl, rfl, ⟨Below.refl _ _⟩, ⟨by simp⟩⟩
  case round =>
    obtain ⟨kk, lo, hi, is, hkk, hg, rfl, rfl, rfl, rfl, BW, AQ⟩ := hrel
    by_cases hlt : kk < P.length
    · have hltz : (kk : Int) < (P.length : Int) := by omega
      obtain ⟨ad, B0, b0, e, k0, g0, hC0⟩ := at_LI HCP.out (kk : Int) (by omega) (by omega)
      cases e
      replace k0 := pw_cell_below BW.out k0
      simp only [Int.toNat_natCast] at k0
      have HD := Aside0.mk (drop_LI P kk hlt)
      have hmem : rd_LI P (kk : Int) ∈ P := by
        have : rd_LI P (kk : Int) = P[kk] := by simp [rd_LI, List.getD, List.getElem?_eq_getElem hlt]
        rw [this]; exact List.getElem_mem hlt
      have HM := Aside0.mk (HPM.out _ hmem)
      have HC0 := Aside0.mk (Kd.C_below hC0 BW.out)
      clear hC0 g0 hmem
      generalize rd_LI P (kk : Int) = x at *
      have HXW : Aside0 (∀ n ∈ x, (Lit.int .i64 n).wf = true) := ⟨fun n hn => wf_of (by have := HM.out.2 n hn; omega)⟩
      have HX1' := Aside0.mk (blk_below HX1.out BW.out)
      have HX2' := Aside0.mk (blk_below HX2.out BW.out)
      have y0 : wr.cell? ⟨w.heap.size, 0, none⟩ = some (.slice A l0.length c) := (blk_cell HX1'.out 0).trans rfl
      have y1 : wr.cell? ⟨w.heap.size, 1, none⟩ = some (.slice A' l1.length c') := (blk_cell HX1'.out 1).trans rfl
      have y2 : wr.cell? ⟨w.heap.size + 1, 0, none⟩ = some (.int .i64 f.f0) := (blk_cell HX2'.out 0).trans rfl
      have y3 : wr.cell? ⟨w.heap.size + 1, 1, none⟩ = some (.slice Af f.f1.length cf) := (blk_cell HX2'.out 1).trans rfl
      have HBR := Aside0.mk (below_step HB1.out BW.out)
      have HSA := Aside0.mk (HA.out.below HBR.out)
      have HGA := Aside0.mk (HG.out.below HBR.out)
      have HQ : Aside0 (foldR l0 f P (0, 0, false) = foldR l0 f (P.drop (kk + 1)) (stRV (refVal l0 x f) (lo, hi, is))) := ⟨by rw [AQ.out, HD.out]; rfl⟩
      cases is with
      | true =>
        have HR : Aside0 (stRV (refVal l0 x f) (lo, hi, true) = (if refVal l0 x f < lo then refVal l0 x f else lo, if hi < refVal l0 x f then refVal l0 x f else hi, true)) := ⟨rfl⟩
        go_wp2
        go_region_law (first | (go_simp; go_at_call 66; refine (poly_says HGA.out.tm HO.out _ (by first | exact Below.refl _ _ | exact below_drew (Below.refl _ _))).mono ?_; rintro e w2 ⟨b, rfl, HPB, HB2⟩; have z0 : w2.cell? ⟨w.heap.size, 0, none⟩ = some (.slice A l0.length c) := pw_cell_below HB2.out y0; have z1 : w2.cell? ⟨w.heap.size, 1, none⟩ = some (.slice A' l1.length c') := pw_cell_below HB2.out y1) | (go_simp; go_at_call 68; obtain ⟨D, hD, hP⟩ := HPB.out; refine (at_says HSA.out HV.out HC0.out HM.out.1 HXW.out _ (by first | exact HB2.out | exact below_drew HB2.out) b _ D hD).mono ?_; rintro e w3 ⟨b2, rfl, HMB, HB3⟩) | (go_simp; go_at_call 67; refine (val_says (by first | exact HB3.out | exact below_drew HB3.out) b b2 _ D hP HMB.out).mono ?_; rintro e w4 ⟨rfl, HB4⟩))
        all_goals
          clear HPB HMB hD hP
          generalize refVal l0 x f = n at *
          generalize hlo : (if n < lo then n else lo) = lo' at *
          generalize hhi : (if hi < n then n else hi) = hi' at *
          go_wp2
          clear hlo hhi
          go_roundg (P.length - (kk + 1))
          case measure => omega
          case rel => exact ⟨kk + 1, lo', hi', true, by omega, by omega, rfl, rfl, rfl, by go_num, by first | exact ⟨below_step BW.out HB4.out⟩ | exact ⟨below_drew (below_step BW.out HB4.out)⟩, ⟨by rw [HQ.out, HR.out]⟩⟩
      | false =>
        have HR : Aside0 (stRV (refVal l0 x f) (lo, hi, false) = (refVal l0 x f, refVal l0 x f, true)) := ⟨rfl⟩
        go_wp2
        go_region_law (first | (go_simp; go_at_call 66; refine (poly_says HGA.out.tm HO.out _ (by first | exact Below.refl _ _ | exact below_drew (Below.refl _ _))).mono ?_; rintro e w2 ⟨b, rfl, HPB, HB2⟩; have z0 : w2.cell? ⟨w.heap.size, 0, none⟩ = some (.slice A l0.length c) := pw_cell_below HB2.out y0; have z1 : w2.cell? ⟨w.heap.size, 1, none⟩ = some (.slice A' l1.length c') := pw_cell_below HB2.out y1) | (go_simp; go_at_call 68; obtain ⟨D, hD, hP⟩ := HPB.out; refine (at_says HSA.out HV.out HC0.out HM.out.1 HXW.out _ (by first | exact HB2.out | exact below_drew HB2.out) b _ D hD).mono ?_; rintro e w3 ⟨b2, rfl, HMB, HB3⟩) | (go_simp; go_at_call 67; refine (val_says (by first | exact HB3.out | exact below_drew HB3.out) b b2 _ D hP HMB.out).mono ?_; rintro e w4 ⟨rfl, HB4⟩))
        all_goals
          clear HPB HMB hD hP
          generalize refVal l0 x f = n at *
          have hn : ¬ n < n := Int.lt_irrefl n
          go_wp2
          go_roundg (P.length - (kk + 1))
          case measure => omega
          case rel => exact ⟨kk + 1, n, n, true, by omega, by omega, rfl, rfl, rfl, by go_num, by first | exact ⟨below_step BW.out HB4.out⟩ | exact ⟨below_drew (below_step BW.out HB4.out)⟩, ⟨by rw [HQ.out, HR.out]⟩⟩
    · have hltz : ¬ (kk : Int) < (P.length : Int) := by omega
      have : kk = P.length := by omega
      subst this
      go_wp2
      go_ret3
      have e := AQ.out
      rw [List.drop_length] at e
      rw [e]
      exact ⟨rfl, below_step HB1.out BW.out⟩
end Go.Proofs.YtjgakaembhmhpaaGreatDoor.PA
