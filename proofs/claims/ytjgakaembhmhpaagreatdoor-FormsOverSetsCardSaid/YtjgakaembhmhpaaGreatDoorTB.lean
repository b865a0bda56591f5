/- Part of the proof of FormsOverSets (the walk: drawn forms); what it proves holds without further conditions. -/
import Derived.Test.YtjgakaembhmhpaaGreatDoorTA
import Derived.Test.YtjgakaembhmhpaaGreatDoorHD
import Derived.Test.YtjgakaembhmhpaaGreatDoorSD
import Derived.Test.YtjgakaembhmhpaaGreatDoorRG
set_option linter.unusedVariables false
set_option linter.unusedSimpArgs false
namespace Go.Proofs.YtjgakaembhmhpaaGreatDoor.PA
open Go.RowKit Go.Proofs.YtjgakaembhmhpaaGreatDoorW.PrintWords Go.Proofs.YtjgakaembhmhpaaGreatDoorW.PrintLast Go.Proofs.YtjgakaembhmhpaaGreatDoorW.PrintMore Go.Proofs.YtjgakaembhmhpaaGreatDoorM
theorem MO_look {W : World} {b n : Nat} {D : DataW Unit} (h : MO W b n D) (s : ByteArray) (hs : s.size ≤ maxLen) : (Instr.lookup 100 (.map (some b)) (.string s) false).run Tryz.prog W = .ok (.int .i64 (mAt D s)) W := by
  obtain ⟨c, hrun, hat, hwc⟩ := h.lookup_int mlaw Tryz.underlying100 Tryz.underlying3 (mzero W) (kS_key hs)
  rw [hrun]
  unfold mAt zI
  rw [hat]
  rfl
theorem mo_same {W W' : World} {b n : Nat} {D : DataW Unit} (h : MO W b n D) (e : W'.heap[b]? = W.heap[b]?) : MO W' b n D := by
  obtain ⟨es, clock, h1, h2⟩ := h
  exact ⟨es, clock, e.trans h1, h2⟩
def termsOf (D : DataW Unit) : List ByteArray → List S79
  | [] => []
  | k :: r => if k = ⟨#[]⟩ then termsOf D r else if mAt D k = 0 then termsOf D r else ⟨k, mAt D k⟩ :: termsOf D r
theorem termsOf_snoc (D : DataW Unit) (k : ByteArray) : ∀ l, termsOf D (l ++ [k]) = if k = ⟨#[]⟩ then termsOf D l else if mAt D k = 0 then termsOf D l else termsOf D l ++ [⟨k, mAt D k⟩]
  | [] => by
    simp only [List.nil_append, termsOf]
  | x :: l => by
    rw [List.cons_append, termsOf, termsOf_snoc D k l, termsOf]
    by_cases h1 : x = ⟨#[]⟩ <;> by_cases h2 : mAt D x = 0 <;> by_cases h3 : k = ⟨#[]⟩ <;> by_cases h4 : mAt D k = 0 <;> simp [h1, h2, h3, h4]
theorem termsOf_len (D : DataW Unit) : ∀ l, (termsOf D l).length ≤ l.length
  | [] => Nat.le_refl _
  | k :: r => by
    unfold termsOf
    have := termsOf_len D r
    split
    · rw [List.length_cons]; omega
    · split
      · rw [List.length_cons]; omega
      · rw [List.length_cons, List.length_cons]; omega
def ofB (l : List UInt8) : ByteArray := ⟨l.toArray⟩
def keysOf (ss : List (List UInt8)) : List ByteArray := (ss.mergeSort fun x y => decide (x ≤ y)).map ofB
theorem str_reads {W : World} {base : Nat} {v : Value} {ss : List (List UInt8)} (h : W.ownsRow base 9 1 v ss.length ((ss.mergeSort (fun x y => decide (x ≤ y))).map encStr)) : ∃ (A : Option Addr) (c : Nat), v = .slice A (keysOf ss).length c ∧ Kd.F Kd.string W (fun k => base ≤ k) A (keysOf ss).length (keysOf ss) := by
  have hl : (keysOf ss).length = ss.length := by simp [keysOf]
  obtain ⟨h0, h1⟩ := h
  rcases h1 with ⟨rfl, e⟩ | ⟨g, cap, cur, rfl, h2, h3, h4, h5, h6, h7⟩
  · have : keysOf ss = [] := List.length_eq_zero_iff.1 (by omega)
    exact ⟨none, 0, by rw [this]; rfl, by rw [this]; exact Kd.F_nil _ _ _⟩
  · refine ⟨some ⟨g, 0, none⟩, cap, by rw [hl], fun W' hW => ⟨rfl, by rw [hl]; unfold maxLen at h5; omega, fun _ => ⟨_, rfl, fun j p hj => ⟨[.string p], rfl, rfl, fun i u hu => ?_⟩⟩⟩⟩
    have h3' := (hW g h2 (blk_lt h3)).trans h3
    have hjl := (List.getElem?_eq_some_iff.1 hj).1
    cases i with
    | zero =>
      simp only [List.getElem?_cons_zero, Option.some.injEq] at hu
      subst hu
      show W'.cell? (Addr.add ⟨g, 0, none⟩ (j * 1 + 0)) = _
      rw [Nat.mul_one, Nat.add_zero, add_plain, blk_cell h3' j, ← Array.getElem?_toList, ← List.getElem?_take_of_lt (show j < ss.length * 1 by omega), h7]
      unfold keysOf at hj
      rw [List.getElem?_map] at hj ⊢
      obtain ⟨x, hx, rfl⟩ := Option.map_eq_some_iff.1 hj
      rw [hx]
      rfl
    | succ i => simp at hu
theorem strKeys_len {b n : Nat} {D : DataW Unit} {W : World} (hm : MO W b n D) : (strKeys D).length = Maps.size D := by
  obtain ⟨es, rfl, _⟩ := hm.keysOf
  simp [strKeys, Maps.size]
theorem keys_calls (b : Nat) (W1 : World) : Calls Tryz.prog 127 #[.map (some b)] W1 fun e w' => e = .returned (.func (.func 174) #[] #[.pointer (some ⟨W1.heap.size, 0, none⟩)]) ∧ w' = W1.alloc (.cells #[.map (some b)] 100) :=
  callsIn_wide.1 (Tryz.maps_Keys_127 (some b) W1)
theorem sorted_calls {b n : Nat} {D : DataW Unit} {W : World} (hm : MO W b n D) (hmax : Maps.size D ≤ 100000) :
    Calls Tryz.prog 126 #[.func (.func 174) #[] #[.pointer (some ⟨W.heap.size, 0, none⟩)]] (W.alloc (.cells #[.map (some b)] 100)) fun e w' => ∃ (A : Option Addr) (c : Nat) (ss : List (List UInt8)), e = .returned (.slice A (keysOf ss).length c) ∧ Aside0 (ss.Perm (strKeys D)) ∧ Aside0 (Kd.F Kd.string w' (fun k => W.heap.size + 1 ≤ k) A (keysOf ss).length (keysOf ss)) ∧ Aside0 (Below (W.alloc (.cells #[.map (some b)] 100)).heap.size (W.alloc (.cells #[.map (some b)] 100)) w') := by
  have h : Calls Tryz.prog 126 _ _ _ := callsIn_wide.1 (Tryz.slices_Sorted_keys_126_127 (H := Unit) b n D (plainElem Tryz.prog 3) W hm (by unfold maxLen; omega) (by omega))
  refine h.mono fun e w' ⟨v, ss, he, hp, hrow, hnil, hb⟩ => ?_
  rw [show (W.alloc (.cells #[.map (some b)] 100)).heap.size = W.heap.size + 1 by simp] at hrow
  obtain ⟨A, c, rfl, hC⟩ := str_reads hrow
  exact ⟨A, c, ss, he, ⟨hp⟩, ⟨hC⟩, ⟨hb⟩⟩
def nameTerms (n : ByteArray) : List S79 := [⟨n, 1⟩]
set_option maxHeartbeats 1000000 in
set_option maxRecDepth 100000 in
theorem polyForm_calls {b n : Nat} {D : DataW Unit} {W : World} (hm : MO W b n D) (hmax : Maps.size D ≤ 100000) (hk : ∀ k ∈ strKeys D, k.length ≤ maxLen) :
    Calls Tryz.prog 70 #[.map (some b)] W fun e w' => ∃ (v : Value) (ss : List (List UInt8)) (R : Nat → Prop), e = .returned (.agg #[.int .i64 (mAt D ⟨#[]⟩), v]) ∧ ss.Perm (strKeys D) ∧ Aside0 (Kd.N k79 79 w' W.heap.size R v (termsOf D (keysOf ss))) ∧ Aside0 (∀ k, R k → W.heap.size ≤ k) ∧ Aside0 (Below W.heap.size W w') := by
  have HM := Aside0.mk hm
  have HK := Aside0.mk hk
  have HMX : Aside0 ((strKeys D).length ≤ 100000) := ⟨by rw [strKeys_len hm]; exact hmax⟩
  have hl0 := MO_look (show MO (W.alloc (.cells #[.int .i64 0, .slice none 0 0] 33)) b n D from owns_below hm (below_alloc (Below.refl _ _) _)) ⟨#[]⟩ (by decide)
  have hbl := hm.lt
  obtain ⟨c0, HC0⟩ : ∃ c, Aside0 (mAt D ⟨#[]⟩ = c) := ⟨_, ⟨rfl⟩⟩
  rw [HC0.out] at hl0
  rw [HC0.out]
  have HB1 := Aside0.mk (below_alloc (below_alloc (Below.refl W.heap.size W) (.cells #[.int .i64 0, .slice none 0 0] 33)) (.cells #[.int .i64 c0, .slice none 0 0] 33))
  have hso := sorted_calls (owns_below hm HB1.out) hmax
  rw [show ((W.alloc (.cells #[.int .i64 0, .slice none 0 0] 33)).alloc (.cells #[.int .i64 c0, .slice none 0 0] 33)).heap.size = W.heap.size + 1 + 1 by simp] at hso
  have HSO := Aside0.mk hso
  have HX2 := Aside0.mk (blk_alloc (blk_new W (.cells #[.int .i64 0, .slice none 0 0] 33)) (.cells #[.int .i64 c0, .slice none 0 0] 33))
  have HX3 : Aside0 (((W.alloc (.cells #[.int .i64 0, .slice none 0 0] 33)).alloc (.cells #[.int .i64 c0, .slice none 0 0] 33)).heap[W.heap.size + 1]? = some (.cells #[.int .i64 c0, .slice none 0 0] 33 (0, 0))) := ⟨by have := blk_new (W.alloc (.cells #[.int .i64 0, .slice none 0 0] 33)) (.cells #[.int .i64 c0, .slice none 0 0] 33); simpa using this⟩
  have HB1' := Aside0.mk (below_alloc (Below.refl _ ((W.alloc (.cells #[.int .i64 0, .slice none 0 0] 33)).alloc (.cells #[.int .i64 c0, .slice none 0 0] 33))) (.cells #[.map (some b)] 100))
  clear hm hk hso
  go_enter Tryz.func70, Tryz.ntmps70
  go_wp2_with (first | (go_at_call 127; refine (keys_calls b _).mono ?_; rintro e w2 ⟨rfl, rfl⟩) | (go_at_call 126; refine HSO.out.mono ?_; rintro e w3 ⟨AK, cK, ss, rfl, HP, HCK, hb3⟩; have HB13 := Aside0.mk (below_step HB1'.out hb3.out); clear HSO hb3))
  have HX23 := Aside0.mk (blk_below HX2.out HB13.out)
  have HX33 := Aside0.mk (blk_below HX3.out HB13.out)
  have HB3 := Aside0.mk (below_step HB1.out HB13.out)
  have HM3 := Aside0.mk (owns_below HM.out HB3.out)
  have hks := Kd.C_max (Kd.F_now HCK.out)
  have HKL : Aside0 (∀ k ∈ keysOf ss, k.size ≤ maxLen) := ⟨fun k hk => by
    unfold keysOf at hk
    obtain ⟨x, hx, rfl⟩ := List.mem_map.1 hk
    have h1 := HK.out x (HP.out.mem_iff.1 ((List.mergeSort_perm ss _).mem_iff.1 hx))
    show x.toArray.size ≤ maxLen
    simpa using h1⟩
  have hlenz : Aside0 ((keysOf ss).length ≤ 100000) := ⟨by
    have h1 : (keysOf ss).length = ss.length := by simp [keysOf]
    rw [h1, HP.out.length_eq]
    exact HMX.out⟩
  clear HX2 HX3 HB1 HB1' HB13
  generalize hks2 : keysOf ss = ks at *
  have HKS := Aside0.mk hks2
  clear hks2
  go_loopg [5, 13, 24] ks.length (fun gg _ s13 _ wr => ∃ (jj : Nat) (R : Nat → Prop) (u : Value), jj ≤ ks.length ∧ ks.length - jj ≤ gg ∧ s13 = .int .i64 jj ∧ Aside0 (Kd.N k79 79 wr W.heap.size R u (termsOf D (ks.take jj))) ∧ Aside0 (∀ k, R k → w3.heap.size ≤ k) ∧ Aside0 (wr.heap[W.heap.size + 1]? = some (.cells #[.int .i64 c0, u] 33 (0, 0))) ∧ Aside0 (Kept w3 wr (fun k => k = W.heap.size + 1)) ∧ Aside0 (Below W.heap.size W wr))
  case atStart => exact ⟨0, fun _ => False, .slice none 0 0, Nat.zero_le _, by omega, rfl, ⟨Kd.N_nil _ _ _ _ _⟩, ⟨fun k hk => hk.elim⟩, HX33, ⟨Kept.refl _ _⟩, HB3⟩
  case round =>
    obtain ⟨jj, R, u, hjj, hg, rfl, HN, HR, HX, HKP, HBW⟩ := hrel
    obtain ⟨AU, cU, rfl⟩ := Kd.N_slice HN.out
    by_cases hlt : jj < ks.length
    · have hltz : (jj : Int) < (ks.length : Int) := by omega
      obtain ⟨ad, e, hx0⟩ := Kd.at_string (Kd.F_now (Kd.F_kept HCK.out HKP.out (fun k hk e => by omega))) (jj : Int) (by omega) (by omega)
      cases e
      simp only [Int.toNat_natCast] at hx0
      have hy : rdOf ByteArray.empty ks (jj : Int) = ks[jj] := by simp [rdOf, List.getD, List.getElem?_eq_getElem hlt]
      have HY := Aside0.mk (HKL.out (rdOf ByteArray.empty ks (jj : Int)) (by rw [hy]; exact List.getElem_mem hlt))
      have HTS : Aside0 (termsOf D (ks.take (jj + 1)) = if rdOf ByteArray.empty ks (jj : Int) = ⟨#[]⟩ then termsOf D (ks.take jj) else if mAt D (rdOf ByteArray.empty ks (jj : Int)) = 0 then termsOf D (ks.take jj) else termsOf D (ks.take jj) ++ [⟨rdOf ByteArray.empty ks (jj : Int), mAt D (rdOf ByteArray.empty ks (jj : Int))⟩]) := ⟨by rw [hy, List.take_succ_eq_append_getElem hlt, termsOf_snoc]⟩
      have HLT : Aside0 ((termsOf D (ks.take jj)).length ≤ jj) := ⟨Nat.le_trans (termsOf_len D _) (by rw [List.length_take]; omega)⟩
      clear hy
      generalize rdOf ByteArray.empty ks (jj : Int) = y at *
      have hlk := MO_look (mo_same HM3.out (HKP.out.2 b (by have := HB3.out.size; omega) (by omega))) y HY.out
      obtain ⟨q, HQ⟩ : ∃ q, Aside0 (mAt D y = q) := ⟨_, ⟨rfl⟩⟩
      rw [HQ.out] at hlk HTS
      generalize termsOf D (ks.take jj) = ys at *
      have x3 : wr.cell? ⟨W.heap.size + 1, 0, none⟩ = some (.int .i64 c0) := (blk_cell HX.out 0).trans rfl
      have x4 : wr.cell? ⟨W.heap.size + 1, 1, none⟩ = some (.slice AU ys.length cU) := (blk_cell HX.out 1).trans rfl
      have f4 := blk_frozen HX.out 1
      have lX := blk_lt HX.out
      by_cases he : y = ⟨#[]⟩
      · have HT2 : Aside0 (termsOf D (ks.take (jj + 1)) = ys) := ⟨by rw [HTS.out, if_pos he]⟩
        subst he
        go_wp2
        go_roundg (ks.length - (jj + 1))
        case measure => omega
        case rel => exact ⟨jj + 1, R, _, by omega, by omega, by go_num, ⟨by rw [HT2.out]; exact HN.out⟩, HR, HX, HKP, HBW⟩
      · have hie : y.toList.isEmpty = false := by
          rw [List.isEmpty_eq_false_iff]
          exact fun e => he (by
            rw [ByteArray.toList_eq] at e
            cases y
            simp only at e
            rw [Array.toList_eq_nil_iff.1 e])
        rw [if_neg he] at HTS
        by_cases hq : q = 0
        · have HT2 : Aside0 (termsOf D (ks.take (jj + 1)) = ys) := ⟨by rw [HTS.out, if_pos hq]⟩
          clear HTS
          subst hq
          go_wp2
          go_roundg (ks.length - (jj + 1))
          case measure => omega
          case rel => exact ⟨jj + 1, R, _, by omega, by omega, by go_num, ⟨by rw [HT2.out]; exact HN.out⟩, HR, HX, HKP, HBW⟩
        · have HT2 : Aside0 (termsOf D (ks.take (jj + 1)) = ys ++ [⟨y, q⟩]) := ⟨by rw [HTS.out, if_neg hq]⟩
          have hqb : (q != 0) = true := bne_iff_ne.2 hq
          clear HTS
          have HL24 : Aside0 ((ys.length + 1) * 24 ≤ 140737488355328) := ⟨by have := HLT.out; have := hlenz.out; omega⟩
          go_wp2_with (at_builtin; refine Kd.N_append k79 W.heap.size rfl (.tmp 26) (.tmp 32) 31 79 (.agg #[.string ⟨#[]⟩, .int .i64 0]) 24 rfl Tryz.underlying31 info79 rfl (by decide) (by decide) (.slice AU ys.length cU) ys ⟨y, q⟩ [.string y, .int .i64 q] (fun k => R k ∨ wr.heap.size ≤ k) (fun _ => False) rfl rfl (fk59 _ _ _) (fun _ h => h.elim) (fun _ h => .inr h) (Kd.N_mono HN.out (fun _ h => .inl h)) HBW.out HBW.out.size HL24.out ?_; intro v6 w6 hN6 hB6 hg6 hat6; obtain ⟨A6, c6, rfl⟩ := Kd.N_slice hN6; have HN6 := Aside0.mk hN6; have HB6 := Aside0.mk hB6; have HG6 := Aside0.mk hg6; have b6 := blk_grown HX.out hg6 (fun e => by have h1 := HR.out _ (HN.out.1 _ e.symm); have h2 := HB3.out.size; have h3 := HKP.out.1; have h4 := blk_lt HX33.out; omega); have HX6 := Aside0.mk b6; have x6 : w6.cell? ⟨W.heap.size + 1, 1, none⟩ = some (.slice AU ys.length cU) := (blk_cell b6 1).trans rfl; have f6 := blk_frozen b6 1; have l6 := blk_lt b6; clear hN6 hB6 hg6 hat6 b6)
          have hn8 := Kd.N_far (p := ⟨W.heap.size + 1, 1, none⟩) HN6.out (fun k hk => hk.elim (fun h => by have h1 := HR.out _ h; have h4 := blk_lt HX33.out; show k ≠ W.heap.size + 1; omega) (fun h => by have h4 := blk_lt HX.out; show k ≠ W.heap.size + 1; omega)) (.slice A6 (ys.length + 1) c6)
          rw [show (ys ++ [(⟨y, q⟩ : S79)]).length = ys.length + 1 by simp] at hn8
          go_roundg (ks.length - (jj + 1))
          case measure => omega
          case rel => exact ⟨jj + 1, fun k => R k ∨ wr.heap.size ≤ k, .slice A6 (ys.length + 1) c6, by omega, by omega, by go_num, ⟨by rw [HT2.out]; exact hn8⟩, ⟨fun k hk => hk.elim (HR.out k) (fun h => Nat.le_trans HKP.out.1 h)⟩, ⟨blk_put HX6.out 1 _ rfl⟩, ⟨Kept.setCell (p := ⟨W.heap.size + 1, 1, none⟩) (Kept.of_grown HG6.out HKP.out (fun k hk => .inr (HR.out _ (HN.out.1 _ hk)))) (.inl rfl) _⟩, ⟨HB6.out.setCell (p := ⟨W.heap.size + 1, 1, none⟩) (Nat.le_succ _) _⟩⟩
    · have hltz : ¬ (jj : Int) < (ks.length : Int) := by omega
      have ej : jj = ks.length := by omega
      subst ej
      have x3 : wr.cell? ⟨W.heap.size + 1, 0, none⟩ = some (.int .i64 c0) := (blk_cell HX.out 0).trans rfl
      have x4 : wr.cell? ⟨W.heap.size + 1, 1, none⟩ = some (.slice AU (termsOf D (ks.take ks.length)).length cU) := (blk_cell HX.out 1).trans rfl
      have HTL : Aside0 (ks.take ks.length = ks) := ⟨List.take_length⟩
      rw [HTL.out] at x4
      have b2 := blk_kept HX23.out HKP.out (fun e => by omega)
      have f2 := blk_frozen b2 0
      have f3 := blk_frozen b2 1
      have x1 : wr.cell? ⟨W.heap.size, 0, none⟩ = some (.int .i64 0) := (blk_cell b2 0).trans rfl
      have x2 : wr.cell? ⟨W.heap.size, 1, none⟩ = some (.slice none 0 0) := (blk_cell b2 1).trans rfl
      have l2 := blk_lt b2
      have hne : ¬ W.heap.size + 1 = W.heap.size := by omega
      go_wp2
      have q1 := blk_put (blk_put b2 0 (.int .i64 c0) rfl) 1 (.slice AU (termsOf D ks).length cU) rfl
      refine bodyPost_ret (results_cell_row rfl _ _ W.heap.size 33 #[.int .i64 c0, .slice AU (termsOf D ks).length cU] (0, 0) _ rfl q1 Tryz.underlying33 rfl (by kernel_rfl)) rfl ?_
      have hn := HN.out
      rw [HTL.out] at hn
      have hR : ∀ k, R k → k ≠ W.heap.size := fun k hk => by
        have h1 := HR.out k hk
        have h4 := blk_lt HX33.out
        omega
      refine ⟨_, rfl, ss, HP.out, R, ⟨?_⟩, ⟨fun k hk => Nat.le_trans HB3.out.size (HR.out k hk)⟩, ⟨(HBW.out.setCell (p := ⟨W.heap.size, 0, none⟩) (Nat.le_refl _) _).setCell (p := ⟨W.heap.size, 1, none⟩) (Nat.le_refl _) _⟩⟩
      rw [HKS.out]
      exact Kd.N_far (p := ⟨W.heap.size, 1, none⟩) (Kd.N_far (p := ⟨W.heap.size, 0, none⟩) hn hR _) hR _
theorem termsOf_name {D : DataW Unit} {n : ByteArray} (h : mAt D n = 1) (hn : n ≠ ⟨#[]⟩) : termsOf D [n] = (nameTerms n) := by
  unfold termsOf termsOf nameTerms
  rw [if_neg hn, if_neg (by rw [h]; decide), h]
theorem fk33 {W : World} {R : Nat → Prop} {A : Option Addr} {c : Nat} {a : Int} {l : List S79} (hle : l.length ≤ c) (hF : Kd.F k79 W R A l.length l) : Kd.FK k33 W R ⟨a, l⟩ [.int .i64 a, .slice A l.length c] := fun W' hW => k33_mk W' ⟨a, l⟩ hle (hF W' hW)
def oneMap (y : ByteArray) : DataW Unit := (DataW.map []).put (kS y) (.lit (.int .i64 1))
theorem oneMap_keys (y : ByteArray) : strKeys (oneMap y) = [y.data.toList] := rfl
theorem oneMap_at (y : ByteArray) (t : ByteArray) : mAt (oneMap y) t = if t = y then 1 else 0 := by
  unfold oneMap
  rw [mAt_put ⟨[], rfl, List.Pairwise.nil⟩]
  rfl
theorem keysOf_one {ss : List (List UInt8)} {y : ByteArray} (h : ss.Perm [y.data.toList]) : keysOf ss = [y] := by
  rw [List.perm_singleton.1 h]
  unfold keysOf ofB
  simp
theorem oneForm_calls {b n : Nat} {y : ByteArray} {W : World} (hy : nameOk y = true) (hm : MO W b n (oneMap y)) :
    Calls Tryz.prog 70 #[.map (some b)] W fun e w' => ∃ (A : Option Addr) (c : Nat) (R : Nat → Prop), e = .returned (.agg #[.int .i64 0, .slice A 1 c]) ∧ Aside0 (Kd.FK k33 w' R (nameForm y) [.int .i64 0, .slice A 1 c]) ∧ Aside0 (∀ k, R k → W.heap.size ≤ k) ∧ Aside0 (Below W.heap.size W w') := by
  have hs := name_size hy
  have hne : y ≠ ⟨#[]⟩ := fun e => by rw [e] at hs; exact absurd hs.1 (by decide)
  have h0 : mAt (oneMap y) ⟨#[]⟩ = 0 := by rw [oneMap_at, if_neg (Ne.symm hne)]
  refine (polyForm_calls hm (by show 1 ≤ 100000; decide) (fun k hk => ?_)).mono fun e w' ⟨v, ss, R, he, hp, hN, hR, hB⟩ => ?_
  · rw [oneMap_keys, List.mem_singleton] at hk
    subst hk
    rw [Array.length_toList]
    show y.size ≤ maxLen
    unfold maxLen
    omega
  · rw [oneMap_keys] at hp
    rw [keysOf_one hp, termsOf_name (by rw [oneMap_at, if_pos rfl]) hne] at hN
    rw [h0] at he
    obtain ⟨A, c, rfl⟩ := Kd.N_slice hN.out
    exact ⟨A, c, R, he, ⟨fk33 (a := 0) (l := nameTerms y) (Kd.N_reads' hN.out).2.1 (Kd.N_F hN.out)⟩, hR, hB⟩
set_option maxHeartbeats 1000000 in
set_option maxRecDepth 100000 in
theorem projectedIn_calls {A A' AN : Option Addr} {c c' cN : Nat} {l0 : List S77} {l1 : List S33} {ns : List ByteArray} {w : World} (h : SetAt A c l0 A' c' l1 w) (hL : Kd.C Kd.string w AN ns.length ns) (hl : ns.length ≤ 8) (e0 : setFault l0 l1 = 0) (hn : NamesOk l0 ns) :
    Calls Tryz.prog 21 #[.agg #[.slice A l0.length c, .slice A' l1.length c'], .slice AN ns.length cN] w fun e w' => ∃ (X : Option Addr) (cx : Nat) (zs : List (List Int)), e = .returned (.slice X (squash zs).length cx) ∧ Aside0 (zs.Perm (rowsOf l0 (ns.map nameForm) (ptsOf l0 l1)) ∧ Ris zs) ∧ Aside0 (Kd.C (Kd.slice 3 KI) w' X (squash zs).length (squash zs)) ∧ Aside0 (Below w.heap.size w w') := by
  have HA := Aside0.mk h
  have HL := Aside0.mk hL
  have HN := Aside0.mk hn
  have HE := Aside0.mk e0
  have hmm := @run_makeMap Tryz.prog
  have hom : ∀ W : World, MO (W.alloc (.map #[] 0)) W.heap.size 0 (.map []) := fun W => World.ownsMap_made (H := Unit) W Tryz.prog 9 (plainElem Tryz.prog 3)
  have hB1 := Aside0.mk (below_alloc (Below.refl w.heap.size w) (.cells #[.slice A l0.length c, .slice A' l1.length c'] 29))
  have hb1 := Aside0.mk (blk_new w (.cells #[.slice A l0.length c, .slice A' l1.length c'] 29))
  clear h hL hn e0
  go_enter Tryz.func21, Tryz.ntmps21
  go_wp2
  go_loopg [5, 7, 10] ns.length (fun gg s5 _ s10 wr => ∃ (jj : Nat) (R : Nat → Prop) (u : Value), jj ≤ ns.length ∧ ns.length - jj ≤ gg ∧ s5 = u ∧ s10 = .int .i64 jj ∧ Aside0 (Kd.N k33 33 wr w.heap.size R u ((ns.take jj).map nameForm)) ∧ Aside0 (wr.heap[w.heap.size]? = some (.cells #[.slice A l0.length c, .slice A' l1.length c'] 29 (0, 0))) ∧ Aside0 (∀ k, R k → k ≠ w.heap.size) ∧ Aside0 (Below w.heap.size w wr))
  case atStart => exact ⟨0, fun _ => False, .slice none 0 0, Nat.zero_le _, by omega, rfl, rfl, ⟨Kd.N_nil _ _ _ _ _⟩, hb1, ⟨fun k hk => hk.elim⟩, hB1⟩
  case round =>
    obtain ⟨jj, R, u, hjj, hg, hu, rfl, HNW, HX, HR, HBW⟩ := hrel
    obtain ⟨AU, cU, rfl⟩ := Kd.N_slice HNW.out
    subst hu
    by_cases hlt : jj < ns.length
    · have hltz : (jj : Int) < (ns.length : Int) := by omega
      obtain ⟨ad, e, hx0⟩ := Kd.at_string HL.out (jj : Int) (by omega) (by omega)
      cases e
      replace hx0 := pw_cell_below HBW.out hx0
      simp only [Int.toNat_natCast] at hx0
      have hy : rdOf ByteArray.empty ns (jj : Int) = ns[jj] := by simp [rdOf, List.getD, List.getElem?_eq_getElem hlt]
      have HY := Aside0.mk (HN.out.ok (rdOf ByteArray.empty ns (jj : Int)) (by rw [hy]; exact List.getElem_mem hlt))
      have HTJ : Aside0 ((ns.take (jj + 1)).map nameForm = (ns.take jj).map nameForm ++ [nameForm (rdOf ByteArray.empty ns (jj : Int))]) := ⟨by rw [hy]; exact map_take_succ _ ns hlt⟩
      have HLJ : Aside0 (((ns.take jj).map nameForm).length = jj) := ⟨by simp; omega⟩
      clear hy
      generalize rdOf ByteArray.empty ns (jj : Int) = y at *
      generalize (ns.take jj).map nameForm = ys at *
      have hkE := kS_key (s := y) (by have := name_size HY.out.1; unfold maxLen; omega)
      have HL32 : Aside0 ((ys.length + 1) * 32 ≤ 140737488355328) := ⟨by have := HLJ.out; omega⟩
      go_wp2_with (first | (refine wpList_insert_own _ rfl _ _ _ 100 rfl 9 3 mlaw Tryz.underlying100 _ wr.heap.size 0 (.map []) rfl (hom _) (by unfold maxLen; omega) _ _ _ rfl rfl hkE _ [] (plainElem_int Tryz.underlying3 (by decide)) ?_; intro w1 hown1 hg1; have HO1 : Aside0 (MO w1 wr.heap.size 1 (oneMap y)) := ⟨hown1⟩; have HB1 := Aside0.mk (Below.grown (below_alloc (Below.refl wr.heap.size wr) (.map #[] 0)) hg1 (by simp) (fun j hj => by cases hj; exact Nat.le_refl _)); clear hown1 hg1) | (go_at_call 70; refine (oneForm_calls HY.out.1 HO1.out).mono ?_; rintro e w2 ⟨A2, c2, R2, rfl, HF2, HR2, hb2⟩; have HB2 := Aside0.mk (below_then HB1.out HB1.out.size hb2.out); have HBW2 := Aside0.mk (below_step HBW.out HB2.out); have HN2 := Aside0.mk (Kd.N_below HNW.out HB2.out); have HX2 := Aside0.mk (blk_below HX.out HB2.out)) | (at_builtin; refine Kd.N_append k33 w.heap.size rfl (.tmp 14) (.tmp 19) 27 33 (.agg #[.int .i64 0, .slice none 0 0]) 32 rfl Tryz.underlying27 info33 rfl (by decide) (by decide) (.slice AU ys.length cU) ys (nameForm y) [.int .i64 0, .slice A2 1 c2] (fun k => R k ∨ wr.heap.size ≤ k) R2 rfl rfl HF2.out (fun k hk => ⟨.inr (Nat.le_trans HB1.out.size (HR2.out k hk)), fun e => by have h1 := (Kd.N_bound HNW.out).1 k e.symm; have h2 := HR2.out k hk; have h3 := HB1.out.size; omega⟩) (fun _ h => .inr (Nat.le_trans HB2.out.size h)) (Kd.N_mono HN2.out (fun _ h => .inl h)) HBW2.out HBW2.out.size HL32.out ?_; intro v6 w6 hN6 hB6 hg6 hat6; have HN6 := Aside0.mk hN6; have HB6 := Aside0.mk hB6; have HX6 := Aside0.mk (blk_grown HX2.out hg6 (fun e => HR.out _ (HNW.out.1 _ e.symm) rfl)); clear hN6 hB6 hg6 hat6))
      go_roundg (ns.length - (jj + 1))
      case measure => omega
      case rel => exact ⟨jj + 1, fun k => R k ∨ wr.heap.size ≤ k, v6, by omega, by omega, rfl, by go_num, ⟨by rw [HTJ.out]; exact HN6.out⟩, HX6, ⟨fun k hk => hk.elim (HR.out k) (fun h => by have := blk_lt HX.out; omega)⟩, HB6⟩
    · have hltz : ¬ (jj : Int) < (ns.length : Int) := by omega
      have ej : jj = ns.length := by omega
      subst ej
      have HTL : Aside0 ((ns.take ns.length).map nameForm = ns.map nameForm) := ⟨by rw [List.take_length]⟩
      have hn0 := HNW.out
      rw [HTL.out] at hn0
      have HRD := Aside0.mk (Kd.N_reads' hn0)
      have HTC := Aside0.mk (tables_calls (L := ns.map nameForm) (AF := AU) (cF := cU) (HA.out.below HBW.out) ⟨HRD.out.2.2, HRD.out.2.1, by rw [List.length_map]; omega⟩ HE.out (fun f hf => by
        obtain ⟨n, hn', rfl⟩ := List.mem_map.1 hf
        exact name_okForm (HN.out.ok n hn').1))
      have t0 : wr.cell? ⟨w.heap.size, 0, none⟩ = some (.slice A l0.length c) := (blk_cell HX.out 0).trans rfl
      have t1 : wr.cell? ⟨w.heap.size, 1, none⟩ = some (.slice A' l1.length c') := (blk_cell HX.out 1).trans rfl
      rw [HTL.out]
      clear hn0
      generalize hLq : ns.map nameForm = L at *
      have HLQ := Aside0.mk hLq
      clear hLq
      go_wp2_with (go_at_call 69; refine HTC.out.mono ?_; rintro e w3 ⟨X, cx, zs, rfl, hp, hr, hC, hb⟩; have HZ := Aside0.mk (And.intro hp hr); have HC := Aside0.mk hC; have HB3 := Aside0.mk (below_step HBW.out hb); clear hp hr hC hb)
      go_ret
      rw [HLQ.out]
      exact ⟨X, cx, zs, rfl, HZ, HC, HB3⟩
end Go.Proofs.YtjgakaembhmhpaaGreatDoor.PA
