/- Part of the proof of FormsOverSets (the walk: image's parts); what it proves holds without further conditions. -/
import Derived.Deep.RegionLaw
import Derived.Test.YtjgakaembhmhpaaGreatDoorQB
import Derived.Test.YtjgakaembhmhpaaGreatDoorLA
import Derived.Test.YtjgakaembhmhpaaGreatDoorHB
import Derived.Test.YtjgakaembhmhpaaGreatDoorRB
set_option linter.unusedVariables false
set_option linter.unusedSimpArgs false
namespace Go.Proofs.YtjgakaembhmhpaaGreatDoor.PA
open Go.RowKit Go.Proofs.YtjgakaembhmhpaaGreatDoorW.PrintWords Go.Proofs.YtjgakaembhmhpaaGreatDoorW.PrintLast Go.Proofs.YtjgakaembhmhpaaGreatDoorW.PrintMore Go.Proofs.YtjgakaembhmhpaaGreatDoorM
abbrev MB (w : World) (b n : Nat) (D : DataW Unit) : Prop := w.ownsMap Tryz.prog 9 (plainElem Tryz.prog 4) b n D
def IImage (Bf b m : Nat) (p : Nat × List (List Int)) (F : Nat → Prop) (W : World) : Prop :=
  (∀ k, F k → k = Bf ∨ k = b) ∧ F Bf ∧ F b ∧ Bf ≠ b ∧ W.heap[Bf]? = some (.cells #[.map (some b)] 90 (0, 0)) ∧ ∃ D, MB W b p.1 D ∧ SetIs m D p.2
def stImage (sides : List S77) (L : List S33) (p : Nat × List (List Int)) (x : List Int) : Bool × (Nat × List (List Int)) :=
  (true, (p.1 + 1, if (L.map fun f => valueOf sides x f) ∈ p.2 then p.2 else p.2 ++ [L.map fun f => valueOf sides x f]))
theorem image_stays (Bf b m : Nat) : EachStays (IImage Bf b m) :=
  ⟨fun p F W W' ⟨h0, h1, h2, h3, h4, D, h5, h6⟩ _ hs => ⟨h0, h1, h2, h3, (hs Bf h1).trans h4, D, by
      obtain ⟨es, clock, hb, Ft, hz, hD⟩ := h5
      exact ⟨es, clock, (hs b h2).trans hb, Ft, hz, hD⟩, h6⟩,
   fun p F W ⟨h0, h1, h2, h3, h4, D, h5, h6⟩ k hk => by
    rcases h0 k hk with e | e <;> rw [e]
    · exact blk_lt h4
    · exact h5.lt⟩
theorem ContainsFunc_Side (g : Nat) (lb : Array Value) (A : Option Addr) (c : Nat) (l : List S77) (p : S77 → Bool) (w : World) (hr : Kd.C k77 w A l.length l)
    (eg : ∀ args w, (callFunc g args).run Tryz.prog w = .ok (.enter g args) w)
    (hp : ∀ (W : World) (x : S77), x ∈ l → Below w.heap.size w W → Calls Tryz.prog g (#[.agg #[.string x.f0, .int .i64 x.f1, .int .i64 x.f2]] ++ lb) W fun e w' => e = .returned (.bool (p x)) ∧ Below w.heap.size w w') :
    Calls Tryz.prog 64 #[.slice A l.length c, .func (.func g) #[] lb] w fun e w' => e = .returned (.bool (l.any p)) ∧ Below w.heap.size w w' := by
  have HG := Aside0.mk (idxFrom_ge p l 0 (by omega))
  have hcall := IndexFunc_Side g lb A c l p w hr eg hp
  clear hr hp
  generalize idxFrom p l 0 = ix at *
  go_enter Tryz.func64, Tryz.ntmps64
  go_wp2_with (go_at_call 120; refine hcall.mono ?_; rintro e w' ⟨rfl, hb'⟩)
  go_ret
  exact ⟨by rw [← HG.out]; rfl, hb'⟩
theorem names1_calls (a : ByteArray) (f1 f2 : Int) (name : ByteArray) (B : Nat) (W : World) (hb : W.heap[B]? = some (.cells #[.string name] 9 (0, 0))) :
    Calls Tryz.prog 65 #[.agg #[.string a, .int .i64 f1, .int .i64 f2], .pointer (some ⟨B, 0, none⟩)] W fun e w' => e = .returned (.bool (a.toList == name.toList)) ∧ Below W.heap.size W w' := by
  have hc : W.cell? ⟨B, 0, none⟩ = some (.string name) := (blk_cell hb 0).trans rfl
  have hlt := blk_lt hb
  go_enter Tryz.func65, Tryz.ntmps65
  go_wp2
  go_ret
  exact ⟨rfl, below_alloc (Below.refl _ _) _⟩
def namesS (sides : List S77) : List ByteArray → List ByteArray → Int
  | _, [] => 0
  | done, n :: r => if nameOk n = true then (if (sides.any fun s => s.f0.toList == n.toList) = true then (if (done.any fun x => decide (n = x)) = true then 6 else namesS sides (done ++ [n]) r) else 8) else 5
set_option maxHeartbeats 1000000 in
set_option maxRecDepth 100000 in
theorem names_calls {A A' AN : Option Addr} {c c' cN : Nat} {l0 : List S77} {l1 : List S33} {L : List ByteArray} {w : World} (h : SetAt A c l0 A' c' l1 w) (hL : Kd.C Kd.string w AN L.length L) (hc : L.length ≤ cN) (hl : L.length ≤ 1000) (hs : ∀ n ∈ L, n.size ≤ 100) :
    Calls Tryz.prog 18 #[.agg #[.slice A l0.length c, .slice A' l1.length c'], .slice AN L.length cN] w fun e w' => e = .returned (.int .i64 (namesS l0 [] L)) ∧ Below w.heap.size w w' := by
  have HA := Aside0.mk h
  have HL := Aside0.mk hL
  have HS := Aside0.mk hs
  have hB1 := Aside0.mk (below_alloc (Below.refl w.heap.size w) (.cells #[.slice A l0.length c, .slice A' l1.length c'] 29))
  have hb1 := Aside0.mk (blk_new w (.cells #[.slice A l0.length c, .slice A' l1.length c'] 29))
  have eg := enters_of Tryz.func65 (by kernel_rfl) rfl
  clear h hL hs
  go_enter Tryz.func18, Tryz.ntmps18
  go_wp2
  generalize w.alloc (.cells #[.slice A l0.length c, .slice A' l1.length c'] 29) = w1 at *
  go_loopg [5, 6, 9, 14, 18, 24] L.length (fun gg _ _ s9 _ _ _ wr => ∃ kk : Nat, kk ≤ L.length ∧ L.length - kk ≤ gg ∧ s9 = .int .i64 kk ∧ Aside0 (Below w.heap.size w wr ∧ Below w1.heap.size w1 wr) ∧ Aside0 (namesS l0 [] L = namesS l0 (L.take kk) (L.drop kk)))
  case atStart => exact ⟨0, Nat.zero_le _, by omega, rfl, ⟨hB1.out, Below.refl _ _⟩, ⟨by simp⟩⟩
  case round =>
    obtain ⟨kk, hkk, hg, rfl, HB, AQ⟩ := hrel
    by_cases hlt : kk < L.length
    · have hltz : (kk : Int) < (L.length : Int) := by omega
      obtain ⟨ad, e, hx0⟩ := Kd.at_string HL.out (kk : Int) (by omega) (by omega)
      cases e
      replace hx0 := pw_cell_below HB.out.1 hx0
      simp only [Int.toNat_natCast] at hx0
      have hy : rdOf ByteArray.empty L (kk : Int) = L[kk] := by simp [rdOf, List.getD, List.getElem?_eq_getElem hlt]
      have HSZ := Aside0.mk (HS.out (rdOf ByteArray.empty L (kk : Int)) (by rw [hy]; exact List.getElem_mem hlt))
      have HAQ : Aside0 (namesS l0 [] L = namesS l0 (L.take kk) (rdOf ByteArray.empty L (kk : Int) :: L.drop (kk + 1))) := ⟨by rw [AQ.out, hy, List.drop_eq_getElem_cons hlt]⟩
      have HTK : Aside0 (L.take (kk + 1) = L.take kk ++ [rdOf ByteArray.empty L (kk : Int)]) := ⟨by rw [hy, List.take_succ_eq_append_getElem hlt]⟩
      clear hy
      generalize rdOf ByteArray.empty L (kk : Int) = n at *
      have HN := Aside0.mk (name_f n (by have := HSZ.out; omega) 1000 (by have := HSZ.out; omega))
      have HNF : Aside0 (wbref1_NameFault.f 1000 n = some (if nameOk n = true then 0 else 5)) := ⟨by
        unfold wbref1_NameFault.f
        rw [HN.out, Option.bind_some]
        by_cases h1 : nameOk n = true
        · rw [if_pos h1, if_pos h1]
        · rw [if_neg h1, if_neg h1]⟩
      have BN := Aside0.mk (blk_new wr (.cells #[.string n] 9))
      have HBN := Aside0.mk (below_alloc (Below.refl wr.heap.size wr) (.cells #[.string n] 9))
      have HBT := Aside0.mk (below_alloc HB.out.1 (.cells #[.string n] 9))
      have HB0 := Aside0.mk (blk_below hb1.out HB.out.2)
      cases hn : nameOk n with
      | false =>
        rw [hn] at HNF
        have HE : Aside0 (namesS l0 [] L = 5) := ⟨by rw [HAQ.out, namesS, hn]; rfl⟩
        simp only [Bool.false_eq_true, if_false] at HNF
        go_wp2_with (go_at_call 63; refine (wbref1_NameFault.calls 1000 n _ _ HNF.out).mono ?_; rintro e w2 ⟨rfl, hb⟩; have HB2 := Aside0.mk (below_step HBN.out hb); have HX2 := Aside0.mk (blk_below BN.out hb); have HS2 := Aside0.mk (blk_below HB0.out HB2.out); have z0 : w2.cell? ⟨w.heap.size, 0, none⟩ = some (.slice A l0.length c) := (blk_cell HS2.out 0).trans rfl; have z2 : w2.cell? ⟨wr.heap.size, 0, none⟩ = some (.string n) := (blk_cell HX2.out 0).trans rfl; have HBT2 := Aside0.mk (below_step HBT.out hb); have HCF := Aside0.mk (ContainsFunc_Side 65 #[.pointer (some ⟨wr.heap.size, 0, none⟩)] A c l0 (fun s => s.f0.toList == n.toList) w2 (HA.out.below HBT2.out).hs eg (fun W x hx hB => (names1_calls x.f0 x.f1 x.f2 n wr.heap.size W (blk_below HX2.out hB)).mono fun e w' ⟨he, hb⟩ => ⟨he, below_step hB hb⟩)); clear hb)
        go_ret
        rw [HE.out]
        exact ⟨rfl, HBT2.out⟩
      | true =>
        rw [hn] at HNF
        simp only [if_true] at HNF
        cases ha : l0.any (fun s => s.f0.toList == n.toList) with
        | false =>
          have HAN := Aside0.mk ha
          have HE : Aside0 (namesS l0 [] L = 8) := ⟨by rw [HAQ.out, namesS, hn, ha]; rfl⟩
          clear ha
          go_wp2_with (first | (go_at_call 63; refine (wbref1_NameFault.calls 1000 n _ _ HNF.out).mono ?_; rintro e w2 ⟨rfl, hb⟩; have HB2 := Aside0.mk (below_step HBN.out hb); have HX2 := Aside0.mk (blk_below BN.out hb); have HS2 := Aside0.mk (blk_below HB0.out HB2.out); have z0 : w2.cell? ⟨w.heap.size, 0, none⟩ = some (.slice A l0.length c) := (blk_cell HS2.out 0).trans rfl; have z2 : w2.cell? ⟨wr.heap.size, 0, none⟩ = some (.string n) := (blk_cell HX2.out 0).trans rfl; have HBT2 := Aside0.mk (below_step HBT.out hb); have HCF := Aside0.mk (ContainsFunc_Side 65 #[.pointer (some ⟨wr.heap.size, 0, none⟩)] A c l0 (fun s => s.f0.toList == n.toList) w2 (HA.out.below HBT2.out).hs eg (fun W x hx hB => (names1_calls x.f0 x.f1 x.f2 n wr.heap.size W (blk_below HX2.out hB)).mono fun e w' ⟨he, hb⟩ => ⟨he, below_step hB hb⟩)); clear hb) | (go_at_call 64; refine HCF.out.mono ?_; rintro e w3 ⟨rfl, hb⟩; rw [HAN.out]; have HB3 := Aside0.mk (below_step HB2.out hb); have HBT3 := Aside0.mk (below_step HBT2.out hb); have z3 : w3.cell? ⟨wr.heap.size, 0, none⟩ = some (.string n) := (blk_cell (blk_below HX2.out hb) 0).trans rfl; clear hb))
          go_ret
          rw [HE.out]
          exact ⟨rfl, HBT3.out⟩
        | true =>
          have HAN := Aside0.mk ha
          have HCN := Aside0.mk (contains_f (L.take kk) n 2000 (by rw [List.length_take]; omega) (by rw [List.length_take]; omega))
          have HLT : Aside0 ((L.take kk).length = kk) := ⟨by rw [List.length_take]; omega⟩
          cases hd : (L.take kk).any (fun x => decide (n = x)) with
          | true =>
            have HE : Aside0 (namesS l0 [] L = 6) := ⟨by rw [HAQ.out, namesS, hn, ha, hd]; rfl⟩
            rw [hd] at HCN
            clear ha hd
            go_wp2_with (first | (go_at_call 63; refine (wbref1_NameFault.calls 1000 n _ _ HNF.out).mono ?_; rintro e w2 ⟨rfl, hb⟩; have HB2 := Aside0.mk (below_step HBN.out hb); have HX2 := Aside0.mk (blk_below BN.out hb); have HS2 := Aside0.mk (blk_below HB0.out HB2.out); have z0 : w2.cell? ⟨w.heap.size, 0, none⟩ = some (.slice A l0.length c) := (blk_cell HS2.out 0).trans rfl; have z2 : w2.cell? ⟨wr.heap.size, 0, none⟩ = some (.string n) := (blk_cell HX2.out 0).trans rfl; have HBT2 := Aside0.mk (below_step HBT.out hb); have HCF := Aside0.mk (ContainsFunc_Side 65 #[.pointer (some ⟨wr.heap.size, 0, none⟩)] A c l0 (fun s => s.f0.toList == n.toList) w2 (HA.out.below HBT2.out).hs eg (fun W x hx hB => (names1_calls x.f0 x.f1 x.f2 n wr.heap.size W (blk_below HX2.out hB)).mono fun e w' ⟨he, hb⟩ => ⟨he, below_step hB hb⟩)); clear hb) | (go_at_call 64; refine HCF.out.mono ?_; rintro e w3 ⟨rfl, hb⟩; rw [HAN.out]; have HB3 := Aside0.mk (below_step HB2.out hb); have HBT3 := Aside0.mk (below_step HBT2.out hb); have z3 : w3.cell? ⟨wr.heap.size, 0, none⟩ = some (.string n) := (blk_cell (blk_below HX2.out hb) 0).trans rfl; clear hb))
            have HCC : Aside0 (∀ q, Calls Tryz.prog 48 #[.slice (some ad) kk cN, .string n] (w3.drewN q) fun e w' => e = .returned (.bool true) ∧ Drawn0 (w3.drewN q) w') := ⟨fun q => by
              have := slices_Contains_string_string.calls 2000 (some ad) cN (L.take kk) n true (w3.drewN q) (Kd.C_below (Kd.C_take (Kd.C_below HL.out HBT3.out) hkk) (pw_below_drewN (Below.refl _ _) q)) (by rw [List.length_take]; omega) HCN.out
              rw [HLT.out] at this
              exact this⟩
            have hkc : (kk : Int) ≤ (cN : Int) := by omega
            have hk0 : (0 : Int) ≤ (kk : Int) := by omega
            go_quiet (first | (go_at_call 48; (refine (HCC.out _).mono ?_); rintro e w' ⟨rfl, ⟨nd, rfl⟩⟩; (try first | exact ⟨rfl, _, World.drewN_drewN _ _ _⟩ | exact ⟨rfl, _, Eq.trans (World.drewN_drewN _ _ _) (congrArg (World.drewN _) (Nat.add_assoc _ _ _))⟩)))
            go_wp2
            go_ret
            rw [HE.out]
            exact ⟨rfl, pw_below_drewN HBT3.out _⟩
          | false =>
            have HE : Aside0 (namesS l0 [] L = namesS l0 (L.take (kk + 1)) (L.drop (kk + 1))) := ⟨by rw [HAQ.out, namesS, hn, ha, hd, HTK.out]; rfl⟩
            rw [hd] at HCN
            clear ha hd
            go_wp2_with (first | (go_at_call 63; refine (wbref1_NameFault.calls 1000 n _ _ HNF.out).mono ?_; rintro e w2 ⟨rfl, hb⟩; have HB2 := Aside0.mk (below_step HBN.out hb); have HX2 := Aside0.mk (blk_below BN.out hb); have HS2 := Aside0.mk (blk_below HB0.out HB2.out); have z0 : w2.cell? ⟨w.heap.size, 0, none⟩ = some (.slice A l0.length c) := (blk_cell HS2.out 0).trans rfl; have z2 : w2.cell? ⟨wr.heap.size, 0, none⟩ = some (.string n) := (blk_cell HX2.out 0).trans rfl; have HBT2 := Aside0.mk (below_step HBT.out hb); have HCF := Aside0.mk (ContainsFunc_Side 65 #[.pointer (some ⟨wr.heap.size, 0, none⟩)] A c l0 (fun s => s.f0.toList == n.toList) w2 (HA.out.below HBT2.out).hs eg (fun W x hx hB => (names1_calls x.f0 x.f1 x.f2 n wr.heap.size W (blk_below HX2.out hB)).mono fun e w' ⟨he, hb⟩ => ⟨he, below_step hB hb⟩)); clear hb) | (go_at_call 64; refine HCF.out.mono ?_; rintro e w3 ⟨rfl, hb⟩; rw [HAN.out]; have HB3 := Aside0.mk (below_step HB2.out hb); have HBT3 := Aside0.mk (below_step HBT2.out hb); have z3 : w3.cell? ⟨wr.heap.size, 0, none⟩ = some (.string n) := (blk_cell (blk_below HX2.out hb) 0).trans rfl; clear hb))
            have HCC : Aside0 (∀ q, Calls Tryz.prog 48 #[.slice (some ad) kk cN, .string n] (w3.drewN q) fun e w' => e = .returned (.bool false) ∧ Drawn0 (w3.drewN q) w') := ⟨fun q => by
              have := slices_Contains_string_string.calls 2000 (some ad) cN (L.take kk) n false (w3.drewN q) (Kd.C_below (Kd.C_take (Kd.C_below HL.out HBT3.out) hkk) (pw_below_drewN (Below.refl _ _) q)) (by rw [List.length_take]; omega) HCN.out
              rw [HLT.out] at this
              exact this⟩
            have hkc : (kk : Int) ≤ (cN : Int) := by omega
            have hk0 : (0 : Int) ≤ (kk : Int) := by omega
            go_quiet (first | (go_at_call 48; (refine (HCC.out _).mono ?_); rintro e w' ⟨rfl, ⟨nd, rfl⟩⟩; (try first | exact ⟨rfl, _, World.drewN_drewN _ _ _⟩ | exact ⟨rfl, _, Eq.trans (World.drewN_drewN _ _ _) (congrArg (World.drewN _) (Nat.add_assoc _ _ _))⟩)))
            go_wp2
            go_roundg (L.length - (kk + 1))
            case measure => omega
            case rel => exact ⟨kk + 1, by omega, by omega, by go_num, ⟨pw_below_drewN HBT3.out _, pw_below_drewN (below_then HB.out.2 HB.out.2.size HB3.out) _⟩, HE⟩
    · have hltz : ¬ (kk : Int) < (L.length : Int) := by omega
      have ek : kk = L.length := by omega
      subst ek
      have HE : Aside0 (namesS l0 [] L = 0) := ⟨by rw [AQ.out, List.drop_length]; rfl⟩
      go_wp2
      go_ret
      rw [HE.out]
      exact ⟨rfl, HB.out.1⟩
theorem formOver_l0 (sides : List S77) (hs : sides.length ≤ 1000) (f : S33) (hl : f.f1.length ≤ 1000) (hn : ∀ t ∈ f.f1, t.f0.size ≤ 100) : ∀ (m kk k : Nat), kk + m = sides.length → m + 6000 < k → wbref1_FormOver.l0 k ((sides.take kk).map (·.f0)) sides (sides.length : Int) (kk : Int) f.f0 f.f1 = some (overS (sides.map (·.f0)) f) := by
  intro m
  induction m with
  | zero =>
    intro kk k h1 h2
    cases k with
    | zero => omega
    | succ k =>
      rw [wbref1_FormOver.l0, if_neg (by omega), List.take_of_length_le (by omega), around_f _ (by simpa using hs) f hl hn k (by omega)]
      rfl
  | succ m ih =>
    intro kk k h1 h2
    cases k with
    | zero => omega
    | succ k =>
      have e0 : kk < sides.length := by omega
      have r0 : rd_T77 sides (kk : Int) = sides[kk] := by simp [rd_T77, List.getD, List.getElem?_eq_getElem e0]
      have ec : wrap64 ((kk : Int) + 1) = ((kk + 1 : Nat) : Int) := by rw [IntWalk.wrap64_in _ (by omega)]; omega
      rw [wbref1_FormOver.l0, if_pos (by omega), if_pos (by omega), if_pos (by omega), if_pos (by rw [List.length_map, List.length_take]; omega), ec, r0]
      have : (sides.take kk).map (·.f0) ++ [sides[kk].f0] = (sides.take (kk + 1)).map (·.f0) := by
        rw [List.take_succ_eq_append_getElem e0, List.map_append]
        rfl
      rw [this]
      exact ih (kk + 1) k (by omega) (by omega)
theorem formOver_f (sides : List S77) (conds : List S33) (hs : sides.length ≤ 1000) (f : S33) (hl : f.f1.length ≤ 1000) (hn : ∀ t ∈ f.f1, t.f0.size ≤ 100) (k : Nat) (hk : 10000 ≤ k) : wbref1_FormOver.f k sides conds f.f0 f.f1 = some (overS (sides.map (·.f0)) f) := by
  unfold wbref1_FormOver.f
  have := formOver_l0 sides hs f hl hn sides.length 0 k (by omega) (by omega)
  simpa using this
theorem L_formOver {A A' Af : Option Addr} {c c' cf : Nat} {l0 : List S77} {l1 : List S33} {f : S33} {w : World} (h : SetAt A c l0 A' c' l1 w) (g : FormAt Af cf f w) (hs : l0.length ≤ 1000) :
    Calls Tryz.prog 16 #[.agg #[.slice A l0.length c, .slice A' l1.length c'], .agg #[.int .i64 f.f0, .slice Af f.f1.length cf]] w fun e w' => e = .returned (.int .i64 (overS (l0.map (·.f0)) f)) ∧ Below w.heap.size w w' :=
  wbref1_FormOver.calls 300000 A c l0 A' c' l1 f.f0 Af cf f.f1 _ w h.hs h.hc h.ks h.kc g.tm g.tc (formOver_f l0 l1 hs f g.n1 g.n2 300000 (by omega))
theorem mb_below {W W' : World} {b n : Nat} {D : DataW Unit} (h : MB W b n D) (hb : Below W.heap.size W W') : MB W' b n D := by
  have hl := h.lt
  obtain ⟨es, clock, h1, h2⟩ := h
  exact ⟨es, clock, (hb.block b hl).trans h1, h2⟩
set_option maxHeartbeats 2000000 in
set_option maxRecDepth 100000 in
theorem image_at (w0 : World) (sides : List S77) (conds L : List S33) (As Ac AL : Option Addr) (cs cc cL Bs BL Bf b m : Nat)
    (hbs : w0.heap[Bs]? = some (.cells #[.slice As sides.length cs, .slice Ac conds.length cc] 29 (0, 0))) (hbl : w0.heap[BL]? = some (.cells #[.slice AL L.length cL] 27 (0, 0)))
    (hs : Kd.C k77 w0 As sides.length sides) (hcs : sides.length ≤ cs) (hc : Kd.C k33 w0 Ac conds.length conds) (hcc : conds.length ≤ cc) (hL : Kd.C k33 w0 AL L.length L) (hLs : L.length ≤ 1000) (ht : Tab w0)
    (p : Nat × List (List Int)) (x : List Int) (hx8 : x.length ≤ 8) (hin : ∀ f ∈ L, inSides sides x f) (hp : p.1 ≤ 1000000) (hvw : ∀ f ∈ L, (Lit.int .i64 (valueOf sides x f)).wf = true) :
    EachAt w0 56 #[.pointer (some ⟨BL, 0, none⟩), .pointer (some ⟨Bs, 0, none⟩), .pointer (some ⟨Bf, 0, none⟩)] (fun _ => IImage Bf b L.length) (stImage sides L) p x := by
  intro W F X hI hF hB hX hnX
  have HI := Aside0.mk hI
  have HFF := Aside0.mk hF
  have HB := Aside0.mk hB
  have HX := Aside0.mk (hX.reads (by omega))
  have HLL := Aside0.mk (Kd.C_below hL hB)
  have l0 : W.cell? ⟨BL, 0, none⟩ = some (.slice AL L.length cL) := (blk_cell (blk_below hbl hB) 0).trans rfl
  have HBS := Aside0.mk (blk_below hbs hB)
  clear hI hF hB hX hbl hbs
  go_enter Tryz.func56, Tryz.ntmps56
  go_wp2
  go_loopg [6, 8, 11] L.length (fun gg s6 _ s11 wr => ∃ (jj : Nat) (R : Nat → Prop) (u : Value), jj ≤ L.length ∧ L.length - jj ≤ gg ∧ s6 = u ∧ s11 = .int .i64 jj ∧ Aside0 (Kd.N KI 3 wr W.heap.size R u ((L.take jj).map fun f => valueOf sides x f)) ∧ Aside0 (Below W.heap.size W wr))
  case atStart => exact ⟨0, fun _ => False, .slice none 0 0, Nat.zero_le _, by omega, rfl, rfl, ⟨Kd.N_nil _ _ _ _ _⟩, ⟨Below.refl _ _⟩⟩
  case round =>
    obtain ⟨jj, R, u, hjj, hg, hu, rfl, HN, HBW⟩ := hrel
    obtain ⟨AU, cU, rfl⟩ := Kd.N_slice HN.out
    subst hu
    by_cases hlt : jj < L.length
    · have hltz : (jj : Int) < (L.length : Int) := by omega
      obtain ⟨ad, A1, c1, e, f0, f1, hle, hC⟩ := at_T33 HLL.out (jj : Int) (by omega) (by omega)
      cases e
      replace f0 := pw_cell_below HBW.out f0
      replace f1 := pw_cell_below HBW.out f1
      simp only [Int.toNat_natCast] at f0 f1
      have hy : rd_T33 L (jj : Int) = L[jj] := by simp [rd_T33, List.getD, List.getElem?_eq_getElem hlt]
      have HIN := Aside0.mk (hin (rd_T33 L (jj : Int)) (by rw [hy]; exact List.getElem_mem hlt))
      have HTJ : Aside0 ((L.take (jj + 1)).map (fun f => valueOf sides x f) = (L.take jj).map (fun f => valueOf sides x f) ++ [valueOf sides x (rd_T33 L (jj : Int))]) := ⟨by rw [hy]; exact map_take_succ _ L hlt⟩
      have HLJ : Aside0 (((L.take jj).map fun f => valueOf sides x f).length = jj) := ⟨by simp; omega⟩
      have HCT := Aside0.mk (Kd.C_below hC HBW.out)
      clear hy hC hle
      generalize rd_T33 L (jj : Int) = f at *
      generalize (L.take jj).map (fun f => valueOf sides x f) = ys at *
      have HBN := Aside0.mk (below_step HBW.out (below_alloc (Below.refl wr.heap.size wr) (.cells #[.int .i64 f.f0, .slice A1 f.f1.length c1] 33)))
      have HBT := Aside0.mk (below_step HB.out HBN.out)
      have HS1 := Aside0.mk (blk_below HBS.out HBN.out)
      have s0 : (wr.alloc (.cells #[.int .i64 f.f0, .slice A1 f.f1.length c1] 33)).cell? ⟨Bs, 0, none⟩ = some (.slice As sides.length cs) := (blk_cell HS1.out 0).trans rfl
      have s1 : (wr.alloc (.cells #[.int .i64 f.f0, .slice A1 f.f1.length c1] 33)).cell? ⟨Bs, 1, none⟩ = some (.slice Ac conds.length cc) := (blk_cell HS1.out 1).trans rfl
      have HVC := Aside0.mk (value_calls sides conds f x As Ac A1 (some ⟨X, 0, none⟩) cs cc c1 x.length (wr.alloc (.cells #[.int .i64 f.f0, .slice A1 f.f1.length c1] 33)) (Kd.C_below hs HBT.out) hcs (Kd.C_below hc HBT.out) hcc (Kd.C_below HCT.out (below_alloc (Below.refl _ _) _)) (Kd.C_below HX.out HBN.out) HIN.out)
      have bs0 := blk_lt HS1.out
      have t0 : wr.cell? ⟨Bs, 0, none⟩ = some (.slice As sides.length cs) := (blk_cell (blk_below HBS.out HBW.out) 0).trans rfl
      have t1 : wr.cell? ⟨Bs, 1, none⟩ = some (.slice Ac conds.length cc) := (blk_cell (blk_below HBS.out HBW.out) 1).trans rfl
      have lB := blk_lt (blk_below HBS.out HBW.out)
      have HL8 : Aside0 ((ys.length + 1) * 8 ≤ 140737488355328) := ⟨by have := HLJ.out; omega⟩
      clear s0 s1 bs0
      generalize hval : valueOf sides x f = vv at *
      go_wp2_with (first | (go_at_call 55; refine HVC.out.mono ?_; rintro e w2 ⟨rfl, hb⟩; have HB2 := Aside0.mk (below_step HBN.out hb); have HN2 := Aside0.mk (Kd.N_below (Kd.N_alloc HN.out _) hb); clear hb) | (at_builtin; refine Kd.N_append KI W.heap.size rfl (.tmp 15) (.tmp 20) 22 3 (.int .i64 0) 8 rfl Tryz.underlying22 info3 rfl (by decide) (by decide) (.slice AU ys.length cU) ys vv [.int .i64 vv] (fun k => R k ∨ w2.heap.size ≤ k) (fun _ => False) rfl rfl (fun _ _ => rfl) (fun _ hk => hk.elim) (fun _ h => .inr h) (Kd.N_mono HN2.out (fun _ h => .inl h)) HB2.out HB2.out.size HL8.out ?_; intro v6 w6 hN6 hB6 hg6 hat6; have HN6 := Aside0.mk hN6; have HB6 := Aside0.mk hB6; clear hN6 hB6 hg6 hat6))
      go_roundg (L.length - (jj + 1))
      case measure => omega
      case rel => exact ⟨jj + 1, _, v6, by omega, by omega, rfl, by go_num, ⟨by rw [HTJ.out]; exact HN6.out⟩, HB6⟩
    · have hltz : ¬ (jj : Int) < (L.length : Int) := by omega
      have ej : jj = L.length := by omega
      subst ej
      have HTL : Aside0 ((L.take L.length).map (fun f => valueOf sides x f) = L.map fun f => valueOf sides x f) := ⟨by rw [List.take_length]⟩
      have HNZ : Aside0 (Kd.N KI 3 wr W.heap.size R (.slice AU (L.map fun f => valueOf sides x f).length cU) (L.map fun f => valueOf sides x f)) := ⟨by rw [← HTL.out]; exact HN.out⟩
      have HYW : Aside0 (∀ n ∈ (L.map fun f => valueOf sides x f), (Lit.int .i64 n).wf = true) := ⟨fun n hn => by
        obtain ⟨f, hf, rfl⟩ := List.mem_map.1 hn
        exact hvw f hf⟩
      have HYL : Aside0 ((L.map fun f => valueOf sides x f).length = L.length) := ⟨by simp⟩
      have HST : Aside0 (stImage sides L p x = (true, (p.1 + 1, if (L.map fun f => valueOf sides x f) ∈ p.2 then p.2 else p.2 ++ [L.map fun f => valueOf sides x f]))) := ⟨rfl⟩
      rw [HTL.out]
      clear HN HTL
      generalize L.map (fun f => valueOf sides x f) = ys at *
      obtain ⟨h0, h1, h2, h3, h4, D, h5, h6⟩ := HI.out
      have HWT := Aside0.mk ((ht.below HB.out).below HBW.out)
      have HBf := Aside0.mk (blk_below h4 HBW.out)
      have c0 : wr.cell? ⟨Bf, 0, none⟩ = some (.map (some b)) := (blk_cell HBf.out 0).trans rfl
      have HKC := Aside0.mk (fun (W1 : World) (hb : Below wr.heap.size wr W1) => key_calls AU cU ys W1 (Kd.C_below (Kd.N_reads' HNZ.out).2.2 hb) (by have := HYL.out; omega) HYW.out (HWT.out.below hb))
      have H5 := Aside0.mk h5
      have H6 := Aside0.mk h6
      clear h0 h1 h2 h3 h4 h5 h6
      have hkey : keyOf Tryz.prog 9 (.string ⟨(rowText ys).toArray⟩) = some (kS (keyB ys)) := kS_key (s := keyB ys) (by
        have := rowText_len ys HYW.out
        have := HYL.out
        show (rowText ys).toArray.size ≤ maxLen
        rw [List.size_toArray]
        unfold maxLen
        omega)
      go_wp2
      go_region_law (go_simp; go_at_call 57; refine (HKC.out _ (by first | exact below_drew (Below.refl _ _) | exact Below.refl _ _)).mono ?_; rintro e w2 ⟨rfl, hb⟩; have HB2 := Aside0.mk hb; have c2 : w2.cell? ⟨Bf, 0, none⟩ = some (.map (some b)) := pw_cell_below (below_step (below_drew (Below.refl wr.heap.size wr)) hb) c0; obtain ⟨w6, hrun, hO6, hG6⟩ := (show MB w2 b p.1 D from (mb_below H5.out (below_step HBW.out (below_step (below_drew (Below.refl wr.heap.size wr)) hb)))).update (t := 90) (e := 4) mlaw Tryz.underlying90 (by unfold maxLen; omega) hkey (plainElem_bool Tryz.underlying4 true))
      all_goals
        have HO6 := Aside0.mk hO6
        have HG6 := Aside0.mk hG6
        clear hrun hO6 hG6
        go_wp2
        go_ret
        obtain ⟨h0, h1, h2, h3, h4, _⟩ := HI.out
        have HBB := below_step HBW.out (below_step (below_drew (Below.refl wr.heap.size wr)) HB2.out)
        have HK6 : Kept W w6 F := Kept.of_grown HG6.out (Kept.of_below HBB F) (fun k hk => by injection hk with hk; subst hk; exact .inl h2)
        have HBe : Below w0.heap.size w0 w6 := (below_then HB.out HB.out.size HBB).grown HG6.out (Nat.le_trans HB.out.size HBB.size) (fun k hk => by injection hk with hk; subst hk; exact HFF.out _ h2)
        rw [HST.out]
        exact ⟨rfl, F, ⟨h0, h1, h2, h3, blk_grown (blk_below h4 HBB) HG6.out (fun e => h3 (Option.some.inj e)), _, HO6.out, H6.out.put ys HYL.out _ H6.out.tidy.isMap (H6.out.tidy.put (isKey _) _)⟩, fun k hk => .inl hk, HK6, HBe⟩
end Go.Proofs.YtjgakaembhmhpaaGreatDoor.PA
