/- Part of the proof of FormsOverSets (the walk: names and points); what it proves holds without further conditions. -/
import Derived.Lib.ItoaLen
import Derived.Test.YtjgakaembhmhpaaGreatDoorRC
import Derived.Test.YtjgakaembhmhpaaGreatDoorQC
import Derived.Test.YtjgakaembhmhpaaGreatDoorSB
set_option linter.unusedVariables false
set_option linter.unusedSimpArgs false
namespace Go.Proofs.YtjgakaembhmhpaaGreatDoor.PA
open Go.RowKit Go.Proofs.YtjgakaembhmhpaaGreatDoorW.PrintWords Go.Proofs.YtjgakaembhmhpaaGreatDoorW.PrintLast Go.Proofs.YtjgakaembhmhpaaGreatDoorW.PrintMore Go.Proofs.YtjgakaembhmhpaaGreatDoorM
theorem imageIn_calls {A A' AF : Option Addr} {c c' cF : Nat} {l0 : List S77} {l1 : List S33} {L : List S33} {w : World} (h : SetAt A c l0 A' c' l1 w) (g : TabF L AF cF w) (e0 : setFault l0 l1 = 0) (ho : ∀ f ∈ L, okForm f = true) :
    Calls Tryz.prog 20 #[.agg #[.slice A l0.length c, .slice A' l1.length c'], .slice AF L.length cF] w fun e w' => e = .returned (.int .i64 ((dd (rowsOf l0 L (ptsOf l0 l1))).length : Int)) ∧ Below w.heap.size w w' := by
  have hB1 := Aside0.mk (below_alloc (Below.refl w.heap.size w) (.cells #[.slice A l0.length c, .slice A' l1.length c'] 29))
  have HC := Aside0.mk (tables_calls (h.below hB1.out) (g.below hB1.out) e0 ho)
  clear h g e0 ho
  go_enter Tryz.func20, Tryz.ntmps20
  go_wp2_with (go_at_call 69; refine HC.out.mono ?_; rintro e w1 ⟨X, cx, zs, rfl, hzp, hzr, hC, hb⟩; have HZ : Aside0 ((squash zs).length = (dd (rowsOf l0 L (ptsOf l0 l1))).length) := ⟨squash_len hzr (fun x => hzp.mem_iff)⟩; clear hzp hzr hC)
  go_ret
  rw [← HZ.out]
  exact ⟨rfl, below_step hB1.out hb⟩
abbrev Tab (w : World) : Prop := Lib.TabIs Tryz.prog w "internal/strconv.uint64pow10" .u64 Lib.pow10Tab
theorem Tab.below {w w' : World} (h : Tab w) (hb : Below w.heap.size w w') : Tab w' := by
  unfold Tab Lib.TabIs World.var? at *
  obtain ⟨g, hg, hv⟩ := Option.bind_eq_some_iff.1 h
  rw [hg, Option.bind_some]
  have hlt : g < w.heap.size := by
    rcases Nat.lt_or_ge g w.heap.size with h' | h'
    · exact h'
    · rw [Array.getElem?_eq_none h'] at hv
      simp at hv
  rw [hb.block g hlt]
  exact hv
def itoaB (n : Int) : ByteArray := ⟨(Lib.itoa n).toArray⟩
theorem below_grow (w : World) (k : Nat) (os : Array Obj) : Below w.heap.size w (Go.Sort.grow (w.drewN k) os) :=
  ⟨rfl, rfl, rfl, by simp [Go.Sort.grow, World.drewN], fun i hi => Go.Sort.heap_grow_old (w.drewN k) os (by simpa [World.drewN] using hi)⟩
theorem digits_calls (n : Int) (hn : (Lit.int .i64 n).wf = true) (w : World) (ht : Tab w) : Calls Tryz.prog 156 #[.int .i64 n] w fun e w' => e = .returned (.string (itoaB n)) ∧ Below w.heap.size w w' := by
  have hw := wf_i64 hn
  have HC := Aside0.mk (Tryz.strconv_Itoa n hw.1 hw.2 w ht)
  clear ht hn hw
  go_enter Tryz.func156, Tryz.ntmps156
  go_wp2_with (go_at_call 194; refine HC.out.mono ?_; rintro e w1 ⟨rfl, k, os, rfl⟩)
  go_ret
  exact ⟨rfl, below_grow w k os⟩
theorem rowText_len : ∀ l : List Int, (∀ n ∈ l, (Lit.int .i64 n).wf = true) → (rowText l).length ≤ 22 * l.length
  | [], _ => Nat.zero_le _
  | [x], h => by
    have := wf_i64 (h x List.mem_cons_self)
    have := Lib.itoa_length_le x this.1 this.2
    rw [rowText_one, List.length_singleton]
    omega
  | x :: y :: t, h => by
    have hx := wf_i64 (h x List.mem_cons_self)
    have h1 := Lib.itoa_length_le x hx.1 hx.2
    have h2 := rowText_len (y :: t) (fun n hn => h n (List.mem_cons_of_mem _ hn))
    rw [rowText_cons, List.length_append, List.length_cons, List.length_cons]
    rw [List.length_cons] at h2 ⊢
    omega
set_option maxHeartbeats 4000000 in
set_option maxRecDepth 100000 in
theorem row_calls (A : Option Addr) (c : Nat) (l : List Int) (w : World) (hr : Kd.C KI w A l.length l) (hl : l.length ≤ 1000) (hw : ∀ n ∈ l, (Lit.int .i64 n).wf = true) (ht : Tab w) :
    Calls Tryz.prog 117 #[.slice A l.length c] w fun e w' => e = .returned (.string ⟨(rowText l).toArray⟩) ∧ Below w.heap.size w w' := by
  have HR := Aside0.mk hr
  have HW := Aside0.mk hw
  have HT := Aside0.mk ht
  clear hr hw ht
  go_enter Tryz.func117, Tryz.ntmps117
  go_wp2
  go_loopg [3, 5, 8] l.length (fun gg s3 _ s8 wr => ∃ (kk : Nat) (O : Nat → Prop) (v : Value), kk ≤ l.length ∧ l.length - kk ≤ gg ∧ s3 = v ∧ s8 = .int .i64 kk ∧ Aside0 (Kd.N Kd.string 9 wr w.heap.size O v ((l.take kk).map itoaB)) ∧ Aside0 (Below w.heap.size w wr))
  case atStart => exact ⟨0, fun _ => False, .slice none 0 0, Nat.zero_le _, by omega, rfl, rfl, ⟨Kd.N_nil _ _ _ _ _⟩, ⟨Below.refl _ _⟩⟩
  case round =>
    obtain ⟨kk, O, v, hkk, hg, hv, rfl, HN, HB⟩ := hrel
    obtain ⟨AO, cO, rfl⟩ := Kd.N_slice HN.out
    subst hv
    by_cases hlt : kk < l.length
    · have hltz : (kk : Int) < (l.length : Int) := by omega
      obtain ⟨ad, e, hx0⟩ := Kd.at_int HR.out (kk : Int) (by omega) (by omega)
      cases e
      replace hx0 := pw_cell_below HB.out hx0
      simp only [Int.toNat_natCast] at hx0
      have hy : rd l (kk : Int) = l[kk] := by simp [rd, rdOf, List.getD, List.getElem?_eq_getElem hlt]
      have HWF := Aside0.mk (HW.out (rd l (kk : Int)) (by rw [hy]; exact List.getElem_mem hlt))
      have HTK : Aside0 ((l.take (kk + 1)).map itoaB = (l.take kk).map itoaB ++ [itoaB (rd l (kk : Int))]) := ⟨by rw [hy]; exact map_take_succ _ l hlt⟩
      have HLK : Aside0 (((l.take kk).map itoaB).length = kk) := ⟨by simp; omega⟩
      clear hy
      generalize rd l (kk : Int) = n at *
      generalize (l.take kk).map itoaB = xs at *
      have HDC := Aside0.mk (digits_calls n HWF.out wr (HT.out.below HB.out))
      have HL16 : Aside0 ((xs.length + 1) * 16 ≤ 140737488355328) := ⟨by have := HLK.out; omega⟩
      go_wp2_with (first | (go_at_call 156; refine HDC.out.mono ?_; rintro e w2 ⟨rfl, hb⟩; have HB2 := Aside0.mk (below_step HB.out hb); have HN2 := Aside0.mk (Kd.N_below HN.out hb); clear hb) | (at_builtin; refine Kd.N_append Kd.string w.heap.size rfl (.tmp 12) (.tmp 15) 37 9 (.string ⟨#[]⟩) 16 rfl Tryz.underlying37 info9 rfl (by decide) (by decide) (.slice AO xs.length cO) xs (itoaB n) [.string (itoaB n)] (fun k => O k ∨ w2.heap.size ≤ k) (fun _ => False) rfl rfl (fun _ _ => rfl) (fun _ hk => hk.elim) (fun _ h => .inr h) (Kd.N_mono HN2.out (fun _ h => .inl h)) HB2.out HB2.out.size HL16.out ?_; intro v6 w6 hN6 hB6 hg6 hat6; have HN6 := Aside0.mk hN6; have HB6 := Aside0.mk hB6; clear hN6 hB6 hg6 hat6))
      go_roundg (l.length - (kk + 1))
      case measure => omega
      case rel => exact ⟨kk + 1, _, v6, by omega, by omega, rfl, by go_num, ⟨by rw [HTK.out]; exact HN6.out⟩, HB6⟩
    · have hltz : ¬ (kk : Int) < (l.length : Int) := by omega
      have ek : kk = l.length := by omega
      subst ek
      have HTL : Aside0 ((l.take l.length).map itoaB = l.map itoaB) := ⟨by rw [List.take_length]⟩
      have HNZ : Aside0 (Kd.N Kd.string 9 wr w.heap.size O (.slice AO (l.map itoaB).length cO) (l.map itoaB)) := ⟨by rw [← HTL.out]; exact HN.out⟩
      rw [HTL.out]
      clear HN HTL
      have HLM : Aside0 ((l.map itoaB).length = l.length) := ⟨by simp⟩
      have HTX : Aside0 (Lib.join ((l.map itoaB).map (·.data.toList)) [32] = rowText l) := ⟨by
        unfold rowText
        rw [List.map_map]
        congr 1⟩
      have HRL := Aside0.mk (rowText_len l HW.out)
      generalize l.map itoaB = xs at *
      by_cases hx : xs = []
      · subst hx
        have HE : Aside0 (rowText l = []) := ⟨by rw [← HTX.out]; rfl⟩
        go_wp2_with (go_at_call 157; refine (Tryz.strings_Join_none AO cO _ wr).mono ?_; rintro e w7 ⟨rfl, rfl⟩)
        go_ret
        rw [HE.out]
        exact ⟨rfl, HB.out⟩
      · have hpos := List.length_pos_iff.2 hx
        obtain ⟨g, cap, e, hg1, hg2, _⟩ := Kd.N_form HNZ.out hpos
        obtain ⟨rfl, rfl⟩ : AO = some ⟨g, 0, none⟩ ∧ cO = cap := by
          injection e with e1 e2 e3
          exact ⟨e1, e3⟩
        have HRD := Aside0.mk (Kd.N_reads' HNZ.out)
        have HJ := Aside0.mk (Tryz.strings_Join g 0 cO xs ⟨#[32]⟩ wr (fun j y hj => by
          obtain ⟨hjl, hjp⟩ := List.getElem?_eq_some_iff.1 hj
          have := Kd.foot_string HRD.out.2.2 (j : Int) (by omega) (by omega)
          simp only [Int.toNat_natCast, rdOf, List.getD, hj, Option.getD_some, add_plain] at this
          rw [Nat.zero_add]
          exact this) hg2 (by have := HLM.out; omega) HRD.out.2.1 (by
          have e1 : (⟨#[32]⟩ : ByteArray).data.toList = [32] := rfl
          rw [e1, HTX.out]
          have := HRL.out
          omega))
        have e1 : (⟨#[32]⟩ : ByteArray).data.toList = [32] := rfl
        rw [e1, HTX.out] at HJ
        go_wp2_with (go_at_call 157; refine HJ.out.mono ?_; rintro e w7 ⟨rfl, hb⟩)
        go_ret
        exact ⟨rfl, below_step HB.out hb⟩
theorem key_calls (A : Option Addr) (c : Nat) (l : List Int) (w : World) (hr : Kd.C KI w A l.length l) (hl : l.length ≤ 1000) (hw : ∀ n ∈ l, (Lit.int .i64 n).wf = true) (ht : Tab w) :
    Calls Tryz.prog 57 #[.slice A l.length c] w fun e w' => e = .returned (.string ⟨(rowText l).toArray⟩) ∧ Below w.heap.size w w' := by
  have HC := Aside0.mk (row_calls A c l w hr hl hw ht)
  clear hr hl hw ht
  go_enter Tryz.func57, Tryz.ntmps57
  go_wp2_with (go_at_call 117; refine HC.out.mono ?_; rintro e w1 ⟨rfl, hb⟩)
  go_ret
  exact ⟨rfl, hb⟩
end Go.Proofs.YtjgakaembhmhpaaGreatDoor.PA
