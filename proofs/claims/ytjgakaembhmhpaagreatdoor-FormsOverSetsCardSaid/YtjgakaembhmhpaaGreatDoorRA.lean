/- Part of the proof of FormsOverSets (the walk: forms); what it proves holds without further conditions. -/
import Derived.Test.YtjgakaembhmhpaaGreatDoorHA
import Derived.Test.YtjgakaembhmhpaaGreatDoorLA
set_option linter.unusedVariables false
set_option linter.unusedSimpArgs false
namespace Go.Proofs.YtjgakaembhmhpaaGreatDoor.PA
open Go.RowKit Go.Proofs.YtjgakaembhmhpaaGreatDoorW.PrintWords Go.Proofs.YtjgakaembhmhpaaGreatDoorW.PrintLast Go.Proofs.YtjgakaembhmhpaaGreatDoorW.PrintMore Go.Proofs.YtjgakaembhmhpaaGreatDoorM
def IRange (Bl Bh Bi : Nat) (s : Int × Int × Bool) (F : Nat → Prop) (W : World) : Prop :=
  (∀ k, F k → k = Bl ∨ k = Bh ∨ k = Bi) ∧ F Bl ∧ F Bh ∧ F Bi ∧ Bl ≠ Bh ∧ Bl ≠ Bi ∧ Bh ≠ Bi ∧ W.heap[Bl]? = some (.cells #[.int .i64 s.1] 3 (0, 0)) ∧ W.heap[Bh]? = some (.cells #[.int .i64 s.2.1] 3 (0, 0)) ∧ W.heap[Bi]? = some (.cells #[.bool s.2.2] 4 (0, 0))
theorem range_stays (Bl Bh Bi : Nat) : EachStays (IRange Bl Bh Bi) :=
  ⟨fun n F W W' ⟨h0, h1, h2, h3, d1, d2, d3, b1, b2, b3⟩ _ hs => ⟨h0, h1, h2, h3, d1, d2, d3, (hs Bl h1).trans b1, (hs Bh h2).trans b2, (hs Bi h3).trans b3⟩,
   fun n F W ⟨h0, h1, h2, h3, d1, d2, d3, b1, b2, b3⟩ k hk => by
    rcases h0 k hk with e | e | e <;> rw [e]
    · exact blk_lt b1
    · exact blk_lt b2
    · exact blk_lt b3⟩
def stRange (sides : List S77) (f : S33) (s : Int × Int × Bool) (x : List Int) : Bool × (Int × Int × Bool) :=
  (true, if s.2.2 = true then (if valueOf sides x f < s.1 then valueOf sides x f else s.1, if s.2.1 < valueOf sides x f then valueOf sides x f else s.2.1, true) else (valueOf sides x f, valueOf sides x f, true))
set_option maxHeartbeats 4000000 in
theorem range_step (w0 : World) (sides : List S77) (conds : List S33) (f : S33) (As Ac Af : Option Addr) (cs cc cf Bs Bf Bl Bh Bi m : Nat)
    (hbs : w0.heap[Bs]? = some (.cells #[.slice As sides.length cs, .slice Ac conds.length cc] 29 (0, 0))) (hbf : w0.heap[Bf]? = some (.cells #[.int .i64 f.f0, .slice Af f.f1.length cf] 33 (0, 0)))
    (hs : Kd.C k77 w0 As sides.length sides) (hcs : sides.length ≤ cs) (hc : Kd.C k33 w0 Ac conds.length conds) (hcc : conds.length ≤ cc) (hf : Kd.C k79 w0 Af f.f1.length f.f1) (hm : m ≤ 8)
    (hin : ∀ x : List Int, x.length = m → inSides sides x f) :
    EachStep w0 54 #[.pointer (some ⟨Bs, 0, none⟩), .pointer (some ⟨Bf, 0, none⟩), .pointer (some ⟨Bi, 0, none⟩), .pointer (some ⟨Bl, 0, none⟩), .pointer (some ⟨Bh, 0, none⟩)] (fun _ => IRange Bl Bh Bi) (stRange sides f) m := by
  intro W s F X x hI hF hB hX hnX hx
  subst hx
  have HI := Aside0.mk hI
  have HFF := Aside0.mk hF
  have HB := Aside0.mk hB
  have HX := Aside0.mk (hX.reads (by omega))
  have HV := Aside0.mk (value_calls sides conds f x As Ac Af (some ⟨X, 0, none⟩) cs cc cf x.length W (Kd.C_below hs hB) hcs (Kd.C_below hc hB) hcc (Kd.C_below hf hB) HX.out (hin x rfl))
  obtain ⟨h0, h1, h2, h3, d1, d2, d3, b1, b2, b3⟩ := hI
  have s0 : W.cell? ⟨Bs, 0, none⟩ = some (.slice As sides.length cs) := (blk_cell (blk_below hbs hB) 0).trans rfl
  have s1 : W.cell? ⟨Bs, 1, none⟩ = some (.slice Ac conds.length cc) := (blk_cell (blk_below hbs hB) 1).trans rfl
  have f0 : W.cell? ⟨Bf, 0, none⟩ = some (.int .i64 f.f0) := (blk_cell (blk_below hbf hB) 0).trans rfl
  have f1 : W.cell? ⟨Bf, 1, none⟩ = some (.slice Af f.f1.length cf) := (blk_cell (blk_below hbf hB) 1).trans rfl
  have B1 := Aside0.mk b1
  have B2 := Aside0.mk b2
  have B3 := Aside0.mk b3
  have D1 := Aside0.mk d1
  have D2 := Aside0.mk d2
  have D3 := Aside0.mk d3
  clear hF hB hX hs hc hf hin hbs hbf h0 h1 h2 h3 d1 d2 d3 b1 b2 b3
  obtain ⟨lo, hi, is⟩ := s
  cases is with
  | true =>
    have E : stRange sides f (lo, hi, true) x = (true, if valueOf sides x f < lo then valueOf sides x f else lo, if hi < valueOf sides x f then valueOf sides x f else hi, true) := rfl
    rw [E]
    generalize valueOf sides x f = n at *
    generalize hlo : (if n < lo then n else lo) = lo'
    generalize hhi : (if hi < n then n else hi) = hi'
    clear E
    go_enter Tryz.func54, Tryz.ntmps54
    go_wp2_with (go_at_call 55; refine HV.out.mono ?_; rintro e w1 ⟨rfl, hb⟩; have HBB := Aside0.mk hb; have c1 : w1.cell? ⟨Bl, 0, none⟩ = some (.int .i64 lo) := (blk_cell (blk_below B1.out hb) 0).trans rfl; have c2 : w1.cell? ⟨Bh, 0, none⟩ = some (.int .i64 hi) := (blk_cell (blk_below B2.out hb) 0).trans rfl; have c3 : w1.cell? ⟨Bi, 0, none⟩ = some (.bool true) := (blk_cell (blk_below B3.out hb) 0).trans rfl; have g1 := blk_frozen (blk_below B1.out hb) 0; have g2 := blk_frozen (blk_below B2.out hb) 0; have g3 := blk_frozen (blk_below B3.out hb) 0; have d1 := D1.out; have d1' := D1.out.symm; have d2 := D2.out; have d2' := D2.out.symm; have d3 := D3.out; have d3' := D3.out.symm; clear hb)
    go_region
    clear hlo hhi
    go_wp2
    go_ret
    obtain ⟨h0, h1, h2, h3, d1, d2, d3, b1, b2, b3⟩ := HI.out
    have k1 := blk_below b1 HBB.out
    have k2 := blk_below b2 HBB.out
    have k3 := blk_below b3 HBB.out
    have HK : Kept W ((w1.setCell ⟨Bl, 0, none⟩ (.int .i64 lo')).setCell ⟨Bh, 0, none⟩ (.int .i64 hi')) F := ((Kept.of_below HBB.out F).setCell (.inl h1) _).setCell (.inl h2) _
    have HB2 : Below w0.heap.size w0 ((w1.setCell ⟨Bl, 0, none⟩ (.int .i64 lo')).setCell ⟨Bh, 0, none⟩ (.int .i64 hi')) := ((below_then HB.out HB.out.size HBB.out).setCell (HFF.out _ h1) _).setCell (HFF.out _ h2) _
    refine ⟨rfl, F, ⟨h0, h1, h2, h3, d1, d2, d3, ?_, ?_, ?_⟩, fun k hk => .inl hk, HK.drew, below_drew HB2⟩
    · exact blk_far (blk_put k1 0 _ rfl) d1 _
    · exact blk_put (blk_far k2 d1.symm _) 0 _ rfl
    · exact blk_far (blk_far k3 d2.symm _) d3.symm _
  | false =>
    have E : stRange sides f (lo, hi, false) x = (true, valueOf sides x f, valueOf sides x f, true) := rfl
    rw [E]
    clear E
    generalize valueOf sides x f = n at *
    have hn : ¬ n < n := Int.lt_irrefl n
    go_enter Tryz.func54, Tryz.ntmps54
    go_wp2_with (go_at_call 55; refine HV.out.mono ?_; rintro e w1 ⟨rfl, hb⟩; have HBB := Aside0.mk hb; have c1 : w1.cell? ⟨Bl, 0, none⟩ = some (.int .i64 lo) := (blk_cell (blk_below B1.out hb) 0).trans rfl; have c2 : w1.cell? ⟨Bh, 0, none⟩ = some (.int .i64 hi) := (blk_cell (blk_below B2.out hb) 0).trans rfl; have c3 : w1.cell? ⟨Bi, 0, none⟩ = some (.bool false) := (blk_cell (blk_below B3.out hb) 0).trans rfl; have g1 := blk_frozen (blk_below B1.out hb) 0; have g2 := blk_frozen (blk_below B2.out hb) 0; have g3 := blk_frozen (blk_below B3.out hb) 0; have d1 := D1.out; have d1' := D1.out.symm; have d2 := D2.out; have d2' := D2.out.symm; have d3 := D3.out; have d3' := D3.out.symm; clear hb)
    go_region
    go_wp2
    go_ret
    obtain ⟨h0, h1, h2, h3, d1, d2, d3, b1, b2, b3⟩ := HI.out
    have k1 := blk_below b1 HBB.out
    have k2 := blk_below b2 HBB.out
    have k3 := blk_below b3 HBB.out
    refine ⟨rfl, F, ⟨h0, h1, h2, h3, d1, d2, d3, ?_, ?_, ?_⟩, fun k hk => .inl hk, Kept.drew (((((Kept.of_below HBB.out F).setCell (.inl h1) _).setCell (.inl h2) _).setCell (.inl h3) _).setCell (.inl h1) _ |>.setCell (.inl h2) _), below_drew ((((((below_then HB.out HB.out.size HBB.out).setCell (HFF.out _ h1) _).setCell (HFF.out _ h2) _).setCell (HFF.out _ h3) _).setCell (HFF.out _ h1) _).setCell (HFF.out _ h2) _)⟩
    · exact blk_far (blk_put (blk_far (blk_far (blk_put k1 0 _ rfl) d1 _) d2 _) 0 _ rfl) d1 _
    · exact blk_put (blk_far (blk_far (blk_put (blk_far k2 d1.symm _) 0 _ rfl) d3 _) d1.symm _) 0 _ rfl
    · exact blk_far (blk_far (blk_put (blk_far (blk_far k3 d2.symm _) d3.symm _) 0 _ rfl) d2.symm _) d3.symm _
theorem results_tmp4 {fn : Func} {t u v x : Tmp} (h : fn.results = #[.tmp t, .tmp u, .tmp v, .tmp x]) (tmps : Array Value) (P : Program) (w : World) :
    (results fn tmps).run P w = .ok (.tuple #[tmps.getD t undef, tmps.getD u undef, tmps.getD v undef, tmps.getD x undef]) w := by
  simp [results, h]
structure FormAt (Af : Option Addr) (cf : Nat) (f : S33) (w : World) : Prop where
  tm : Kd.C k79 w Af f.f1.length f.f1
  tc : f.f1.length ≤ cf
  n1 : f.f1.length ≤ 1000
  n2 : ∀ t ∈ f.f1, t.f0.size ≤ 100
theorem FormAt.below {Af : Option Addr} {cf : Nat} {f : S33} {w w' : World} (h : FormAt Af cf f w) (hb : Below w.heap.size w w') : FormAt Af cf f w' :=
  ⟨Kd.C_below h.tm hb, h.tc, h.n1, h.n2⟩
theorem L_over {A A' Af : Option Addr} {c c' cf : Nat} {l0 : List S77} {l1 : List S33} {f : S33} {w : World} (h : SetAt A c l0 A' c' l1 w) (g : FormAt Af cf f w) :
    Calls Tryz.prog 52 #[.agg #[.slice A l0.length c, .slice A' l1.length c'], .agg #[.int .i64 f.f0, .slice Af f.f1.length cf]] w fun e w' => e = .returned (.int .i64 (overS (l0.map (·.f0)) f)) ∧ Below w.heap.size w w' :=
  affine_checkOver.calls 300000 A c l0 A' c' l1 f.f0 Af cf f.f1 _ w h.hs h.hc h.ks h.kc g.tm g.tc (checkOver_f l0 l1 f g.n1 g.n2 300000 (by omega))
theorem inSides_of {sides : List S77} {f : S33} (h : overS (sides.map (·.f0)) f = 0) (x : List Int) (hx : x.length = sides.length) : inSides sides x f := by
  intro t ht
  unfold overS at h
  by_cases h0 : formFaultS f.f0 f.f1 = 0
  · rw [if_pos h0] at h
    by_cases ha : f.f1.all (fun t => (sides.map (·.f0)).any fun x => decide (t.f0 = x)) = true
    · have hm := List.all_eq_true.1 ha t ht
      simp only [List.any_eq_true, decide_eq_true_eq] at hm
      obtain ⟨y, hy, rfl⟩ := hm
      obtain ⟨n, h1, h2, _⟩ := idx_at sides t.f0 hy
      rw [h2, hx]
      omega
    · rw [if_neg ha] at h
      exact absurd h (by decide)
  · rw [if_neg h0] at h
    exact absurd h h0
theorem range_start (w : World) : IRange w.heap.size (w.heap.size + 1) (w.heap.size + 1 + 1) (0, 0, false) (fun b => b = w.heap.size ∨ b = w.heap.size + 1 ∨ b = w.heap.size + 1 + 1) (((w.alloc (.cells #[.int .i64 0] 3)).alloc (.cells #[.int .i64 0] 3)).alloc (.cells #[.bool false] 4)) := by
  refine ⟨fun k hk => hk, .inl rfl, .inr (.inl rfl), .inr (.inr rfl), by omega, by omega, by omega, blk_alloc (blk_alloc (blk_new w _) _) _, ?_, ?_⟩
  · refine blk_alloc ?_ _
    have := blk_new (w.alloc (.cells #[.int .i64 0] 3)) (.cells #[.int .i64 0] 3)
    simpa using this
  · have := blk_new ((w.alloc (.cells #[.int .i64 0] 3)).alloc (.cells #[.int .i64 0] 3)) (.cells #[.bool false] 4)
    simpa using this
def rangeS (sides : List S77) (conds : List S33) (f : S33) : Int × Int × Bool := runL (fun _ => true) (stRange sides f) (0, 0, false) (ptsOf sides conds)
def rangeV (sides : List S77) (conds : List S33) (f : S33) : Int × Int × Bool × Int :=
  if setFault sides conds = 0 then (if overS (sides.map (·.f0)) f = 0 then ((rangeS sides conds f).1, (rangeS sides conds f).2.1, (rangeS sides conds f).2.2, 0) else (0, 0, false, overS (sides.map (·.f0)) f)) else (0, 0, false, setFault sides conds)
set_option maxHeartbeats 4000000 in
theorem L_range {A A' Af : Option Addr} {c c' cf : Nat} {l0 : List S77} {l1 : List S33} {f : S33} {w : World} (h : SetAt A c l0 A' c' l1 w) (g : FormAt Af cf f w) {r1 r2 : Int} {r3 : Bool} {r4 : Int} (e : rangeV l0 l1 f = (r1, r2, r3, r4)) :
    Calls Tryz.prog 12 #[.agg #[.slice A l0.length c, .slice A' l1.length c'], .agg #[.int .i64 f.f0, .slice Af f.f1.length cf]] w fun e w' => e = .returned (.tuple #[.int .i64 r1, .int .i64 r2, .bool r3, .int .i64 r4]) ∧ Below w.heap.size w w' := by
  have HA := Aside0.mk h
  have HG := Aside0.mk g
  have hB1 := Aside0.mk (below_alloc (below_alloc (Below.refl w.heap.size w) (.cells #[.slice A l0.length c, .slice A' l1.length c'] 29)) (.cells #[.int .i64 f.f0, .slice Af f.f1.length cf] 33))
  have hb1 := Aside0.mk (blk_alloc (blk_new w (.cells #[.slice A l0.length c, .slice A' l1.length c'] 29)) (.cells #[.int .i64 f.f0, .slice Af f.f1.length cf] 33))
  have hb2 := Aside0.mk (blk_new (w.alloc (.cells #[.slice A l0.length c, .slice A' l1.length c'] 29)) (.cells #[.int .i64 f.f0, .slice Af f.f1.length cf] 33))
  clear h g
  have eg := enters_of Tryz.func54 (by kernel_rfl) rfl
  unfold rangeV at e
  by_cases e0 : setFault l0 l1 = 0
  · rw [if_pos e0] at e
    by_cases e1 : overS (l0.map (·.f0)) f = 0
    · rw [if_pos e1] at e
      simp only [Prod.mk.injEq] at e
      have HV := Aside0.mk (valid_of e0)
      have HOV := Aside0.mk e1
      have HE0 := Aside0.mk e0
      have HE := Aside0.mk (show rangeS l0 l1 f = (r1, r2, r3) from Prod.ext e.1 (Prod.ext e.2.1 e.2.2.1))
      obtain rfl := e.2.2.2
      clear e e0 e1
      have HL0 := Aside0.mk (show ∀ {W : World}, SetAt A c l0 A' c' l1 W → Calls Tryz.prog 51 #[.agg #[.slice A l0.length c, .slice A' l1.length c']] W fun e w' => e = .returned (.int .i64 0) ∧ Below W.heap.size W w' from fun h => (L_check h).mono fun e w' ⟨he, hb⟩ => ⟨by rw [he, HE0.out], hb⟩)
      go_enter Tryz.func12, Tryz.ntmps12
      go_wp2_with (first | (go_at_call 51; refine (HL0.out (HA.out.below hB1.out)).mono ?_; rintro e w1 ⟨rfl, hb⟩; have HBB := Aside0.mk (below_step hB1.out hb); have y0 : w1.cell? ⟨w.heap.size, 0, none⟩ = some (.slice A l0.length c) := (blk_cell (blk_below hb1.out hb) 0).trans rfl; have y1 : w1.cell? ⟨w.heap.size, 1, none⟩ = some (.slice A' l1.length c') := (blk_cell (blk_below hb1.out hb) 1).trans rfl; have y2 : w1.cell? ⟨w.heap.size + 1, 0, none⟩ = some (.int .i64 f.f0) := (blk_cell (blk_below (by simpa using hb2.out) hb) 0).trans rfl; have y3 : w1.cell? ⟨w.heap.size + 1, 1, none⟩ = some (.slice Af f.f1.length cf) := (blk_cell (blk_below (by simpa using hb2.out) hb) 1).trans rfl; have HX1 := Aside0.mk (blk_below hb1.out hb); have HX2 : Aside0 (w1.heap[w.heap.size + 1]? = some (.cells #[.int .i64 f.f0, .slice Af f.f1.length cf] 33)) := ⟨blk_below (by simpa using hb2.out) hb⟩; clear hb) | (go_at_call 52; refine (L_over (HA.out.below HBB.out) (HG.out.below HBB.out)).mono ?_; rintro e w2 ⟨rfl, hb⟩; rw [HOV.out]; have HB2 := Aside0.mk (below_step HBB.out hb); have z0 : w2.cell? ⟨w.heap.size, 0, none⟩ = some (.slice A l0.length c) := (blk_cell (blk_below HX1.out hb) 0).trans rfl; have z1 : w2.cell? ⟨w.heap.size, 1, none⟩ = some (.slice A' l1.length c') := (blk_cell (blk_below HX1.out hb) 1).trans rfl; have HY1 := Aside0.mk (blk_below HX1.out hb); have HY2 := Aside0.mk (blk_below HX2.out hb); have zl := blk_lt HY1.out; have zl1 := Nat.lt_succ_of_lt zl; have zl2 := Nat.lt_succ_of_lt zl1; rw [Nat.succ_eq_add_one] at zl1 zl2; have HSA := Aside0.mk (HA.out.below HB2.out); have HGA := Aside0.mk (HG.out.below HB2.out); clear hb) | (go_at_call 53; refine (each_calls 300000 54 _ (fun _ => IRange w2.heap.size (w2.heap.size + 1) (w2.heap.size + 1 + 1)) (stRange l0 f) l0 l1 _ _ _ _ (0, 0, false) (r1, r2, r3) (fun b => b = w2.heap.size ∨ b = w2.heap.size + 1 ∨ b = w2.heap.size + 1 + 1) w2 _ HSA.out.hs HSA.out.hc HSA.out.ks HSA.out.kc (below_alloc (below_alloc (below_alloc (Below.refl _ _) _) _) _) (range_start w2) (fun b hk => by omega) (range_step w2 l0 l1 f A A' Af c c' cf _ _ _ _ _ _ HY1.out HY2.out HSA.out.hs HSA.out.hc HSA.out.ks HSA.out.kc HGA.out.tm HV.out.len (fun x hx => inSides_of HOV.out x hx)) (range_stays _ _ _) (fun _ _ _ h => h) eg HV.out.len (okSet_all (okSet_valid HV.out)).2 ((each_pts HV.out (stRange l0 f) (0, 0, false) 300000 (by omega)).trans (congrArg some HE.out))).mono ?_; rintro e w3 ⟨rfl, F', ⟨i0, i1, i2, i3, d1, d2, d3, b1, b2, b3⟩, i4, i5, i6⟩; have HB3 := Aside0.mk (below_step HB2.out i6); have t1 : w3.cell? ⟨w2.heap.size, 0, none⟩ = some (.int .i64 r1) := (blk_cell b1 0).trans rfl; have t2 : w3.cell? ⟨w2.heap.size + 1, 0, none⟩ = some (.int .i64 r2) := (blk_cell b2 0).trans rfl; have t3 : w3.cell? ⟨w2.heap.size + 1 + 1, 0, none⟩ = some (.bool r3) := (blk_cell b3 0).trans rfl; clear i0 i1 i2 i3 d1 d2 d3 b1 b2 b3 i4 i5 i6))
      go_quiet (fail)
      go_wp2
      refine bodyPost_ret (results_tmp4 rfl _ _ _) rfl ?_
      exact ⟨rfl, pw_below_drewN HB3.out _⟩
    · rw [if_neg e1] at e
      simp only [Prod.mk.injEq] at e
      obtain ⟨rfl, rfl, rfl, rfl⟩ := e
      have e2 : (overS (l0.map (·.f0)) f != 0) = true := bne_iff_ne.2 e1
      have HE0 := Aside0.mk e0
      clear e0
      have HL0 := Aside0.mk (show ∀ {W : World}, SetAt A c l0 A' c' l1 W → Calls Tryz.prog 51 #[.agg #[.slice A l0.length c, .slice A' l1.length c']] W fun e w' => e = .returned (.int .i64 0) ∧ Below W.heap.size W w' from fun h => (L_check h).mono fun e w' ⟨he, hb⟩ => ⟨by rw [he, HE0.out], hb⟩)
      go_enter Tryz.func12, Tryz.ntmps12
      go_wp2_with (first | (go_at_call 51; refine (HL0.out (HA.out.below hB1.out)).mono ?_; rintro e w1 ⟨rfl, hb⟩; have HBB := Aside0.mk (below_step hB1.out hb); have y0 : w1.cell? ⟨w.heap.size, 0, none⟩ = some (.slice A l0.length c) := (blk_cell (blk_below hb1.out hb) 0).trans rfl; have y1 : w1.cell? ⟨w.heap.size, 1, none⟩ = some (.slice A' l1.length c') := (blk_cell (blk_below hb1.out hb) 1).trans rfl; have y2 : w1.cell? ⟨w.heap.size + 1, 0, none⟩ = some (.int .i64 f.f0) := (blk_cell (blk_below (by simpa using hb2.out) hb) 0).trans rfl; have y3 : w1.cell? ⟨w.heap.size + 1, 1, none⟩ = some (.slice Af f.f1.length cf) := (blk_cell (blk_below (by simpa using hb2.out) hb) 1).trans rfl; clear hb) | (go_at_call 52; refine (L_over (HA.out.below HBB.out) (HG.out.below HBB.out)).mono ?_; rintro e w2 ⟨rfl, hb⟩; have HB2 := Aside0.mk (below_step HBB.out hb); clear hb))
      (try simp only [Exit.inBlock, Exit.then])
      refine bodyPost_ret (results_tmp4 rfl _ _ _) rfl ?_
      exact ⟨rfl, HB2.out⟩
  · rw [if_neg e0] at e
    simp only [Prod.mk.injEq] at e
    obtain ⟨rfl, rfl, rfl, rfl⟩ := e
    have e2 : (setFault l0 l1 != 0) = true := bne_iff_ne.2 e0
    go_enter Tryz.func12, Tryz.ntmps12
    go_wp2_with (go_at_call 51; refine (L_check (HA.out.below hB1.out)).mono ?_; rintro e w1 ⟨rfl, hb⟩; have HBB := Aside0.mk (below_step hB1.out hb); clear hb)
    (try simp only [Exit.inBlock, Exit.then])
    refine bodyPost_ret (results_tmp4 rfl _ _ _) rfl ?_
    exact ⟨rfl, HBB.out⟩
set_option maxHeartbeats 4000000 in
theorem L_implies {A A' Af : Option Addr} {c c' cf : Nat} {l0 : List S77} {l1 : List S33} {f : S33} {w : World} (h : SetAt A c l0 A' c' l1 w) (g : FormAt Af cf f w) {r1 r2 : Int} {r3 : Bool} {r4 : Int} (e : rangeV l0 l1 f = (r1, r2, r3, r4)) :
    Calls Tryz.prog 13 #[.agg #[.slice A l0.length c, .slice A' l1.length c'], .agg #[.int .i64 f.f0, .slice Af f.f1.length cf]] w fun e w' => e = .returned (.tuple #[.bool (decide (r4 = 0) && (!r3 || decide (0 ≤ r1))), .int .i64 r4]) ∧ Below w.heap.size w w' := by
  have hB1 := Aside0.mk (below_alloc (below_alloc (Below.refl w.heap.size w) (.cells #[.slice A l0.length c, .slice A' l1.length c'] 29)) (.cells #[.int .i64 f.f0, .slice Af f.f1.length cf] 33))
  have HC := Aside0.mk (L_range (h.below hB1.out) (g.below hB1.out) e)
  clear h g e
  by_cases e4 : r4 = 0
  · subst e4
    cases r3 with
    | true =>
      by_cases h1 : 0 ≤ r1
      · go_enter Tryz.func13, Tryz.ntmps13
        go_wp2_with (go_at_call 12; refine HC.out.mono ?_; rintro e w1 ⟨rfl, hb⟩)
        go_ret2
        exact ⟨by simp [h1], below_step hB1.out hb⟩
      · go_enter Tryz.func13, Tryz.ntmps13
        go_wp2_with (go_at_call 12; refine HC.out.mono ?_; rintro e w1 ⟨rfl, hb⟩)
        go_ret2
        exact ⟨by simp [h1], below_step hB1.out hb⟩
    | false =>
      go_enter Tryz.func13, Tryz.ntmps13
      go_wp2_with (go_at_call 12; refine HC.out.mono ?_; rintro e w1 ⟨rfl, hb⟩)
      go_ret2
      exact ⟨by simp, below_step hB1.out hb⟩
  · have e2 : (r4 != 0) = true := bne_iff_ne.2 e4
    go_enter Tryz.func13, Tryz.ntmps13
    go_wp2_with (go_at_call 12; refine HC.out.mono ?_; rintro e w1 ⟨rfl, hb⟩)
    go_ret2
    exact ⟨by simp [e4], below_step hB1.out hb⟩
end Go.Proofs.YtjgakaembhmhpaaGreatDoor.PA
