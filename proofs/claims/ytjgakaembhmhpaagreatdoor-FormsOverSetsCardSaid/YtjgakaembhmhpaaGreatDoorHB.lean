/- Part of the proof of FormsOverSets (the walk: the reference's functions); what it proves holds without further conditions. -/
import Derived.Maps.OwnOps
import Derived.Maps.RangeWalk
import Derived.Maps.Views
import Derived.Shelf.Abstract
import Derived.Test.YtjgakaembhmhpaaGreatDoorHA
set_option linter.unusedVariables false
set_option linter.unusedSimpArgs false
namespace Go.Proofs.YtjgakaembhmhpaaGreatDoor.PA
open Go.RowKit Go.WideMaps Go.Proofs.YtjgakaembhmhpaaGreatDoorW.PrintWords Go.Proofs.YtjgakaembhmhpaaGreatDoorW.PrintLast Go.Proofs.YtjgakaembhmhpaaGreatDoorW.PrintMore Go.Proofs.YtjgakaembhmhpaaGreatDoorM
open Go.Maps (Keyed string_keyed)
theorem mlaw : Keyed Tryz.prog 9 := string_keyed Tryz.underlying9
theorem mzero (w : World) : (zeroValue 3).run Tryz.prog w = .ok (.int .i64 0) w := by kernel_rfl
abbrev ML := Lit × DataW Unit
def kS (s : ByteArray) : Lit := .string s.data.toList
def zI : DataW Unit := .lit (.int .i64 0)
def litI : DataW Unit → Int | .lit (.int _ c) => c | _ => 0
def mAt (D : DataW Unit) (s : ByteArray) : Int := litI (D.atKey (kS s) zI)
def ents : DataW Unit → List ML | .map es => es | _ => []
def isum (g : ML → Int) : List ML → Int
  | [] => 0
  | p :: r => g p + isum g r
theorem isum_perm {g : ML → Int} {l l' : List ML} (h : l.Perm l') : isum g l = isum g l' := by
  induction h with
  | nil => rfl
  | cons x _ ih => simp only [isum, ih]
  | swap x y l => simp only [isum]; omega
  | trans _ _ h1 h2 => exact h1.trans h2
theorem isum_congr {g g' : ML → Int} : ∀ {l : List ML}, (∀ p ∈ l, g p = g' p) → isum g l = isum g' l
  | [], _ => rfl
  | p :: r, h => by simp only [isum, h p (by simp), isum_congr (l := r) (fun q hq => h q (by simp [hq]))]
theorem isum_zero {g : ML → Int} : ∀ {l : List ML}, (∀ p ∈ l, g p = 0) → isum g l = 0
  | [], _ => rfl
  | p :: r, h => by simp only [isum, h p (by simp), isum_zero (l := r) (fun q hq => h q (by simp [hq]))]; rfl
theorem isum_filter (g : ML → Int) (f : ML → Bool) : ∀ l : List ML, isum g (l.filter f) = isum (fun p => if f p then g p else 0) l
  | [] => rfl
  | p :: r => by
    cases hf : f p
    · simp only [List.filter_cons, hf, isum, isum_filter g f r, Bool.false_eq_true, if_false]; omega
    · simp only [List.filter_cons, hf, isum, isum_filter g f r, if_true]
theorem isum_split (g : ML → Int) (k : Lit) : ∀ l : List ML, l.Pairwise (fun p q => p.1 ≠ q.1) →
    isum g l = (match l.find? (fun p => p.1.sameKey k) with | some p => g p | none => 0) + isum (fun p => if p.1.sameKey k then 0 else g p) l
  | [], _ => by simp [isum]
  | p :: r, h => by
    obtain ⟨h1, h2⟩ := List.pairwise_cons.1 h
    cases hk : p.1.sameKey k
    · have ih := isum_split g k r h2
      simp only [isum, List.find?_cons, hk, ih]
      simp only [Bool.false_eq_true, if_false]
      omega
    · have e : p.1 = k := WideAt.sameKey_eq hk
      have hr : isum (fun p => if p.1.sameKey k then 0 else g p) r = isum g r := isum_congr (fun q hq => by
        rw [if_neg]
        intro hs
        exact h1 q hq (e.trans (WideAt.sameKey_eq hs).symm))
      simp only [isum, List.find?_cons, hk, hr, if_true]
      omega
def mSum (D : DataW Unit) (G : Lit → Int) : Int := isum (fun p => litI p.2 * G p.1) (ents D)
def Neat (D : DataW Unit) : Prop := ∃ es, D = .map es ∧ es.Pairwise (fun p q => p.1 ≠ q.1)
theorem isKey (s : ByteArray) : WideAt.IsKeyLit (kS s) := trivial
theorem kS_inj {s t : ByteArray} (h : kS s = kS t) : s = t := by
  unfold kS at h
  injection h with h
  cases s with | mk a => cases t with | mk b =>
    cases a; cases b; simp_all
theorem kS_key {s : ByteArray} (h : s.size ≤ maxLen) : keyOf Tryz.prog 9 (.string s) = some (kS s) := keyOf_string_mk Tryz.underlying9 h
theorem litI_atKey (es : List ML) (k : Lit) : litI ((DataW.map es).atKey k zI) = (match es.find? (fun p => p.1.sameKey k) with | some p => litI p.2 | none => 0) := by
  cases hf : es.find? (fun p => p.1.sameKey k) with
  | none => simp only [DataW.atKey, hf]; rfl
  | some p => simp only [DataW.atKey, hf]
theorem neat_isMap {D : DataW Unit} (h : Neat D) : Maps.IsMap D := let ⟨es, e, _⟩ := h; ⟨es, e⟩
theorem mSum_split {D : DataW Unit} (h : Neat D) (G : Lit → Int) (k : Lit) :
    mSum D G = litI (D.atKey k zI) * G k + isum (fun p => if p.1.sameKey k then 0 else litI p.2 * G p.1) (ents D) := by
  obtain ⟨es, rfl, hp⟩ := h
  rw [litI_atKey]
  show isum _ es = _ + isum _ es
  rw [isum_split _ k es hp]
  congr 1
  cases hf : es.find? (fun p => p.1.sameKey k) with
  | none => simp
  | some p => simp only; rw [WideAt.sameKey_eq (show p.1.sameKey k = true from by simpa using List.find?_some hf)]
theorem mSum_put {D : DataW Unit} (h : Neat D) (G : Lit → Int) (k : Lit) (d : DataW Unit) : mSum (D.put k d) G = mSum D G - litI (D.atKey k zI) * G k + litI d * G k := by
  rw [mSum_split h G k]
  obtain ⟨es, rfl, hp⟩ := h
  show isum _ (DataW.insert (k, d) (es.filter fun p => !p.1.sameKey k)) = _ - _ + _
  rw [isum_perm (Go.WideShapes.insert_perm (k, d) _), isum, isum_filter]
  have : isum (fun p => if (!p.1.sameKey k) = true then litI p.2 * G p.1 else 0) es = isum (fun p => if p.1.sameKey k then 0 else litI p.2 * G p.1) (ents (.map es)) := isum_congr (fun p _ => by cases p.1.sameKey k <;> rfl)
  rw [this]
  simp only
  omega
theorem owns_neat {w : World} {b n : Nat} {D : DataW Unit} (h : w.ownsMap Tryz.prog 9 (plainElem Tryz.prog 3) b n D) : Neat D := by
  obtain ⟨es, rfl, hp, _⟩ := h.entries mlaw
  exact ⟨es, rfl, hp⟩
theorem mAt_put {D : DataW Unit} (h : Neat D) (s t : ByteArray) (v : Int) : mAt (D.put (kS s) (.lit (.int .i64 v))) t = if t = s then v else mAt D t := by
  unfold mAt
  by_cases e : t = s
  · subst e
    rw [if_pos rfl, Maps.atKey_put_same (neat_isMap h) (isKey t)]
    rfl
  · rw [if_neg e, Maps.atKey_put_other (fun e' => e (kS_inj e'))]
theorem wpList_insert_own {H : Type} {P : Program} (w : World) {ops : Array Oper} {rest : List Oper} {o : Oper} {a : Act} {Q : Exit → Act → World → Prop}
    (hg : o.guard = none) (m x v : Operand) (t : TypeId) (hop : o.op = Op.insert t m x v)
    (k e : TypeId) (K : Keyed P k) (ht : P.underlying t = some (.map k e)) (R : Value → Option (DataW H × List MemPlace)) (b n : Nat) (D : DataW H)
    (hm : a.eval m = .map (some b)) (hown : w.ownsMap P k R b n D) (hn : n < maxLen) (key val : Value) (kl : Lit) (hx : a.eval x = key) (hv : a.eval v = val) (hkey : keyOf P k key = some kl)
    (d : DataW H) (ps : List MemPlace) (hval : R val = some (d, ps))
    (hK : ∀ w', w'.ownsMap P k R b (n + 1) (D.put kl d) → w.grownBy w' (some b) → wpList P ops Q rest (a.put o.dst undef) w') :
    wpList P ops Q (o :: rest) a w := by
  refine wpList_plain hg fun K' hK' => ?_
  obtain ⟨w', hrun, r1, r2⟩ := hown.update K ht hn hkey hval
  unfold Oper.wp
  simp [execOp, hop, hm, hx, hv, hrun, Result.andThen]
  exact hK' _ _ (hK w' r1 r2)
def leftSum (D : DataW Unit) (G : Lit → Int) (k0 : Lit) (left : Lit → Bool) : Int := isum (fun p => if left p.1 || p.1.sameKey k0 then 0 else litI p.2 * G p.1) (ents D)
theorem leftSum_start {D : DataW Unit} {w : World} {b n : Nat} (h : w.ownsMap Tryz.prog 9 (plainElem Tryz.prog 3) b n D) (G : Lit → Int) (k0 : Lit) : leftSum D G k0 (Maps.has D) = 0 := by
  obtain ⟨es, rfl, hp, hk⟩ := h.entries mlaw
  refine isum_zero (fun p hp => ?_)
  have : Maps.has (DataW.map es) p.1 = true := List.any_eq_true.2 ⟨p, hp, WideAt.sameKey_self (hk p hp)⟩
  simp [this]
theorem leftSum_end {D : DataW Unit} (h : Neat D) (G : Lit → Int) (k0 : Lit) {left : Lit → Bool} (hl : ∀ kl, left kl = false) : litI (D.atKey k0 zI) * G k0 + leftSum D G k0 left = mSum D G := by
  rw [mSum_split h G k0]
  congr 1
  exact isum_congr (fun p _ => by simp [hl])
theorem leftSum_step {D : DataW Unit} (h : Neat D) (G : Lit → Int) (k0 : Lit) {left : Lit → Bool} {kl : Lit} {c : Int} (hkl : WideAt.IsKeyLit kl) (hl : left kl = true) (hat : ∀ zd, D.atKey kl zd = .lit (.int .i64 c)) :
    leftSum D G k0 (fun z => left z && !z.sameKey kl) = leftSum D G k0 left + (if kl.sameKey k0 then 0 else c * G kl) := by
  obtain ⟨es, rfl, hp⟩ := h
  unfold leftSum
  show isum _ es = isum _ es + _
  rw [isum_split _ kl es hp, isum_split (fun p => if left p.1 || p.1.sameKey k0 then 0 else litI p.2 * G p.1) kl es hp]
  have h1 : isum (fun p => if p.1.sameKey kl then 0 else if (left p.1 && !p.1.sameKey kl) || p.1.sameKey k0 then 0 else litI p.2 * G p.1) es = isum (fun p => if p.1.sameKey kl then 0 else if left p.1 || p.1.sameKey k0 then 0 else litI p.2 * G p.1) es := isum_congr (fun p _ => by cases p.1.sameKey kl <;> simp)
  rw [h1]
  have hf : ∃ p, es.find? (fun p => p.1.sameKey kl) = some p ∧ p.2 = .lit (.int .i64 c) := by
    cases hf : es.find? (fun p => p.1.sameKey kl) with
    | none =>
      have e0 := hat .nil
      have : (DataW.map es).atKey kl (.nil : DataW Unit) = .nil := by
        simp only [DataW.atKey, hf]
      rw [this] at e0
      cases e0
    | some p =>
      have e0 := hat .nil
      have : (DataW.map es).atKey kl (.nil : DataW Unit) = p.2 := by
        simp only [DataW.atKey, hf]
      exact ⟨p, rfl, this.symm.trans e0⟩
  obtain ⟨p, hf, hp2⟩ := hf
  have e1 := WideAt.sameKey_eq (show p.1.sameKey kl = true from by simpa using List.find?_some hf)
  rw [hf]
  simp only [e1, hp2, hl, WideAt.sameKey_self hkl, litI]
  cases kl.sameKey k0 <;> simp <;> omega
def tsum (G : Lit → Int) : List S79 → Int
  | [] => 0
  | t :: r => t.f1 * G (kS t.f0) + tsum G r
theorem tsum_append (G : Lit → Int) : ∀ a b : List S79, tsum G (a ++ b) = tsum G a + tsum G b
  | [], b => by simp [tsum]
  | t :: r, b => by simp only [List.cons_append, tsum, tsum_append G r b]; omega
abbrev MO (w : World) (b n : Nat) (D : DataW Unit) : Prop := w.ownsMap Tryz.prog 9 (plainElem Tryz.prog 3) b n D
def PolyIs (D : DataW Unit) (c : Int) (l : List S79) : Prop := ∀ G : Lit → Int, wrap64 (mSum D G) = wrap64 (c * G (kS ⟨#[]⟩) + tsum G l)
theorem poly_start (c : Int) : PolyIs ((DataW.map [] : DataW Unit).put (kS ⟨#[]⟩) (.lit (.int .i64 c))) c [] := by
  intro G
  rw [mSum_put ⟨[], rfl, List.Pairwise.nil⟩]
  have h1 : mSum (DataW.map []) G = 0 := rfl
  have h2 : litI ((DataW.map [] : DataW Unit).atKey (kS ⟨#[]⟩) zI) = 0 := rfl
  rw [h1, h2]
  simp only [tsum, litI]
  congr 1
  omega
theorem poly_step {D : DataW Unit} {c : Int} {l : List S79} (hn : Neat D) (h : PolyIs D c l) (t : S79) {q : Int} (hq : D.atKey (kS t.f0) (.lit (.int .i64 0)) = .lit (.int .i64 q)) :
    PolyIs (D.put (kS t.f0) (.lit (.int .i64 (wrap64 (q + t.f1))))) c (l ++ [t]) := by
  intro G
  rw [mSum_put hn]
  have h2 : litI (D.atKey (kS t.f0) zI) = q := by unfold zI; rw [hq]; rfl
  rw [h2, tsum_append]
  have h3 := h G
  simp only [tsum, litI]
  generalize G (kS t.f0) = g at *
  generalize mSum D G = S at *
  generalize c * G (kS ⟨#[]⟩) = C at *
  generalize tsum G l = T at *
  have h4 : ∃ z, wrap64 (q + t.f1) = q + t.f1 + 18446744073709551616 * z := ⟨-((q + t.f1 + 9223372036854775808) / 18446744073709551616), by unfold wrap64; omega⟩
  obtain ⟨z, hz⟩ := h4
  rw [hz]
  have h5 : S - q * g + (q + t.f1 + 18446744073709551616 * z) * g = S + t.f1 * g + 18446744073709551616 * (z * g) := by
    rw [Int.add_mul, Int.add_mul, Int.mul_assoc]
    omega
  rw [h5]
  generalize z * g = u
  generalize t.f1 * g = v
  unfold wrap64 at *
  omega
set_option maxHeartbeats 4000000 in
set_option maxRecDepth 100000 in
theorem polyOf_calls (c0 : Int) (l : List S79) (A : Option Addr) (c : Nat) (w : World) (hr : Kd.C k79 w A l.length l) (hc0 : (Lit.int .i64 c0).wf = true) (hn : l.length < 1000) (hs : ∀ t ∈ l, t.f0.size ≤ maxLen) :
    Calls Tryz.prog 66 #[.agg #[.int .i64 c0, .slice A l.length c]] w fun e w' => ∃ b D, e = .returned (.map (some b)) ∧ w.heap.size ≤ b ∧ MO w' b (l.length + 1) D ∧ Aside0 (PolyIs D c0 l) ∧ Below w.heap.size w w' := by
  have HR := Aside0.mk hr
  have HS := Aside0.mk hs
  have hm := HR.out.2.1
  have hkE : keyOf Tryz.prog 9 (.string ⟨#[]⟩) = some (kS ⟨#[]⟩) := kS_key (Nat.zero_le _)
  clear hr hs
  have hmm := @run_makeMap Tryz.prog
  have hom : ∀ o, MO ((w.alloc o).alloc (.map #[] 0)) (w.heap.size + 1) 0 (.map []) := fun o => by
    have := World.ownsMap_made (H := Unit) (w.alloc o) Tryz.prog 9 (plainElem Tryz.prog 3)
    rwa [show (w.alloc o).heap.size = w.heap.size + 1 by simp] at this
  go_enter Tryz.func66, Tryz.ntmps66
  go_wp2_with (refine wpList_insert_own _ rfl _ _ _ 100 rfl 9 3 mlaw Tryz.underlying100 _ (w.heap.size + 1) 0 (.map []) rfl (hom _) (by unfold maxLen; omega) _ _ _ rfl rfl hkE _ [] (plainElem_int Tryz.underlying3 hc0) ?_; intro w1 hown1 hg1; have bb : w1.heap[w.heap.size]? = some (.cells #[.int .i64 c0, .slice A l.length c] 33 (0, 0)) := (hg1.block _ (by simp; omega) (by simp)).trans (blk_below (blk_new w _) (below_alloc (Below.refl _ _) _)); have z0 : w1.cell? ⟨w.heap.size, 0, none⟩ = some (.int .i64 c0) := (blk_cell bb 0).trans rfl; have z1 : w1.cell? ⟨w.heap.size, 1, none⟩ = some (.slice A l.length c) := (blk_cell bb 1).trans rfl; have HB := Aside0.mk (Below.grown (below_alloc (below_alloc (Below.refl w.heap.size w) _) _) hg1 (by simp; omega) (fun j hj => by cases hj; omega)); clear hg1 bb)
  have HP : Aside0 (PolyIs ((DataW.map [] : DataW Unit).put (kS ⟨#[]⟩) (.lit (.int .i64 c0))) c0 []) := ⟨poly_start c0⟩
  generalize ((DataW.map [] : DataW Unit).put (kS ⟨#[]⟩) (.lit (.int .i64 c0))) = D0 at *
  go_loopg [13] l.length (fun gg s13 wr => ∃ (kk : Nat) (D : DataW Unit), kk ≤ l.length ∧ l.length - kk ≤ gg ∧ s13 = .int .i64 kk ∧ MO wr (w.heap.size + 1) (kk + 1) D ∧ Aside0 (PolyIs D c0 (l.take kk)) ∧ Aside0 (Below w.heap.size w wr))
  case atStart => exact ⟨0, D0, Nat.zero_le _, by omega, rfl, hown1, HP, HB⟩
  case round =>
    obtain ⟨kk, D, hkk, hg, rfl, hown, HPD, BW⟩ := hrel
    by_cases hlt : kk < l.length
    · have hltz : (kk : Int) < (l.length : Int) := by omega
      obtain ⟨ad, e, hx0, hx1⟩ := at_T79 HR.out (kk : Int) (by omega) (by omega)
      cases e
      replace hx0 := (BW.out.cell (World.block_lt_of_cell? w _ hx0)).trans hx0
      replace hx1 := (BW.out.cell (World.block_lt_of_cell? w _ hx1)).trans hx1
      simp only [Int.toNat_natCast] at hx0 hx1
      have hy : rd_T79 l (kk : Int) = l[kk] := by simp [rd_T79, List.getD, List.getElem?_eq_getElem hlt]
      have hkey : keyOf Tryz.prog 9 (.string (rd_T79 l (kk : Int)).f0) = some (kS (rd_T79 l (kk : Int)).f0) := kS_key (HS.out _ (by rw [hy]; exact List.getElem_mem hlt))
      have HPN : Aside0 (∀ q, D.atKey (kS (rd_T79 l (kk : Int)).f0) (.lit (.int .i64 0)) = .lit (.int .i64 q) → PolyIs (D.put (kS (rd_T79 l (kk : Int)).f0) (.lit (.int .i64 (wrap64 (q + (rd_T79 l (kk : Int)).f1))))) c0 (l.take (kk + 1))) := ⟨fun q hq => by
        rw [List.take_succ_eq_append_getElem hlt, ← hy]
        exact poly_step (owns_neat hown) HPD.out _ hq⟩
      clear hy
      generalize rd_T79 l (kk : Int) = y at *
      obtain ⟨y0, y1⟩ := y
      go_wp2_with (first | (at_lookup; refine wpList_lookup_own_int _ rfl _ _ 100 rfl 9 3 .i64 mlaw Tryz.underlying100 Tryz.underlying3 (mzero _) (w.heap.size + 1) (kk + 1) D rfl (hown.alloc _) _ _ rfl hkey ?_; intro q hat hwc) | (at_mapUpdate; refine wpList_mapUpdate_own _ rfl _ _ _ 100 rfl 9 3 mlaw Tryz.underlying100 _ (w.heap.size + 1) (kk + 1) D rfl (hown.alloc _) (by unfold maxLen; omega) _ _ _ rfl rfl hkey _ [] (plainElem_int Tryz.underlying3 (wrap64_wf _)) ?_; intro w2 hown2 hg2))
      go_roundg (l.length - (kk + 1))
      case measure => omega
      case rel => exact ⟨kk + 1, _, by omega, by omega, by go_num, hown2, ⟨HPN.out q hat⟩, ⟨Below.grown (below_alloc BW.out _) hg2 (by have := BW.out.size; simp; omega) (fun j hj => by cases hj; omega)⟩⟩
    · have hltz : ¬ (kk : Int) < (l.length : Int) := by omega
      have : kk = l.length := by omega
      subst this
      go_wp2
      go_ret
      refine ⟨_, rfl, by omega, D, hown, ⟨?_⟩, BW.out⟩
      have h9 := HPD.out
      rwa [List.take_length] at h9
theorem keyOf_str_inv {key : Value} {kl : Lit} (h : keyOf Tryz.prog 9 key = some kl) : ∃ x : ByteArray, key = .string x ∧ kl = kS x := by
  have hk := Tryz.underlying9
  rw [keyOf_string hk] at h
  cases key <;> simp [mapKey, hk] at h
  exact ⟨_, rfl, h.2.symm⟩
theorem elem_int_inv {v : Value} {y : DataW Unit × List MemPlace} (h : plainElem Tryz.prog 3 v = some y) : ∃ c, v = .int .i64 c ∧ y = (.lit (.int .i64 c), []) ∧ (Lit.int .i64 c).wf = true := plainElem_int_inv Tryz.underlying3 h
def weigh (Dx : DataW Unit) : Lit → Int := fun kl => if kl.sameKey (kS ⟨#[]⟩) then 1 else litI (Dx.atKey kl zI)
theorem wf_i64 {c : Int} (h : (Lit.int .i64 c).wf = true) : -9223372036854775808 ≤ c ∧ c ≤ 9223372036854775807 := by
  simpa [Lit.wf, IntKind.min, IntKind.max, IntKind.signed, IntKind.bits] using h
theorem str_ne {x : ByteArray} (h : x ≠ ⟨#[]⟩) : x.toList.isEmpty = false := by
  cases he : x.toList.isEmpty with
  | false => rfl
  | true =>
    refine absurd ?_ h
    have h1 : x.toList = [] := List.isEmpty_iff.1 he
    rw [ByteArray.toList_eq] at h1
    cases x with | mk a => cases a; simp_all
set_option maxHeartbeats 4000000 in
set_option maxRecDepth 100000 in
theorem value54_calls (b bx n nx : Nat) (D Dx : DataW Unit) (w : World) (h : MO w b n D) (hx : MO w bx nx Dx) :
    Calls Tryz.prog 67 #[.map (some b), .map (some bx)] w fun e w' => e = .returned (.int .i64 (wrap64 (mSum D (weigh Dx)))) ∧ Below w.heap.size w w' := by
  have hkE : keyOf Tryz.prog 9 (.string ⟨#[]⟩) = some (kS ⟨#[]⟩) := kS_key (Nat.zero_le _)
  have hbl := h.lt
  have hbx := hx.lt
  go_enter Tryz.func67, Tryz.ntmps67
  go_wp2_with (first | (at_lookup; refine wpList_lookup_own_int _ rfl _ _ 100 rfl 9 3 .i64 mlaw Tryz.underlying100 Tryz.underlying3 (mzero _) b n D rfl h _ _ rfl hkE ?_; intro q hat hwc) | (at_range; refine wpList_range_own _ rfl _ 100 rfl 9 3 mlaw Tryz.underlying100 _ b n D rfl h ?_; intro w0 hrg0 hg0 hs0))
  have HX0 : Aside0 (MO w0 bx nx Dx) := ⟨hx.kept hg0 (by simp)⟩
  have HB0 : Aside0 (Below w.heap.size w w0) := ⟨(Below.refl _ w).grown hg0 (Nat.le_refl _) (fun j hj => by cases hj)⟩
  have HN : Aside0 (Neat D) := ⟨owns_neat h⟩
  have HQ : Aside0 (litI (D.atKey (kS ⟨#[]⟩) zI) = q) := ⟨by unfold zI; rw [hat]; rfl⟩
  have HS : Aside0 (leftSum D (weigh Dx) (kS ⟨#[]⟩) (Maps.has D) = 0) := ⟨leftSum_start h _ _⟩
  have hq := wf_i64 hwc
  clear hat hwc h hx hg0
  go_frame
  have HE : Aside0 (∀ (left : Lit → Bool), (∀ kl, left kl = false) → wrap64 (q + leftSum D (weigh Dx) (kS ⟨#[]⟩) left) = wrap64 (mSum D (weigh Dx))) := ⟨fun left hl => by
    have := leftSum_end HN.out (weigh Dx) (kS ⟨#[]⟩) hl
    rw [HQ.out] at this
    rw [← this]
    simp [weigh, WideAt.sameKey_self (isKey ⟨#[]⟩)]⟩
  go_loopw [5] (fun s5 wr => ∃ (left : Lit → Bool) (cnt : Nat), wr.ranges Tryz.prog 9 (plainElem Tryz.prog 3) b w.heap.size n D left cnt ∧ s5 = .int .i64 (wrap64 (q + leftSum D (weigh Dx) (kS ⟨#[]⟩) left)) ∧ Aside0 (MO wr bx nx Dx) ∧ Aside0 (Below w.heap.size w wr)) (fun _ wr => wr.rangeLeft b w.heap.size)
  case atStart => exact ⟨_, _, hrg0, by rw [HS.out, Int.add_zero, IntWalk.wrap64_in q hq], HX0, HB0⟩
  case round =>
    obtain ⟨left, cnt, hrg, rfl, HX, BW⟩ := hrel
    go_wp2_with (at_next; refine wpList_next_ranges _ rfl _ rfl 9 mlaw (plainElem Tryz.prog 3) Value.string (Value.int .i64) (fun key kl hk => by obtain ⟨x, h1, _⟩ := keyOf_str_inv hk; exact ⟨x, h1⟩) (fun v y hv => by obtain ⟨c, h1, _⟩ := elem_int_inv hv; exact ⟨c, h1⟩) b w.heap.size n D left cnt rfl hrg ?_ ?_)
    · intro hc0 hl0
      go_wp2
      go_ret
      exact ⟨by rw [HE.out left hl0]; rfl, BW.out⟩
    · intro x c kl y1 y2 w1 cnt1 hkey hlk hv hat hrg1 hlt1 hg1 hs1 hen
      obtain ⟨x', e1, rfl⟩ := keyOf_str_inv hkey
      cases e1
      obtain ⟨c', e1, e2, hwc⟩ := elem_int_inv hv
      cases e1
      cases e2
      have HX1 := HX.out.kept hg1 (by intro e; cases e; omega)
      have HB1 : Aside0 (Below w.heap.size w w1) := ⟨BW.out.grown hg1 BW.out.size (fun j hj => by cases hj; exact Nat.le_refl _)⟩
      have HM : Aside0 (w1.rangeLeft b w.heap.size < wr.rangeLeft b w.heap.size) := ⟨by rw [hrg1.left_eq, hrg.left_eq]; exact hlt1⟩
      have HL := Aside0.mk (leftSum_step HN.out (weigh Dx) (kS ⟨#[]⟩) (isKey x) hlk hat)
      clear hrg hg1 hs1 hlt1 hat hv
      generalize leftSum D (weigh Dx) (kS ⟨#[]⟩) left = acc at *
      by_cases hx0 : x = ⟨#[]⟩
      · subst hx0
        go_wp2
        go_roundw
        case measure => exact HM.out
        case rel => exact ⟨_, _, hrg1, by rw [HL.out, if_pos (WideAt.sameKey_self (isKey _)), Int.add_zero], ⟨HX1⟩, HB1⟩
      · have HW : Aside0 (weigh Dx (kS x) = litI (Dx.atKey (kS x) zI)) := ⟨by unfold weigh; rw [if_neg (fun e => hx0 (kS_inj (WideAt.sameKey_eq e)))]⟩
        have HF : Aside0 ((kS x).sameKey (kS ⟨#[]⟩) = false) := ⟨by cases h : (kS x).sameKey (kS ⟨#[]⟩) with | false => rfl | true => exact absurd (kS_inj (WideAt.sameKey_eq h)) hx0⟩
        have hne : x.toList.isEmpty = false := str_ne hx0
        go_wp2_with (at_lookup; refine wpList_lookup_own_int _ rfl _ _ 99 rfl 9 3 .i64 mlaw Tryz.underlying99 Tryz.underlying3 (mzero _) bx nx Dx rfl HX1 _ _ rfl hkey ?_; intro q1 hat1 hwc1)
        go_roundw
        case measure => exact HM.out
        case rel =>
          refine ⟨_, _, hrg1, ?_, ⟨HX1⟩, HB1⟩
          have h3 : litI (Dx.atKey (kS x) zI) = q1 := by unfold zI; rw [hat1]; rfl
          rw [HL.out, HF.out, HW.out, h3]
          simp only [i64w, Bool.false_eq_true, if_false]
          congr 1
          unfold wrap64
          generalize c * q1 = u
          omega
def polyVal (G : Lit → Int) (f : S33) : Int := wrap64 (f.f0 * G (kS ⟨#[]⟩) + tsum G f.f1)
def okForm (f : S33) : Bool := (Lit.int .i64 f.f0).wf && (decide (f.f1.length < 1000) && f.f1.all fun t => decide (t.f0.size ≤ maxLen))
def S75 (w : World) (B Bx bx nx : Nat) (Dx : DataW Unit) (v0 v1 : Value) (W : World) : Prop :=
  W.cell? ⟨B, 0, none⟩ = some v0 ∧ W.cell? ⟨B, 1, none⟩ = some v1 ∧ W.cell? ⟨Bx, 0, none⟩ = some (.map (some bx)) ∧ B < W.heap.size ∧ Bx < W.heap.size ∧ MO W bx nx Dx ∧ Below w.heap.size w W
theorem owns_below {W W' : World} {b n : Nat} {D : DataW Unit} (h : MO W b n D) (hb : Below W.heap.size W W') : MO W' b n D := by
  have hlt := h.lt
  obtain ⟨es, clock, h1, r⟩ := h
  exact ⟨es, clock, (hb.block b hlt).trans h1, r⟩
theorem S52_below {w : World} {B Bx bx nx : Nat} {Dx : DataW Unit} {v0 v1 : Value} {W W' : World} (h : S75 w B Bx bx nx Dx v0 v1 W) (hb : Below W.heap.size W W') : S75 w B Bx bx nx Dx v0 v1 W' := by
  obtain ⟨h0, h1, h2, h3, h4, h5, h6⟩ := h
  exact ⟨(hb.cell (p := ⟨B, 0, none⟩) h3).trans h0, (hb.cell (p := ⟨B, 1, none⟩) h3).trans h1, (hb.cell (p := ⟨Bx, 0, none⟩) h4).trans h2, Nat.lt_of_lt_of_le h3 hb.size, Nat.lt_of_lt_of_le h4 hb.size, owns_below h5 hb, below_step h6 hb⟩
set_option maxHeartbeats 4000000 in
set_option maxRecDepth 100000 in
theorem isPoint1_calls (f : S33) (Af : Option Addr) (cf Bx bx nx : Nat) (Dx : DataW Unit) (w : World) (hf : Kd.C k79 w Af f.f1.length f.f1) (hok : okForm f = true) (hx : w.cell? ⟨Bx, 0, none⟩ = some (.map (some bx))) (hxl : Bx < w.heap.size) (hm : MO w bx nx Dx) :
    Calls Tryz.prog 143 #[.agg #[.int .i64 f.f0, .slice Af f.f1.length cf], .pointer (some ⟨Bx, 0, none⟩)] w fun e w' => e = .returned (.bool (decide (polyVal (weigh Dx) f < 0))) ∧ Below w.heap.size w w' := by
  unfold okForm at hok
  simp only [Bool.and_eq_true, decide_eq_true_eq, List.all_eq_true] at hok
  obtain ⟨k1, k2, k3⟩ := hok
  have HS : Aside0 (S75 w w.heap.size Bx bx nx Dx (.int .i64 f.f0) (.slice Af f.f1.length cf) (w.alloc (.cells #[.int .i64 f.f0, .slice Af f.f1.length cf] 33))) := ⟨by
    have bb := blk_new w (.cells #[.int .i64 f.f0, .slice Af f.f1.length cf] 33)
    have hb : Below w.heap.size w (w.alloc (.cells #[.int .i64 f.f0, .slice Af f.f1.length cf] 33)) := below_alloc (Below.refl _ w) _
    exact ⟨(blk_cell bb 0).trans rfl, (blk_cell bb 1).trans rfl, (hb.cell (p := ⟨Bx, 0, none⟩) hxl).trans hx, blk_lt bb, Nat.lt_of_lt_of_le hxl hb.size, owns_below hm hb, hb⟩⟩
  have HC : Aside0 (∀ W, S75 w w.heap.size Bx bx nx Dx (.int .i64 f.f0) (.slice Af f.f1.length cf) W → Calls Tryz.prog 66 #[.agg #[.int .i64 f.f0, .slice Af f.f1.length cf]] W fun e w' => ∃ b D, e = .returned (.map (some b)) ∧ MO w' b (f.f1.length + 1) D ∧ Aside0 (PolyIs D f.f0 f.f1) ∧ S75 w w.heap.size Bx bx nx Dx (.int .i64 f.f0) (.slice Af f.f1.length cf) w') := ⟨fun W hS =>
    (polyOf_calls f.f0 f.f1 Af cf W (Kd.C_below hf hS.2.2.2.2.2.2) k1 k2 k3).mono fun e w' ⟨b, D, he, _, hM, hP, hb⟩ => ⟨b, D, he, hM, hP, S52_below hS hb⟩⟩
  have HV : Aside0 (∀ D, PolyIs D f.f0 f.f1 → wrap64 (mSum D (weigh Dx)) = polyVal (weigh Dx) f) := ⟨fun D h => h _⟩
  clear hf hx hm k1 k2 k3
  go_enter Tryz.func143, Tryz.ntmps143
  go_wp2
  have z := HS.out
  generalize w.alloc (.cells #[.int .i64 f.f0, .slice Af f.f1.length cf] 33) = W1 at *
  obtain ⟨c0, c1, c2, l0, l1, _, _⟩ := z
  generalize w.heap.size = B at *
  go_region_law (first | (go_simp; go_at_call 66; refine (HC.out _ (by first | assumption | exact S52_below HS.out (below_drew (Below.refl _ _)))).mono ?_; rintro e w2 ⟨b, D, rfl, hM, hP, hS2⟩; have hV := Aside0.mk (HV.out D hP.out); have HS2 := Aside0.mk hS2; obtain ⟨d0, d1, d2, m0, m1, hX, _⟩ := hS2) | (go_simp; go_at_call 67; refine (value54_calls _ _ _ _ _ _ _ (by first | exact hM | exact owns_below hM (below_drew (Below.refl _ _))) (by first | exact hX | exact owns_below hX (below_drew (Below.refl _ _)))).mono ?_; rintro e w3 ⟨rfl, hb3⟩))
  all_goals
    have hBE := Aside0.mk (below_step HS2.out.2.2.2.2.2.2 hb3)
    have hVE : Aside0 (decide (wrap64 (mSum D (weigh Dx)) < 0) = decide (polyVal (weigh Dx) f < 0)) := ⟨by rw [hV.out]⟩
    clear hM hX hb3
    go_wp2
    go_ret
    exact ⟨by rw [← hVE.out]; rfl, hBE.out⟩
theorem ref_in_eq (a b c : Int) : wbref1_in.f a b c = some (decide (b ≤ a) && decide (a ≤ c)) := by
  unfold wbref1_in.f
  by_cases h : b ≤ a
  · rw [if_pos h]
    have : decide (b ≤ a) = true := decide_eq_true h
    rw [this, Bool.true_and]
  · rw [if_neg h]
    have : decide (b ≤ a) = false := decide_eq_false h
    rw [this, Bool.false_and]
def xAt (sides : List S77) (x : List Int) : Nat → ByteArray → Int
  | 0, _ => 0
  | k + 1, s => if s = (sides.getD k z77).f0 then x.getD k 0 else xAt sides x k s
def refG (sides : List S77) (x : List Int) (s : ByteArray) : Int := if s = ⟨#[]⟩ then 1 else xAt sides x sides.length s
def refVal (sides : List S77) (x : List Int) (f : S33) : Int := wrap64 (f.f0 + (f.f1.map fun t => t.f1 * refG sides x t.f0).sum)
theorem polyVal_ref {sides : List S77} {x : List Int} {Dx : DataW Unit} (h : ∀ s, mAt Dx s = xAt sides x sides.length s) (f : S33) : polyVal (weigh Dx) f = refVal sides x f := by
  unfold polyVal refVal
  have h0 : weigh Dx (kS ⟨#[]⟩) = 1 := by simp [weigh, WideAt.sameKey_self (isKey ⟨#[]⟩)]
  have h1 : ∀ s, weigh Dx (kS s) = refG sides x s := fun s => by
    unfold weigh refG
    by_cases e : s = ⟨#[]⟩
    · subst e
      rw [if_pos (WideAt.sameKey_self (isKey _)), if_pos rfl]
    · rw [if_neg (fun e' => e (kS_inj (WideAt.sameKey_eq e'))), if_neg e]
      exact h s
  have h2 : ∀ l : List S79, tsum (weigh Dx) l = (l.map fun t => t.f1 * refG sides x t.f0).sum := fun l => by
    induction l with
    | nil => rfl
    | cons t r ih => simp only [tsum, List.map_cons, List.sum_cons, ih, h1]
  rw [h0, h2, Int.mul_one]
def okRef (sides : List S77) (conds : List S33) : Bool :=
  decide (sides.length < 1000) && (sides.all (fun s => decide (s.f0.size ≤ maxLen) && ((Lit.int .i64 s.f1).wf && (Lit.int .i64 s.f2).wf)) && conds.all okForm)
def isPointB (sides : List S77) (conds : List S33) (x : List Int) : Bool := withinB sides x && !(conds.any fun f => decide (refVal sides x f < 0))
def isPoint.f (l0_0 : List S77) (l0_1 : List S33) (l1 : List Int) : Option Bool := if decide (l0_0.length = l1.length) && okRef l0_0 l0_1 then some (isPointB l0_0 l0_1 l1) else none
theorem wf_between {a b c : Int} (hb : (Lit.int .i64 b).wf = true) (hc : (Lit.int .i64 c).wf = true) (h : (decide (b ≤ a) && decide (a ≤ c)) = true) : (Lit.int .i64 a).wf = true := by
  have h1 := wf_i64 hb
  have h2 := wf_i64 hc
  simp only [Bool.and_eq_true, decide_eq_true_eq] at h
  simp only [Lit.wf, IntKind.min, IntKind.max, IntKind.signed, IntKind.bits, Bool.and_eq_true, decide_eq_true_eq, if_true]
  omega
set_option maxHeartbeats 4000000 in
set_option maxRecDepth 100000 in
theorem isPoint_calls (l0_0 : List S77) (l0_1 : List S33) (l1 : List Int) (A0_0 A0_1 A1 : Option Addr) (c0_0 c0_1 c1 : Nat) (r : Bool) (w : World)
    (hs : Kd.C k77 w A0_0 l0_0.length l0_0) (hcs : l0_0.length ≤ c0_0) (hc : Kd.C k33 w A0_1 l0_1.length l0_1) (hcc : l0_1.length ≤ c0_1) (hx : Kd.C (Kd.int .i64) w A1 l1.length l1) (h : isPoint.f l0_0 l0_1 l1 = some r) :
    Calls Tryz.prog 94 #[.agg #[.slice A0_0 l0_0.length c0_0, .slice A0_1 l0_1.length c0_1], .slice A1 l1.length c1] w fun e w' => e = .returned (.bool r) ∧ Below w.heap.size w w' := by
  unfold isPoint.f at h
  by_cases hcond : (decide (l0_0.length = l1.length) && okRef l0_0 l0_1) = true
  · rw [if_pos hcond] at h
    injection h with h
    subst h
    unfold okRef at hcond
    simp only [Bool.and_eq_true, decide_eq_true_eq, List.all_eq_true] at hcond
    obtain ⟨hlen, hl8, hok, hokf⟩ := hcond
    have HLEN := Aside0.mk hlen
    clear hlen
    have HS := Aside0.mk hs
    have HCc := Aside0.mk hc
    have HX := Aside0.mk hx
    have HOK := Aside0.mk hok
    have HOKF := Aside0.mk hokf
    have hm := HS.out.2.1
    have hmm := @run_makeMap Tryz.prog
    have hom : ∀ o, MO ((w.alloc o).alloc (.map #[] 0)) (w.heap.size + 1) 0 (.map []) := fun o => by
      have := World.ownsMap_made (H := Unit) (w.alloc o) Tryz.prog 9 (plainElem Tryz.prog 3)
      rwa [show (w.alloc o).heap.size = w.heap.size + 1 by simp] at this
    have eg := enters_of Tryz.func143 (by kernel_rfl) rfl
    clear hs hc hx hok hokf
    go_enter Tryz.func94, Tryz.ntmps94
    go_wp2
    have bb : (((w.alloc (.cells #[.slice A0_0 l0_0.length c0_0, .slice A0_1 l0_1.length c0_1] 29)).alloc (.map #[] 0)).alloc (.cells #[.map (some (w.heap.size + 1))] 99)).heap[w.heap.size]? = some (.cells #[.slice A0_0 l0_0.length c0_0, .slice A0_1 l0_1.length c0_1] 29 (0, 0)) := blk_below (blk_new w _) (below_alloc (below_alloc (Below.refl _ _) _) _)
    have bx : (((w.alloc (.cells #[.slice A0_0 l0_0.length c0_0, .slice A0_1 l0_1.length c0_1] 29)).alloc (.map #[] 0)).alloc (.cells #[.map (some (w.heap.size + 1))] 99)).heap[w.heap.size + 2]? = some (.cells #[.map (some (w.heap.size + 1))] 99 (0, 0)) := by
      have := blk_new ((w.alloc (.cells #[.slice A0_0 l0_0.length c0_0, .slice A0_1 l0_1.length c0_1] 29)).alloc (.map #[] 0)) (.cells #[.map (some (w.heap.size + 1))] 99)
      rwa [show ((w.alloc (.cells #[.slice A0_0 l0_0.length c0_0, .slice A0_1 l0_1.length c0_1] 29)).alloc (.map #[] 0)).heap.size = w.heap.size + 2 by simp] at this
    have HB := Aside0.mk (below_alloc (below_alloc (below_alloc (Below.refl w.heap.size w) (.cells #[.slice A0_0 l0_0.length c0_0, .slice A0_1 l0_1.length c0_1] 29)) (.map #[] 0)) (.cells #[.map (some (w.heap.size + 1))] 99))
    have ho := (hom (.cells #[.slice A0_0 l0_0.length c0_0, .slice A0_1 l0_1.length c0_1] 29)).alloc (.cells #[.map (some (w.heap.size + 1))] 99)
    have BB := Aside0.mk bb
    have BX := Aside0.mk bx
    have HO := Aside0.mk ho
    clear bb bx ho hom
    generalize ((w.alloc (.cells #[.slice A0_0 l0_0.length c0_0, .slice A0_1 l0_1.length c0_1] 29)).alloc (.map #[] 0)).alloc (.cells #[.map (some (w.heap.size + 1))] 99) = W0 at *
    have HB1 : Aside0 (w.heap.size + 2 = w.heap.size + 1 + 1) := ⟨rfl⟩
    go_loopg [6, 7, 12] l0_0.length (fun gg _ _ s12 wr => ∃ (kk : Nat) (Dx : DataW Unit), kk ≤ l0_0.length ∧ l0_0.length - kk ≤ gg ∧ s12 = .int .i64 kk ∧ Aside0 (MO wr (w.heap.size + 1) kk Dx) ∧ Aside0 (∀ s, mAt Dx s = xAt l0_0 l1 kk s) ∧ Aside0 (Below w.heap.size w wr) ∧ Aside0 (wr.heap[w.heap.size]? = some (.cells #[.slice A0_0 l0_0.length c0_0, .slice A0_1 l0_1.length c0_1] 29 (0, 0))) ∧ Aside0 (wr.heap[w.heap.size + 2]? = some (.cells #[.map (some (w.heap.size + 1))] 99 (0, 0))) ∧ Aside0 (withinB l0_0 l1 = withinB (l0_0.drop kk) (l1.drop kk)))
    case atStart => exact ⟨0, _, Nat.zero_le _, by omega, rfl, HO, ⟨fun _ => rfl⟩, HB, BB, BX, ⟨by simp⟩⟩
    case round =>
      obtain ⟨kk, Dx, hkk, hg, rfl, HO, HD, BW, BB, BX, AQ⟩ := hrel
      by_cases hlt : kk < l0_0.length
      · have hltz : (kk : Int) < (l0_0.length : Int) := by omega
        have hlt1 : kk < l1.length := by have := HLEN.out; omega
        have hltz1 : (kk : Int) < (l1.length : Int) := by omega
        obtain ⟨ad, e, hx0⟩ := Kd.at_int HX.out (kk : Int) (by omega) (by omega)
        cases e
        obtain ⟨ad0, e, hs0, hs1, hs2⟩ := at_T77 HS.out (kk : Int) (by omega) (by omega)
        cases e
        replace hx0 := pw_cell_below BW.out hx0
        replace hs0 := pw_cell_below BW.out hs0
        replace hs1 := pw_cell_below BW.out hs1
        replace hs2 := pw_cell_below BW.out hs2
        simp only [Int.toNat_natCast] at hx0 hs0 hs1 hs2
        have HQ := Aside0.mk (withinB_drop l0_0 l1 kk hlt1 hlt)
        have HY : Aside0 (l0_0.getD kk z77 = rd_T77 l0_0 (kk : Int)) := ⟨rfl⟩
        have HY2 : Aside0 (l1.getD kk 0 = rd l1 (kk : Int)) := ⟨rfl⟩
        have hK := ref_in_eq (rd l1 (kk : Int)) (rd_T77 l0_0 (kk : Int)).f1 (rd_T77 l0_0 (kk : Int)).f2
        have hy : rd_T77 l0_0 (kk : Int) = l0_0[kk] := by simp [rd_T77, List.getD, List.getElem?_eq_getElem hlt]
        have HWF := Aside0.mk (HOK.out (rd_T77 l0_0 (kk : Int)) (by rw [hy]; exact List.getElem_mem hlt))
        have HXN : Aside0 (∀ s, xAt l0_0 l1 (kk + 1) s = if s = (rd_T77 l0_0 (kk : Int)).f0 then rd l1 (kk : Int) else xAt l0_0 l1 kk s) := ⟨fun s => rfl⟩
        clear hy
        generalize rd l1 (kk : Int) = n at *
        generalize rd_T77 l0_0 (kk : Int) = y at *
        obtain ⟨y0, y1, y2⟩ := y
        have HK := Aside0.mk hK
        clear hK
        cases hb : (decide (y1 ≤ n) && decide (n ≤ y2)) with
        | true =>
          have HKB := Aside0.mk hb
          have HK2 : Aside0 (wbref1_in.f n y1 y2 = some true) := ⟨by rw [HK.out, hb]⟩
          clear hb HK
          go_wp2
          have BN := blk_new wr (.cells #[.string y0, .int .i64 y1, .int .i64 y2] 77)
          have e0 := (blk_cell BN 0).trans rfl
          have e1 := (blk_cell BN 1).trans rfl
          have e2 := (blk_cell BN 2).trans rfl
          have BW1 := Aside0.mk (below_alloc BW.out (.cells #[.string y0, .int .i64 y1, .int .i64 y2] 77))
          have BO1 := Aside0.mk (below_alloc (Below.refl wr.heap.size wr) (.cells #[.string y0, .int .i64 y1, .int .i64 y2] 77))
          replace hx0 := pw_cell_below BO1.out hx0
          have HO1 := Aside0.mk (owns_below HO.out BO1.out)
          have BB1 := Aside0.mk (blk_below BB.out BO1.out)
          have BX1 := Aside0.mk (blk_below BX.out BO1.out)
          have x0 : (wr.alloc (.cells #[.string y0, .int .i64 y1, .int .i64 y2] 77)).cell? ⟨w.heap.size + 1 + 1, 0, none⟩ = some (.map (some (w.heap.size + 1))) := (blk_cell BX1.out 0).trans rfl
          clear BN BO1 HO BB BX hs0 hs1 hs2
          generalize wr.alloc (.cells #[.string y0, .int .i64 y1, .int .i64 y2] 77) = W1 at *
          generalize hwb : wr.heap.size = WB at *
          go_quiet (first | (go_at_call 49; (with_reducible refine (wbref1_in.calls _ _ _ _ _ HK2.out).mono ?_); rintro e w' ⟨rfl, ⟨nd, rfl⟩⟩; (try first | exact ⟨rfl, _, World.drewN_drewN _ _ _⟩ | exact ⟨rfl, _, Eq.trans (World.drewN_drewN _ _ _) (congrArg (World.drewN _) (Nat.add_assoc _ _ _))⟩)))
          go_wp2
          have hkey := kS_key HWF.out.1
          obtain ⟨w6, hrun, hO6, hG6⟩ := (show MO (W1.drewN (nq + 1)) (w.heap.size + 1) kk Dx from HO1.out).update (t := 99) (e := 3) mlaw Tryz.underlying99 (by unfold maxLen; omega) hkey (plainElem_int Tryz.underlying3 (wf_between HWF.out.2.1 HWF.out.2.2 HKB.out))
          have HO6 := Aside0.mk hO6
          have HG6 := Aside0.mk hG6
          clear hO6 hG6
          have HN6 : Aside0 (∀ s, mAt (Dx.put (kS y0) (.lit (.int .i64 n))) s = xAt l0_0 l1 (kk + 1) s) := ⟨fun s => by rw [mAt_put (owns_neat HO1.out), HXN.out, HD.out]⟩
          have BW6 := Aside0.mk ((pw_below_drewN BW1.out (nq + 1)).grown HG6.out (pw_below_drewN BW1.out (nq + 1)).size (fun j hj => by cases hj; omega))
          have BB6 := Aside0.mk (blk_grown (show (W1.drewN (nq + 1)).heap[w.heap.size]? = _ from BB1.out) HG6.out (by simp))
          have BX6 := Aside0.mk (blk_grown (show (W1.drewN (nq + 1)).heap[w.heap.size + 2]? = _ from BX1.out) HG6.out (by simp))
          have AQ6 : Aside0 (withinB l0_0 l1 = withinB (l0_0.drop (kk + 1)) (l1.drop (kk + 1))) := ⟨by
            rw [AQ.out, HQ.out, HY.out, HY2.out]
            simp only
            rw [HKB.out, Bool.true_and]⟩
          go_region_law (fail)
          all_goals
            clear hrun
            go_wp2
            go_roundg (l0_0.length - (kk + 1))
            case measure => omega
            case rel => exact ⟨kk + 1, _, by omega, by omega, by go_num, HO6, HN6, BW6, BB6, BX6, AQ6⟩
        | false =>
          have HKB := Aside0.mk hb
          have HK2 : Aside0 (wbref1_in.f n y1 y2 = some false) := ⟨by rw [HK.out, hb]⟩
          clear hb HK
          go_wp2
          have BN := blk_new wr (.cells #[.string y0, .int .i64 y1, .int .i64 y2] 77)
          have e0 := (blk_cell BN 0).trans rfl
          have e1 := (blk_cell BN 1).trans rfl
          have e2 := (blk_cell BN 2).trans rfl
          have BW1 := Aside0.mk (below_alloc BW.out (.cells #[.string y0, .int .i64 y1, .int .i64 y2] 77))
          have BO1 := Aside0.mk (below_alloc (Below.refl wr.heap.size wr) (.cells #[.string y0, .int .i64 y1, .int .i64 y2] 77))
          replace hx0 := pw_cell_below BO1.out hx0
          have HO1 := Aside0.mk (owns_below HO.out BO1.out)
          have BB1 := Aside0.mk (blk_below BB.out BO1.out)
          have BX1 := Aside0.mk (blk_below BX.out BO1.out)
          have x0 : (wr.alloc (.cells #[.string y0, .int .i64 y1, .int .i64 y2] 77)).cell? ⟨w.heap.size + 1 + 1, 0, none⟩ = some (.map (some (w.heap.size + 1))) := (blk_cell BX1.out 0).trans rfl
          clear BN BO1 HO BB BX hs0 hs1 hs2
          generalize wr.alloc (.cells #[.string y0, .int .i64 y1, .int .i64 y2] 77) = W1 at *
          generalize hwb : wr.heap.size = WB at *
          go_quiet (first | (go_at_call 49; (with_reducible refine (wbref1_in.calls _ _ _ _ _ HK2.out).mono ?_); rintro e w' ⟨rfl, ⟨nd, rfl⟩⟩; (try first | exact ⟨rfl, _, World.drewN_drewN _ _ _⟩ | exact ⟨rfl, _, Eq.trans (World.drewN_drewN _ _ _) (congrArg (World.drewN _) (Nat.add_assoc _ _ _))⟩)))
          go_wp2
          go_ret
          refine ⟨?_, pw_below_drewN BW1.out _⟩
          unfold isPointB
          rw [AQ.out, HQ.out, HY.out, HY2.out]
          simp only
          rw [HKB.out]
          rfl
      · have hltz : ¬ (kk : Int) < (l0_0.length : Int) := by omega
        have : kk = l0_0.length := by omega
        subst this
        have z0 : wr.cell? ⟨w.heap.size, 0, none⟩ = some (.slice A0_0 l0_0.length c0_0) := (blk_cell BB.out 0).trans rfl
        have z1 : wr.cell? ⟨w.heap.size, 1, none⟩ = some (.slice A0_1 l0_1.length c0_1) := (blk_cell BB.out 1).trans rfl
        go_wp2_with (go_at_call 132; refine (ContainsFunc_Form 143 _ _ _ l0_1 (fun f => decide (refVal l0_0 l1 f < 0)) _ (Kd.C_below HCc.out BW.out) eg ?_).mono ?_; rotate_left; rintro e w' ⟨rfl, hb⟩)
        · go_ret
          refine ⟨?_, below_step BW.out hb⟩
          unfold isPointB
          have : withinB l0_0 l1 = true := by rw [AQ.out, List.drop_length, List.drop_eq_nil_of_le (by have := HLEN.out; omega)]; rfl
          rw [this, Bool.true_and]
          rfl
        · intro W f Af cf hf hB hle hC
          have := isPoint1_calls f Af cf (w.heap.size + 2) (w.heap.size + 1) _ Dx W hC (HOKF.out f hf) ((blk_cell (blk_below BX.out hB) 0).trans rfl) (blk_lt (blk_below BX.out hB)) (owns_below HO.out hB)
          rw [polyVal_ref HD.out] at this
          exact this
  · rw [if_neg hcond] at h
    exact absurd h (by simp)
end Go.Proofs.YtjgakaembhmhpaaGreatDoor.PA
namespace Go.Proofs.YtjgakaembhmhpaaGreatDoor.PA
open Go.RowKit Go.Proofs.YtjgakaembhmhpaaGreatDoorW.PrintWords Go.Proofs.YtjgakaembhmhpaaGreatDoorW.PrintLast Go.Proofs.YtjgakaembhmhpaaGreatDoorW.PrintMore Go.Proofs.YtjgakaembhmhpaaGreatDoorM
def valsFrom (lo : Int) : Nat → List Int
  | 0 => []
  | c + 1 => lo :: valsFrom (lo + 1) c
def enumP (P : List Int → Bool) : List S77 → List Int → List (List Int)
  | [], pre => if P pre then [pre] else []
  | s :: r, pre => (valsFrom s.f1 (s.f2 + 1 - s.f1).toNat).flatMap fun v => enumP P r (pre ++ [v])
abbrev caps (Bs Bo Bx Bg : Nat) : Array Value := #[.pointer (some ⟨Bx, 0, none⟩), .pointer (some ⟨Bs, 0, none⟩), .pointer (some ⟨Bo, 0, none⟩), .pointer (some ⟨Bg, 0, none⟩)]
structure PW (w0 : World) (n : Nat) (box : Array Value) (Bs Bo X Bx Bg : Nat) (x : List Int) (s : List (List Int)) (wr : World) : Prop where
  hs : wr.heap[Bs]? = some (.cells box 29 (0, 0))
  hx : wr.heap[Bx]? = some (.cells #[.slice (some ⟨X, 0, none⟩) n n] 22 (0, 0))
  hg : wr.heap[Bg]? = some (.cells #[.func (.func 93) #[] (caps Bs Bo Bx Bg)] 127 (0, 0))
  row : IntRow wr X x
  len : x.length = n
  out : ∃ F, INs Bo w0.heap.size s F wr ∧ (∀ k, F k → w0.heap.size ≤ k) ∧ ¬ F Bs ∧ ¬ F Bx ∧ ¬ F Bg ∧ ¬ F X
  bw : Below w0.heap.size w0 wr
  old : w0.heap.size ≤ X
theorem PW.below {w0 : World} {n : Nat} {box : Array Value} {Bs Bo X Bx Bg : Nat} {x : List Int} {s : List (List Int)} {wr w1 : World} (h : PW w0 n box Bs Bo X Bx Bg x s wr) (hb : Below wr.heap.size wr w1) : PW w0 n box Bs Bo X Bx Bg x s w1 := by
  obtain ⟨h1, h2, h3, h4, h5, ⟨F, h6, h7⟩, h8, h9⟩ := h
  exact ⟨blk_below h1 hb, blk_below h2 hb, blk_below h3 hb, h4.same (hb.block X h4.lt), h5, ⟨F, (Ns_stays _ _).1 s F wr w1 h6 hb.size (fun k hk => hb.block k ((Ns_stays _ _).2 s F wr h6 k hk)), h7⟩, below_step h8 hb, h9⟩
theorem PW.setRow {w0 : World} {n : Nat} {box : Array Value} {Bs Bo X Bx Bg : Nat} {x : List Int} {s : List (List Int)} {wr : World} (h : PW w0 n box Bs Bo X Bx Bg x s wr) (i : Nat) (v : Int) : PW w0 n box Bs Bo X Bx Bg (x.set i v) s (wr.setCell ⟨X, i, none⟩ (.int .i64 v)) := by
  obtain ⟨h1, h2, h3, h4, h5, ⟨F, h6, h7, h8, h9, h10, h11⟩, h12, h13⟩ := h
  have e1 : Bs ≠ X := blk_ne h1 h4 (by decide)
  have e2 : Bx ≠ X := blk_ne h2 h4 (by decide)
  have e3 : Bg ≠ X := blk_ne h3 h4 (by decide)
  exact ⟨(Below.heap_setCell wr _ _ Bs e1).trans h1, (Below.heap_setCell wr _ _ Bx e2).trans h2, (Below.heap_setCell wr _ _ Bg e3).trans h3, h4.set i v, by simpa using h5,
    ⟨F, (Ns_stays _ _).1 s F wr _ h6 (by simp [World.setCell]) (fun k hk => Below.heap_setCell wr _ _ k (fun e => h11 (by subst e; exact hk))), h7, h8, h9, h10, h11⟩, h12.setCell h13 _, h13⟩
def PtsMax : Nat := 5000000
set_option maxHeartbeats 8000000 in
set_option maxRecDepth 100000 in
theorem go1_base (w0 : World) (sides : List S77) (conds : List S33) (As Ac : Option Addr) (cs cc : Nat) (Bs Bo X Bx Bg : Nat) (x : List Int) (s : List (List Int)) (W : World)
    (hs : Kd.C k77 w0 As sides.length sides) (hcs : sides.length ≤ cs) (hc : Kd.C k33 w0 Ac conds.length conds) (hcc : conds.length ≤ cc) (hok : okRef sides conds = true)
    (hP : PW w0 sides.length #[.slice As sides.length cs, .slice Ac conds.length cc] Bs Bo X Bx Bg x s W) (hl : s.length < PtsMax) :
    Calls Tryz.prog 93 (#[.int .i64 (sides.length : Int)] ++ caps Bs Bo Bx Bg) W fun e w' => e = .returned (.tuple #[]) ∧ PW w0 sides.length #[.slice As sides.length cs, .slice Ac conds.length cc] Bs Bo X Bx Bg x (s ++ if isPointB sides conds x then [x] else []) w' := by
  have HP := Aside0.mk hP
  have hf : isPoint.f sides conds x = some (isPointB sides conds x) := by
    unfold isPoint.f
    rw [if_pos]
    rw [Bool.and_eq_true, decide_eq_true_eq]
    exact ⟨hP.len.symm, hok⟩
  have HPT : Aside0 (∀ w, PW w0 sides.length #[.slice As sides.length cs, .slice Ac conds.length cc] Bs Bo X Bx Bg x s w → Calls Tryz.prog 94 #[.agg #[.slice As sides.length cs, .slice Ac conds.length cc], .slice (some ⟨X, 0, none⟩) sides.length sides.length] w fun e w' => e = .returned (.bool (isPointB sides conds x)) ∧ PW w0 sides.length #[.slice As sides.length cs, .slice Ac conds.length cc] Bs Bo X Bx Bg x s w') := ⟨fun w h => by
    have hrd := h.row.reads (by rw [h.len]; exact hs.2.1)
    have := isPoint_calls sides conds x As Ac (some ⟨X, 0, none⟩) cs cc sides.length _ w (Kd.C_below hs h.bw) hcs (Kd.C_below hc h.bw) hcc hrd hf
    rw [h.len] at this
    exact this.mono fun e w' ⟨he, hb⟩ => ⟨he, h.below hb⟩⟩
  have x0 : W.cell? ⟨Bx, 0, none⟩ = some (.slice (some ⟨X, 0, none⟩) sides.length sides.length) := (blk_cell hP.hx 0).trans rfl
  have s0 : W.cell? ⟨Bs, 0, none⟩ = some (.slice As sides.length cs) := (blk_cell hP.hs 0).trans rfl
  have s1 : W.cell? ⟨Bs, 1, none⟩ = some (.slice Ac conds.length cc) := (blk_cell hP.hs 1).trans rfl
  have hm := hs.2.1
  have hn : sides.length < 1000 := by
    unfold okRef at hok
    simp only [Bool.and_eq_true, decide_eq_true_eq] at hok
    exact hok.1
  clear hs hc hP hok hf
  cases hb : isPointB sides conds x with
  | false =>
    rw [hb] at HPT
    clear hb
    go_enter Tryz.func93, Tryz.ntmps93
    go_wp2_with (go_at_call 94; refine (HPT.out _ HP.out).mono ?_; rintro e w1 ⟨rfl, hP1⟩)
    refine bodyPost_ret (results_none rfl _ _ _) rfl ⟨rfl, ?_⟩
    simpa using hP1
  | true =>
    rw [hb] at HPT
    clear hb
    go_enter Tryz.func93, Tryz.ntmps93
    go_wp2_with (go_at_call 94; refine (HPT.out _ HP.out).mono ?_; rintro e w1 ⟨rfl, hP1⟩)
    have HP1 := Aside0.mk hP1
    obtain ⟨p1, p2, p3, p4, p5, ⟨F, hI, hF, n1, n2, n3, n4⟩, hB, p8⟩ := hP1
    have HI := Aside0.mk hI
    have HFF := Aside0.mk hF
    have HB := Aside0.mk hB
    have HNN : Aside0 (¬ F Bs ∧ ¬ F Bx ∧ ¬ F Bg ∧ ¬ F X) := ⟨n1, n2, n3, n4⟩
    have HX := Aside0.mk (p4.reads (by omega))
    have HXL : Aside0 (x.length = sides.length) := ⟨p5⟩
    obtain ⟨h2, h4, u, h5, h7⟩ := hI
    obtain ⟨A', c', rfl⟩ := Kd.N_slice h7
    have HN := Aside0.mk h7
    have l5 := blk_lt h5
    have c5 : w1.cell? ⟨Bo, 0, none⟩ = some (.slice A' s.length c') := (blk_cell h5 0).trans rfl
    have f5 := blk_frozen h5 0
    have H5 := Aside0.mk h5
    have x1 : w1.cell? ⟨Bx, 0, none⟩ = some (.slice (some ⟨X, 0, none⟩) sides.length sides.length) := (blk_cell p2 0).trans rfl
    have H2 := Aside0.mk p2
    have HC : Aside0 (∀ W1 : World, Below w1.heap.size w1 W1 → Calls Tryz.prog 95 #[.slice (some ⟨X, 0, none⟩) sides.length sides.length] W1 fun e w' => ∃ (A2 : Option Addr) (c2 : Nat), e = .returned (.slice A2 x.length c2) ∧ Aside0 (Kd.R (Kd.int .i64) 3 w' w1.heap.size (fun _ => True) (.slice A2 x.length c2) x) ∧ (w'.cell? ⟨Bo, 0, none⟩ = some (.slice A' s.length c') ∧ w'.frozen? ⟨Bo, 0, none⟩ = false ∧ Bo < w'.heap.size ∧ Aside0 (Below w1.heap.size w1 w'))) := ⟨fun W1 s2 => by
      have := Clone_ints ⟨X, 0, none⟩ x.length x W1 (Kd.C_below HX.out s2) (by rw [HXL.out]; omega)
      rw [HXL.out] at this ⊢
      exact this.mono fun e w' ⟨v, he, hR, hb⟩ => by
        obtain ⟨A2, c2, hv⟩ := Kd.R_slice hR
        subst hv
        rw [HXL.out] at he hR
        have hbb := below_step s2 hb
        exact ⟨A2, c2, he, ⟨Kd.R_lower hR s2.size⟩, pw_cell_below hbb c5, blk_frozen (blk_below H5.out hbb) 0, blk_lt (blk_below H5.out hbb), ⟨hbb⟩⟩⟩
    have HL24 : Aside0 ((s.length + 1) * 24 ≤ 140737488355328) := ⟨by unfold PtsMax at hl; omega⟩
    clear h2 h4 h7 hF hB h5 p1 p2 p3 p4 p5 p8 n1 n2 n3 n4 x0 s0 s1
    have HNO : Aside0 (∀ k, w1.heap.size ≤ k → ((F k ∧ k ≠ Bo) ∨ w1.heap.size ≤ k) ∧ some k ≠ (Value.slice A' s.length c').ownBlock) := ⟨fun k hk => ⟨.inr hk, fun e => by
      have h1 := HN.out.1 k e.symm
      have h2 := HI.out.2.1 k h1.1
      omega⟩⟩
    go_region_law (first | (refine Kd.N_append_step (Kd.slice 3 (Kd.int .i64)) w0.heap.size (by rfl) (.tmp 13) (.tmp 16) 48 22 (.slice none 0 0) 24 (by rfl) Tryz.underlying48 info22 rfl (by decide) (by decide) (.slice A' s.length c') s x [.slice A2 x.length c2] (fun k => (F k ∧ k ≠ Bo) ∨ w1.heap.size ≤ k) (fun k => w1.heap.size ≤ k) (by rfl) (by rfl) (Kd.FK_of_M (Kd.M_row (Kd.R_mono (Kd.R_bound HR2.out) (fun k h => h.2.1)))) HNO.out (fun _ h => .inr (Nat.le_trans HW1.out.size h)) (Kd.N_mono (Kd.N_below HN.out HW1.out) (fun _ h => .inl h)) (below_then HB.out HB.out.size HW1.out) (Nat.le_trans HB.out.size HW1.out.size) HL24.out ?_; intro v3 w3 HO3 HB3 hg hat; have HK := Aside0.mk (Kept.of_grown (S := fun k => F k ∧ k ≠ Bo) hg (Kept.of_below HW1.out _) (fun k hk => .inl (HN.out.1 k hk))); obtain ⟨A3, c3, rfl⟩ := Kd.N_slice HO3; have HOA := Aside0.mk HO3; have HBB := Aside0.mk HB3; have b5 := blk_kept H5.out HK.out (fun h => h.2 rfl); have d7 : w3.cell? ⟨Bo, 0, none⟩ = some (.slice A' s.length c') := (blk_cell b5 0).trans rfl; have f7 := blk_frozen b5 0; have l7 := blk_lt b5; clear HO3 HB3 hg hat b5) | (go_simp; go_at_call 95; refine (HC.out _ (by first | exact below_drew (Below.refl _ _) | exact Below.refl _ _)).mono ?_; rintro e w2 ⟨A2, c2, rfl, HR2, d5, g5, l5', HW1⟩))
    all_goals
      obtain ⟨F', i1, i2, i3⟩ := Ns_set HI.out HK.out HOA.out
      have hl1 : (s ++ [x]).length = s.length + 1 := by simp
      rw [hl1] at i1 i3
      have HBE := HBB.out.setCell (p := ⟨Bo, 0, none⟩) (HFF.out _ HI.out.1) (.slice A3 (s.length + 1) c3)
      have hlo : ∀ k, k < w1.heap.size → ¬ F k → ¬ F' k := fun k h1 h2 h3 => (i2 k h3).elim h2 (fun h => by omega)
      have HFI := Aside0.mk (PW.mk (n := sides.length) (blk_kept HP1.out.hs i3 HNN.out.1) (blk_kept HP1.out.hx i3 HNN.out.2.1) (blk_kept HP1.out.hg i3 HNN.out.2.2.1) (HP1.out.row.same (i3.2 X HP1.out.row.lt HNN.out.2.2.2)) HXL.out ⟨F', i1, fun k hk => (i2 k hk).elim (HFF.out k) (fun h => Nat.le_trans HB.out.size h), hlo _ (blk_lt HP1.out.hs) HNN.out.1, hlo _ (blk_lt HP1.out.hx) HNN.out.2.1, hlo _ (blk_lt HP1.out.hg) HNN.out.2.2.1, hlo _ HP1.out.row.lt HNN.out.2.2.2⟩ HBE HP1.out.old)
      clear i1 i2 i3 HBE hlo hl1
      go_wp2
      refine bodyPost_ret (results_none rfl _ _ _) rfl ⟨rfl, ?_⟩
      simpa using HFI.out
def okPts (sides : List S77) (conds : List S33) : Bool := okRef sides conds && sides.all fun s => decide (-1000001 ≤ s.f1) && decide (s.f2 ≤ 1000001)
abbrev PWs (w0 : World) (sides : List S77) (conds : List S33) (As Ac : Option Addr) (cs cc Bs Bo X Bx Bg : Nat) (x : List Int) (s : List (List Int)) (wr : World) : Prop := PW w0 sides.length #[.slice As sides.length cs, .slice Ac conds.length cc] Bs Bo X Bx Bg x s wr
theorem take_snoc_getD {x3 x : List Int} {i : Nat} {q : Int} (h : x3.take (i + 1) = x.take i ++ [q]) (hi : i < x.length) : x3.getD i 0 = q := by
  have h1 : (x3.take (i + 1))[i]? = some q := by
    rw [h, List.getElem?_append_right (by simp; omega)]
    have : (List.take i x).length = i := by simp; omega
    rw [this, Nat.sub_self]
    rfl
  rw [List.getElem?_take_of_lt (Nat.lt_succ_self i)] at h1
  simp [List.getD, h1]
theorem row_cell_q {W : World} {X n : Nat} {x3 x : List Int} {i : Nat} {q : Int} (h : IntRow W X x3) (hi : i < n) (hx : i < x.length) (hl : x3.length = n) (h3 : x3.take (i + 1) = x.take i ++ [q]) : W.cell? ⟨X, i, none⟩ = some (.int .i64 q) := by
  have := h.cell i (by omega)
  rwa [take_snoc_getD h3 hx] at this
set_option maxHeartbeats 8000000 in
set_option maxRecDepth 100000 in
theorem go1_calls (w0 : World) (sides : List S77) (conds : List S33) (As Ac : Option Addr) (cs cc : Nat) (Bs Bo X Bx Bg : Nat)
    (hs : Kd.C k77 w0 As sides.length sides) (hcs : sides.length ≤ cs) (hc : Kd.C k33 w0 Ac conds.length conds) (hcc : conds.length ≤ cc) (hok : okPts sides conds = true) :
    ∀ (m i : Nat) (x : List Int) (s : List (List Int)) (W : World), i + m = sides.length → PWs w0 sides conds As Ac cs cc Bs Bo X Bx Bg x s W → s.length + (enumP (isPointB sides conds) (sides.drop i) (x.take i)).length < PtsMax →
    Calls Tryz.prog 93 (#[.int .i64 (i : Int)] ++ caps Bs Bo Bx Bg) W fun e w' => e = .returned (.tuple #[]) ∧ ∃ x' : List Int, x'.take i = x.take i ∧ PWs w0 sides conds As Ac cs cc Bs Bo X Bx Bg x' (s ++ enumP (isPointB sides conds) (sides.drop i) (x.take i)) w' := by
  have hok2 : okRef sides conds = true := by
    unfold okPts at hok
    exact (Bool.and_eq_true _ _ ▸ hok).1
  have hokb : ∀ y ∈ sides, -1000001 ≤ y.f1 ∧ y.f2 ≤ 1000001 := fun y hy => by
    unfold okPts at hok
    simp only [Bool.and_eq_true, decide_eq_true_eq, List.all_eq_true] at hok
    exact hok.2 y hy
  intro m
  induction m with
  | zero =>
    intro i x s W hi hP hl
    obtain rfl : i = sides.length := by omega
    have ht : x.take sides.length = x := by rw [← hP.len]; exact List.take_length
    have hd : sides.drop sides.length = [] := List.drop_length
    rw [ht, hd] at hl ⊢
    have := go1_base w0 sides conds As Ac cs cc Bs Bo X Bx Bg x s W hs hcs hc hcc hok2 hP (by omega)
    exact this.mono fun e w' ⟨he, hp⟩ => ⟨he, x, ht, hp⟩
  | succ m ih =>
    intro i x s W hi hP hl
    have hlt : i < sides.length := by omega
    have hltx : i < x.length := by rw [hP.len]; exact hlt
    have hne : ¬ (i : Int) = (sides.length : Int) := by omega
    have HS := Aside0.mk hs
    have HP := Aside0.mk hP
    have HIH := Aside0.mk ih
    have hm := hs.2.1
    have hn : sides.length < 1000 := by
      unfold okRef at hok2
      simp only [Bool.and_eq_true, decide_eq_true_eq] at hok2
      exact hok2.1
    obtain ⟨ad0, e, hs0, hs1, hs2⟩ := at_T77 hs (i : Int) (by omega) (by omega)
    cases e
    have HY : Aside0 (sides.drop i = rd_T77 sides (i : Int) :: sides.drop (i + 1)) := ⟨by
      rw [List.drop_eq_getElem_cons hlt]
      simp [rd_T77, List.getD, List.getElem?_eq_getElem hlt]⟩
    have HYB := Aside0.mk (hokb (rd_T77 sides (i : Int)) (by
      have : rd_T77 sides (i : Int) = sides[i] := by simp [rd_T77, List.getD, List.getElem?_eq_getElem hlt]
      rw [this]; exact List.getElem_mem hlt))
    simp only [Int.toNat_natCast] at hs0 hs1 hs2
    generalize rd_T77 sides (i : Int) = y at *
    obtain ⟨y0, y1, y2⟩ := y
    have HS1 : Aside0 (w0.cell? _ = _) := ⟨hs1⟩
    have HS2 : Aside0 (w0.cell? _ = _) := ⟨hs2⟩
    have HL := Aside0.mk hl
    have HW0 : Aside0 (PWs w0 sides conds (some ad0) Ac cs cc Bs Bo X Bx Bg (x.set i y1) s ((W.setCell ⟨X, i, none⟩ (.int .i64 y1)).drew)) := ⟨(hP.setRow i y1).below (below_drew (Below.refl _ _))⟩
    have HSET : Aside0 ((x.set i y1).take i = x.take i ∧ (x.set i y1).getD i 0 = y1) := ⟨by rw [List.take_set_of_le (Nat.le_refl _)], by simp [List.getD, hltx]⟩
    have eg := enters_of Tryz.func93 (by kernel_rfl) rfl
    have x0 : W.cell? ⟨Bx, 0, none⟩ = some (.slice (some ⟨X, 0, none⟩) sides.length sides.length) := (blk_cell hP.hx 0).trans rfl
    have s0 : W.cell? ⟨Bs, 0, none⟩ = some (.slice (some ad0) sides.length cs) := (blk_cell hP.hs 0).trans rfl
    have r0 := hP.row.cell i hltx
    have r1 := hP.row.frozen i
    have r2 := hP.row.lt
    have l1 := pw_cell_below hP.bw hs1
    clear hs hc hok hok2 hokb hP ih hs0 hs1 hs2 hl
    go_enter Tryz.func93, Tryz.ntmps93
    go_wp2
    go_region_law (fail)
    all_goals
      clear x0 s0 r0 r1 r2 l1
      generalize (W.setCell ⟨X, i, none⟩ (.int .i64 y1)).drew = W1 at *
      go_wp2
      go_loopg [27] (y2 + 1 - y1).toNat (fun gg _ wr => ∃ (c : Nat) (q : Int) (x1 : List Int) (s1 : List (List Int)), Aside0 (c ≤ gg) ∧ Aside0 (x1.take i = x.take i ∧ x1.getD i 0 = q) ∧ Aside0 (-1000001 ≤ q ∧ (q + c = y2 + 1 ∨ (c = 0 ∧ y2 < q))) ∧ Aside0 (PWs w0 sides conds (some ad0) Ac cs cc Bs Bo X Bx Bg x1 s1 wr) ∧ Aside0 (s ++ enumP (isPointB sides conds) (sides.drop i) (x.take i) = s1 ++ (valsFrom q c).flatMap fun v => enumP (isPointB sides conds) (sides.drop (i + 1)) (x.take i ++ [v])))
      case atStart => exact ⟨(y2 + 1 - y1).toNat, y1, x.set i y1, s, ⟨Nat.le_refl _⟩, HSET, ⟨HYB.out.1, by omega⟩, HW0, ⟨by rw [HY.out]; rfl⟩⟩
      case round =>
        clear HW0 HSET
        obtain ⟨c, q, x1, s1, HG, HX1, HQ, HP1, HE⟩ := hrel
        have hq := HQ.out
        have hyb := HYB.out.2
        have x0 : wr.cell? ⟨Bx, 0, none⟩ = some (.slice (some ⟨X, 0, none⟩) sides.length sides.length) := (blk_cell HP1.out.hx 0).trans rfl
        have s0 : wr.cell? ⟨Bs, 0, none⟩ = some (.slice (some ad0) sides.length cs) := (blk_cell HP1.out.hs 0).trans rfl
        have g0 : wr.cell? ⟨Bg, 0, none⟩ = some (.func (.func 93) #[] (caps Bs Bo Bx Bg)) := (blk_cell HP1.out.hg 0).trans rfl
        have r0 := HP1.out.row.cell i (by rw [HP1.out.len]; exact hlt)
        rw [HX1.out.2] at r0
        have l2 := pw_cell_below HP1.out.bw HS2.out
        cases c with
        | zero =>
          have hqz : ¬ q ≤ y2 := by simp at hq; omega
          clear hq
          go_wp2
          go_quiet (fail)
          go_wp2
          refine bodyPost_end (results_none rfl _ _ _) rfl ⟨rfl, x1, HX1.out.1, ?_⟩
          rw [HE.out]
          simpa [valsFrom] using HP1.out.below (pw_below_drewN (Below.refl _ _) _)
        | succ c1 =>
          have hqz : q ≤ y2 := by simp at hq; omega
          clear hq
          have HT1 : Aside0 (x1.take (i + 1) = x.take i ++ [q]) := ⟨by
            have h1 : i < x1.length := by rw [HP1.out.len]; exact hlt
            rw [List.take_succ_eq_append_getElem h1, HX1.out.1]
            congr 2
            have := HX1.out.2
            simpa [List.getD, List.getElem?_eq_getElem h1] using this⟩
          have HC : Aside0 (∀ W2, PWs w0 sides conds (some ad0) Ac cs cc Bs Bo X Bx Bg x1 s1 W2 → Calls Tryz.prog 93 #[.int .i64 ((i : Int) + 1), .pointer (some ⟨Bx, 0, none⟩), .pointer (some ⟨Bs, 0, none⟩), .pointer (some ⟨Bo, 0, none⟩), .pointer (some ⟨Bg, 0, none⟩)] W2 fun e w' => e = .returned (.tuple #[]) ∧ ∃ x' : List Int, x'.take (i + 1) = x.take i ++ [q] ∧ PWs w0 sides conds (some ad0) Ac cs cc Bs Bo X Bx Bg x' (s1 ++ enumP (isPointB sides conds) (sides.drop (i + 1)) (x.take i ++ [q])) w') := ⟨fun W2 h => by
            have h2 := HIH.out (i + 1) x1 s1 W2 (by omega) h (by
              rw [HT1.out]
              have h3 := HL.out
              have h4 := congrArg List.length HE.out
              simp only [List.length_append, valsFrom, List.flatMap_cons] at h4
              omega)
            rw [HT1.out] at h2
            exact h2⟩
          go_wp2
          go_quiet (fail)
          have g1 : (wr.drewN nq).cell? ⟨Bg, 0, none⟩ = some (.func (.func 93) #[] (caps Bs Bo Bx Bg)) := g0
          have HP2 : Aside0 (PWs w0 sides conds (some ad0) Ac cs cc Bs Bo X Bx Bg x1 s1 (wr.drewN nq)) := ⟨HP1.out.below (pw_below_drewN (Below.refl _ _) _)⟩
          clear x0 s0 g0 r0 l2
          generalize wr.drewN nq = W2 at *
          go_wp2_with (go_at_fn 93)
          refine (HC.out _ HP2.out).mono ?_
          rintro e w3 ⟨rfl, x3, hx3, hp3⟩
          have HX3 := Aside0.mk hx3
          have HP3 := Aside0.mk hp3
          have x0 : w3.cell? ⟨Bx, 0, none⟩ = some (.slice (some ⟨X, 0, none⟩) sides.length sides.length) := (blk_cell hp3.hx 0).trans rfl
          have r0 := row_cell_q hp3.row hlt hltx hp3.len hx3
          have r1 := hp3.row.frozen i
          have r2 := hp3.row.lt
          clear hx3 hp3
          go_wp2
          go_roundg c1
          case measure => have := HG.out; omega
          case rel =>
            have hq := HQ.out
            have e1 : (wrap64 (q + 1)) = q + 1 := IntWalk.wrap64_in _ (by omega)
            refine ⟨c1, q + 1, x3.set i (wrap64 (q + 1)), _, ⟨Nat.le_refl _⟩, ⟨?_, ?_⟩, ⟨by omega, by omega⟩, ⟨HP3.out.setRow i _⟩, ⟨?_⟩⟩
            · rw [List.take_set_of_le (Nat.le_refl _)]
              have := congrArg (List.take i) HX3.out
              rw [List.take_take, Nat.min_eq_left (Nat.le_succ i), List.take_append_of_le_length (by simp; omega), List.take_take, Nat.min_self] at this
              exact this
            · rw [e1]
              have : i < x3.length := by rw [HP3.out.len]; exact hlt
              simp [List.getD, this]
            · rw [HE.out]
              simp [valsFrom]
theorem run_store_func {P : Program} (w : World) (a : Addr) (m : Mode) (fn : Fn) (ts b : Array Value) : (store a (.func fn ts b) m).run P w = stored P w a (.func fn ts b) m := run_store P w a _ m rfl
def wbref1_PointsIn.f (l0_0 : List S77) (l0_1 : List S33) : Option (List (List Int)) :=
  if okPts l0_0 l0_1 then (if l0_0.any (fun v => decide (v.f2 < v.f1)) then some [] else (if (enumP (isPointB l0_0 l0_1) l0_0 []).length < PtsMax then some (enumP (isPointB l0_0 l0_1) l0_0 []) else none)) else none
set_option maxHeartbeats 8000000 in
set_option maxRecDepth 100000 in
theorem wbref1_PointsIn.calls (A0_0 : Option Addr) (c0_0 : Nat) (l0_0 : List S77) (A0_1 : Option Addr) (c0_1 : Nat) (l0_1 : List S33) (r : List (List Int)) (w : World) (hr0_0 : Kd.C k77 w A0_0 l0_0.length l0_0) (hc0_0 : l0_0.length ≤ c0_0) (hr0_1 : Kd.C k33 w A0_1 l0_1.length l0_1) (hc0_1 : l0_1.length ≤ c0_1) (h : wbref1_PointsIn.f l0_0 l0_1 = some r) :
    Calls Tryz.prog 34 #[.agg #[.slice A0_0 l0_0.length c0_0, .slice A0_1 l0_1.length c0_1]] w fun e w' => ∃ v0_ : Value, e = .returned v0_ ∧ Kd.V (Kd.slice 3 (Kd.int .i64)) 22 w' w.heap.size (fun k_ => (w.heap.size ≤ k_)) v0_ r ∧ Below w.heap.size w w' := by
  have HS := Aside0.mk hr0_0
  have HCc := Aside0.mk hr0_1
  have HH := Aside0.mk h
  have hm := hr0_0.2.1
  have hok : okPts l0_0 l0_1 = true := by
    unfold wbref1_PointsIn.f at h
    by_cases hok : okPts l0_0 l0_1 = true
    · exact hok
    · rw [if_neg hok] at h
      exact absurd h (by simp)
  have HOK := Aside0.mk hok
  have hn : l0_0.length < 1000 := by
    unfold okPts okRef at hok
    simp only [Bool.and_eq_true, decide_eq_true_eq] at hok
    exact hok.1.1
  have hmk := print_make (P := Tryz.prog) 22 3 .i64 8 Tryz.underlying22 info3 (by decide) l0_0.length (by omega)
  have eg := enters_of Tryz.func93 (by kernel_rfl) rfl
  have hsz : ((((w.alloc (.cells #[.slice A0_0 l0_0.length c0_0, .slice A0_1 l0_1.length c0_1] 29)).alloc (.cells #[.slice none 0 0] 48)).alloc (.cells (madeCells #[.int .i64 0] l0_0.length) 3)).alloc (.cells #[.slice (some ⟨w.heap.size + 1 + 1, 0, none⟩) l0_0.length l0_0.length] 22)).heap.size = w.heap.size + 1 + 1 + 1 + 1 := by simp
  have hb5 := blk_new ((((w.alloc (.cells #[.slice A0_0 l0_0.length c0_0, .slice A0_1 l0_1.length c0_1] 29)).alloc (.cells #[.slice none 0 0] 48)).alloc (.cells (madeCells #[.int .i64 0] l0_0.length) 3)).alloc (.cells #[.slice (some ⟨w.heap.size + 1 + 1, 0, none⟩) l0_0.length l0_0.length] 22)) (.cells #[.func (.func 93) #[] (caps w.heap.size (w.heap.size + 1) (w.heap.size + 1 + 1 + 1) (w.heap.size + 1 + 1 + 1 + 1))] 127)
  rw [hsz] at hb5
  have hb4 := blk_alloc (blk_new (((w.alloc (.cells #[.slice A0_0 l0_0.length c0_0, .slice A0_1 l0_1.length c0_1] 29)).alloc (.cells #[.slice none 0 0] 48)).alloc (.cells (madeCells #[.int .i64 0] l0_0.length) 3)) (.cells #[.slice (some ⟨w.heap.size + 1 + 1, 0, none⟩) l0_0.length l0_0.length] 22)) (.cells #[.func (.func 93) #[] (caps w.heap.size (w.heap.size + 1) (w.heap.size + 1 + 1 + 1) (w.heap.size + 1 + 1 + 1 + 1))] 127)
  rw [show (((w.alloc (.cells #[.slice A0_0 l0_0.length c0_0, .slice A0_1 l0_1.length c0_1] 29)).alloc (.cells #[.slice none 0 0] 48)).alloc (.cells (madeCells #[.int .i64 0] l0_0.length) 3)).heap.size = w.heap.size + 1 + 1 + 1 by simp] at hb4
  have hb3 := blk_alloc (blk_alloc (blk_new ((w.alloc (.cells #[.slice A0_0 l0_0.length c0_0, .slice A0_1 l0_1.length c0_1] 29)).alloc (.cells #[.slice none 0 0] 48)) (.cells (madeCells #[.int .i64 0] l0_0.length) 3)) (.cells #[.slice (some ⟨w.heap.size + 1 + 1, 0, none⟩) l0_0.length l0_0.length] 22)) (.cells #[.func (.func 93) #[] (caps w.heap.size (w.heap.size + 1) (w.heap.size + 1 + 1 + 1) (w.heap.size + 1 + 1 + 1 + 1))] 127)
  rw [show ((w.alloc (.cells #[.slice A0_0 l0_0.length c0_0, .slice A0_1 l0_1.length c0_1] 29)).alloc (.cells #[.slice none 0 0] 48)).heap.size = w.heap.size + 1 + 1 by simp] at hb3
  have hb2 := blk_alloc (blk_alloc (blk_alloc (blk_new (w.alloc (.cells #[.slice A0_0 l0_0.length c0_0, .slice A0_1 l0_1.length c0_1] 29)) (.cells #[.slice none 0 0] 48)) (.cells (madeCells #[.int .i64 0] l0_0.length) 3)) (.cells #[.slice (some ⟨w.heap.size + 1 + 1, 0, none⟩) l0_0.length l0_0.length] 22)) (.cells #[.func (.func 93) #[] (caps w.heap.size (w.heap.size + 1) (w.heap.size + 1 + 1 + 1) (w.heap.size + 1 + 1 + 1 + 1))] 127)
  rw [show (w.alloc (.cells #[.slice A0_0 l0_0.length c0_0, .slice A0_1 l0_1.length c0_1] 29)).heap.size = w.heap.size + 1 by simp] at hb2
  have hb1 := blk_alloc (blk_alloc (blk_alloc (blk_alloc (blk_new w (.cells #[.slice A0_0 l0_0.length c0_0, .slice A0_1 l0_1.length c0_1] 29)) (.cells #[.slice none 0 0] 48)) (.cells (madeCells #[.int .i64 0] l0_0.length) 3)) (.cells #[.slice (some ⟨w.heap.size + 1 + 1, 0, none⟩) l0_0.length l0_0.length] 22)) (.cells #[.func (.func 93) #[] (caps w.heap.size (w.heap.size + 1) (w.heap.size + 1 + 1 + 1) (w.heap.size + 1 + 1 + 1 + 1))] 127)
  have hbw := below_alloc (below_alloc (below_alloc (below_alloc (below_alloc (Below.refl w.heap.size w) (.cells #[.slice A0_0 l0_0.length c0_0, .slice A0_1 l0_1.length c0_1] 29)) (.cells #[.slice none 0 0] 48)) (.cells (madeCells #[.int .i64 0] l0_0.length) 3)) (.cells #[.slice (some ⟨w.heap.size + 1 + 1, 0, none⟩) l0_0.length l0_0.length] 22)) (.cells #[.func (.func 93) #[] (caps w.heap.size (w.heap.size + 1) (w.heap.size + 1 + 1 + 1) (w.heap.size + 1 + 1 + 1 + 1))] 127)
  have HPW : Aside0 (PWs w l0_0 l0_1 A0_0 A0_1 c0_0 c0_1 w.heap.size (w.heap.size + 1) (w.heap.size + 1 + 1) (w.heap.size + 1 + 1 + 1) (w.heap.size + 1 + 1 + 1 + 1) (List.replicate l0_0.length 0) [] ((((((w.alloc (.cells #[.slice A0_0 l0_0.length c0_0, .slice A0_1 l0_1.length c0_1] 29)).alloc (.cells #[.slice none 0 0] 48)).alloc (.cells (madeCells #[.int .i64 0] l0_0.length) 3)).alloc (.cells #[.slice (some ⟨w.heap.size + 1 + 1, 0, none⟩) l0_0.length l0_0.length] 22)).alloc (.cells #[.func (.func 93) #[] (caps w.heap.size (w.heap.size + 1) (w.heap.size + 1 + 1 + 1) (w.heap.size + 1 + 1 + 1 + 1))] 127)))) := ⟨by
    refine PW.mk (hb1) (hb4) hb5 (by unfold IntRow; rw [← made_zero]; exact hb3) (by simp) ⟨fun k => k = w.heap.size + 1, ⟨rfl, fun k hk => ?_, .slice none 0 0, hb2, Kd.N_nil _ _ _ _ _⟩, fun k hk => by omega, by omega, by omega, by omega, by omega⟩ hbw (by omega)
    subst hk
    simp⟩
  clear hr0_0 hr0_1 h hok hb1 hb2 hb3 hb4 hb5 hbw hsz
  have hsf := @run_store_func Tryz.prog
  go_enter Tryz.func34, Tryz.ntmps34
  go_wp2
  clear hmk hsf
  generalize (((((w.alloc (.cells #[.slice A0_0 l0_0.length c0_0, .slice A0_1 l0_1.length c0_1] 29)).alloc (.cells #[.slice none 0 0] 48)).alloc (.cells (madeCells #[.int .i64 0] l0_0.length) 3)).alloc (.cells #[.slice (some ⟨w.heap.size + 1 + 1, 0, none⟩) l0_0.length l0_0.length] 22)).alloc (.cells #[.func (.func 93) #[] (caps w.heap.size (w.heap.size + 1) (w.heap.size + 1 + 1 + 1) (w.heap.size + 1 + 1 + 1 + 1))] 127)) = W5 at *
  go_loopg [7, 16] l0_0.length (fun gg _ s16 wr => ∃ kk : Nat, kk ≤ l0_0.length ∧ l0_0.length - kk ≤ gg ∧ s16 = .int .i64 kk ∧ Aside0 (PWs w l0_0 l0_1 A0_0 A0_1 c0_0 c0_1 w.heap.size (w.heap.size + 1) (w.heap.size + 1 + 1) (w.heap.size + 1 + 1 + 1) (w.heap.size + 1 + 1 + 1 + 1) (List.replicate l0_0.length 0) [] wr) ∧ Aside0 (∀ j, j < kk → ¬ (l0_0.getD j z77).f2 < (l0_0.getD j z77).f1))
  case atStart => exact ⟨0, Nat.zero_le _, by omega, rfl, HPW, ⟨fun j hj => absurd hj (Nat.not_lt_zero _)⟩⟩
  case round =>
    clear HPW
    obtain ⟨kk, hkk, hg, rfl, BW, AQ⟩ := hrel
    by_cases hlt : kk < l0_0.length
    · have hltz : (kk : Int) < (l0_0.length : Int) := by omega
      obtain ⟨ad0, e, hs0, hs1, hs2⟩ := at_T77 HS.out (kk : Int) (by omega) (by omega)
      cases e
      replace hs0 := pw_cell_below BW.out.bw hs0
      replace hs1 := pw_cell_below BW.out.bw hs1
      replace hs2 := pw_cell_below BW.out.bw hs2
      simp only [Int.toNat_natCast] at hs0 hs1 hs2
      have HY : Aside0 (l0_0.getD kk z77 = rd_T77 l0_0 (kk : Int)) := ⟨rfl⟩
      generalize rd_T77 l0_0 (kk : Int) = y at *
      obtain ⟨y0, y1, y2⟩ := y
      by_cases hgt : y2 < y1
      · go_wp2
        go_ret
        have hany : l0_0.any (fun v => decide (v.f2 < v.f1)) = true := by
          refine List.any_eq_true.2 ⟨l0_0.getD kk z77, ?_, ?_⟩
          · simp [List.getD, List.getElem?_eq_getElem hlt]
          · rw [HY.out]
            exact decide_eq_true hgt
        have HH2 := HH.out
        unfold wbref1_PointsIn.f at HH2
        rw [if_pos HOK.out, if_pos hany] at HH2
        obtain rfl := Option.some.inj HH2
        exact ⟨_, rfl, Kd.V_nil _ _ _ _ _, (BW.out.below (below_alloc (Below.refl _ _) _)).bw⟩
      · go_wp2
        go_roundg (l0_0.length - (kk + 1))
        case measure => omega
        case rel =>
          refine ⟨kk + 1, by omega, by omega, by go_num, ⟨BW.out.below (below_alloc (Below.refl _ _) _)⟩, ⟨fun j hj => ?_⟩⟩
          by_cases e : j = kk
          · subst e
            rw [HY.out]
            exact hgt
          · exact AQ.out j (by omega)
    · have hltz : ¬ (kk : Int) < (l0_0.length : Int) := by omega
      have : kk = l0_0.length := by omega
      subst this
      have HE : Aside0 ((enumP (isPointB l0_0 l0_1) l0_0 []).length < PtsMax ∧ r = enumP (isPointB l0_0 l0_1) l0_0 []) := ⟨by
        have hna : l0_0.any (fun v => decide (v.f2 < v.f1)) = false := by
          rw [List.any_eq_false]
          intro v hv
          obtain ⟨j, hj, rfl⟩ := List.getElem_of_mem hv
          have := AQ.out j hj
          simpa [List.getD, List.getElem?_eq_getElem hj] using this
        have HH2 := HH.out
        unfold wbref1_PointsIn.f at HH2
        rw [if_pos HOK.out, hna] at HH2
        by_cases hb : (enumP (isPointB l0_0 l0_1) l0_0 []).length < PtsMax
        · rw [if_pos hb] at HH2
          exact ⟨hb, (Option.some.inj HH2).symm⟩
        · rw [if_neg hb] at HH2
          exact absurd HH2 (by simp)⟩
      have HC : Aside0 (Calls Tryz.prog 93 #[.int .i64 0, .pointer (some ⟨w.heap.size + 1 + 1 + 1, 0, none⟩), .pointer (some ⟨w.heap.size, 0, none⟩), .pointer (some ⟨w.heap.size + 1, 0, none⟩), .pointer (some ⟨w.heap.size + 1 + 1 + 1 + 1, 0, none⟩)] wr fun e w' => e = .returned (.tuple #[]) ∧ ∃ x' : List Int, PWs w l0_0 l0_1 A0_0 A0_1 c0_0 c0_1 w.heap.size (w.heap.size + 1) (w.heap.size + 1 + 1) (w.heap.size + 1 + 1 + 1) (w.heap.size + 1 + 1 + 1 + 1) x' r w') := ⟨by
        have h1 := go1_calls w l0_0 l0_1 A0_0 A0_1 c0_0 c0_1 w.heap.size (w.heap.size + 1) (w.heap.size + 1 + 1) (w.heap.size + 1 + 1 + 1) (w.heap.size + 1 + 1 + 1 + 1) HS.out hc0_0 HCc.out hc0_1 HOK.out l0_0.length 0 _ [] wr (by omega) BW.out (by simpa using HE.out.1)
        exact h1.mono fun e w' ⟨he, x', _, hp⟩ => ⟨he, x', by simpa [HE.out.2] using hp⟩⟩
      have g0 : wr.cell? ⟨w.heap.size + 1 + 1 + 1 + 1, 0, none⟩ = some (.func (.func 93) #[] (caps w.heap.size (w.heap.size + 1) (w.heap.size + 1 + 1 + 1) (w.heap.size + 1 + 1 + 1 + 1))) := (blk_cell BW.out.hg 0).trans rfl
      go_wp2_with (go_at_fn 93)
      refine HC.out.mono ?_
      rintro e w3 ⟨rfl, x3, hp3⟩
      obtain ⟨F, ⟨h2, h4, u, h5, h7⟩, hF, _⟩ := hp3.out
      have o0 : w3.cell? ⟨w.heap.size + 1, 0, none⟩ = some u := (blk_cell h5 0).trans rfl
      have HB3 := Aside0.mk hp3.bw
      obtain ⟨A', c', rfl⟩ := Kd.N_slice h7
      have HV : Aside0 (Kd.V (Kd.slice 3 (Kd.int .i64)) 22 w3 w.heap.size (fun k_ => (w.heap.size ≤ k_)) _ r) := ⟨Kd.N_V (Kd.N_mono h7 (fun k hk => hF k hk.1))⟩
      clear hp3 h2 h4 h5 h7 hF
      go_wp2
      go_ret
      exact ⟨_, rfl, HV.out, HB3.out⟩
theorem eq_l0 (x0 x1 : List Int) (hl : x0.length = x1.length) (hm : x0.length ≤ 9223372036854775807) : ∀ (m kk k : Nat), kk + m = x0.length → m < k → slices_Equal_int_int.l0 k x0 x1 (x0.length : Int) (kk : Int) = some (decide (x0.drop kk = x1.drop kk)) := by
  intro m
  induction m with
  | zero =>
    intro kk k h1 h2
    cases k with
    | zero => omega
    | succ k =>
      rw [slices_Equal_int_int.l0, if_neg (by omega)]
      rw [List.drop_of_length_le (by omega), List.drop_of_length_le (by omega)]
      simp
  | succ m ih =>
    intro kk k h1 h2
    cases k with
    | zero => omega
    | succ k =>
      have e0 : kk < x0.length := by omega
      have e1 : kk < x1.length := by omega
      rw [slices_Equal_int_int.l0, if_pos (by omega), if_pos (by omega), if_pos (by omega), if_pos (by omega)]
      have ec : wrap64 ((kk : Int) + 1) = ((kk + 1 : Nat) : Int) := by rw [IntWalk.wrap64_in _ (by omega)]; omega
      have r0 : rd x0 (kk : Int) = x0[kk] := by simp [rd, rdOf, List.getD, List.getElem?_eq_getElem e0]
      have r1 : rd x1 (kk : Int) = x1[kk] := by simp [rd, rdOf, List.getD, List.getElem?_eq_getElem e1]
      have d0 : x0.drop kk = x0[kk] :: x0.drop (kk + 1) := List.drop_eq_getElem_cons e0
      have d1 : x1.drop kk = x1[kk] :: x1.drop (kk + 1) := List.drop_eq_getElem_cons e1
      rw [ec, r0, r1, d0, d1]
      by_cases he : x0[kk] = x1[kk]
      · rw [if_pos he, ih (kk + 1) k (by omega) (by omega)]
        congr 1
        exact decide_eq_decide.2 (by simp only [he, List.cons.injEq, true_and])
      · rw [if_neg he]
        simp only [List.cons.injEq, he, false_and, decide_false]
theorem eq_f (x0 x1 : List Int) (hm : x0.length ≤ 9223372036854775807) : slices_Equal_int_int.f (x0.length + 1) x0 x1 = some (decide (x0 = x1)) := by
  unfold slices_Equal_int_int.f
  by_cases hl : x0.length = x1.length
  · rw [if_pos (by omega)]
    have := eq_l0 x0 x1 hl hm x0.length 0 (x0.length + 1) (by omega) (by omega)
    simpa using this
  · rw [if_neg (by omega)]
    have : x0 ≠ x1 := fun e => hl (by rw [e])
    simp [this]
theorem Equal_ints (A0 : Option Addr) (c0 : Nat) (l0 : List Int) (A1 : Option Addr) (c1 : Nat) (l1 : List Int) (w : World) (hr0 : Kd.C (Kd.int .i64) w A0 l0.length l0) (hc0 : l0.length ≤ c0) (hr1 : Kd.C (Kd.int .i64) w A1 l1.length l1) (hc1 : l1.length ≤ c1) :
    Calls Tryz.prog 72 #[.slice A0 l0.length c0, .slice A1 l1.length c1] w fun e w' => e = .returned (.bool (decide (l0 = l1))) ∧ Drawn0 w w' :=
  slices_Equal_int_int.calls _ A0 c0 l0 A1 c1 l1 _ w hr0 hc0 hr1 hc1 (eq_f l0 l1 hr0.2.1)
def rd_LI (xs : List (List Int)) (i : Int) : List Int := xs.getD i.toNat ([] : List Int)
theorem at_LI {w : World} {A : Option Addr} {n : Nat} {xs : List (List Int)} (h : Kd.C (Kd.slice 3 (Kd.int .i64)) w A n xs) (i : Int) (h0 : 0 ≤ i) (h1 : i < n) : ∃ ad A0 c0, A = some ad ∧ w.cell? (ad.add i.toNat) = some (.slice A0 (rd_LI xs i).length c0) ∧ (rd_LI xs i).length ≤ c0 ∧ (Kd.int .i64).C w A0 (rd_LI xs i).length (rd_LI xs i) := by
  obtain ⟨ad, c, e, _, hK, hc0⟩ := Kd.C_get h ([] : List Int) i h0 h1
  have hc : ∀ j u, c[j]? = some u → w.cell? (ad.add (i.toNat * 1 + j)) = some u := hc0
  obtain ⟨A0, c0, rfl, l0, g0⟩ := hK
  exact ⟨ad, A0, c0, e, by have hq := hc 0 _ rfl; rwa [Nat.mul_one, Nat.add_zero] at hq, l0, g0⟩
theorem drop_LI (l : List (List Int)) (k : Nat) (h : k < l.length) : l.drop k = rd_LI l (k : Int) :: l.drop (k + 1) := by
  rw [List.drop_eq_getElem_cons h]
  simp [rd_LI, List.getD, List.getElem?_eq_getElem h]
theorem below_drawn0 {B : Nat} {w W W' : World} (h : Below B w W) (hd : Drawn0 W W') : Below B w W' := by
  obtain ⟨n, rfl⟩ := hd
  exact pw_below_drewN h n
set_option maxHeartbeats 4000000 in
theorem EqualFunc_lists (A0 : Option Addr) (c0 : Nat) (l0 : List (List Int)) (A1 : Option Addr) (c1 : Nat) (l1 : List (List Int)) (w : World) (hr0 : Kd.C (Kd.slice 3 (Kd.int .i64)) w A0 l0.length l0) (hr1 : Kd.C (Kd.slice 3 (Kd.int .i64)) w A1 l1.length l1) :
    Calls Tryz.prog 71 #[.slice A0 l0.length c0, .slice A1 l1.length c1, .func (.func 72) #[] #[]] w fun e w' => e = .returned (.bool (decide (l0 = l1))) ∧ Below w.heap.size w w' := by
  have HR0 := Aside0.mk hr0
  have HR1 := Aside0.mk hr1
  have hm0 := hr0.2.1
  have hm1 := hr1.2.1
  have eg := enters_of Tryz.func72 (by kernel_rfl) rfl
  clear hr0 hr1
  by_cases hl : (l0.length : Int) = (l1.length : Int)
  · have HL : Aside0 (l0.length = l1.length) := ⟨by omega⟩
    go_enter Tryz.func71, Tryz.ntmps71
    have hlz : ¬ ((l0.length : Int) ≠ (l1.length : Int)) := fun h => h hl
    go_wp2
    clear hl hlz
    go_loopg [7, 8, 9, 17] l0.length (fun gg _ _ _ s17 wr => ∃ kk : Nat, kk ≤ l0.length ∧ l0.length - kk ≤ gg ∧ s17 = .int .i64 kk ∧ Aside0 (Below w.heap.size w wr) ∧ Aside0 (decide (l0 = l1) = decide (l0.drop kk = l1.drop kk)))
    case atStart => exact ⟨0, Nat.zero_le _, by omega, rfl, ⟨Below.refl _ w⟩, ⟨by simp⟩⟩
    case round =>
      obtain ⟨kk, hkk, hg, rfl, BW, AQ⟩ := hrel
      by_cases hlt : kk < l0.length
      · have hlt1 : kk < l1.length := by have := HL.out; omega
        have hltz : (kk : Int) < (l0.length : Int) := by omega
        have hltz1 : (kk : Int) < (l1.length : Int) := by omega
        obtain ⟨ad0, A2, c2, e, hx0, hle0, hC0⟩ := at_LI HR0.out (kk : Int) (by omega) (by omega)
        cases e
        obtain ⟨ad1, A3, c3, e, hx1, hle1, hC1⟩ := at_LI HR1.out (kk : Int) (by omega) (by omega)
        cases e
        replace hx0 := pw_cell_below BW.out hx0
        replace hx1 := pw_cell_below BW.out hx1
        simp only [Int.toNat_natCast] at hx0 hx1
        have HD : Aside0 (decide (l0.drop kk = l1.drop kk) = (decide (rd_LI l0 (kk : Int) = rd_LI l1 (kk : Int)) && decide (l0.drop (kk + 1) = l1.drop (kk + 1)))) := ⟨by
          rw [drop_LI l0 kk hlt, drop_LI l1 kk hlt1]
          rw [Bool.eq_iff_iff]
          simp⟩
        have hcall := Equal_ints A2 c2 _ A3 c3 _ wr (Kd.C_below hC0 BW.out) hle0 (Kd.C_below hC1 BW.out) hle1
        clear hC0 hC1 hle0 hle1
        generalize rd_LI l0 (kk : Int) = y at *
        generalize rd_LI l1 (kk : Int) = z at *
        cases hq : decide (y = z) with
        | true =>
          rw [hq] at hcall HD
          clear hq
          have HC := Aside0.mk hcall
          clear hcall
          go_wp2_with (go_at_fn 72)
          refine HC.out.mono ?_
          rintro e w' ⟨rfl, hb'⟩
          go_wp2
          go_roundg (l0.length - (kk + 1))
          case measure => omega
          case rel => exact ⟨kk + 1, by omega, by omega, by go_num, ⟨below_drawn0 BW.out hb'⟩, ⟨by rw [AQ.out, HD.out, Bool.true_and]⟩⟩
        | false =>
          rw [hq] at hcall HD
          clear hq
          have HC := Aside0.mk hcall
          clear hcall
          go_wp2_with (go_at_fn 72)
          refine HC.out.mono ?_
          rintro e w' ⟨rfl, hb'⟩
          go_wp2
          go_ret
          rw [AQ.out, HD.out]
          exact ⟨rfl, below_drawn0 BW.out hb'⟩
      · have hltz : ¬ (kk : Int) < (l0.length : Int) := by omega
        have hltz1 : ¬ (kk : Int) < (l1.length : Int) := by have := HL.out; omega
        have : kk = l0.length := by omega
        subst this
        go_wp2
        go_ret
        rw [AQ.out, List.drop_length, List.drop_of_length_le (by have := HL.out; omega)]
        exact ⟨rfl, BW.out⟩
  · have HL : Aside0 (decide (l0 = l1) = false) := ⟨by
      rw [decide_eq_false_iff_not]
      intro e
      exact hl (by rw [e])⟩
    go_enter Tryz.func71, Tryz.ntmps71
    go_wp2
    go_ret
    rw [HL.out]
    exact ⟨rfl, Below.refl _ _⟩
set_option maxRecDepth 100000 in
theorem SameLists_calls (A0 : Option Addr) (c0 : Nat) (l0 : List (List Int)) (A1 : Option Addr) (c1 : Nat) (l1 : List (List Int)) (w : World) (hr0 : Kd.C (Kd.slice 3 (Kd.int .i64)) w A0 l0.length l0) (hr1 : Kd.C (Kd.slice 3 (Kd.int .i64)) w A1 l1.length l1) :
    Calls Tryz.prog 23 #[.slice A0 l0.length c0, .slice A1 l1.length c1] w fun e w' => e = .returned (.bool (decide (l0 = l1))) ∧ Below w.heap.size w w' := by
  have HC := Aside0.mk (EqualFunc_lists A0 c0 l0 A1 c1 l1 w hr0 hr1)
  clear hr0 hr1
  go_enter Tryz.func23, Tryz.ntmps23
  go_wp2_with (go_at_call 71; refine HC.out.mono ?_; rintro e w' ⟨rfl, hb⟩)
  go_ret
  exact ⟨rfl, hb⟩
theorem one54 (W : World) (a : ByteArray) (b c : Int) : Kd.C k77 (W.alloc (.cells #[.string a, .int .i64 b, .int .i64 c] 77)) (some ⟨W.heap.size, 0, none⟩) 1 [⟨a, b, c⟩] := by
  refine ⟨rfl, by decide, fun _ => ⟨_, rfl, fun j p hj => ?_⟩⟩
  have hj0 : j = 0 := by
    have := (List.getElem?_eq_some_iff.1 hj).1
    simp at this
    exact this
  subst hj0
  have hp : p = ⟨a, b, c⟩ := by simpa using hj.symm
  subst hp
  refine ⟨[.string a, .int .i64 b, .int .i64 c], rfl, ⟨[.string a], [.int .i64 b, .int .i64 c], rfl, rfl, [.int .i64 b], [.int .i64 c], rfl, rfl, rfl⟩, fun i u hu => ?_⟩
  have hb := blk_cell (blk_new W (.cells #[.string a, .int .i64 b, .int .i64 c] 77)) i
  show (W.alloc _).cell? (Addr.add ⟨W.heap.size, 0, none⟩ (0 * 3 + i)) = _
  rw [Nat.zero_mul, Nat.zero_add, add_plain, hb]
  simpa using hu
theorem count_14 : affine_Count.f 40 [⟨⟨#[105]⟩, 1, 4⟩] [] = some (4, 0) := by kernel_rfl
set_option maxRecDepth 100000 in
theorem counted_calls (w : World) : Calls Tryz.prog 24 #[] w fun e w' => e = .returned (.bool true) ∧ Below w.heap.size w w' := by
  go_enter Tryz.func24, Tryz.ntmps24
  go_wp2_with (go_at_call 73; refine (affine_Count.calls 40 _ 1 [⟨⟨#[105]⟩, 1, 4⟩] _ 0 [] 4 0 _ (one54 w _ _ _) (Nat.le_refl _) (Kd.C_nil _ _) (Nat.le_refl _) count_14).mono ?_; rintro e w' ⟨rfl, hb⟩)
  go_ret
  exact ⟨rfl, below_step (below_alloc (Below.refl _ _) _) hb⟩
end Go.Proofs.YtjgakaembhmhpaaGreatDoor.PA
