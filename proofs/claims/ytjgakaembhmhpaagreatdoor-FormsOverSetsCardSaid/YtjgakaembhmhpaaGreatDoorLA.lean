/- Part of the proof of FormsOverSets (contracts for the law); what it proves holds without further conditions. -/
import Derived.Test.YtjgakaembhmhpaaGreatDoorNA
import Derived.Test.YtjgakaembhmhpaaGreatDoorHB
set_option linter.unusedVariables false
set_option linter.unusedSimpArgs false
namespace Go.Proofs.YtjgakaembhmhpaaGreatDoor.PA
open Go.RowKit Go.Proofs.YtjgakaembhmhpaaGreatDoorW.PrintWords Go.Proofs.YtjgakaembhmhpaaGreatDoorW.PrintLast Go.Proofs.YtjgakaembhmhpaaGreatDoorW.PrintMore Go.Proofs.YtjgakaembhmhpaaGreatDoorM
structure SetAt (A : Option Addr) (c : Nat) (l0 : List S77) (A' : Option Addr) (c' : Nat) (l1 : List S33) (w : World) : Prop where
  hs : Kd.C k77 w A l0.length l0
  hc : l0.length ≤ c
  ks : Kd.C k33 w A' l1.length l1
  kc : l1.length ≤ c'
  n1 : ∀ s ∈ l0, s.f0.size ≤ 100
  n2 : l1.length ≤ 1000
  n3 : ∀ f ∈ l1, f.f1.length ≤ 1000 ∧ ∀ t ∈ f.f1, t.f0.size ≤ 100
section
variable {A A' : Option Addr} {c c' : Nat} {l0 : List S77} {l1 : List S33} {w w' : World}
theorem SetAt.below (h : SetAt A c l0 A' c' l1 w) (hb : Below w.heap.size w w') : SetAt A c l0 A' c' l1 w' :=
  ⟨Kd.C_below h.hs hb, h.hc, Kd.C_below h.ks hb, h.kc, h.n1, h.n2, h.n3⟩
theorem L_fault (h : SetAt A c l0 A' c' l1 w) : Calls Tryz.prog 11 #[.agg #[.slice A l0.length c, .slice A' l1.length c']] w fun e w' => e = .returned (.int .i64 (setFault l0 l1)) ∧ Below w.heap.size w w' :=
  wbref1_SetFault.calls 300000 A c l0 A' c' l1 _ w h.hs h.hc h.ks h.kc (ref_f l0 h.n1 l1 h.n2 h.n3 300000 (by omega))
theorem L_check (h : SetAt A c l0 A' c' l1 w) : Calls Tryz.prog 51 #[.agg #[.slice A l0.length c, .slice A' l1.length c']] w fun e w' => e = .returned (.int .i64 (setFault l0 l1)) ∧ Below w.heap.size w w' :=
  affine_CheckSet.calls 300000 A c l0 A' c' l1 _ w h.hs h.hc h.ks h.kc (check_f l0 h.n1 l1 h.n2 h.n3 300000 (by omega))
theorem L_pointsIn (h : SetAt A c l0 A' c' l1 w) (e : setFault l0 l1 = 0) :
    Calls Tryz.prog 34 #[.agg #[.slice A l0.length c, .slice A' l1.length c']] w fun e w' => ∃ (X : Option Addr) (cx : Nat), e = .returned (.slice X (ptsOf l0 l1).length cx) ∧ Kd.C (Kd.slice 3 (Kd.int .i64)) w' X (ptsOf l0 l1).length (ptsOf l0 l1) ∧ Below w.heap.size w w' :=
  (wbref1_PointsIn.calls A c l0 A' c' l1 _ w h.hs h.hc h.ks h.kc (pointsIn_f (valid_of e))).mono fun e w' ⟨v, he, hv, hb⟩ => by
    obtain ⟨X, cx, rfl⟩ : ∃ X cx, v = .slice X (ptsOf l0 l1).length cx := Kd.V_slice hv
    exact ⟨X, cx, he, (Kd.V_reads' hv).2.2, hb⟩
end
end Go.Proofs.YtjgakaembhmhpaaGreatDoor.PA
