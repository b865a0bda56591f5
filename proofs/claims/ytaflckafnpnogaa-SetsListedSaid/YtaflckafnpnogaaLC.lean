/- Part of the proof of SetsListed (the law's walk, joined); what it proves holds without further conditions. -/
import Derived.Test.YtaflckafnpnogaaLB
import Derived.Test.YtaflckafnpnogaaHD
namespace Go.Proofs.Ytaflckafnpnogaa.PA
open Go.RowKit Go.Proofs.YtaflckafnpnogaaW.PrintWords Go.Proofs.YtaflckafnpnogaaW.PrintLast Go.Proofs.YtaflckafnpnogaaW.PrintMore Go.Proofs.YtaflckafnpnogaaM
set_option linter.unusedVariables false
theorem aset_says : ASetSays := fun w0 w g b d hst hb hB =>
  (ASet_calls w0 w g b d hst hb hB).mono fun e w' ⟨A, c, l0, A', c', l1, he, hle, hM, hF, hS, hB'⟩ =>
    ⟨A, c, l0, A', c', l1, he, hle, ⟨hM.1, fun s hs => Nat.le_trans (hM.2.1 s hs) (by decide), Nat.le_trans hM.2.2.1 (by decide), fun f hf => ⟨Nat.le_trans (hM.2.2.2 f hf).1 (by decide), fun t ht => Nat.le_trans ((hM.2.2.2 f hf).2 t ht) (by decide)⟩⟩, hF, hS, hB'⟩
/-- SetsListed, walked: it answers true, and no old memory changes. -/
theorem SetsListed.walk (a0 : Option Addr) (len0 cap0 : Nat) (z0 : List Int) (w : World) (w0 : (a0 = none ∧ len0 = 0 ∧ cap0 = 0 ∧ z0 = []) ∨ ∃ x, a0 = some x ∧ len0 ≤ cap0 ∧ cap0 ≤ maxLen ∧ z0.length = cap0 ∧ (∀ i, i < z0.length → w.cell? (x.add i) = some (.int .i64 (z0.getD i 0))) ∧ ∀ n ∈ z0, (Lit.int .i64 n).wf = true) (y0 : len0 * 8 ≤ 140737488351232) :
    Calls Try.prog 3 #[.slice a0 len0 cap0] w fun e w' => e = .returned (.bool true) ∧ Below w.heap.size w w' := by
  obtain ⟨l0, rfl, hr0, hm0, hw0, hc0⟩ := ReadsInt.ofRowC w0
  exact law_front aset_says a0 cap0 l0 w (Kd.C_of_reads (d := (0 : Int)) (h1 := fun _ => rfl) hr0) hc0
end Go.Proofs.Ytaflckafnpnogaa.PA
