/- Part of the proof of FormsOverSets (the plain law of sets); what it proves holds without further conditions. -/
import Derived.Test.YtjgakaembhmhpaaGreatDoorHB
import Derived.Test.YtjgakaembhmhpaaGreatDoorHC
set_option linter.unusedVariables false
set_option linter.unusedSimpArgs false
namespace Go.Proofs.YtjgakaembhmhpaaGreatDoor.PA
open Go.RowKit Go.Proofs.YtjgakaembhmhpaaGreatDoorW.PrintWords Go.Proofs.YtjgakaembhmhpaaGreatDoorW.PrintLast Go.Proofs.YtjgakaembhmhpaaGreatDoorW.PrintMore Go.Proofs.YtjgakaembhmhpaaGreatDoorM
theorem str_toList {a b : ByteArray} : a.toList = b.toList ↔ a = b := by
  constructor
  · intro h
    rw [ByteArray.toList_eq, ByteArray.toList_eq] at h
    exact Go.WideShapes.bytes_inj h
  · intro h
    rw [h]
theorem index_l0 (l : List ByteArray) (s : ByteArray) (hl : l.length ≤ 1000000) : ∀ (m kk k : Nat), kk + m = l.length → m < k → slices_Index_string_string.l0 k l s (l.length : Int) (kk : Int) = some (idxFrom (fun x => decide (s = x)) (l.drop kk) (kk : Int)) := by
  intro m
  induction m with
  | zero =>
    intro kk k h1 h2
    cases k with
    | zero => omega
    | succ k =>
      rw [slices_Index_string_string.l0, if_neg (by omega), List.drop_of_length_le (by omega)]
      rfl
  | succ m ih =>
    intro kk k h1 h2
    cases k with
    | zero => omega
    | succ k =>
      have e0 : kk < l.length := by omega
      rw [slices_Index_string_string.l0, if_pos (by omega), if_pos (by omega), if_pos (by omega)]
      have ec : wrap64 ((kk : Int) + 1) = ((kk + 1 : Nat) : Int) := by rw [IntWalk.wrap64_in _ (by omega)]; omega
      have r0 : rdOf ByteArray.empty l (kk : Int) = l.getD kk ByteArray.empty := by simp [rdOf]
      rw [ec, r0, idxFrom_drop (fun x => decide (s = x)) l ByteArray.empty kk e0, ih (kk + 1) k (by omega) (by omega)]
      by_cases he : s = l.getD kk ByteArray.empty
      · rw [if_pos (str_toList.2 he), if_pos (by simpa using he)]
      · rw [if_neg (fun h => he (str_toList.1 h)), if_neg (by simpa using he)]
theorem contains_f (l : List ByteArray) (s : ByteArray) (k : Nat) (hl : l.length ≤ 1000000) (hk : l.length < k) : slices_Contains_string_string.f k l s = some (l.any fun x => decide (s = x)) := by
  unfold slices_Contains_string_string.f slices_Index_string_string.f
  have := index_l0 l s hl l.length 0 k (by omega) hk
  rw [show ((0 : Nat) : Int) = 0 from rfl] at this
  rw [this]
  simp only [Option.bind_some, List.drop_zero]
  congr 1
  have h2 := idxFrom_ge (fun x => decide (s = x)) l 0 (by omega)
  have h3 : decide (idxFrom (fun x => decide (s = x)) l 0 ≥ 0) = decide (0 ≤ idxFrom (fun x => decide (s = x)) l 0) := rfl
  rw [h3, h2]
def okByte (b : Int) : Bool := (decide (97 ≤ b) && decide (b ≤ 122)) || ((decide (48 ≤ b) && decide (b ≤ 57)) || decide (b = 95))
theorem index95 (b : Int) (h : 0 ≤ b ∧ b ≤ 255) : (Lib.indexByte ((⟨#[95]⟩ : ByteArray).data.toList) b.toNat.toUInt8 < 0) ↔ b ≠ 95 := by
  obtain ⟨n, rfl⟩ := Int.eq_ofNat_of_zero_le h.1
  have hn : n ≤ 255 := by omega
  show Lib.indexByte [95] (Int.toNat (n : Int)).toUInt8 < 0 ↔ _
  rw [Int.toNat_natCast]
  unfold Lib.indexByte
  by_cases e : n = 95
  · subst e
    simp
  · have hne : ((95 : UInt8) == n.toUInt8) = false := by
      rw [beq_eq_false_iff_ne]
      intro he
      have := congrArg UInt8.toNat he
      simp at this
      omega
    rw [hne]
    simp [Lib.indexByte]
    omega
theorem called_l0 (s : ByteArray) (hs : s.size ≤ 1000000) : ∀ (m kk k : Nat), kk + m = s.size → m < k → kit_called.l0 k s ⟨#[95]⟩ (s.size : Int) (kk : Int) = some ((List.range' kk m).all fun i => okByte (bt s (i : Int))) := by
  intro m
  induction m with
  | zero =>
    intro kk k h1 h2
    cases k with
    | zero => omega
    | succ k => rw [kit_called.l0, if_neg (by omega)]; rfl
  | succ m ih =>
    intro kk k h1 h2
    cases k with
    | zero => omega
    | succ k =>
      have ec : wrap64 ((kk : Int) + 1) = ((kk + 1 : Nat) : Int) := by rw [IntWalk.wrap64_in _ (by omega)]; omega
      have hb := bt_range s (kk : Int)
      rw [kit_called.l0, if_pos (by omega), if_pos (by omega), if_pos (by omega), ec, ih (kk + 1) k (by omega) (by omega), List.range'_succ, List.all_cons]
      unfold kit_Letter.f kit_Digit.f strings_IndexByte.f okByte
      generalize bt s (kk : Int) = b at *
      by_cases c1 : 97 ≤ b
      · rw [if_pos c1]
        by_cases c2 : b ≤ 122
        · simp [c1, c2]
        · have c3 : ¬ b ≤ 57 := by omega
          have c4 : b ≠ 95 := by omega
          have c5 : b ≥ 48 := by omega
          simp [c1, c2, c3, c4, c5, index95 b hb]
      · rw [if_neg c1]
        by_cases c2 : 48 ≤ b
        · by_cases c3 : b ≤ 57
          · simp [c1, c2, c3]
          · by_cases c4 : b = 95
            · subst c4
              have e9 : Lib.indexByte [95] 95 = 0 := by decide
              simp
              intro h
              omega
            · simp [c1, c2, c3, c4, index95 b hb]
        · have c4 : b ≠ 95 := by omega
          simp [c1, c2, c4, index95 b hb]
theorem name_l0 (s : ByteArray) (hs : s.size ≤ 1000000) : ∀ (m kk k : Nat), kk + m = s.size → m < k → wbref1_Name.l0 k s (s.size : Int) (kk : Int) = some ((List.range' kk m).all fun i => okByte (bt s (i : Int))) := by
  intro m
  induction m with
  | zero =>
    intro kk k h1 h2
    cases k with
    | zero => omega
    | succ k => rw [wbref1_Name.l0, if_neg (by omega)]; rfl
  | succ m ih =>
    intro kk k h1 h2
    cases k with
    | zero => omega
    | succ k =>
      have ec : wrap64 ((kk : Int) + 1) = ((kk + 1 : Nat) : Int) := by rw [IntWalk.wrap64_in _ (by omega)]; omega
      have hb := bt_range s (kk : Int)
      rw [wbref1_Name.l0, if_pos (by omega), if_pos (by omega), if_pos (by omega), ec, ih (kk + 1) k (by omega) (by omega), List.range'_succ, List.all_cons]
      unfold okByte
      generalize bt s (kk : Int) = b at *
      by_cases c1 : 97 ≤ b <;> by_cases c2 : b ≤ 122 <;> by_cases c3 : 48 ≤ b <;> by_cases c4 : b ≤ 57 <;> by_cases c5 : b = 95 <;> first | (exfalso; omega) | (simp [c1, c2, c3, c4, c5]) | (subst c5; simp)
def reservedL : List ByteArray := [⟨#[97, 114, 114, 97, 121]⟩, ⟨#[102, 111, 114]⟩, ⟨#[105, 102]⟩, ⟨#[109, 97, 120]⟩, ⟨#[109, 105, 110]⟩]
def nameOk (s : ByteArray) : Bool := (decide (1 ≤ s.size) && decide (s.size ≤ 40)) && (!(reservedL.any fun x => decide (s = x)) && ((decide (97 ≤ bt s 0) && decide (bt s 0 ≤ 122)) && (List.range' 0 s.size).all fun i => okByte (bt s (i : Int))))
theorem reserved_eq (s : ByteArray) : kit_Reserved.f s = some (reservedL.any fun x => decide (s = x)) := by
  have h : ∀ l : List UInt8, (s.toList = l) ↔ s = ⟨l.toArray⟩ := fun l => by
    have : (⟨l.toArray⟩ : ByteArray).toList = l := by rw [ByteArray.toList_eq]
    rw [← str_toList, this]
  unfold kit_Reserved.f reservedL
  simp only [h, List.any_cons, List.any_nil, Bool.or_false]
  by_cases c1 : s = ⟨#[97, 114, 114, 97, 121]⟩
  · simp [c1]
  · by_cases c2 : s = ⟨#[102, 111, 114]⟩
    · simp [c1, c2]
    · by_cases c3 : s = ⟨#[105, 102]⟩
      · simp [c1, c2, c3]
      · by_cases c4 : s = ⟨#[109, 97, 120]⟩
        · simp [c1, c2, c3, c4]
        · by_cases c5 : s = ⟨#[109, 105, 110]⟩
          · simp [c1, c2, c3, c4, c5]
          · simp [c1, c2, c3, c4, c5]
theorem isName_f (s : ByteArray) (hs : s.size ≤ 1000000) (k : Nat) (hk : s.size + 10 ≤ k) : kit_IsName.f k s = some (nameOk s) := by
  unfold kit_IsName.f
  rw [reserved_eq]
  have hl0 := called_l0 s hs s.size 0
  obtain ⟨k1, rfl⟩ : ∃ k1, k = k1 + 1 := ⟨k - 1, by omega⟩
  have hj : ∀ x : Bool, kit_called.j0 (k1 + 1) s ⟨#[95]⟩ x = some (!x && (List.range' 0 s.size).all fun i => okByte (bt s (i : Int))) := fun x => by
    rw [kit_called.j0]
    cases x with
    | true => rfl
    | false =>
      rw [if_neg (by simp), show ((0 : Int)) = ((0 : Nat) : Int) from rfl, hl0 k1 (by omega) (by omega)]
      rfl
  unfold kit_called.f nameOk
  by_cases c1 : (s.size : Int) < 1
  · rw [if_pos c1, hj]
    have : ¬ 1 ≤ s.size := by omega
    simp [this]
  · rw [if_neg c1]
    by_cases c2 : (s.size : Int) > 40
    · rw [if_pos c2, hj]
      have : ¬ s.size ≤ 40 := by omega
      simp [this]
    · rw [if_neg c2, if_pos (by omega)]
      unfold kit_Letter.f
      have h1 : 1 ≤ s.size := by omega
      have h2 : s.size ≤ 40 := by omega
      by_cases c3 : 97 ≤ bt s 0
      · rw [if_pos c3]
        simp only [Option.bind_some, hj]
        cases hA : ((List.range' 0 s.size).all fun i => okByte (bt s (i : Int))) <;> cases hB : decide (bt s 0 ≤ 122) <;> cases hC : (reservedL.any fun x => decide (s = x)) <;> simp_all
      · rw [if_neg c3]
        simp only [Option.bind_some, hj]
        simp [c3]
theorem name_f (s : ByteArray) (hs : s.size ≤ 1000000) (k : Nat) (hk : s.size + 10 ≤ k) : wbref1_Name.f k s = some (nameOk s) := by
  unfold wbref1_Name.f wbref1_in.f
  have hl0 := name_l0 s hs s.size 0
  rw [show (([(⟨#[97, 114, 114, 97, 121]⟩ : ByteArray), (⟨#[102, 111, 114]⟩ : ByteArray), (⟨#[105, 102]⟩ : ByteArray), (⟨#[109, 97, 120]⟩ : ByteArray), (⟨#[109, 105, 110]⟩ : ByteArray)] : List ByteArray)) = reservedL from rfl]
  rw [contains_f reservedL s k (by decide) (by show 5 < k; omega)]
  obtain ⟨k1, rfl⟩ : ∃ k1, k = k1 + 1 := ⟨k - 1, by omega⟩
  have hj : ∀ x : Bool, wbref1_Name.j0 (k1 + 1) s x = some (!x && (List.range' 0 s.size).all fun i => okByte (bt s (i : Int))) := fun x => by
    rw [wbref1_Name.j0]
    cases x with
    | true => rfl
    | false =>
      rw [if_neg (by simp), show ((0 : Int)) = ((0 : Nat) : Int) from rfl, hl0 k1 (by omega) (by omega)]
      rfl
  unfold nameOk
  by_cases c1 : (1 : Int) ≤ (s.size : Int)
  · rw [if_pos c1]
    have h1 : 1 ≤ s.size := by omega
    by_cases c2 : (s.size : Int) ≤ 40
    · have h2 : s.size ≤ 40 := by omega
      have hp : (0 : Int) < (s.size : Int) := by omega
      simp only [Option.bind_some, hj, c2, h1, h2, decide_true, if_true, if_pos hp]
      cases hC : (reservedL.any fun x => decide (s = x))
      · by_cases c3 : bt s 0 < 97
        · have : ¬ 97 ≤ bt s 0 := by omega
          simp [c3, this]
        · have c3' : 97 ≤ bt s 0 := by omega
          by_cases c4 : bt s 0 ≤ 122
          · have : ¬ bt s 0 > 122 := by omega
            simp [c3, c3', c4, this]
          · have : bt s 0 > 122 := by omega
            simp [c3, c3', c4, this]
      · simp
    · have h2 : ¬ s.size ≤ 40 := by omega
      simp [c2, h2, hj]
  · rw [if_neg c1]
    have h1 : ¬ 1 ≤ s.size := by omega
    simp [h1, hj]
def inB (a b c : Int) : Bool := decide (b ≤ a) && decide (a ≤ c)
theorem kitIn_f (a b c : Int) : kit_In.f a b c = some (inB a b c) := kit_In_eq a b c
theorem refIn_f (a b c : Int) : wbref1_in.f a b c = some (inB a b c) := by
  unfold wbref1_in.f inB
  by_cases h : b ≤ a
  · rw [if_pos h]; simp [h]
  · rw [if_neg h]; simp [h]
def termsFault : ByteArray → List S79 → Int
  | _, [] => 0
  | prev, t :: r => if nameOk t.f0 = true then (if (decide (t.f1 = 0) || !inB t.f1 (-1000) 1000) = true then 1 else if Op.bytesLess prev.toList t.f0.toList = true then termsFault t.f0 r else 7) else 5
theorem drop59 (l : List S79) (k : Nat) (h : k < l.length) : l.drop k = rd_T79 l (k : Int) :: l.drop (k + 1) := by
  rw [List.drop_eq_getElem_cons h]
  simp [rd_T79, List.getD, List.getElem?_eq_getElem h]
theorem mem59 (l : List S79) (k : Nat) (h : k < l.length) : rd_T79 l (k : Int) ∈ l := by
  have : rd_T79 l (k : Int) = l[k] := by simp [rd_T79, List.getD, List.getElem?_eq_getElem h]
  rw [this]
  exact List.getElem_mem h
theorem formFault_l0 (l : List S79) (hl : l.length ≤ 1000000) (hn : ∀ t ∈ l, t.f0.size ≤ 100) : ∀ (m kk k : Nat) (prev : ByteArray), kk + m = l.length → 2 * m + 200 ≤ k → wbref1_FormFault.l0 k prev l (l.length : Int) (kk : Int) = some (termsFault prev (l.drop kk)) := by
  intro m
  induction m with
  | zero =>
    intro kk k prev h1 h2
    obtain ⟨k, rfl⟩ : ∃ k', k = k' + 1 := ⟨k - 1, by omega⟩
    rw [wbref1_FormFault.l0, if_neg (by omega), List.drop_of_length_le (by omega)]
    rfl
  | succ m ih =>
    intro kk k prev h1 h2
    obtain ⟨k, rfl⟩ : ∃ k', k = k' + 1 + 1 := ⟨k - 2, by omega⟩
    have e0 : kk < l.length := by omega
    have ec : wrap64 ((kk : Int) + 1) = ((kk + 1 : Nat) : Int) := by rw [IntWalk.wrap64_in _ (by omega)]; omega
    have hm := hn _ (mem59 l kk e0)
    rw [drop59 l kk e0]
    rw [wbref1_FormFault.l0, if_pos (by omega), if_pos (by omega), if_pos (by omega)]
    generalize rd_T79 l (kk : Int) = t at *
    rw [name_f t.f0 (by omega) (k + 1) (by omega)]
    simp only [Option.bind_some]
    rw [termsFault]
    have hj : ∀ b, wbref1_FormFault.j1 (k + 1) prev l (l.length : Int) (kk : Int) b t.f0 t.f1 = some (if b = true then 1 else if Op.bytesLess prev.toList t.f0.toList = true then termsFault t.f0 (l.drop (kk + 1)) else 7) := fun b => by
      rw [wbref1_FormFault.j1, ec, ih (kk + 1) k t.f0 (by omega) (by omega)]
      cases b <;> simp
      cases Op.bytesLess prev.toList t.f0.toList <;> simp
    by_cases hk : nameOk t.f0 = true
    · rw [if_pos hk, if_pos hk]
      by_cases hz : t.f1 = 0
      · rw [if_pos hz, hj]
        simp [hz]
      · rw [if_neg hz, refIn_f]
        simp only [Option.bind_some, hj]
        simp [hz]
    · rw [if_neg hk, if_neg hk]
def formFaultS (a : Int) (l : List S79) : Int := if inB a (-1000000) 1000000 = true then (if l.length > 12 then 2 else termsFault ⟨#[]⟩ l) else 1
theorem formFault_f (a : Int) (l : List S79) (hl : l.length ≤ 1000000) (hn : ∀ t ∈ l, t.f0.size ≤ 100) (k : Nat) (hk : 2 * l.length + 200 ≤ k) : wbref1_FormFault.f k a l = some (formFaultS a l) := by
  unfold wbref1_FormFault.f formFaultS
  rw [refIn_f]
  simp only [Option.bind_some]
  have := formFault_l0 l hl hn l.length 0 k ⟨#[]⟩ (by omega) hk
  rw [show ((0 : Nat) : Int) = 0 from rfl] at this
  rw [this]
  by_cases h1 : inB a (-1000000) 1000000 = true
  · rw [if_pos h1, if_pos h1]
    by_cases h2 : l.length > 12
    · rw [if_pos (by omega), if_pos h2]
    · rw [if_neg (by omega), if_neg h2]
      rfl
  · rw [if_neg h1, if_neg h1]
def prevOf (l : List S79) (kk : Nat) : ByteArray := if kk = 0 then ⟨#[]⟩ else (rd_T79 l ((kk - 1 : Nat) : Int)).f0
theorem less_empty {s : ByteArray} (h : nameOk s = true) : Op.bytesLess (⟨#[]⟩ : ByteArray).toList s.toList = true := by
  have h1 : 1 ≤ s.size := by
    unfold nameOk at h
    simp only [Bool.and_eq_true, decide_eq_true_eq] at h
    exact h.1.1
  have h2 : s.toList ≠ [] := by
    rw [ByteArray.toList_eq]
    intro e
    have := congrArg List.length e
    simp at this
    have h3 : s.size = 0 := by
      show s.data.size = 0
      simp [this]
    omega
  have h0 : (⟨#[]⟩ : ByteArray).toList = [] := by rw [ByteArray.toList_eq]
  rw [h0]
  cases hs : s.toList with
  | nil => exact absurd hs h2
  | cons x xs => rfl
theorem checkForm_l0 (a : Int) (l : List S79) (hl : l.length ≤ 1000000) (hn : ∀ t ∈ l, t.f0.size ≤ 100) : ∀ (m kk k : Nat), kk + m = l.length → 2 * m + 200 ≤ k → nest_CheckForm.l0 k l (l.length : Int) (kk : Int) a l = some (termsFault (prevOf l kk) (l.drop kk)) := by
  intro m
  induction m with
  | zero =>
    intro kk k h1 h2
    obtain ⟨k, rfl⟩ : ∃ k', k = k' + 1 := ⟨k - 1, by omega⟩
    rw [nest_CheckForm.l0, if_neg (by omega), List.drop_of_length_le (by omega)]
    rfl
  | succ m ih =>
    intro kk k h1 h2
    obtain ⟨k, rfl⟩ : ∃ k', k = k' + 1 + 1 := ⟨k - 2, by omega⟩
    have e0 : kk < l.length := by omega
    have ec : wrap64 ((kk : Int) + 1) = ((kk + 1 : Nat) : Int) := by rw [IntWalk.wrap64_in _ (by omega)]; omega
    have hm := hn _ (mem59 l kk e0)
    have hpn : prevOf l (kk + 1) = (rd_T79 l (kk : Int)).f0 := by unfold prevOf; rw [if_neg (by omega)]; simp
    have ihn := ih (kk + 1) k (by omega) (by omega)
    rw [hpn] at ihn
    rw [drop59 l kk e0]
    rw [nest_CheckForm.l0, if_pos (by omega), if_pos (by omega), if_pos (by omega)]
    have hpk : prevOf l kk = if kk = 0 then ⟨#[]⟩ else (rd_T79 l ((kk - 1 : Nat) : Int)).f0 := rfl
    generalize rd_T79 l (kk : Int) = t at *
    rw [isName_f t.f0 (by omega) (k + 1) (by omega)]
    simp only [Option.bind_some]
    rw [termsFault]
    by_cases hk : nameOk t.f0 = true
    · have hj : ∀ b, nest_CheckForm.j1 (k + 1) (kk : Int) l (l.length : Int) (kk : Int) b a l t.f0 t.f1 = some (if b = true then 1 else if Op.bytesLess (prevOf l kk).toList t.f0.toList = true then termsFault t.f0 (l.drop (kk + 1)) else 7) := fun b => by
        rw [nest_CheckForm.j1, ec, ihn]
        cases b with
        | true => simp
        | false =>
          simp only [Bool.false_eq_true, if_false]
          by_cases h0 : kk = 0
          · subst h0
            rw [if_neg (by simp), hpk, if_pos rfl, less_empty hk]
            simp
          · have e1 : wrap64 ((kk : Int) - 1) = ((kk - 1 : Nat) : Int) := by rw [IntWalk.wrap64_in _ (by omega)]; omega
            rw [if_pos (by omega), e1, if_pos (by omega), if_pos (by omega), hpk, if_neg h0]
            cases Op.bytesLess (rd_T79 l ((kk - 1 : Nat) : Int)).f0.toList t.f0.toList <;> simp
      rw [if_pos hk, if_pos hk]
      by_cases hz : t.f1 = 0
      · rw [if_pos hz, hj]
        simp [hz]
      · rw [if_neg hz, kitIn_f]
        simp only [Option.bind_some, hj]
        simp [hz]
    · rw [if_neg hk, if_neg hk]
theorem checkForm_f (a : Int) (l : List S79) (hl : l.length ≤ 1000000) (hn : ∀ t ∈ l, t.f0.size ≤ 100) (k : Nat) (hk : 2 * l.length + 200 ≤ k) : nest_CheckForm.f k a l = some (formFaultS a l) := by
  unfold nest_CheckForm.f formFaultS
  rw [kitIn_f]
  simp only [Option.bind_some]
  have := checkForm_l0 a l hl hn l.length 0 k (by omega) hk
  rw [show ((0 : Nat) : Int) = 0 from rfl] at this
  rw [this]
  by_cases h1 : inB a (-1000000) 1000000 = true
  · rw [if_pos h1, if_pos h1]
    by_cases h2 : l.length > 12
    · rw [if_pos (by omega), if_pos h2]
    · rw [if_neg (by omega), if_neg h2]
      rfl
  · rw [if_neg h1, if_neg h1]
theorem drop54 (l : List S77) (k : Nat) (h : k < l.length) : l.drop k = rd_T77 l (k : Int) :: l.drop (k + 1) := by
  rw [List.drop_eq_getElem_cons h]
  simp [rd_T77, List.getD, List.getElem?_eq_getElem h]
theorem mem54 (l : List S77) (k : Nat) (h : k < l.length) : rd_T77 l (k : Int) ∈ l := by
  have : rd_T77 l (k : Int) = l[k] := by simp [rd_T77, List.getD, List.getElem?_eq_getElem h]
  rw [this]
  exact List.getElem_mem h
theorem drop57 (l : List S33) (k : Nat) (h : k < l.length) : l.drop k = rd_T33 l (k : Int) :: l.drop (k + 1) := by
  rw [List.drop_eq_getElem_cons h]
  simp [rd_T33, List.getD, List.getElem?_eq_getElem h]
theorem mem57 (l : List S33) (k : Nat) (h : k < l.length) : rd_T33 l (k : Int) ∈ l := by
  have : rd_T33 l (k : Int) = l[k] := by simp [rd_T33, List.getD, List.getElem?_eq_getElem h]
  rw [this]
  exact List.getElem_mem h
def boxFault : Int → List S77 → Int
  | _, [] => 0
  | n, s :: r => if wrap64 (n * wrap64 (wrap64 (s.f2 - s.f1) + 1)) > 200000 then 12 else boxFault (wrap64 (n * wrap64 (wrap64 (s.f2 - s.f1) + 1))) r
theorem check_l3 (l : List S77) (hl : l.length ≤ 1000000) : ∀ (m kk k : Nat) (n : Int), kk + m = l.length → m < k → affine_CheckSet.l3 k n l (l.length : Int) (kk : Int) = some (boxFault n (l.drop kk)) := by
  intro m
  induction m with
  | zero =>
    intro kk k n h1 h2
    obtain ⟨k, rfl⟩ : ∃ k', k = k' + 1 := ⟨k - 1, by omega⟩
    rw [affine_CheckSet.l3, if_neg (by omega), List.drop_of_length_le (by omega)]
    rfl
  | succ m ih =>
    intro kk k n h1 h2
    obtain ⟨k, rfl⟩ : ∃ k', k = k' + 1 := ⟨k - 1, by omega⟩
    have ec : wrap64 ((kk : Int) + 1) = ((kk + 1 : Nat) : Int) := by rw [IntWalk.wrap64_in _ (by omega)]; omega
    rw [affine_CheckSet.l3, if_pos (by omega), if_pos (by omega), if_pos (by omega), drop54 l kk (by omega), boxFault, ec, ih (kk + 1) k _ (by omega) (by omega)]
    split <;> rfl
theorem ref_l3 (l : List S77) (hl : l.length ≤ 1000000) : ∀ (m kk k : Nat) (n : Int), kk + m = l.length → m < k → wbref1_SetFault.l3 k n l (l.length : Int) (kk : Int) = some (boxFault n (l.drop kk)) := by
  intro m
  induction m with
  | zero =>
    intro kk k n h1 h2
    obtain ⟨k, rfl⟩ : ∃ k', k = k' + 1 := ⟨k - 1, by omega⟩
    rw [wbref1_SetFault.l3, if_neg (by omega), List.drop_of_length_le (by omega)]
    rfl
  | succ m ih =>
    intro kk k n h1 h2
    obtain ⟨k, rfl⟩ : ∃ k', k = k' + 1 := ⟨k - 1, by omega⟩
    have ec : wrap64 ((kk : Int) + 1) = ((kk + 1 : Nat) : Int) := by rw [IntWalk.wrap64_in _ (by omega)]; omega
    rw [wbref1_SetFault.l3, if_pos (by omega), if_pos (by omega), if_pos (by omega), drop54 l kk (by omega), boxFault, ec, ih (kk + 1) k _ (by omega) (by omega)]
    split <;> rfl
def emptyFault (all l : List S77) : Int := if l.any (fun s => decide (s.f1 > s.f2)) = true then 0 else boxFault 1 all
theorem emptyFault_cons (all : List S77) (s : S77) (r : List S77) : emptyFault all (s :: r) = if s.f1 > s.f2 then 0 else emptyFault all r := by
  unfold emptyFault
  rw [List.any_cons]
  by_cases h : s.f1 > s.f2 <;> simp [h]
theorem check_l2 (l : List S77) (conds : List S33) (hl : l.length ≤ 1000000) : ∀ (m kk k : Nat), kk + m = l.length → m + l.length + 1 < k → affine_CheckSet.l2 k 1 l (l.length : Int) (kk : Int) l conds = some (emptyFault l (l.drop kk)) := by
  intro m
  induction m with
  | zero =>
    intro kk k h1 h2
    obtain ⟨k, rfl⟩ : ∃ k', k = k' + 1 := ⟨k - 1, by omega⟩
    have := check_l3 l hl l.length 0 k 1 (by omega) (by omega)
    rw [show ((0 : Nat) : Int) = 0 from rfl] at this
    rw [affine_CheckSet.l2, if_neg (by omega), List.drop_of_length_le (by omega), this]
    rfl
  | succ m ih =>
    intro kk k h1 h2
    obtain ⟨k, rfl⟩ : ∃ k', k = k' + 1 := ⟨k - 1, by omega⟩
    have ec : wrap64 ((kk : Int) + 1) = ((kk + 1 : Nat) : Int) := by rw [IntWalk.wrap64_in _ (by omega)]; omega
    rw [affine_CheckSet.l2, if_pos (by omega), if_pos (by omega), if_pos (by omega), drop54 l kk (by omega), emptyFault_cons, ec, ih (kk + 1) k (by omega) (by omega)]
    split <;> rfl
theorem ref_l2 (l : List S77) (conds : List S33) (hl : l.length ≤ 1000000) : ∀ (m kk k : Nat), kk + m = l.length → m + l.length + 1 < k → wbref1_SetFault.l2 k 1 l (l.length : Int) (kk : Int) l conds = some (emptyFault l (l.drop kk)) := by
  intro m
  induction m with
  | zero =>
    intro kk k h1 h2
    obtain ⟨k, rfl⟩ : ∃ k', k = k' + 1 := ⟨k - 1, by omega⟩
    have := ref_l3 l hl l.length 0 k 1 (by omega) (by omega)
    rw [show ((0 : Nat) : Int) = 0 from rfl] at this
    rw [wbref1_SetFault.l2, if_neg (by omega), List.drop_of_length_le (by omega), this]
    rfl
  | succ m ih =>
    intro kk k h1 h2
    obtain ⟨k, rfl⟩ : ∃ k', k = k' + 1 := ⟨k - 1, by omega⟩
    have ec : wrap64 ((kk : Int) + 1) = ((kk + 1 : Nat) : Int) := by rw [IntWalk.wrap64_in _ (by omega)]; omega
    rw [wbref1_SetFault.l2, if_pos (by omega), if_pos (by omega), if_pos (by omega), drop54 l kk (by omega), emptyFault_cons, ec, ih (kk + 1) k (by omega) (by omega)]
    split <;> rfl
def overS (names : List ByteArray) (f : S33) : Int := if formFaultS f.f0 f.f1 = 0 then (if f.f1.all (fun t => names.any fun x => decide (t.f0 = x)) = true then 0 else 16) else formFaultS f.f0 f.f1
theorem overS_loop (names : List ByteArray) (t : S79) (r : List S79) : (if (t :: r).all (fun t => names.any fun x => decide (t.f0 = x)) = true then (0 : Int) else 16) = if (names.any fun x => decide (t.f0 = x)) = true then (if r.all (fun t => names.any fun x => decide (t.f0 = x)) = true then 0 else 16) else 16 := by
  rw [List.all_cons]
  cases (names.any fun x => decide (t.f0 = x)) <;> rfl
theorem around_l0 (names : List ByteArray) (hnm : names.length ≤ 1000) (l : List S79) (hl : l.length ≤ 1000000) : ∀ (m kk k : Nat), kk + m = l.length → m + names.length + 1 < k → wbref1_around.l0 k names l (l.length : Int) (kk : Int) = some (if (l.drop kk).all (fun t => names.any fun x => decide (t.f0 = x)) = true then 0 else 16) := by
  intro m
  induction m with
  | zero =>
    intro kk k h1 h2
    obtain ⟨k, rfl⟩ : ∃ k', k = k' + 1 := ⟨k - 1, by omega⟩
    rw [wbref1_around.l0, if_neg (by omega), List.drop_of_length_le (by omega)]
    rfl
  | succ m ih =>
    intro kk k h1 h2
    obtain ⟨k, rfl⟩ : ∃ k', k = k' + 1 := ⟨k - 1, by omega⟩
    have ec : wrap64 ((kk : Int) + 1) = ((kk + 1 : Nat) : Int) := by rw [IntWalk.wrap64_in _ (by omega)]; omega
    rw [wbref1_around.l0, if_pos (by omega), if_pos (by omega), if_pos (by omega), drop59 l kk (by omega), overS_loop, ec, ih (kk + 1) k (by omega) (by omega), contains_f names _ k (by omega) (by omega)]
    simp only [Option.bind_some]
    split <;> rfl
theorem around_f (names : List ByteArray) (hnm : names.length ≤ 1000) (f : S33) (hl : f.f1.length ≤ 1000) (hn : ∀ t ∈ f.f1, t.f0.size ≤ 100) (k : Nat) (hk : 5000 ≤ k) : wbref1_around.f k f.f0 f.f1 names = some (overS names f) := by
  unfold wbref1_around.f overS
  have := around_l0 names hnm f.f1 (by omega) f.f1.length 0 k (by omega) (by omega)
  rw [show ((0 : Nat) : Int) = 0 from rfl] at this
  rw [formFault_f f.f0 f.f1 (by omega) hn k (by omega), this]
  simp only [Option.bind_some, List.drop_zero]
  split <;> rfl
theorem side_neg (sides : List S77) (conds : List S33) (s : ByteArray) : ∃ i, affine_side.f sides conds s = some i ∧ (decide (i < 0) = !((sides.map (·.f0)).any fun x => decide (s = x))) := by
  refine ⟨_, rfl, ?_⟩
  have h := idxFrom_ge (fun x : S77 => x.f0.toList == s.toList) sides 0 (by omega)
  have e : (sides.map (·.f0)).any (fun x => decide (s = x)) = sides.any (fun x : S77 => x.f0.toList == s.toList) := by
    rw [List.any_map]
    congr 1
    funext x
    show decide (s = x.f0) = (x.f0.toList == s.toList)
    rw [Bool.eq_iff_iff]
    simp only [decide_eq_true_eq, beq_iff_eq]
    exact ⟨fun h => by rw [h], fun h => (str_toList.1 h).symm⟩
  rw [e, ← h]
  by_cases h0 : idxFrom (fun x : S77 => x.f0.toList == s.toList) sides 0 < 0
  · have : ¬ 0 ≤ idxFrom (fun x : S77 => x.f0.toList == s.toList) sides 0 := by omega
    simp [h0, this]
  · have : 0 ≤ idxFrom (fun x : S77 => x.f0.toList == s.toList) sides 0 := by omega
    simp [h0, this]
theorem checkOver_l0 (sides : List S77) (conds : List S33) (l : List S79) (hl : l.length ≤ 1000000) : ∀ (m kk k : Nat), kk + m = l.length → m < k → affine_checkOver.l0 k l (l.length : Int) (kk : Int) sides conds = some (if (l.drop kk).all (fun t => (sides.map (·.f0)).any fun x => decide (t.f0 = x)) = true then 0 else 16) := by
  intro m
  induction m with
  | zero =>
    intro kk k h1 h2
    obtain ⟨k, rfl⟩ : ∃ k', k = k' + 1 := ⟨k - 1, by omega⟩
    rw [affine_checkOver.l0, if_neg (by omega), List.drop_of_length_le (by omega)]
    rfl
  | succ m ih =>
    intro kk k h1 h2
    obtain ⟨k, rfl⟩ : ∃ k', k = k' + 1 := ⟨k - 1, by omega⟩
    have ec : wrap64 ((kk : Int) + 1) = ((kk + 1 : Nat) : Int) := by rw [IntWalk.wrap64_in _ (by omega)]; omega
    obtain ⟨i, hi, hb⟩ := side_neg sides conds (rd_T79 l (kk : Int)).f0
    rw [affine_checkOver.l0, if_pos (by omega), if_pos (by omega), if_pos (by omega), drop59 l kk (by omega), overS_loop, ec, ih (kk + 1) k (by omega) (by omega), hi]
    simp only [Option.bind_some]
    cases hc : (sides.map (·.f0)).any fun x => decide ((rd_T79 l (kk : Int)).f0 = x) with
    | true =>
      rw [hc] at hb
      have : ¬ i < 0 := by simpa using hb
      rw [if_neg this, if_pos rfl]
    | false =>
      rw [hc] at hb
      have : i < 0 := by simpa using hb
      rw [if_pos this, if_neg (by simp)]
theorem checkOver_f (sides : List S77) (conds : List S33) (f : S33) (hl : f.f1.length ≤ 1000) (hn : ∀ t ∈ f.f1, t.f0.size ≤ 100) (k : Nat) (hk : 5000 ≤ k) : affine_checkOver.f k sides conds f.f0 f.f1 = some (overS (sides.map (·.f0)) f) := by
  unfold affine_checkOver.f overS
  have := checkOver_l0 sides conds f.f1 (by omega) f.f1.length 0 k (by omega) (by omega)
  rw [show ((0 : Nat) : Int) = 0 from rfl] at this
  rw [checkForm_f f.f0 f.f1 (by omega) hn k (by omega), this]
  simp only [Option.bind_some, List.drop_zero]
  split <;> rfl
def condsFault (names : List ByteArray) (sides : List S77) : List S33 → Int
  | [] => emptyFault sides sides
  | f :: r => if overS names f = 0 then condsFault names sides r else overS names f
theorem check_l1 (sides : List S77) (hs : sides.length ≤ 8) (l : List S33) (hl : l.length ≤ 1000) (hf : ∀ f ∈ l, f.f1.length ≤ 1000 ∧ ∀ t ∈ f.f1, t.f0.size ≤ 100) : ∀ (m kk k : Nat), kk + m = l.length → m + 6000 < k → affine_CheckSet.l1 k l (l.length : Int) (kk : Int) sides l = some (condsFault (sides.map (·.f0)) sides (l.drop kk)) := by
  intro m
  induction m with
  | zero =>
    intro kk k h1 h2
    obtain ⟨k, rfl⟩ : ∃ k', k = k' + 1 := ⟨k - 1, by omega⟩
    have := check_l2 sides l (by omega) sides.length 0 k (by omega) (by omega)
    rw [show ((0 : Nat) : Int) = 0 from rfl] at this
    rw [affine_CheckSet.l1, if_neg (by omega), List.drop_of_length_le (by omega), this]
    rfl
  | succ m ih =>
    intro kk k h1 h2
    obtain ⟨k, rfl⟩ : ∃ k', k = k' + 1 := ⟨k - 1, by omega⟩
    have ec : wrap64 ((kk : Int) + 1) = ((kk + 1 : Nat) : Int) := by rw [IntWalk.wrap64_in _ (by omega)]; omega
    obtain ⟨f1, f2⟩ := hf _ (mem57 l kk (by omega))
    rw [affine_CheckSet.l1, if_pos (by omega), if_pos (by omega), if_pos (by omega), drop57 l kk (by omega), condsFault, ec, ih (kk + 1) k (by omega) (by omega), checkOver_f sides l _ f1 f2 k (by omega)]
    simp only [Option.bind_some]
    split <;> rfl
theorem ref_l1 (sides : List S77) (hs : sides.length ≤ 8) (l : List S33) (hl : l.length ≤ 1000) (hf : ∀ f ∈ l, f.f1.length ≤ 1000 ∧ ∀ t ∈ f.f1, t.f0.size ≤ 100) (names : List ByteArray) (hnm : names.length ≤ 1000) : ∀ (m kk k : Nat), kk + m = l.length → m + 6000 < k → wbref1_SetFault.l1 k names l (l.length : Int) (kk : Int) sides l = some (condsFault names sides (l.drop kk)) := by
  intro m
  induction m with
  | zero =>
    intro kk k h1 h2
    obtain ⟨k, rfl⟩ : ∃ k', k = k' + 1 := ⟨k - 1, by omega⟩
    have := ref_l2 sides l (by omega) sides.length 0 k (by omega) (by omega)
    rw [show ((0 : Nat) : Int) = 0 from rfl] at this
    rw [wbref1_SetFault.l1, if_neg (by omega), List.drop_of_length_le (by omega), this]
    rfl
  | succ m ih =>
    intro kk k h1 h2
    obtain ⟨k, rfl⟩ : ∃ k', k = k' + 1 := ⟨k - 1, by omega⟩
    have ec : wrap64 ((kk : Int) + 1) = ((kk + 1 : Nat) : Int) := by rw [IntWalk.wrap64_in _ (by omega)]; omega
    obtain ⟨f1, f2⟩ := hf _ (mem57 l kk (by omega))
    rw [wbref1_SetFault.l1, if_pos (by omega), if_pos (by omega), if_pos (by omega), drop57 l kk (by omega), condsFault, ec, ih (kk + 1) k (by omega) (by omega), around_f names hnm _ f1 f2 k (by omega)]
    simp only [Option.bind_some]
    split <;> rfl
def restFault (sides : List S77) (conds : List S33) : Int := if conds.length > 60 then 2 else condsFault (sides.map (·.f0)) sides conds
def sidesFault (sides : List S77) (conds : List S33) : List ByteArray → List S77 → Int
  | _, [] => restFault sides conds
  | seen, s :: r => if nameOk s.f0 = true then (if (seen.any fun x => decide (s.f0 = x)) = true then 6 else if inB s.f1 (-1000000) 1000000 = true then (if inB s.f2 (-1000000) 1000000 = true then sidesFault sides conds (seen ++ [s.f0]) r else 1) else 1) else 5
def setFault (sides : List S77) (conds : List S33) : Int := if sides.length > 8 then 2 else sidesFault sides conds [] sides
theorem idx_lt (sides : List S77) (s : ByteArray) (kk : Nat) (h : kk < sides.length) (hs : (sides.getD kk z77).f0 = s) : decide (idxFrom (fun x : S77 => x.f0.toList == s.toList) sides 0 < (kk : Int)) = ((sides.take kk).map (·.f0)).any fun x => decide (s = x) := by
  have key : ∀ (l : List S77) (i : Int) (n : Nat), n < l.length → (l.getD n z77).f0 = s → decide (idxFrom (fun x : S77 => x.f0.toList == s.toList) l i < i + n) = ((l.take n).map (·.f0)).any fun x => decide (s = x) := by
    intro l
    induction l with
    | nil => intro i n h1; simp at h1
    | cons y r ih =>
      intro i n h1 h2
      rw [idxFrom]
      cases n with
      | zero =>
        simp only [List.getD_cons_zero] at h2
        have : (y.f0.toList == s.toList) = true := by rw [h2]; simp
        rw [this]
        simp
      | succ n =>
        have ihn := ih (i + 1) n (by simpa using h1) (by simpa using h2)
        simp only [List.take_succ_cons, List.map_cons, List.any_cons]
        by_cases hy : y.f0 = s
        · have : (y.f0.toList == s.toList) = true := by rw [hy]; simp
          rw [this]
          simp [hy]
          omega
        · have h3 : (y.f0.toList == s.toList) = false := by
            rw [beq_eq_false_iff_ne]
            exact fun e => hy (str_toList.1 e)
          have h4 : decide (s = y.f0) = false := decide_eq_false (fun e => hy e.symm)
          rw [h3, h4, Bool.false_or, ← ihn]
          simp only [Bool.false_eq_true, if_false]
          congr 1
          rw [eq_iff_iff]
          constructor <;> intro h5 <;> (push_cast at h5 ⊢; omega)
  have := key sides 0 kk h hs
  simpa using this
theorem names_snoc (sides : List S77) (kk : Nat) (h : kk < sides.length) : (sides.take kk).map (·.f0) ++ [(rd_T77 sides (kk : Int)).f0] = (sides.take (kk + 1)).map (·.f0) := by
  rw [List.take_succ_eq_append_getElem h, List.map_append]
  simp [rd_T77, List.getD, List.getElem?_eq_getElem h]
theorem check_l0 (sides : List S77) (hs : sides.length ≤ 8) (hsn : ∀ s ∈ sides, s.f0.size ≤ 100) (l : List S33) (hl : l.length ≤ 1000) (hf : ∀ f ∈ l, f.f1.length ≤ 1000 ∧ ∀ t ∈ f.f1, t.f0.size ≤ 100) : ∀ (m kk k : Nat), kk + m = sides.length → m + 8000 < k → affine_CheckSet.l0 k sides (sides.length : Int) (kk : Int) sides l = some (sidesFault sides l ((sides.take kk).map (·.f0)) (sides.drop kk)) := by
  intro m
  induction m with
  | zero =>
    intro kk k h1 h2
    obtain ⟨k, rfl⟩ : ∃ k', k = k' + 1 := ⟨k - 1, by omega⟩
    have := check_l1 sides hs l hl hf l.length 0 k (by omega) (by omega)
    rw [show ((0 : Nat) : Int) = 0 from rfl, List.drop_zero] at this
    rw [affine_CheckSet.l0, if_neg (by omega), List.drop_of_length_le (by omega), this, sidesFault]
    unfold restFault
    by_cases hc : l.length > 60
    · rw [if_pos (by omega), if_pos hc]
    · rw [if_neg (by omega), if_neg hc]
  | succ m ih =>
    intro kk k h1 h2
    obtain ⟨k, rfl⟩ : ∃ k', k = k' + 1 := ⟨k - 1, by omega⟩
    have ec : wrap64 ((kk : Int) + 1) = ((kk + 1 : Nat) : Int) := by rw [IntWalk.wrap64_in _ (by omega)]; omega
    have hm := hsn _ (mem54 sides kk (by omega))
    have hi := idx_lt sides (rd_T77 sides (kk : Int)).f0 kk (by omega) rfl
    rw [affine_CheckSet.l0, if_pos (by omega), if_pos (by omega), if_pos (by omega), drop54 sides kk (by omega), sidesFault, ec, ih (kk + 1) k (by omega) (by omega), isName_f _ (by omega) k (by omega), kitIn_f, kitIn_f, ← names_snoc sides kk (by omega)]
    unfold affine_side.f
    simp only [Option.bind_some]
    generalize rd_T77 sides (kk : Int) = s at *
    rw [← hi]
    by_cases c1 : nameOk s.f0 = true
    · by_cases c2 : idxFrom (fun x : S77 => x.f0.toList == s.f0.toList) sides 0 < (kk : Int)
      · simp [c1, c2]
      · by_cases c3 : inB s.f1 (-1000000) 1000000 = true
        · by_cases c4 : inB s.f2 (-1000000) 1000000 = true
          · simp [c1, c2, c3, c4]
          · simp [c1, c2, c3, c4]
        · simp [c1, c2, c3]
    · simp [c1]
theorem ref_l0 (sides : List S77) (hs : sides.length ≤ 8) (hsn : ∀ s ∈ sides, s.f0.size ≤ 100) (l : List S33) (hl : l.length ≤ 1000) (hf : ∀ f ∈ l, f.f1.length ≤ 1000 ∧ ∀ t ∈ f.f1, t.f0.size ≤ 100) : ∀ (m kk k : Nat), kk + m = sides.length → m + 8000 < k → wbref1_SetFault.l0 k ((sides.take kk).map (·.f0)) sides (sides.length : Int) (kk : Int) sides l = some (sidesFault sides l ((sides.take kk).map (·.f0)) (sides.drop kk)) := by
  intro m
  induction m with
  | zero =>
    intro kk k h1 h2
    obtain ⟨k, rfl⟩ : ∃ k', k = k' + 1 := ⟨k - 1, by omega⟩
    have ht : sides.take kk = sides := List.take_of_length_le (by omega)
    rw [ht]
    have := ref_l1 sides hs l hl hf (sides.map (·.f0)) (by simp; omega) l.length 0 k (by omega) (by omega)
    rw [show ((0 : Nat) : Int) = 0 from rfl, List.drop_zero] at this
    rw [wbref1_SetFault.l0, if_neg (by omega), List.drop_of_length_le (by omega), this, sidesFault]
    unfold restFault
    by_cases hc : l.length > 60
    · rw [if_pos (by omega), if_pos hc]
    · rw [if_neg (by omega), if_neg hc]
  | succ m ih =>
    intro kk k h1 h2
    obtain ⟨k, rfl⟩ : ∃ k', k = k' + 1 := ⟨k - 1, by omega⟩
    have ec : wrap64 ((kk : Int) + 1) = ((kk + 1 : Nat) : Int) := by rw [IntWalk.wrap64_in _ (by omega)]; omega
    have hm := hsn _ (mem54 sides kk (by omega))
    have hlen : ((sides.take kk).map (·.f0)).length ≤ 8 := by simp; omega
    have ihn := ih (kk + 1) k (by omega) (by omega)
    rw [← names_snoc sides kk (by omega)] at ihn
    rw [wbref1_SetFault.l0, if_pos (by omega), if_pos (by omega), if_pos (by omega), drop54 sides kk (by omega), sidesFault, ec, ihn, name_f _ (by omega) k (by omega), refIn_f, refIn_f, contains_f _ _ k (by omega) (by omega), if_pos (show ((sides.take kk).map (·.f0)).length < 8796093022208 by omega)]
    simp only [Option.bind_some]
    generalize rd_T77 sides (kk : Int) = s at *
    by_cases c1 : nameOk s.f0 = true
    · cases c2 : ((sides.take kk).map (·.f0)).any fun x => decide (s.f0 = x)
      · by_cases c3 : inB s.f1 (-1000000) 1000000 = true
        · by_cases c4 : inB s.f2 (-1000000) 1000000 = true
          · simp only [c1, c3, c4, if_true, Bool.false_eq_true, if_false]
          · simp only [c1, c3, c4, if_true, Bool.false_eq_true, if_false]
        · simp only [c1, c3, if_true, Bool.false_eq_true, if_false]
      · simp only [c1, if_true]
    · simp only [c1, Bool.false_eq_true, if_false]
theorem check_f (sides : List S77) (hsn : ∀ s ∈ sides, s.f0.size ≤ 100) (l : List S33) (hl : l.length ≤ 1000) (hf : ∀ f ∈ l, f.f1.length ≤ 1000 ∧ ∀ t ∈ f.f1, t.f0.size ≤ 100) (k : Nat) (hk : 9000 ≤ k) : affine_CheckSet.f k sides l = some (setFault sides l) := by
  unfold affine_CheckSet.f setFault
  by_cases hs : sides.length > 8
  · rw [if_pos (by omega), if_pos hs]
  · rw [if_neg (by omega), if_neg hs]
    have := check_l0 sides (by omega) hsn l hl hf sides.length 0 k (by omega) (by omega)
    simpa using this
theorem ref_f (sides : List S77) (hsn : ∀ s ∈ sides, s.f0.size ≤ 100) (l : List S33) (hl : l.length ≤ 1000) (hf : ∀ f ∈ l, f.f1.length ≤ 1000 ∧ ∀ t ∈ f.f1, t.f0.size ≤ 100) (k : Nat) (hk : 9000 ≤ k) : wbref1_SetFault.f k sides l = some (setFault sides l) := by
  unfold wbref1_SetFault.f setFault
  by_cases hs : sides.length > 8
  · rw [if_pos (by omega), if_pos hs]
  · rw [if_neg (by omega), if_neg hs]
    have := ref_l0 sides (by omega) hsn l hl hf sides.length 0 k (by omega) (by omega)
    simpa using this
def allP : List S77 → List (List Int)
  | [] => [[]]
  | s :: r => (valsFrom s.f1 (s.f2 + 1 - s.f1).toNat).flatMap fun v => (allP r).map (v :: ·)
theorem enumP_all (P : List Int → Bool) : ∀ (sides : List S77) (pre : List Int), enumP P sides pre = ((allP sides).map (pre ++ ·)).filter P
  | [], pre => by
    simp only [enumP, allP, List.map_cons, List.map_nil, List.append_nil]
    cases h : P pre <;> simp [h]
  | s :: r, pre => by
    simp only [enumP, allP, List.map_flatMap, List.filter_flatMap]
    congr 1
    funext v
    rw [enumP_all P r (pre ++ [v]), List.map_map]
    congr 2
    funext y
    simp
def after : List S77 → List Int → List (List Int)
  | s :: ss, n :: ns => (after ss ns).map (n :: ·) ++ (valsFrom (n + 1) (s.f2 - n).toNat).flatMap fun v => (allP ss).map (v :: ·)
  | _, _ => []
def inBox : List S77 → List Int → Prop
  | [], [] => True
  | s :: ss, n :: ns => (s.f1 ≤ n ∧ n ≤ s.f2) ∧ inBox ss ns
  | _, _ => False
theorem inBox_start : ∀ (sides : List S77), (∀ s ∈ sides, s.f1 ≤ s.f2) → inBox sides (sides.map (·.f1))
  | [], _ => trivial
  | s :: r, h => ⟨⟨Int.le_refl _, h s (by simp)⟩, inBox_start r (fun y hy => h y (by simp [hy]))⟩
theorem all_start : ∀ (sides : List S77), (∀ s ∈ sides, s.f1 ≤ s.f2) → allP sides = sides.map (·.f1) :: after sides (sides.map (·.f1))
  | [], _ => rfl
  | s :: r, h => by
    have hs := h s (by simp)
    obtain ⟨c, hc⟩ : ∃ c, (s.f2 + 1 - s.f1).toNat = c + 1 := ⟨(s.f2 - s.f1).toNat, by omega⟩
    have hc2 : (s.f2 - s.f1).toNat = c := by omega
    rw [allP, hc, valsFrom, List.flatMap_cons, all_start r (fun y hy => h y (by simp [hy])), List.map_cons, List.map_cons, after, hc2, ← all_start r (fun y hy => h y (by simp [hy]))]
    simp
theorem next_after : ∀ (sides : List S77) (x : List Int), (∀ s ∈ sides, s.f1 ≤ s.f2 ∧ -2000000 ≤ s.f1 ∧ s.f2 ≤ 2000000) → inBox sides x → (nextOdo sides x = none ∧ after sides x = []) ∨ ∃ t, nextOdo sides x = some t ∧ inBox sides t ∧ after sides x = t :: after sides t
  | [], [], _, _ => .inl ⟨rfl, rfl⟩
  | [], _ :: _, _, h => h.elim
  | _ :: _, [], _, h => h.elim
  | s :: ss, n :: ns, hb, h => by
    obtain ⟨hn, hns⟩ := h
    have hs := hb s (by simp)
    rcases next_after ss ns (fun y hy => hb y (by simp [hy])) hns with ⟨h1, h2⟩ | ⟨t, h1, h2, h3⟩
    · by_cases he : n = s.f2
      · left
        refine ⟨by rw [nextOdo, h1]; simp [he], ?_⟩
        rw [after, h2, he]
        simp [valsFrom]
      · right
        have ew : wrap64 (n + 1) = n + 1 := IntWalk.wrap64_in _ (by omega)
        refine ⟨(n + 1) :: ss.map (·.f1), by rw [nextOdo, h1]; simp [he, ew], ⟨⟨by omega, by omega⟩, inBox_start ss (fun y hy => (hb y (by simp [hy])).1)⟩, ?_⟩
        obtain ⟨c, hc⟩ : ∃ c, (s.f2 - n).toNat = c + 1 := ⟨(s.f2 - n - 1).toNat, by omega⟩
        have hc2 : (s.f2 - (n + 1)).toNat = c := by omega
        have hA := all_start ss (fun y hy => (hb y (by simp [hy])).1)
        rw [after, h2, hc, valsFrom, List.flatMap_cons, after, hc2, hA]
        simp
    · right
      refine ⟨n :: t, by rw [nextOdo, h1], ⟨hn, h2⟩, ?_⟩
      rw [after, h3, after]
      simp
section
variable {σ : Type}
def runL (P : List Int → Bool) (st : σ → List Int → Bool × σ) : σ → List (List Int) → σ
  | s, [] => s
  | s, y :: r => if P y = true then (if (st s y).1 = true then runL P st (st s y).2 r else (st s y).2) else runL P st s r
theorem each_run (sides : List S77) (conds : List S33) (hb : ∀ s ∈ sides, s.f1 ≤ s.f2 ∧ -2000000 ≤ s.f1 ∧ s.f2 ≤ 2000000) (st : σ → List Int → Bool × σ) : ∀ (m k : Nat) (s : σ) (x : List Int), (after sides x).length = m → m < k → inBox sides x → eachL sides conds st k s x = some (runL (insideB sides conds) st s (x :: after sides x)) := by
  intro m
  induction m with
  | zero =>
    intro k s x h1 h2 hx
    obtain ⟨k, rfl⟩ : ∃ k', k = k' + 1 := ⟨k - 1, by omega⟩
    rcases next_after sides x hb hx with ⟨e1, e2⟩ | ⟨t, e1, e2, e3⟩
    · rw [eachL, e1, e2]
      simp only [runL, Option.elim]
      split
      · split <;> rfl
      · rfl
    · rw [e3] at h1
      simp at h1
  | succ m ih =>
    intro k s x h1 h2 hx
    obtain ⟨k, rfl⟩ : ∃ k', k = k' + 1 := ⟨k - 1, by omega⟩
    rcases next_after sides x hb hx with ⟨e1, e2⟩ | ⟨t, e1, e2, e3⟩
    · rw [e2] at h1
      simp at h1
    · rw [e3] at h1
      have ht : (after sides t).length = m := by simpa using h1
      rw [eachL, e1, e3, runL]
      simp only [Option.elim]
      rw [ih k s t ht (by omega) e2, ih k (st s x).2 t ht (by omega) e2]
      split
      · split <;> rfl
      · rfl
theorem eachF_run (sides : List S77) (conds : List S33) (hb : ∀ s ∈ sides, -2000000 ≤ s.f1 ∧ s.f2 ≤ 2000000) (st : σ → List Int → Bool × σ) (s : σ) (k : Nat) (hk : (allP sides).length ≤ k) : eachF k sides conds st s = some (if sides.any (fun v => decide (v.f2 < v.f1)) = true then s else runL (insideB sides conds) st s (allP sides)) := by
  unfold eachF
  by_cases h : sides.any (fun v => decide (v.f2 < v.f1)) = true
  · rw [if_pos h, if_pos h]
  · rw [if_neg h, if_neg h]
    have hle : ∀ v ∈ sides, v.f1 ≤ v.f2 := fun v hv => by
      have : ¬ v.f2 < v.f1 := fun hl => h (List.any_eq_true.2 ⟨v, hv, by simpa using hl⟩)
      omega
    have hs := all_start sides hle
    rw [hs] at hk ⊢
    exact each_run sides conds (fun v hv => ⟨hle v hv, hb v hv⟩) st _ k s _ rfl (by simp at hk; omega) (inBox_start sides hle)
theorem runL_filter (P : List Int → Bool) (st : σ → List Int → Bool × σ) : ∀ (l : List (List Int)) (s : σ), runL P st s l = runL (fun _ => true) st s (l.filter P)
  | [], s => rfl
  | y :: r, s => by
    rw [runL]
    by_cases h : P y = true
    · rw [if_pos h, List.filter_cons_of_pos h, runL, if_pos rfl, runL_filter P st r]
    · rw [if_neg h, List.filter_cons_of_neg h, runL_filter P st r]
end
theorem inB_iff {a b c : Int} : inB a b c = true ↔ b ≤ a ∧ a ≤ c := by simp [inB]
theorem sides_zero (sides : List S77) (conds : List S33) : ∀ (l : List S77) (seen : List ByteArray), sidesFault sides conds seen l = 0 →
    (∀ s ∈ l, nameOk s.f0 = true ∧ (-1000000 ≤ s.f1 ∧ s.f1 ≤ 1000000) ∧ (-1000000 ≤ s.f2 ∧ s.f2 ≤ 1000000)) ∧ (seen.Nodup → (seen ++ l.map (·.f0)).Nodup) ∧ restFault sides conds = 0
  | [], seen, h => ⟨fun s hs => absurd hs (by simp), fun hn => by simpa using hn, h⟩
  | s :: r, seen, h => by
    rw [sidesFault] at h
    by_cases c1 : nameOk s.f0 = true
    · rw [if_pos c1] at h
      cases c2 : seen.any fun x => decide (s.f0 = x) with
      | true => rw [c2] at h; simp at h
      | false =>
        rw [c2] at h
        simp only [Bool.false_eq_true, if_false] at h
        by_cases c3 : inB s.f1 (-1000000) 1000000 = true
        · rw [if_pos c3] at h
          by_cases c4 : inB s.f2 (-1000000) 1000000 = true
          · rw [if_pos c4] at h
            obtain ⟨h1, h2, h3⟩ := sides_zero sides conds r (seen ++ [s.f0]) h
            refine ⟨fun y hy => ?_, fun hn => ?_, h3⟩
            · rcases List.mem_cons.1 hy with rfl | hy
              · exact ⟨c1, inB_iff.1 c3, inB_iff.1 c4⟩
              · exact h1 y hy
            · have hm : s.f0 ∉ seen := fun hm => by
                have := List.any_eq_false.1 c2 s.f0 hm
                simp at this
              have := h2 (by
                rw [List.nodup_append]
                refine ⟨hn, by simp, fun a ha b hb => ?_⟩
                rw [List.mem_singleton.1 hb]
                exact fun e => hm (e ▸ ha))
              simpa using this
          · rw [if_neg c4] at h; simp at h
        · rw [if_neg c3] at h; simp at h
    · rw [if_neg c1] at h; simp at h
theorem conds_zero (names : List ByteArray) (sides : List S77) : ∀ (l : List S33), condsFault names sides l = 0 → (∀ f ∈ l, overS names f = 0) ∧ emptyFault sides sides = 0
  | [], h => ⟨fun f hf => absurd hf (by simp), h⟩
  | f :: r, h => by
    rw [condsFault] at h
    by_cases c : overS names f = 0
    · rw [if_pos c] at h
      obtain ⟨h1, h2⟩ := conds_zero names sides r h
      exact ⟨fun y hy => by rcases List.mem_cons.1 hy with rfl | hy; exact c; exact h1 y hy, h2⟩
    · rw [if_neg c] at h
      exact absurd h c
theorem terms_zero : ∀ (l : List S79) (prev : ByteArray), termsFault prev l = 0 → ∀ t ∈ l, nameOk t.f0 = true ∧ -1000 ≤ t.f1 ∧ t.f1 ≤ 1000
  | [], _, _ => fun t ht => absurd ht (by simp)
  | t :: r, prev, h => by
    rw [termsFault] at h
    by_cases c1 : nameOk t.f0 = true
    · rw [if_pos c1] at h
      cases c2 : (decide (t.f1 = 0) || !inB t.f1 (-1000) 1000) with
      | true => rw [c2] at h; simp at h
      | false =>
        rw [c2] at h
        simp only [Bool.false_eq_true, if_false] at h
        simp only [Bool.or_eq_false_iff, decide_eq_false_iff_not, Bool.not_eq_false'] at c2
        by_cases c3 : Op.bytesLess prev.toList t.f0.toList = true
        · rw [if_pos c3] at h
          intro y hy
          rcases List.mem_cons.1 hy with rfl | hy
          · exact ⟨c1, inB_iff.1 c2.2⟩
          · exact terms_zero r t.f0 h y hy
        · rw [if_neg c3] at h; simp at h
    · rw [if_neg c1] at h; simp at h
structure Valid (sides : List S77) (conds : List S33) : Prop where
  len : sides.length ≤ 8
  sd : ∀ s ∈ sides, nameOk s.f0 = true ∧ (-1000000 ≤ s.f1 ∧ s.f1 ≤ 1000000) ∧ (-1000000 ≤ s.f2 ∧ s.f2 ≤ 1000000)
  nd : (sides.map (·.f0)).Nodup
  cl : conds.length ≤ 60
  cd : ∀ f ∈ conds, (-1000000 ≤ f.f0 ∧ f.f0 ≤ 1000000) ∧ f.f1.length ≤ 12 ∧ ∀ t ∈ f.f1, (nameOk t.f0 = true ∧ -1000 ≤ t.f1 ∧ t.f1 ≤ 1000) ∧ t.f0 ∈ sides.map (·.f0)
  em : emptyFault sides sides = 0
theorem valid_of {sides : List S77} {conds : List S33} (h : setFault sides conds = 0) : Valid sides conds := by
  unfold setFault at h
  by_cases hs : sides.length > 8
  · rw [if_pos hs] at h; simp at h
  · rw [if_neg hs] at h
    obtain ⟨h1, h2, h3⟩ := sides_zero sides conds sides [] h
    unfold restFault at h3
    by_cases hc : conds.length > 60
    · rw [if_pos hc] at h3; simp at h3
    · rw [if_neg hc] at h3
      obtain ⟨h4, h5⟩ := conds_zero _ sides conds h3
      refine ⟨by omega, h1, by simpa using h2 List.nodup_nil, by omega, fun f hf => ?_, h5⟩
      have ho := h4 f hf
      unfold overS at ho
      by_cases c1 : formFaultS f.f0 f.f1 = 0
      · rw [if_pos c1] at ho
        cases c2 : f.f1.all (fun t => (sides.map (·.f0)).any fun x => decide (t.f0 = x)) with
        | false => rw [c2] at ho; simp at ho
        | true =>
          unfold formFaultS at c1
          by_cases c3 : inB f.f0 (-1000000) 1000000 = true
          · rw [if_pos c3] at c1
            by_cases c4 : f.f1.length > 12
            · rw [if_pos c4] at c1; simp at c1
            · rw [if_neg c4] at c1
              refine ⟨inB_iff.1 c3, by omega, fun t ht => ⟨terms_zero _ _ c1 t ht, ?_⟩⟩
              have := List.all_eq_true.1 c2 t ht
              obtain ⟨x, hx, he⟩ := List.any_eq_true.1 this
              rw [decide_eq_true_eq] at he
              rw [he]
              exact hx
          · rw [if_neg c3] at c1; simp at c1
      · rw [if_neg c1] at ho
        exact absurd ho c1
theorem idx_at (sides : List S77) (s : ByteArray) (h : s ∈ sides.map (·.f0)) : ∃ n : Nat, n < sides.length ∧ idxFrom (fun x : S77 => x.f0.toList == s.toList) sides 0 = (n : Int) ∧ (sides.getD n z77).f0 = s := by
  have key : ∀ (l : List S77) (i : Int), s ∈ l.map (·.f0) → ∃ n : Nat, n < l.length ∧ idxFrom (fun x : S77 => x.f0.toList == s.toList) l i = i + (n : Int) ∧ (l.getD n z77).f0 = s := by
    intro l
    induction l with
    | nil => intro i h; simp at h
    | cons y r ih =>
      intro i h
      rw [idxFrom]
      by_cases hy : y.f0 = s
      · have : (y.f0.toList == s.toList) = true := by rw [hy]; simp
        rw [this]
        exact ⟨0, by simp, by simp, by simpa using hy⟩
      · have h3 : (y.f0.toList == s.toList) = false := by
          rw [beq_eq_false_iff_ne]
          exact fun e => hy (str_toList.1 e)
        rw [h3]
        have hm : s ∈ r.map (·.f0) := by
          rw [List.map_cons] at h
          rcases List.mem_cons.1 h with e | h
          · exact absurd e.symm hy
          · exact h
        obtain ⟨n, h1, h2, h4⟩ := ih (i + 1) hm
        exact ⟨n + 1, by simp; omega, by simp only [Bool.false_eq_true, if_false]; rw [h2]; push_cast; omega, by simpa using h4⟩
  obtain ⟨n, h1, h2, h3⟩ := key sides 0 h
  exact ⟨n, h1, by rw [h2]; omega, h3⟩
theorem okSet_valid {sides : List S77} {conds : List S33} (h : Valid sides conds) : okSet sides conds = true := by
  unfold okSet okConds
  simp only [Bool.and_eq_true, decide_eq_true_eq, List.all_eq_true]
  refine ⟨h.len, fun f hf t ht => ?_⟩
  obtain ⟨n, h1, h2, _⟩ := idx_at sides t.f0 ((h.cd f hf).2.2 t ht).2
  rw [h2]
  exact ⟨by omega, by simp; omega⟩
theorem wf_of {c : Int} (h : -2000000 ≤ c ∧ c ≤ 2000000) : (Lit.int .i64 c).wf = true := by
  simp only [Lit.wf, IntKind.min, IntKind.max, IntKind.signed, IntKind.bits, Bool.and_eq_true, decide_eq_true_eq, if_true]
  omega
theorem name_size {s : ByteArray} (h : nameOk s = true) : 1 ≤ s.size ∧ s.size ≤ 40 := by
  unfold nameOk at h
  simp only [Bool.and_eq_true, decide_eq_true_eq] at h
  exact h.1
theorem okPts_valid {sides : List S77} {conds : List S33} (h : Valid sides conds) : okPts sides conds = true := by
  unfold okPts okRef okForm
  have hl := h.len
  simp only [Bool.and_eq_true, decide_eq_true_eq, List.all_eq_true]
  refine ⟨⟨by omega, fun s hs => ?_, fun f hf => ?_⟩, fun s hs => ?_⟩
  · obtain ⟨h1, h2, h3⟩ := h.sd s hs
    have := name_size h1
    exact ⟨by unfold maxLen; omega, wf_of (by omega), wf_of (by omega)⟩
  · obtain ⟨h1, h2, h3⟩ := h.cd f hf
    refine ⟨wf_of (by omega), by omega, fun t ht => ?_⟩
    have := name_size (h3 t ht).1.1
    unfold maxLen
    omega
  · obtain ⟨h1, h2, h3⟩ := h.sd s hs
    omega
theorem wrap_add (a b : Int) : wrap64 (wrap64 a + b) = wrap64 (a + b) := by unfold wrap64; omega
theorem wrap_add2 (a b : Int) : wrap64 (a + wrap64 b) = wrap64 (a + b) := by unfold wrap64; omega
theorem fold_sum (of : ByteArray → Int) : ∀ (l : List S79) (n : Int), foldTerms of (wrap64 n) l = wrap64 (n + (l.map fun t => t.f1 * of t.f0).sum)
  | [], n => by simp [foldTerms]
  | t :: r, n => by
    have ih := fold_sum of r (n + t.f1 * of t.f0)
    unfold foldTerms at ih ⊢
    rw [List.foldl_cons, wrap_add2, wrap_add, ih, List.map_cons, List.sum_cons]
    congr 1
    omega
theorem xAt_at (sides : List S77) (x : List Int) (s : ByteArray) (n : Nat) (hn : n < sides.length) (hs : (sides.getD n z77).f0 = s) (hnd : (sides.map (·.f0)).Nodup) : ∀ k, k ≤ sides.length → xAt sides x k s = if n < k then x.getD n 0 else 0
  | 0, _ => by simp [xAt]
  | k + 1, hk => by
    rw [xAt, xAt_at sides x s n hn hs hnd k (by omega)]
    by_cases e : s = (sides.getD k z77).f0
    · have hkn : k = n := by
        have h1 : k < (sides.map (·.f0)).length := by simp; omega
        have h2 : n < (sides.map (·.f0)).length := by simp; omega
        refine (List.getElem_inj hnd (h₀ := h1) (h₁ := h2)).1 ?_
        simp only [List.getElem_map]
        have e1 : (sides.getD k z77) = sides[k] := by simp [List.getD, List.getElem?_eq_getElem (show k < sides.length by omega)]
        have e2 : (sides.getD n z77) = sides[n] := by simp [List.getD, List.getElem?_eq_getElem hn]
        rw [← e1, ← e2, ← e, hs]
      subst hkn
      rw [if_pos e, if_pos (by omega)]
    · rw [if_neg e]
      have hkn : n ≠ k := fun h => e (by rw [← hs, h])
      by_cases h : n < k
      · rw [if_pos h, if_pos (by omega)]
      · rw [if_neg h, if_neg (by omega)]
theorem value_eq {sides : List S77} {conds : List S33} (h : Valid sides conds) (x : List Int) {f : S33} (hf : f ∈ conds) : valueOf sides x f = refVal sides x f := by
  obtain ⟨h1, h2, h3⟩ := h.cd f hf
  unfold valueOf refVal
  have e0 : f.f0 = wrap64 f.f0 := (IntWalk.wrap64_in _ (by omega)).symm
  have := fold_sum (fun n => rd x (idxFrom (fun s : S77 => s.f0.toList == n.toList) sides 0)) f.f1 f.f0
  rw [← e0] at this
  rw [this]
  congr 2
  have key : ∀ l : List S79, (∀ t ∈ l, nameOk t.f0 = true ∧ t.f0 ∈ sides.map (·.f0)) → (l.map fun t => t.f1 * rd x (idxFrom (fun s : S77 => s.f0.toList == t.f0.toList) sides 0)) = l.map fun t => t.f1 * refG sides x t.f0 := fun l hl => by
    apply List.map_congr_left
    intro t ht
    obtain ⟨a1, a2⟩ := hl t ht
    obtain ⟨n, b1, b2, b3⟩ := idx_at sides t.f0 a2
    have hne : t.f0 ≠ ⟨#[]⟩ := fun e => by
      have := (name_size a1).1
      rw [e] at this
      exact absurd this (by decide)
    unfold refG
    rw [if_neg hne, xAt_at sides x t.f0 n b1 b3 h.nd sides.length (Nat.le_refl _), if_pos b1, b2]
    simp [rd, rdOf]
  rw [key f.f1 (fun t ht => ⟨(h3 t ht).1.1, (h3 t ht).2⟩)]
theorem inside_eq {sides : List S77} {conds : List S33} (h : Valid sides conds) : insideB sides conds = isPointB sides conds := by
  funext x
  unfold insideB isPointB
  congr 2
  rw [Bool.eq_iff_iff, List.any_eq_true, List.any_eq_true]
  constructor
  · rintro ⟨f, hf, hv⟩
    exact ⟨f, hf, by rw [← value_eq h x hf]; exact hv⟩
  · rintro ⟨f, hf, hv⟩
    exact ⟨f, hf, by rw [value_eq h x hf]; exact hv⟩
def boxSize : List S77 → Nat
  | [] => 1
  | s :: r => (s.f2 + 1 - s.f1).toNat * boxSize r
theorem vals_length : ∀ (c : Nat) (lo : Int), (valsFrom lo c).length = c
  | 0, _ => rfl
  | c + 1, lo => by simp [valsFrom, vals_length c]
theorem flat_length (f : Int → List (List Int)) (m : Nat) (hf : ∀ v, (f v).length = m) : ∀ l : List Int, (l.flatMap f).length = l.length * m
  | [] => by simp
  | v :: r => by rw [List.flatMap_cons, List.length_append, flat_length f m hf r, hf, List.length_cons, Nat.add_mul]; omega
theorem all_length : ∀ sides : List S77, (allP sides).length = boxSize sides
  | [] => rfl
  | s :: r => by
    rw [allP, flat_length _ (boxSize r) (fun v => by rw [List.length_map, all_length r]), vals_length]
    rfl
theorem box_le : ∀ (l : List S77) (n : Nat), 1 ≤ n → n ≤ 200000 → (∀ s ∈ l, s.f1 ≤ s.f2 ∧ -1000000 ≤ s.f1 ∧ s.f2 ≤ 1000000) → boxFault (n : Int) l = 0 → n * boxSize l ≤ 200000
  | [], n, h0, h1, _, _ => by simp [boxSize]; exact h1
  | s :: r, n, h0, h1, hb, h => by
    obtain ⟨b1, b2, b3⟩ := hb s (by simp)
    obtain ⟨c, hc⟩ : ∃ c : Nat, s.f2 + 1 - s.f1 = (c : Int) := ⟨(s.f2 + 1 - s.f1).toNat, by omega⟩
    have e1 : wrap64 (s.f2 - s.f1) = s.f2 - s.f1 := IntWalk.wrap64_in _ (by omega)
    have e2 : wrap64 (s.f2 - s.f1 + 1) = (c : Int) := by rw [show s.f2 - s.f1 + 1 = (c : Int) by omega]; exact IntWalk.wrap64_in _ (by omega)
    have hc1 : c ≤ 2000001 := by omega
    have hc0 : 1 ≤ c := by omega
    have hm : n * c ≤ 200000 * 2000001 := Nat.mul_le_mul h1 hc1
    have e3 : wrap64 ((n : Int) * (c : Int)) = ((n * c : Nat) : Int) := by
      rw [← Int.natCast_mul]
      exact IntWalk.wrap64_in _ (by omega)
    rw [boxFault, e1, e2, e3] at h
    by_cases hg : ((n * c : Nat) : Int) > 200000
    · rw [if_pos hg] at h; simp at h
    · rw [if_neg hg] at h
      have := box_le r (n * c) (Nat.mul_pos h0 hc0) (by omega) (fun y hy => hb y (by simp [hy])) h
      rw [boxSize, hc, Int.toNat_natCast, ← Nat.mul_assoc]
      exact this
def ptsOf (sides : List S77) (conds : List S33) : List (List Int) := if sides.any (fun v => decide (v.f2 < v.f1)) = true then [] else (allP sides).filter (isPointB sides conds)
theorem all_small {sides : List S77} {conds : List S33} (h : Valid sides conds) : sides.any (fun v => decide (v.f2 < v.f1)) = true ∨ (allP sides).length ≤ 200000 := by
  by_cases he : sides.any (fun v => decide (v.f2 < v.f1)) = true
  · exact .inl he
  · right
    have hle : ∀ v ∈ sides, v.f1 ≤ v.f2 := fun v hv => by
      have : ¬ v.f2 < v.f1 := fun hl => he (List.any_eq_true.2 ⟨v, hv, by simpa using hl⟩)
      omega
    have hem := h.em
    unfold emptyFault at hem
    have hg : ¬ sides.any (fun s => decide (s.f1 > s.f2)) = true := he
    rw [if_neg hg] at hem
    have := box_le sides 1 (by omega) (by omega) (fun s hs => ⟨hle s hs, (h.sd s hs).2.1.1, (h.sd s hs).2.2.2⟩) hem
    rw [all_length]
    omega
theorem pts_small {sides : List S77} {conds : List S33} (h : Valid sides conds) : (ptsOf sides conds).length ≤ 200000 := by
  unfold ptsOf
  rcases all_small h with he | he
  · rw [if_pos he]; simp
  · split
    · simp
    · exact Nat.le_trans (List.length_filter_le _ _) he
theorem each_pts {σ : Type} {sides : List S77} {conds : List S33} (h : Valid sides conds) (st : σ → List Int → Bool × σ) (s : σ) (k : Nat) (hk : 300000 ≤ k) : eachF k sides conds st s = some (runL (fun _ => true) st s (ptsOf sides conds)) := by
  rcases all_small h with he | he
  · unfold eachF ptsOf
    rw [if_pos he, if_pos he]
    rfl
  · rw [eachF_run sides conds (fun v hv => by have := h.sd v hv; omega) st s k (by omega)]
    unfold ptsOf
    by_cases hb : sides.any (fun v => decide (v.f2 < v.f1)) = true
    · rw [if_pos hb, if_pos hb]; rfl
    · rw [if_neg hb, if_neg hb, runL_filter, inside_eq h]
theorem pointsIn_f {sides : List S77} {conds : List S33} (h : Valid sides conds) : wbref1_PointsIn.f sides conds = some (ptsOf sides conds) := by
  have hp := pts_small h
  unfold wbref1_PointsIn.f
  rw [if_pos (okPts_valid h)]
  unfold ptsOf at hp ⊢
  by_cases hb : sides.any (fun v => decide (v.f2 < v.f1)) = true
  · rw [if_pos hb, if_pos hb]
  · rw [if_neg hb] at hp
    rw [if_neg hb, if_neg hb]
    have e : enumP (isPointB sides conds) sides [] = (allP sides).filter (isPointB sides conds) := by
      rw [enumP_all]
      congr 1
      have : (fun x : List Int => ([] : List Int) ++ x) = id := by funext x; rfl
      rw [this, List.map_id]
    rw [e, if_pos (by unfold PtsMax; omega)]
end Go.Proofs.YtjgakaembhmhpaaGreatDoor.PA
