/- The pure side of the law FnExactIsInstr: what the printed functions of the program and of the reference compute is the same, for every argument. -/
import Derived.Test.YtgggflbmcmalfaaOpFnExactIsInstr
import Derived.Test.YtgggflbmcmalfaaKit
set_option linter.unusedVariables false
set_option linter.unusedSimpArgs false
namespace Go.Proofs.Ytgggflbmcmalfaa.Pure
open Go.RowKit Go.Proofs.Ytgggflbmcmalfaa.QFnExactIsInstr Go.Proofs.YtgggflbmcmalfaaW.PrintWords Go.Proofs.YtgggflbmcmalfaaW.PrintLast Go.Proofs.Ytgggflbmcmalfaa.OpFnExactIsInstr

def inB (a lo hi : Int) : Bool := decide (lo ≤ a) && decide (a ≤ hi)
def lowC (c : UInt8) : Bool := decide (97 ≤ c.toNat) && decide (c.toNat ≤ 122)
def nameB (s : ByteArray) : Bool := inB (s.size : Int) 1 6 && s.data.toList.all lowC
theorem spec_in (a lo hi : Int) : spec_l1In.f a lo hi = some (inB a lo hi) := by
  unfold spec_l1In.f inB
  by_cases h : a ≥ lo
  · rw [if_pos h, decide_eq_true h, Bool.true_and]
  · rw [if_neg h, decide_eq_false h, Bool.false_and]
theorem impl_in_ (a lo hi : Int) : impl_in.f a lo hi = some (inB a lo hi) := spec_in a lo hi
theorem bt_list (s : ByteArray) (i : Nat) (h : i < s.data.toList.length) : bt s (i : Int) = ((s.data.toList[i]).toNat : Int) := by
  have h' : (i : Int).toNat < s.size := by simpa using h
  unfold bt
  rw [dif_pos h']
  rfl
theorem size_list (s : ByteArray) : s.data.toList.length = s.size := rfl
theorem spec_name_loop (s : ByteArray) (hb : s.size ≤ 40000000) (d : Nat) : ∀ (k i : Nat), i ≤ s.size → s.size - i = d → d < k → spec_IsName.l0 k s (i : Int) = some (inB (s.size : Int) 1 6 && (s.data.toList.drop i).all lowC) := by
  induction d with
  | zero =>
    intro k i h0 h1 h2
    obtain ⟨k, rfl⟩ : ∃ m, k = m + 1 := ⟨k - 1, by omega⟩
    simp only [spec_IsName.l0]
    rw [if_neg (by omega), spec_in, List.drop_eq_nil_of_le (by rw [size_list]; omega)]
    simp
  | succ d ih =>
    intro k i h0 h1 h2
    obtain ⟨k, rfl⟩ : ∃ m, k = m + 1 := ⟨k - 1, by omega⟩
    have hi : i < s.data.toList.length := by rw [size_list]; omega
    simp only [spec_IsName.l0]
    rw [if_pos (by omega), if_pos (by omega), bt_list s i hi, Kit.drop_get _ i hi, List.all_cons, Kit.wrap_succ i (by omega), ih k (i + 1) (by omega) (by omega) (by omega)]
    unfold lowC
    by_cases c1 : (((s.data.toList[i]).toNat : Int)) < 97
    · rw [if_pos c1, decide_eq_false (show ¬ 97 ≤ (s.data.toList[i]).toNat by omega)]
      simp
    by_cases c2 : (((s.data.toList[i]).toNat : Int)) > 122
    · rw [if_neg c1, if_pos c2, decide_eq_false (show ¬ (s.data.toList[i]).toNat ≤ 122 by omega)]
      simp
    rw [if_neg c1, if_neg c2, decide_eq_true (show 97 ≤ (s.data.toList[i]).toNat by omega), decide_eq_true (show (s.data.toList[i]).toNat ≤ 122 by omega)]
    simp
theorem impl_name_loop (s : ByteArray) (hb : s.size ≤ 40000000) (d : Nat) : ∀ (k i : Nat), i ≤ s.size → s.size - i = d → d < k → impl_isName.l0 k s (s.size : Int) (i : Int) = some ((s.data.toList.drop i).all lowC) := by
  induction d with
  | zero =>
    intro k i h0 h1 h2
    obtain ⟨k, rfl⟩ : ∃ m, k = m + 1 := ⟨k - 1, by omega⟩
    simp only [impl_isName.l0]
    rw [if_neg (by omega), List.drop_eq_nil_of_le (by rw [size_list]; omega)]
    simp
  | succ d ih =>
    intro k i h0 h1 h2
    obtain ⟨k, rfl⟩ : ∃ m, k = m + 1 := ⟨k - 1, by omega⟩
    have hi : i < s.data.toList.length := by rw [size_list]; omega
    simp only [impl_isName.l0]
    rw [if_pos (by omega), if_pos (by omega), if_pos (by omega), bt_list s i hi, Kit.drop_get _ i hi, List.all_cons, Kit.wrap_succ i (by omega), ih k (i + 1) (by omega) (by omega) (by omega)]
    unfold lowC
    by_cases c1 : (((s.data.toList[i]).toNat : Int)) < 97
    · rw [if_pos c1, decide_eq_false (show ¬ 97 ≤ (s.data.toList[i]).toNat by omega)]
      simp
    by_cases c2 : (((s.data.toList[i]).toNat : Int)) > 122
    · rw [if_neg c1, if_pos c2, decide_eq_false (show ¬ (s.data.toList[i]).toNat ≤ 122 by omega)]
      simp
    rw [if_neg c1, if_neg c2, decide_eq_true (show 97 ≤ (s.data.toList[i]).toNat by omega), decide_eq_true (show (s.data.toList[i]).toNat ≤ 122 by omega)]
    simp
theorem spec_name (s : ByteArray) (hb : s.size ≤ 40000000) (k : Nat) (hk : s.size < k) : spec_IsName.f k s = some (nameB s) := by
  have := spec_name_loop s hb s.size k 0 (by omega) (by omega) hk
  simpa [spec_IsName.f, nameB] using this
theorem impl_name (s : ByteArray) (hb : s.size ≤ 40000000) (k : Nat) (hk : s.size < k) : impl_isName.f k s = some (nameB s) := by
  have := impl_name_loop s hb s.size k 0 (by omega) (by omega) hk
  unfold impl_isName.f nameB
  rw [impl_in_]
  simp only [Option.bind_some]
  cases inB (s.size : Int) 1 6
  · simp
  · simpa using this
def regB (a : Int) : Bool := inB a 0 7
def pairB (c d : Int) : Bool := if c = -1 then d == -1 else regB c && (d == -1 || regB d)
def emptyB (s : ByteArray) : Bool := s.toList == ([] : List UInt8)
def instrB (op a b c d : Int) (s : ByteArray) : Bool :=
  if op = 1 then (c == 0 && (d == 0 && emptyB s)) && (regB a && inB b 0 999999)
  else if op = 2 then (c == 0 && (d == 0 && emptyB s)) && (regB a && inB b 0 1)
  else if op = 3 then (c == 0 && (d == 0 && emptyB s)) && (regB a && inB b 0 2)
  else if op = 4 ∨ op = 10 then (c == 0 && (d == 0 && emptyB s)) && (regB a && b == 0)
  else if op = 5 then (d == 0 && emptyB s) && (regB a && (regB b && regB c))
  else if op = 6 then regB a && (regB b && (pairB c d && nameB s))
  else if op = 7 then regB a && (b == 0 && (pairB c d && nameB s))
  else if op = 8 then (c == 0 && (d == 0 && emptyB s)) && (inB a 0 2 && regB b)
  else if op = 9 then (c == 0 && (d == 0 && emptyB s)) && (regB a && inB b 1 12)
  else false
theorem iteS (p x : Bool) : (if p = true then some x else some false) = some (p && x) := by cases p <;> rfl
theorem iteZ (a : Int) (x : Bool) : (if a = 0 then some x else some false) = some (a == 0 && x) := by
  by_cases h : a = 0
  · simp [h]
  · rw [if_neg h, beq_eq_false_iff_ne.mpr h, Bool.false_and]
theorem spec_reg (a : Int) : spec_IsReg.f a = some (regB a) := by
  unfold spec_IsReg.f regB
  rw [spec_in]
  rfl
theorem impl_reg (a : Int) : impl_isReg.f a = some (regB a) := by
  unfold impl_isReg.f regB
  rw [impl_in_]
  rfl
theorem reg_neg : regB (-1) = false := by decide
theorem spec_two (op a b c d : Int) (s : ByteArray) : spec_l5Two.f op a b c d s = some (pairB c d) := by
  unfold spec_l5Two.f pairB
  simp only [spec_reg, Option.bind_some, iteS]
  by_cases h1 : c = -1 <;> by_cases h2 : d = -1
  · simp [h1, h2]
  · simp [h1, h2, reg_neg]
  · simp [h1, h2]
    cases regB c <;> rfl
  · have e2 : (d == -1) = false := beq_eq_false_iff_ne.mpr h2
    simp [h1, h2, e2, iteS]
theorem impl_pair (c d : Int) : impl_pairOk.f c d = some (pairB c d) := by
  unfold impl_pairOk.f pairB
  simp only [impl_reg, Option.bind_some, iteS]
  by_cases h1 : c = -1 <;> by_cases h2 : d = -1
  · simp [h1, h2, reg_neg]
  · simp [h1, h2, reg_neg]
  · simp [h1, h2, reg_neg]
    cases regB c <;> rfl
  · have e2 : (d == -1) = false := beq_eq_false_iff_ne.mpr h2
    simp [h1, h2, reg_neg, e2]
    cases regB c <;> cases regB d <;> rfl
theorem spec_instr (op a b c d : Int) (s : ByteArray) (hs : s.size ≤ 40000000) (k : Nat) (hk : s.size + 2 < k) : spec_IsInstr.f k op a b c d s = some (instrB op a b c d s) := by
  obtain ⟨k, rfl⟩ : ∃ m, k = m + 1 + 1 := ⟨k - 2, by omega⟩
  have e : spec_IsInstr.f (k + 1 + 1) op a b c d s = spec_IsInstr.j0 (k + 1 + 1) (c == 0 && (d == 0 && emptyB s)) op a b c d s := by
    unfold spec_IsInstr.f emptyB
    by_cases h1 : c = 0
    · by_cases h2 : d = 0
      · rw [if_pos h1, if_pos h2, beq_iff_eq.mpr h1, beq_iff_eq.mpr h2, Bool.true_and, Bool.true_and]
      · rw [if_pos h1, if_neg h2, beq_eq_false_iff_ne.mpr h2, Bool.false_and, Bool.and_false]
    · rw [if_neg h1, beq_eq_false_iff_ne.mpr h1, Bool.false_and]
  rw [e]
  have hn := spec_name s hs k (by omega)
  simp only [spec_IsInstr.j0, spec_IsInstr.j1, spec_reg, spec_in, spec_two, hn, Option.bind_some, iteS, iteZ]
  unfold instrB
  rw [show (s.toList == ([] : List UInt8)) = emptyB s from rfl]
  generalize hp : (c == 0 && (d == 0 && emptyB s)) = p
  by_cases h1 : op = 1
  · simp only [h1, if_true, iteS]
  by_cases h2 : op = 2
  · simp only [h2, if_true, iteS]
    simp
  by_cases h3 : op = 3
  · simp only [h3, if_true, iteS]
    simp
  by_cases h4 : op = 4
  · simp [h4] <;> cases p <;> simp
  by_cases h10 : op = 10
  · simp [h10] <;> cases p <;> simp
  by_cases h5 : op = 5
  · simp [h5] <;> cases regB a <;> cases regB b <;> cases regB c <;> cases (d == 0) <;> cases emptyB s <;> rfl
  by_cases h6 : op = 6
  · simp [h6]
  by_cases h7 : op = 7
  · simp [h7]
  by_cases h8 : op = 8
  · simp [h8] <;> cases p <;> simp
  by_cases h9 : op = 9
  · simp [h9] <;> cases p <;> simp
  simp [h1, h2, h3, h4, h5, h6, h7, h8, h9, h10]
theorem impl_instr (op a b c d : Int) (s : ByteArray) (hs : s.size ≤ 40000000) (k : Nat) (hk : s.size + 2 < k) : impl_isInstr.f k op a b c d s = some (instrB op a b c d s) := by
  obtain ⟨k, rfl⟩ : ∃ m, k = m + 1 := ⟨k - 1, by omega⟩
  have hn := impl_name s hs k (by omega)
  unfold impl_isInstr.f
  simp only [impl_isInstr.j0, impl_reg, impl_in_, impl_pair, hn, Option.bind_some, iteS, iteZ]
  unfold instrB
  rw [show (s.toList == ([] : List UInt8)) = emptyB s from rfl]
  by_cases h1 : op = 1
  · simp only [h1, if_true, iteS]
  by_cases h2 : op = 2
  · simp only [h2, if_true, iteS]
    simp
  by_cases h3 : op = 3
  · simp only [h3, if_true, iteS]
    simp
  by_cases h4 : op = 4
  · simp [h4] <;> cases regB a <;> cases (b == 0) <;> cases (c == 0) <;> cases (d == 0) <;> cases emptyB s <;> rfl
  by_cases h10 : op = 10
  · simp [h10] <;> cases regB a <;> cases (b == 0) <;> cases (c == 0) <;> cases (d == 0) <;> cases emptyB s <;> rfl
  by_cases h5 : op = 5
  · simp [h5]
  by_cases h6 : op = 6
  · simp [h6]
  by_cases h7 : op = 7
  · simp [h7]
  by_cases h8 : op = 8
  · simp [h8]
  by_cases h9 : op = 9
  · simp [h9]
  simp [h1, h2, h3, h4, h5, h6, h7, h8, h9, h10]
theorem FnExactIsInstr : OpFnExactIsInstr.Pure := by
  intro y0 hg
  have hz : y0.f5.size ≤ maxLen := hg.2.2.2.2.2
  simp only [maxLen] at hz
  have e0 : wrap64 (1048576 - (y0.f5.size : Int)) = 1048576 - (y0.f5.size : Int) := Kit.wrap_id _ (by omega) (by omega)
  by_cases c : 1048576 - (y0.f5.size : Int) < 0
  · refine ⟨0, ?_⟩
    unfold laws_FnExactIsInstr.f laws_szInstr.f
    rw [e0, if_pos c]
    rfl
  · refine ⟨1048600, ?_⟩
    unfold laws_FnExactIsInstr.f laws_szInstr.f laws_toInstr.f impl_IsInstr.f
    rw [e0, if_neg c]
    simp only [Option.bind_some]
    rw [if_neg c, spec_instr _ _ _ _ _ _ (by omega) _ (by omega), impl_instr _ _ _ _ _ _ (by omega) _ (by omega)]
    simp

end Go.Proofs.Ytgggflbmcmalfaa.Pure
