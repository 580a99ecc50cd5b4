/- FormatLibrary: the builder's text against the reference's -/
import Derived.Test.YtmipaoobkjppdaaDoorOpFnExactFormatLibrary
import Derived.Lib.ItoaLen
import Derived.Test.YtmipaoobkjppdaaDoorFunc
import Derived.Test.YtmipaoobkjppdaaDoorKit2
import Derived.Test.YtmipaoobkjppdaaDoorKit
set_option linter.unusedVariables false
set_option linter.unusedSimpArgs false
namespace Go.Proofs.YtmipaoobkjppdaaDoor.Pure
open Go.RowKit Go.Proofs.YtmipaoobkjppdaaDoor.QFnExactFormatLibrary Go.Proofs.YtmipaoobkjppdaaDoorW.PrintWords Go.Proofs.YtmipaoobkjppdaaDoorW.PrintLast Go.Proofs.YtmipaoobkjppdaaDoor.OpFnExactFormatLibrary

theorem wf_i64 {x : Int} (h : (Lit.int .i64 x).wf = true) : -9223372036854775808 ≤ x ∧ x ≤ 9223372036854775807 := by
  simp [Lit.wf, IntKind.min, IntKind.max, IntKind.signed, IntKind.bits] at h
  omega
def ba (l : List UInt8) : ByteArray := ⟨l.toArray⟩
theorem ba_append (l m : List UInt8) : ba l ++ ba m = ba (l ++ m) := by
  apply Kit.bytes_inj.1
  rw [Go.ByteArray.toList_eq, Go.ByteArray.toList_eq]
  simp [ba]
theorem ba_size (l : List UInt8) : (ba l).size = l.length := rfl
def dig (u : Nat) : List UInt8 := if u = 0 then [] else Go.Lib.decDigits u
theorem dig_step (u : Nat) (h : u ≠ 0) : dig u = dig (u / 10) ++ [UInt8.ofNat (48 + u % 10)] := by
  unfold dig
  rw [if_neg h, Go.Lib.decDigits]
  by_cases c : u < 10
  · rw [dif_pos c, if_pos (by omega), Nat.mod_eq_of_lt c]
    rfl
  · rw [dif_neg c, if_neg (by omega)]
def sgn (n : Int) (l : List UInt8) : List UInt8 := if n < 0 then 45 :: l else l
theorem str_one (m : Nat) (h : m < 10) : strOfNums [((48 + m : Nat) : Int)] = ba [UInt8.ofNat (48 + m)] := by
  unfold strOfNums ba
  simp only [List.map_cons, List.map_nil, Int.toNat_natCast]
theorem itoa_zero : Go.Lib.itoa 0 = [48] := by
  unfold Go.Lib.itoa
  rw [if_neg (by decide), Go.Lib.decDigits, dif_pos (by decide)]
  rfl
theorem fmt_l0 (n : Int) : ∀ (d k u : Nat) (x : Int) (l : List UInt8), (x = (u : Int) ∨ x = -(u : Int)) → u < 10 ^ d → u ≤ 9223372036854775808 → l.length + d ≤ 100 → d < k → spec_FormatInt.l0 k n (ba l) x = some (ba (sgn n (dig u ++ l)))
  | 0, k, u, x, l, hx, h1, h2, h3, h4 => by
    obtain ⟨k, rfl⟩ : ∃ m, k = m + 1 := ⟨k - 1, by omega⟩
    have hu : u = 0 := by simpa using h1
    subst hu
    have hx0 : x = 0 := by omega
    subst hx0
    simp only [spec_FormatInt.l0]
    rw [if_pos trivial, ba_size]
    unfold sgn dig
    by_cases c : n < 0
    · rw [if_pos c, if_pos (by omega), if_pos c]
      exact congrArg some (ba_append [45] l)
    · rw [if_neg c, if_neg c]
      rfl
  | d + 1, k, u, x, l, hx, h1, h2, h3, h4 => by
    obtain ⟨k, rfl⟩ : ∃ m, k = m + 1 := ⟨k - 1, by omega⟩
    by_cases h0 : u = 0
    · subst h0
      have hx0 : x = 0 := by omega
      subst hx0
      simp only [spec_FormatInt.l0]
      rw [if_pos trivial, ba_size]
      unfold sgn dig
      by_cases c : n < 0
      · rw [if_pos c, if_pos (by omega), if_pos c]
        exact congrArg some (ba_append [45] l)
      · rw [if_neg c, if_neg c]
        rfl
    · have hp : u / 10 < 10 ^ d := by
        rw [Nat.pow_succ] at h1
        omega
      have hm : u % 10 < 10 := Nat.mod_lt _ (by decide)
      have hs : (strOfNums [((48 + u % 10 : Nat) : Int)]).size + (ba l).size ≤ 9223372036854775807 := by
        rw [str_one _ hm, ba_size, ba_size]
        simp
        omega
      have fin : ∀ q : Int, (q = ((u / 10 : Nat) : Int) ∨ q = -((u / 10 : Nat) : Int)) → spec_FormatInt.l0 k n ((strOfNums [((48 + u % 10 : Nat) : Int)]) ++ ba l) (wrap64 q) = some (ba (sgn n (dig u ++ l))) := by
        intro q hq
        rw [Kit.wrap_id q (by omega) (by omega), str_one _ hm, ba_append, fmt_l0 n d k (u / 10) q _ hq hp (by omega) (by simp; omega) (by omega), dig_step u h0]
        simp
      simp only [spec_FormatInt.l0]
      rw [if_neg (show ¬ x = 0 by omega)]
      rcases hx with hx | hx
      · have e1 : Int.tmod x 10 = ((u % 10 : Nat) : Int) := by rw [hx]; rfl
        have e2 : Int.tdiv x 10 = ((u / 10 : Nat) : Int) := by rw [hx]; rfl
        rw [e1, e2, if_neg (by omega)]
        have e3 : (wrap64 (48 + ((u % 10 : Nat) : Int))) % 256 = ((48 + u % 10 : Nat) : Int) := by
          rw [Kit.wrap_id _ (by omega) (by omega)]
          omega
        rw [e3]
        simp only [Option.bind_some]
        rw [if_pos hs]
        exact fin _ (.inl rfl)
      · have e1 : Int.tmod x 10 = -((u % 10 : Nat) : Int) := by rw [hx, Int.neg_tmod]; rfl
        have e2 : Int.tdiv x 10 = -((u / 10 : Nat) : Int) := by rw [hx, Int.neg_tdiv]; rfl
        rw [e1, e2]
        by_cases c : -((u % 10 : Nat) : Int) < 0
        · rw [if_pos c]
          have e3 : (wrap64 (48 + (wrap64 (- -((u % 10 : Nat) : Int))))) % 256 = ((48 + u % 10 : Nat) : Int) := by
            rw [Int.neg_neg, Kit.wrap_id ((u % 10 : Nat) : Int) (by omega) (by omega), Kit.wrap_id _ (by omega) (by omega)]
            omega
          rw [e3]
          simp only [Option.bind_some]
          rw [if_pos hs]
          exact fin _ (.inr rfl)
        · rw [if_neg c]
          have e3 : (wrap64 (48 + -((u % 10 : Nat) : Int))) % 256 = ((48 + u % 10 : Nat) : Int) := by
            rw [Kit.wrap_id _ (by omega) (by omega)]
            omega
          rw [e3]
          simp only [Option.bind_some]
          rw [if_pos hs]
          exact fin _ (.inr rfl)
theorem spec_fmt (n : Int) (h0 : -9223372036854775808 ≤ n) (h1 : n ≤ 9223372036854775807) (k : Nat) (hk : 30 < k) : spec_FormatInt.f k n = some (ba (Go.Lib.itoa n)) := by
  unfold spec_FormatInt.f
  by_cases c : n = 0
  · rw [if_pos c, c, itoa_zero]
    rfl
  · rw [if_neg c]
    have := fmt_l0 n 20 k n.natAbs n [] (by omega) (by omega) (by omega) (by simp) (by omega)
    refine this.trans ?_
    unfold sgn Go.Lib.itoa dig
    rw [List.append_nil]
    by_cases c0 : n < 0
    · rw [if_pos c0, if_pos c0, if_neg (show ¬ n.natAbs = 0 by omega)]
    · rw [if_neg c0, if_neg c0, if_neg (show ¬ n.natAbs = 0 by omega), show n.natAbs = n.toNat by omega]
def opn (a : Int) : ByteArray := if 1 ≤ a ∧ a ≤ 10 then impl_OpName.tab.getD a.toNat ⟨#[]⟩ else ⟨#[]⟩
theorem impl_op (a : Int) : impl_OpName.f a = some (opn a) := by
  unfold impl_OpName.f opn
  split <;> rfl
theorem spec_op (a : Int) : spec_OpName.f a = some (opn a) := by
  unfold spec_OpName.f opn spec_l1In.f
  by_cases c : 1 ≤ a ∧ a ≤ 10
  · rw [if_pos (show a ≥ 1 from c.1), decide_eq_true c.2, if_pos c]
    simp only [Option.bind_some]
    rw [if_pos trivial, if_pos (by omega), if_pos (by simp; omega)]
    rfl
  · rw [if_neg c]
    by_cases c1 : a ≥ 1
    · rw [if_pos c1, decide_eq_false (fun h => c ⟨c1, h⟩)]
      simp only [Option.bind_some]
      rw [if_neg (by simp)]
    · rw [if_neg c1]
      simp only [Option.bind_some]
      rw [if_neg (by simp)]
def inB (a lo hi : Int) : Bool := decide (lo ≤ a) && decide (a ≤ hi)
def lowC (c : UInt8) : Bool := decide (97 ≤ c.toNat) && decide (c.toNat ≤ 122)
def nameB (s : ByteArray) : Bool := inB (s.size : Int) 1 6 && s.data.toList.all lowC
theorem spec_in (a lo hi : Int) : spec_l1In.f a lo hi = some (inB a lo hi) := by
  unfold spec_l1In.f inB
  by_cases h : a ≥ lo
  · rw [if_pos h, decide_eq_true h, Bool.true_and]
  · rw [if_neg h, decide_eq_false h, Bool.false_and]
theorem impl_in_ (a lo hi : Int) : impl_in.f a lo hi = some (inB a lo hi) := spec_in a lo hi
theorem bt_list (s : ByteArray) (i : Nat) (h : i < s.data.toList.length) : bt s (i : Int) = ((s.data.toList[i]).toNat : Int) := by
  have h' : (i : Int).toNat < s.size := by simpa using h
  unfold bt
  rw [dif_pos h']
  rfl
theorem size_list (s : ByteArray) : s.data.toList.length = s.size := rfl
theorem spec_name_loop (s : ByteArray) (hb : s.size ≤ 40000000) (d : Nat) : ∀ (k i : Nat), i ≤ s.size → s.size - i = d → d < k → spec_IsName.l0 k s (i : Int) = some (inB (s.size : Int) 1 6 && (s.data.toList.drop i).all lowC) := by
  induction d with
  | zero =>
    intro k i h0 h1 h2
    obtain ⟨k, rfl⟩ : ∃ m, k = m + 1 := ⟨k - 1, by omega⟩
    simp only [spec_IsName.l0]
    rw [if_neg (by omega), spec_in, List.drop_eq_nil_of_le (by rw [size_list]; omega)]
    simp
  | succ d ih =>
    intro k i h0 h1 h2
    obtain ⟨k, rfl⟩ : ∃ m, k = m + 1 := ⟨k - 1, by omega⟩
    have hi : i < s.data.toList.length := by rw [size_list]; omega
    simp only [spec_IsName.l0]
    rw [if_pos (by omega), if_pos (by omega), bt_list s i hi, Kit.drop_get _ i hi, List.all_cons, Kit.wrap_succ i (by omega), ih k (i + 1) (by omega) (by omega) (by omega)]
    unfold lowC
    by_cases c1 : (((s.data.toList[i]).toNat : Int)) < 97
    · rw [if_pos c1, decide_eq_false (show ¬ 97 ≤ (s.data.toList[i]).toNat by omega)]
      simp
    by_cases c2 : (((s.data.toList[i]).toNat : Int)) > 122
    · rw [if_neg c1, if_pos c2, decide_eq_false (show ¬ (s.data.toList[i]).toNat ≤ 122 by omega)]
      simp
    rw [if_neg c1, if_neg c2, decide_eq_true (show 97 ≤ (s.data.toList[i]).toNat by omega), decide_eq_true (show (s.data.toList[i]).toNat ≤ 122 by omega)]
    simp
theorem impl_name_loop (s : ByteArray) (hb : s.size ≤ 40000000) (d : Nat) : ∀ (k i : Nat), i ≤ s.size → s.size - i = d → d < k → impl_isName.l0 k s (s.size : Int) (i : Int) = some ((s.data.toList.drop i).all lowC) := by
  induction d with
  | zero =>
    intro k i h0 h1 h2
    obtain ⟨k, rfl⟩ : ∃ m, k = m + 1 := ⟨k - 1, by omega⟩
    simp only [impl_isName.l0]
    rw [if_neg (by omega), List.drop_eq_nil_of_le (by rw [size_list]; omega)]
    simp
  | succ d ih =>
    intro k i h0 h1 h2
    obtain ⟨k, rfl⟩ : ∃ m, k = m + 1 := ⟨k - 1, by omega⟩
    have hi : i < s.data.toList.length := by rw [size_list]; omega
    simp only [impl_isName.l0]
    rw [if_pos (by omega), if_pos (by omega), if_pos (by omega), bt_list s i hi, Kit.drop_get _ i hi, List.all_cons, Kit.wrap_succ i (by omega), ih k (i + 1) (by omega) (by omega) (by omega)]
    unfold lowC
    by_cases c1 : (((s.data.toList[i]).toNat : Int)) < 97
    · rw [if_pos c1, decide_eq_false (show ¬ 97 ≤ (s.data.toList[i]).toNat by omega)]
      simp
    by_cases c2 : (((s.data.toList[i]).toNat : Int)) > 122
    · rw [if_neg c1, if_pos c2, decide_eq_false (show ¬ (s.data.toList[i]).toNat ≤ 122 by omega)]
      simp
    rw [if_neg c1, if_neg c2, decide_eq_true (show 97 ≤ (s.data.toList[i]).toNat by omega), decide_eq_true (show (s.data.toList[i]).toNat ≤ 122 by omega)]
    simp
theorem spec_name (s : ByteArray) (hb : s.size ≤ 40000000) (k : Nat) (hk : s.size < k) : spec_IsName.f k s = some (nameB s) := by
  have := spec_name_loop s hb s.size k 0 (by omega) (by omega) hk
  simpa [spec_IsName.f, nameB] using this
theorem impl_name (s : ByteArray) (hb : s.size ≤ 40000000) (k : Nat) (hk : s.size < k) : impl_isName.f k s = some (nameB s) := by
  have := impl_name_loop s hb s.size k 0 (by omega) (by omega) hk
  unfold impl_isName.f nameB
  rw [impl_in_]
  simp only [Option.bind_some]
  cases inB (s.size : Int) 1 6
  · simp
  · simpa using this
def regB (a : Int) : Bool := inB a 0 7
def pairB (c d : Int) : Bool := if c = -1 then d == -1 else regB c && (d == -1 || regB d)
def emptyB (s : ByteArray) : Bool := s.toList == ([] : List UInt8)
def instrB (op a b c d : Int) (s : ByteArray) : Bool :=
  if op = 1 then (c == 0 && (d == 0 && emptyB s)) && (regB a && inB b 0 999999)
  else if op = 2 then (c == 0 && (d == 0 && emptyB s)) && (regB a && inB b 0 1)
  else if op = 3 then (c == 0 && (d == 0 && emptyB s)) && (regB a && inB b 0 2)
  else if op = 4 ∨ op = 10 then (c == 0 && (d == 0 && emptyB s)) && (regB a && b == 0)
  else if op = 5 then (d == 0 && emptyB s) && (regB a && (regB b && regB c))
  else if op = 6 then regB a && (regB b && (pairB c d && nameB s))
  else if op = 7 then regB a && (b == 0 && (pairB c d && nameB s))
  else if op = 8 then (c == 0 && (d == 0 && emptyB s)) && (inB a 0 2 && regB b)
  else if op = 9 then (c == 0 && (d == 0 && emptyB s)) && (regB a && inB b 1 12)
  else false
theorem iteS (p x : Bool) : (if p = true then some x else some false) = some (p && x) := by cases p <;> rfl
theorem iteZ (a : Int) (x : Bool) : (if a = 0 then some x else some false) = some (a == 0 && x) := by
  by_cases h : a = 0
  · simp [h]
  · rw [if_neg h, beq_eq_false_iff_ne.mpr h, Bool.false_and]
theorem spec_reg (a : Int) : spec_IsReg.f a = some (regB a) := by
  unfold spec_IsReg.f regB
  rw [spec_in]
  rfl
theorem impl_reg (a : Int) : impl_isReg.f a = some (regB a) := by
  unfold impl_isReg.f regB
  rw [impl_in_]
  rfl
theorem reg_neg : regB (-1) = false := by decide
theorem spec_two (op a b c d : Int) (s : ByteArray) : spec_l5Two.f op a b c d s = some (pairB c d) := by
  unfold spec_l5Two.f pairB
  simp only [spec_reg, Option.bind_some, iteS]
  by_cases h1 : c = -1 <;> by_cases h2 : d = -1
  · simp [h1, h2]
  · simp [h1, h2, reg_neg]
  · simp [h1, h2]
    cases regB c <;> rfl
  · have e2 : (d == -1) = false := beq_eq_false_iff_ne.mpr h2
    simp [h1, h2, e2, iteS]
theorem impl_pair (c d : Int) : impl_pairOk.f c d = some (pairB c d) := by
  unfold impl_pairOk.f pairB
  simp only [impl_reg, Option.bind_some, iteS]
  by_cases h1 : c = -1 <;> by_cases h2 : d = -1
  · simp [h1, h2, reg_neg]
  · simp [h1, h2, reg_neg]
  · simp [h1, h2, reg_neg]
    cases regB c <;> rfl
  · have e2 : (d == -1) = false := beq_eq_false_iff_ne.mpr h2
    simp [h1, h2, reg_neg, e2]
    cases regB c <;> cases regB d <;> rfl
theorem spec_instr (op a b c d : Int) (s : ByteArray) (hs : s.size ≤ 40000000) (k : Nat) (hk : s.size + 2 < k) : spec_IsInstr.f k op a b c d s = some (instrB op a b c d s) := by
  obtain ⟨k, rfl⟩ : ∃ m, k = m + 1 + 1 := ⟨k - 2, by omega⟩
  have e : spec_IsInstr.f (k + 1 + 1) op a b c d s = spec_IsInstr.j0 (k + 1 + 1) (c == 0 && (d == 0 && emptyB s)) op a b c d s := by
    unfold spec_IsInstr.f emptyB
    by_cases h1 : c = 0
    · by_cases h2 : d = 0
      · rw [if_pos h1, if_pos h2, beq_iff_eq.mpr h1, beq_iff_eq.mpr h2, Bool.true_and, Bool.true_and]
      · rw [if_pos h1, if_neg h2, beq_eq_false_iff_ne.mpr h2, Bool.false_and, Bool.and_false]
    · rw [if_neg h1, beq_eq_false_iff_ne.mpr h1, Bool.false_and]
  rw [e]
  have hn := spec_name s hs k (by omega)
  simp only [spec_IsInstr.j0, spec_IsInstr.j1, spec_reg, spec_in, spec_two, hn, Option.bind_some, iteS, iteZ]
  unfold instrB
  rw [show (s.toList == ([] : List UInt8)) = emptyB s from rfl]
  generalize hp : (c == 0 && (d == 0 && emptyB s)) = p
  by_cases h1 : op = 1
  · simp only [h1, if_true, iteS]
  by_cases h2 : op = 2
  · simp only [h2, if_true, iteS]
    simp
  by_cases h3 : op = 3
  · simp only [h3, if_true, iteS]
    simp
  by_cases h4 : op = 4
  · simp [h4] <;> cases p <;> simp
  by_cases h10 : op = 10
  · simp [h10] <;> cases p <;> simp
  by_cases h5 : op = 5
  · simp [h5] <;> cases regB a <;> cases regB b <;> cases regB c <;> cases (d == 0) <;> cases emptyB s <;> rfl
  by_cases h6 : op = 6
  · simp [h6]
  by_cases h7 : op = 7
  · simp [h7]
  by_cases h8 : op = 8
  · simp [h8] <;> cases p <;> simp
  by_cases h9 : op = 9
  · simp [h9] <;> cases p <;> simp
  simp [h1, h2, h3, h4, h5, h6, h7, h8, h9, h10]
theorem impl_instr (op a b c d : Int) (s : ByteArray) (hs : s.size ≤ 40000000) (k : Nat) (hk : s.size + 2 < k) : impl_isInstr.f k op a b c d s = some (instrB op a b c d s) := by
  obtain ⟨k, rfl⟩ : ∃ m, k = m + 1 := ⟨k - 1, by omega⟩
  have hn := impl_name s hs k (by omega)
  unfold impl_isInstr.f
  simp only [impl_isInstr.j0, impl_reg, impl_in_, impl_pair, hn, Option.bind_some, iteS, iteZ]
  unfold instrB
  rw [show (s.toList == ([] : List UInt8)) = emptyB s from rfl]
  by_cases h1 : op = 1
  · simp only [h1, if_true, iteS]
  by_cases h2 : op = 2
  · simp only [h2, if_true, iteS]
    simp
  by_cases h3 : op = 3
  · simp only [h3, if_true, iteS]
    simp
  by_cases h4 : op = 4
  · simp [h4] <;> cases regB a <;> cases (b == 0) <;> cases (c == 0) <;> cases (d == 0) <;> cases emptyB s <;> rfl
  by_cases h10 : op = 10
  · simp [h10] <;> cases regB a <;> cases (b == 0) <;> cases (c == 0) <;> cases (d == 0) <;> cases emptyB s <;> rfl
  by_cases h5 : op = 5
  · simp [h5]
  by_cases h6 : op = 6
  · simp [h6]
  by_cases h7 : op = 7
  · simp [h7]
  by_cases h8 : op = 8
  · simp [h8]
  by_cases h9 : op = 9
  · simp [h9]
  simp [h1, h2, h3, h4, h5, h6, h7, h8, h9, h10]
theorem s27_ext (x y : S27) : x = y ↔ (x.f0 = y.f0 ∧ x.f1 = y.f1 ∧ x.f2 = y.f2 ∧ x.f3 = y.f3 ∧ x.f4 = y.f4 ∧ x.f5 = y.f5) := by
  cases x; cases y; simp
noncomputable instance : DecidableEq S27 := fun x y => Classical.propDecidable _
def cvI (x : S34) : S27 := ⟨x.f0, x.f1, x.f2, x.f3, x.f4, x.f5⟩
def wtI (x : S34) : Nat := x.f5.size
def okI (x : S34) : Prop := x.f5.size ≤ maxLen
theorem szI (x : S34) (h : okI x) (left : Int) (h0 : 0 ≤ left) (h1 : left ≤ 1048576) : laws_szInstr.f x.f0 x.f1 x.f2 x.f3 x.f4 x.f5 left = some (Kit.sub left (wtI x)) := by
  unfold okI maxLen at h
  have e : wrap64 (left - (x.f5.size : Int)) = left - (x.f5.size : Int) := Kit.wrap_id _ (by omega) (by omega)
  unfold laws_szInstr.f Kit.sub wtI
  rw [e]
  split <;> rfl
theorem szIS (l : List S34) (h : l.length ≤ maxLen) (ho : ∀ x ∈ l, okI x) (left : Int) (h0 : 0 ≤ left) (h1 : left ≤ 1048576) (k : Nat) (hk : 1048577 < k) : laws_szInstrS.f k l left = some (Kit.sub left (l.length + Kit.sumW wtI l)) := by
  have hs : ∀ x ∈ l, ∀ (k : Nat) (left : Int), 1 < k → 0 ≤ left → left ≤ 1048576 → (fun (_ : Nat) (x : S34) (left : Int) => laws_szInstr.f x.f0 x.f1 x.f2 x.f3 x.f4 x.f5 left) k x left = some (Kit.sub left (wtI x)) := by
    intro x hx k left _ a b
    exact szI x (ho x hx) left a b
  have hb : l.length ≤ 9223372036854775807 := by simp only [maxLen] at h; omega
  exact Kit.szG_spec (fun (_ : Nat) (x : S34) (left : Int) => laws_szInstr.f x.f0 x.f1 x.f2 x.f3 x.f4 x.f5 left) wtI z34 laws_szInstrS.l0 (fun _ _ _ _ => by simp only [laws_szInstrS.l0, rd_T34]) (f := laws_szInstrS.f) (fun _ _ _ => rfl) 1 l hs hb left h0 h1 k (by omega)
theorem toIS (l : List S34) (k : Nat) (hk : l.length + 1 < k) (h : l.length ≤ 1048576) : laws_toInstrS.f k l = some (l.map cvI) :=
  Kit.copyG_spec (fun _ x => some (cvI x)) cvI z34 laws_toInstrS.l0 (fun _ _ _ _ => rfl) (f := laws_toInstrS.f) (z := z27) (fun _ _ => rfl) 1 l (fun _ _ _ _ => rfl) (by omega) (by omega) k hk
theorem eqI1 (x y : S27) : laws_eqInstr.f x.f0 x.f1 x.f2 x.f3 x.f4 x.f5 y.f0 y.f1 y.f2 y.f3 y.f4 y.f5 = some (decide (x = y)) := by
  unfold laws_eqInstr.f
  simp only [Kit.bytes_inj]
  by_cases h : x = y
  · subst h
    simp
  · have h' := fun g => h ((s27_ext x y).2 g)
    rw [decide_eq_false h]
    by_cases c0 : x.f0 = y.f0
    · by_cases c1 : x.f1 = y.f1
      · by_cases c2 : x.f2 = y.f2
        · by_cases c3 : x.f3 = y.f3
          · by_cases c4 : x.f4 = y.f4
            · by_cases c5 : x.f5 = y.f5
              · exact absurd ⟨c0, c1, c2, c3, c4, c5⟩ h'
              · rw [if_pos c0, if_pos c1, if_pos c2, if_pos c3, if_pos c4, if_neg c5]
            · rw [if_pos c0, if_pos c1, if_pos c2, if_pos c3, if_neg c4]
          · rw [if_pos c0, if_pos c1, if_pos c2, if_neg c3]
        · rw [if_pos c0, if_pos c1, if_neg c2]
      · rw [if_pos c0, if_neg c1]
    · rw [if_neg c0]
theorem eqIS (a b : List S27) (k : Nat) (hk : a.length + 1 < k) (h : a.length ≤ 40000000) : laws_eqInstrS.f k a b = some (decide (a = b)) :=
  Kit.eqG_spec (fun _ x y => laws_eqInstr.f x.f0 x.f1 x.f2 x.f3 x.f4 x.f5 y.f0 y.f1 y.f2 y.f3 y.f4 y.f5) z27 laws_eqInstrS.l0 (fun _ _ _ _ => rfl) (f := laws_eqInstrS.f) (fun _ _ _ => rfl) 1 a b (fun x _ y _ _ _ => eqI1 x y) (by omega) k hk
def wtM (x : S103) : Nat := x.f0.size + (x.f1.length + Kit.sumW wtI x.f1)
def okM (x : S103) : Prop := x.f0.size ≤ maxLen ∧ x.f1.length ≤ maxLen ∧ ∀ y ∈ x.f1, okI y
theorem szM (x : S103) (h : okM x) (left : Int) (h0 : 0 ≤ left) (h1 : left ≤ 1048576) (k : Nat) (hk : 1048577 < k) : laws_szMethod.f k x.f0 x.f1 left = some (Kit.sub left (wtM x)) := by
  obtain ⟨h2, h3, h4⟩ := h
  simp only [maxLen] at h2
  have e : wrap64 (left - (x.f0.size : Int)) = left - (x.f0.size : Int) := Kit.wrap_id _ (by omega) (by omega)
  unfold laws_szMethod.f wtM
  rw [e]
  by_cases c : left - (x.f0.size : Int) < 0
  · rw [if_pos c]
    congr 1
    unfold Kit.sub
    rw [if_pos (by omega)]
  · rw [if_neg c, szIS x.f1 h3 h4 _ (by omega) (by omega) k hk]
    simp only [Option.bind_some]
    unfold Kit.sub
    split <;> split <;> first | rfl | omega | (split <;> first | rfl | omega | (congr 1; omega)) | (congr 1; omega)
def cvM (x : S103) : S72 := ⟨x.f0, x.f1.map cvI⟩
theorem s72_ext (x y : S72) : x = y ↔ (x.f0 = y.f0 ∧ x.f1 = y.f1) := by
  cases x; cases y; simp
noncomputable instance : DecidableEq S72 := fun x y => Classical.propDecidable _
theorem szMS (l : List S103) (h : l.length ≤ maxLen) (ho : ∀ x ∈ l, okM x) (left : Int) (h0 : 0 ≤ left) (h1 : left ≤ 1048576) (k : Nat) (hk : 2097153 < k) : laws_szMethodS.f k l left = some (Kit.sub left (l.length + Kit.sumW wtM l)) := by
  have hs : ∀ x ∈ l, ∀ (k : Nat) (left : Int), 1048577 < k → 0 ≤ left → left ≤ 1048576 → (fun (k : Nat) (x : S103) (left : Int) => laws_szMethod.f k x.f0 x.f1 left) k x left = some (Kit.sub left (wtM x)) := by
    intro x hx k left hk a b
    exact szM x (ho x hx) left a b k hk
  have hb : l.length ≤ 9223372036854775807 := by simp only [maxLen] at h; omega
  exact Kit.szG_spec (fun (k : Nat) (x : S103) (left : Int) => laws_szMethod.f k x.f0 x.f1 left) wtM z103 laws_szMethodS.l0 (fun _ _ _ _ => by simp only [laws_szMethodS.l0, rd_T103]) (f := laws_szMethodS.f) (fun _ _ _ => rfl) 1048577 l hs hb left h0 h1 k (by omega)
theorem toM1 (x : S103) (k : Nat) (hk : x.f1.length + 1 < k) (h : x.f1.length ≤ 1048576) : laws_toMethod.f k x.f0 x.f1 = some (x.f0, x.f1.map cvI) := by
  unfold laws_toMethod.f
  rw [toIS x.f1 k hk h]
  rfl
theorem toMS (l : List S103) (k : Nat) (hk : l.length + 1048577 < k) (h : l.length ≤ 1048576) (hx : ∀ x ∈ l, x.f1.length ≤ 1048576) : laws_toMethodS.f k l = some (l.map cvM) :=
  Kit.copyG_spec (fun k (x : S103) => (laws_toMethod.f k x.f0 x.f1).bind fun b => some (⟨b.1, b.2⟩ : S72)) cvM z103 laws_toMethodS.l0 (fun _ _ _ _ => by simp only [laws_toMethodS.l0, rd_T103, Option.bind_assoc, Option.bind_some]) (f := laws_toMethodS.f) (z := z72) (fun _ _ => rfl) 1048577 l (fun x hm k hk => by
    have := hx x hm
    show (laws_toMethod.f k x.f0 x.f1).bind _ = _
    rw [toM1 x k (by omega) this]
    rfl) (by omega) (by omega) k hk
theorem eqM1 (x y : S72) (k : Nat) (hk : x.f1.length + 1 < k) (h : x.f1.length ≤ 40000000) : laws_eqMethod.f k x.f0 x.f1 y.f0 y.f1 = some (decide (x = y)) := by
  unfold laws_eqMethod.f
  rw [eqIS x.f1 y.f1 k hk h]
  simp only [Kit.bytes_inj, Option.bind_some]
  by_cases e : x = y
  · subst e
    simp
  · have h' := fun g => e ((s72_ext x y).2 g)
    rw [decide_eq_false e]
    by_cases c0 : x.f0 = y.f0
    · by_cases c1 : x.f1 = y.f1
      · exact absurd ⟨c0, c1⟩ h'
      · rw [if_pos c0, decide_eq_false c1]
        rfl
    · rw [if_neg c0]
theorem eqMS (a b : List S72) (k : Nat) (hk : a.length + 1048577 < k) (h : a.length ≤ 40000000) (hx : ∀ x ∈ a, x.f1.length ≤ 1048576) : laws_eqMethodS.f k a b = some (decide (a = b)) :=
  Kit.eqG_spec (fun k (x y : S72) => laws_eqMethod.f k x.f0 x.f1 y.f0 y.f1) z72 laws_eqMethodS.l0 (fun _ _ _ _ => rfl) (f := laws_eqMethodS.f) (fun _ _ _ => rfl) 1048577 a b (fun x hm y _ k hk => by
    have := hx x hm
    exact eqM1 x y k (by omega) (by omega)) (by omega) k hk
theorem le_sumW' {α : Type} (w : α → Nat) : ∀ (l : List α) (x : α), x ∈ l → w x ≤ Kit.sumW w l
  | [], x, h => absurd h (by simp)
  | y :: ys, x, h => by
    have e : Kit.sumW w (y :: ys) = w y + Kit.sumW w ys := by simp [Kit.sumW]
    rw [e]
    rcases List.mem_cons.1 h with rfl | h
    · omega
    · have := le_sumW' w ys x h
      omega
def wtS (x : S41) : Nat := x.f0.size + (x.f1.length + Kit.sumW wtM x.f1)
def okS (x : S41) : Prop := x.f0.size ≤ maxLen ∧ x.f1.length ≤ maxLen ∧ ∀ y ∈ x.f1, okM y
def cvS (x : S41) : S46 := ⟨x.f0, x.f1.map cvM⟩
theorem s46_ext (x y : S46) : x = y ↔ (x.f0 = y.f0 ∧ x.f1 = y.f1) := by
  cases x; cases y; simp
noncomputable instance : DecidableEq S46 := fun x y => Classical.propDecidable _
/-- What a size says of the parts. -/
theorem partM (l : List S103) (n : Nat) (h : l.length + Kit.sumW wtM l ≤ n) : ∀ x ∈ l, x.f1.length ≤ n ∧ x.f0.size ≤ n ∧ ∀ y ∈ x.f1, y.f5.size ≤ n := by
  intro x hx
  have h1 := le_sumW' wtM l x hx
  have h2 : wtM x = x.f0.size + (x.f1.length + Kit.sumW wtI x.f1) := rfl
  refine ⟨by omega, by omega, fun y hy => ?_⟩
  have h3 := le_sumW' wtI x.f1 y hy
  have h4 : wtI y = y.f5.size := rfl
  omega
theorem szS (x : S41) (h : okS x) (left : Int) (h0 : 0 ≤ left) (h1 : left ≤ 1048576) (k : Nat) (hk : 2097153 < k) : laws_szScript.f k x.f0 x.f1 left = some (Kit.sub left (wtS x)) := by
  obtain ⟨h2, h3, h4⟩ := h
  simp only [maxLen] at h2
  have e : wrap64 (left - (x.f0.size : Int)) = left - (x.f0.size : Int) := Kit.wrap_id _ (by omega) (by omega)
  unfold laws_szScript.f wtS
  rw [e]
  by_cases c : left - (x.f0.size : Int) < 0
  · rw [if_pos c]
    congr 1
    unfold Kit.sub
    rw [if_pos (by omega)]
  · rw [if_neg c, szMS x.f1 h3 h4 _ (by omega) (by omega) k hk]
    simp only [Option.bind_some]
    unfold Kit.sub
    split <;> split <;> first | rfl | omega | (split <;> first | rfl | omega | (congr 1; omega)) | (congr 1; omega)
theorem toS1 (x : S41) (k : Nat) (hk : 2097160 < k) (h : x.f1.length ≤ 1048576) (hx : ∀ y ∈ x.f1, y.f1.length ≤ 1048576) : laws_toScript.f k x.f0 x.f1 = some (x.f0, x.f1.map cvM) := by
  unfold laws_toScript.f
  rw [toMS x.f1 k (by omega) h hx]
  rfl
theorem eqS1 (x y : S46) (k : Nat) (hk : 2097160 < k) (h : x.f1.length ≤ 1048576) (hx : ∀ y ∈ x.f1, y.f1.length ≤ 1048576) : laws_eqScript.f k x.f0 x.f1 y.f0 y.f1 = some (decide (x = y)) := by
  unfold laws_eqScript.f
  rw [eqMS x.f1 y.f1 k (by omega) (by omega) hx]
  simp only [Kit.bytes_inj, Option.bind_some]
  by_cases e : x = y
  · subst e
    simp
  · have h' := fun g => e ((s46_ext x y).2 g)
    rw [decide_eq_false e]
    by_cases c0 : x.f0 = y.f0
    · by_cases c1 : x.f1 = y.f1
      · exact absurd ⟨c0, c1⟩ h'
      · rw [if_pos c0, decide_eq_false c1]
        rfl
    · rw [if_neg c0]
theorem szSS (l : List S41) (h : l.length ≤ maxLen) (ho : ∀ x ∈ l, okS x) (left : Int) (h0 : 0 ≤ left) (h1 : left ≤ 1048576) (k : Nat) (hk : 3145730 < k) : laws_szScriptS.f k l left = some (Kit.sub left (l.length + Kit.sumW wtS l)) := by
  have hs : ∀ x ∈ l, ∀ (k : Nat) (left : Int), 2097153 < k → 0 ≤ left → left ≤ 1048576 → (fun (k : Nat) (x : S41) (left : Int) => laws_szScript.f k x.f0 x.f1 left) k x left = some (Kit.sub left (wtS x)) := by
    intro x hx k left hk a b
    exact szS x (ho x hx) left a b k hk
  have hb : l.length ≤ 9223372036854775807 := by simp only [maxLen] at h; omega
  exact Kit.szG_spec (fun (k : Nat) (x : S41) (left : Int) => laws_szScript.f k x.f0 x.f1 left) wtS z41 laws_szScriptS.l0 (fun _ _ _ _ => by simp only [laws_szScriptS.l0, rd_T41]) (f := laws_szScriptS.f) (fun _ _ _ => rfl) 2097153 l hs hb left h0 h1 k (by omega)
/-- A script that is not too large. -/
def fitS (n : Nat) (x : S41) : Prop := x.f0.size ≤ n ∧ x.f1.length ≤ n ∧ ∀ y ∈ x.f1, y.f1.length ≤ n ∧ y.f0.size ≤ n ∧ ∀ z ∈ y.f1, z.f5.size ≤ n
theorem fit_of (x : S41) (n : Nat) (h : wtS x ≤ n) : fitS n x := by
  have h2 : wtS x = x.f0.size + (x.f1.length + Kit.sumW wtM x.f1) := rfl
  exact ⟨by omega, by omega, partM x.f1 n (by omega)⟩
theorem fit_all (l : List S41) (n : Nat) (h : l.length + Kit.sumW wtS l ≤ n) : ∀ x ∈ l, fitS n x := fun x hx => fit_of x n (by have := le_sumW' wtS l x hx; omega)
theorem toSS (l : List S41) (k : Nat) (hk : 4000000 < k) (h : l.length ≤ 1048576) (hx : ∀ x ∈ l, fitS 1048576 x) : laws_toScriptS.f k l = some (l.map cvS) :=
  Kit.copyG_spec (fun k (x : S41) => (laws_toScript.f k x.f0 x.f1).bind fun b => some (⟨b.1, b.2⟩ : S46)) cvS z41 laws_toScriptS.l0 (fun _ _ _ _ => by simp only [laws_toScriptS.l0, rd_T41, Option.bind_assoc, Option.bind_some]) (f := laws_toScriptS.f) (z := z46) (fun _ _ => rfl) 2097160 l (fun x hm k hk => by
    have := hx x hm
    show (laws_toScript.f k x.f0 x.f1).bind _ = _
    rw [toS1 x k hk this.2.1 (fun y hy => (this.2.2 y hy).1)]
    rfl) (by omega) (by omega) k (by omega)
theorem eqSS (a b : List S46) (k : Nat) (hk : 4000000 < k) (h : a.length ≤ 1048576) (hx : ∀ x ∈ a, x.f1.length ≤ 1048576 ∧ ∀ y ∈ x.f1, y.f1.length ≤ 1048576) : laws_eqScriptS.f k a b = some (decide (a = b)) :=
  Kit.eqG_spec (fun k (x y : S46) => laws_eqScript.f k x.f0 x.f1 y.f0 y.f1) z46 laws_eqScriptS.l0 (fun _ _ _ _ => rfl) (f := laws_eqScriptS.f) (fun _ _ _ => rfl) 2097160 a b (fun x hm y _ k hk => by
    have := hx x hm
    exact eqS1 x y k hk this.1 this.2) (by omega) k (by omega)
theorem fit_cv (x : S41) (n : Nat) (h : fitS n x) : (cvS x).f1.length ≤ n ∧ ∀ y ∈ (cvS x).f1, y.f1.length ≤ n := by
  refine ⟨by show (x.f1.map cvM).length ≤ n; rw [List.length_map]; exact h.2.1, fun y hy => ?_⟩
  obtain ⟨z, hz, rfl⟩ := List.mem_map.1 hy
  show (z.f1.map cvI).length ≤ n
  rw [List.length_map]
  exact (h.2.2 z hz).1
/-- One instruction's, one method's law. -/
def instB (x : S27) : Bool := instrB x.f0 x.f1 x.f2 x.f3 x.f4 x.f5
def methB (nm : ByteArray) (l : List S27) : Bool := nameB nm && (decide (l.length ≤ 12) && l.all instB)
theorem impl_meth (nm : ByteArray) (l : List S27) (hn : nm.size ≤ 1048576) (hl : l.length ≤ 1048576) (hw : ∀ x ∈ l, x.f5.size ≤ 1048576) (k : Nat) (hk : 50000000 < k) : impl_isMethod.f k nm l = some (methB nm l) := by
  unfold impl_isMethod.f methB
  rw [impl_name nm (by omega) k (by omega)]
  simp only [Option.bind_some]
  cases hnm : nameB nm with
  | false => rfl
  | true =>
    rw [if_pos rfl, Bool.true_and]
    by_cases c : l.length ≤ 12
    · rw [if_pos (by omega), decide_eq_true c, Bool.true_and]
      obtain ⟨r, r1, r2⟩ := Func.idxO_any (fun x => !(instB x)) l 0 (by omega)
      have e := Func.idxO_congr (q := fun x : S27 => impl_isMethod_1.f k x.f0 x.f1 x.f2 x.f3 x.f4 x.f5) (q' := fun x => some (!(instB x))) l 0 (fun x hx => by
        have := hw x hx
        show impl_isMethod_1.f k x.f0 x.f1 x.f2 x.f3 x.f4 x.f5 = _
        unfold impl_isMethod_1.f
        rw [impl_instr _ _ _ _ _ _ (by omega) k (by omega)]
        rfl)
      rw [e, r1]
      simp only [Option.bind_some]
      rw [r2]
      congr 1
      induction l with
      | nil => rfl
      | cons x xs _ => simp [List.any_eq_not_all_not]
    · rw [if_neg (by omega), decide_eq_false c]
      rfl
theorem meth_loop (nm : ByteArray) (l : List S27) (hn : nm.size ≤ 40000000) (hl : l.length ≤ 40000000) (hw : ∀ x ∈ l, x.f5.size ≤ 40000000) (d : Nat) : ∀ (k i : Nat), i ≤ l.length → l.length - i = d → d + 40000010 < k → spec_IsMethod.l0 k (i : Int) nm l = some ((l.drop i).all instB && (nameB nm && decide (l.length ≤ 12))) := by
  induction d with
  | zero =>
    intro k i h0 h1 h2
    obtain ⟨k, rfl⟩ : ∃ m, k = m + 1 := ⟨k - 1, by omega⟩
    simp only [spec_IsMethod.l0]
    rw [if_neg (by omega), spec_name nm hn k (by omega), List.drop_of_length_le (by omega)]
    simp only [Option.bind_some, List.all_nil, Bool.true_and]
    have : decide ((l.length : Int) ≤ 12) = decide (l.length ≤ 12) := by
      apply Bool.eq_iff_iff.2
      simp only [decide_eq_true_eq]
      omega
    rw [this]
    cases nameB nm <;> rfl
  | succ d ih =>
    intro k i h0 h1 h2
    obtain ⟨k, rfl⟩ : ∃ m, k = m + 1 := ⟨k - 1, by omega⟩
    have hi : i < l.length := by omega
    have e : rd_T27 l (i : Int) = l[i] := by
      unfold rd_T27
      rw [Int.toNat_natCast, List.getD_eq_getElem?_getD, List.getElem?_eq_getElem hi]
      rfl
    have hx := hw l[i] (List.getElem_mem hi)
    simp only [spec_IsMethod.l0]
    rw [if_pos (by omega), if_pos (by omega), e, spec_instr _ _ _ _ _ _ hx k (by omega), Kit.wrap_succ i (by omega), Kit.drop_get l i hi, List.all_cons]
    simp only [Option.bind_some]
    have hf : instrB l[i].f0 l[i].f1 l[i].f2 l[i].f3 l[i].f4 l[i].f5 = instB l[i] := rfl
    rw [hf, ih k (i + 1) (by omega) (by omega) (by omega)]
    cases instB l[i]
    · simp
    · simp
theorem spec_meth (nm : ByteArray) (l : List S27) (hn : nm.size ≤ 1048576) (hl : l.length ≤ 1048576) (hw : ∀ x ∈ l, x.f5.size ≤ 1048576) (k : Nat) (hk : 50000000 < k) : spec_IsMethod.f k nm l = some (methB nm l) := by
  have := meth_loop nm l (by omega) (by omega) (fun x hx => by have := hw x hx; omega) l.length k 0 (by omega) (by omega) (by omega)
  unfold methB
  rw [← Bool.and_assoc, Bool.and_comm (nameB nm && _) _]
  unfold spec_IsMethod.f
  refine this.trans ?_
  simp
/-- Does an earlier method bear the name? -/
def dupAt (l : List S72) (j i : Nat) : Bool := ((l.take i).drop j).any fun y => y.f0.toList == (l.getD i z72).f0.toList
/-- The methods from i on: each good, none twice. -/
def methsFrom (l : List S72) : Nat → Nat → Bool
  | 0, _ => true
  | d + 1, i => methB (l.getD i z72).f0 (l.getD i z72).f1 && (!(dupAt l 0 i) && methsFrom l d (i + 1))
theorem rd_im (l : List S72) (i : Nat) : rd_T72 l (i : Int) = l.getD i z72 := by
  unfold rd_T72
  rw [Int.toNat_natCast]
theorem inner (nm : ByteArray) (l : List S72) (hl : l.length ≤ 1048576) (i : Nat) (hi : i < l.length) (v : Bool) (K : Nat) (hK : ∀ k, K ≤ k → spec_IsScript.l0 k ((i + 1 : Nat) : Int) nm l = some v) (d : Nat) : ∀ (k j : Nat), j ≤ i → i - j = d → K + d < k → spec_IsScript.l1 k (i : Int) (j : Int) nm l = some (!(dupAt l j i) && v) := by
  induction d with
  | zero =>
    intro k j h0 h1 h2
    obtain ⟨k, rfl⟩ : ∃ m, k = m + 1 := ⟨k - 1, by omega⟩
    obtain rfl : j = i := by omega
    simp only [spec_IsScript.l1]
    rw [if_neg (by omega), Kit.wrap_succ j (by omega), hK k (by omega)]
    unfold dupAt
    rw [List.drop_of_length_le (by rw [List.length_take]; omega)]
    rfl
  | succ d ih =>
    intro k j h0 h1 h2
    obtain ⟨k, rfl⟩ : ∃ m, k = m + 1 := ⟨k - 1, by omega⟩
    have hj : j < (l.take i).length := by rw [List.length_take]; omega
    have hd : dupAt l j i = ((l.getD j z72).f0.toList == (l.getD i z72).f0.toList || dupAt l (j + 1) i) := by
      unfold dupAt
      rw [List.drop_eq_getElem_cons hj, List.any_cons, List.getElem_take]
      congr 2
      rw [List.getD_eq_getElem?_getD, List.getElem?_eq_getElem (by omega)]
      rfl
    simp only [spec_IsScript.l1]
    rw [if_pos (by omega), if_pos (by omega), if_pos (by omega), if_pos (by omega), if_pos (by omega), rd_im, rd_im, Kit.wrap_succ j (by omega), hd]
    by_cases c : (l.getD j z72).f0.toList = (l.getD i z72).f0.toList
    · rw [if_pos c, show ((l.getD j z72).f0.toList == (l.getD i z72).f0.toList) = true from by simpa using c]
      rfl
    · rw [if_neg c, show ((l.getD j z72).f0.toList == (l.getD i z72).f0.toList) = false from by simpa using c, Bool.false_or]
      exact ih k (j + 1) (by omega) (by omega) (by omega)
theorem outer (nm : ByteArray) (hn : nm.size ≤ 1048576) (l : List S72) (hl : l.length ≤ 1048576) (hm : ∀ x ∈ l, ∀ k, 50000000 < k → spec_IsMethod.f k x.f0 x.f1 = some (methB x.f0 x.f1)) : ∀ (d i : Nat), i ≤ l.length → l.length - i = d → ∃ K, ∀ k, K ≤ k → spec_IsScript.l0 k (i : Int) nm l = some (methsFrom l d i && (nameB nm && decide (l.length ≤ 4)))
  | 0, i, h0, h1 => by
    refine ⟨1048600, fun k hk => ?_⟩
    obtain ⟨k, rfl⟩ : ∃ m, k = m + 1 := ⟨k - 1, by omega⟩
    simp only [spec_IsScript.l0, methsFrom]
    rw [if_neg (by omega), spec_name nm (by omega) k (by omega)]
    simp only [Option.bind_some, Bool.true_and]
    have : decide ((l.length : Int) ≤ 4) = decide (l.length ≤ 4) := by
      apply Bool.eq_iff_iff.2
      simp only [decide_eq_true_eq]
      omega
    rw [this]
    cases nameB nm <;> rfl
  | d + 1, i, h0, h1 => by
    have hi : i < l.length := by omega
    obtain ⟨K, hK⟩ := outer nm hn l hl hm d (i + 1) (by omega) (by omega)
    have hin := inner nm l hl i hi _ K hK i
    refine ⟨K + i + 50000010, fun k hk => ?_⟩
    obtain ⟨k, rfl⟩ : ∃ m, k = m + 1 := ⟨k - 1, by omega⟩
    have hx : l.getD i z72 ∈ l := by
      rw [List.getD_eq_getElem?_getD, List.getElem?_eq_getElem hi]
      exact List.getElem_mem hi
    simp only [spec_IsScript.l0, methsFrom]
    rw [if_pos (by omega), if_pos (by omega), rd_im, hm _ hx k (by omega)]
    simp only [Option.bind_some]
    cases methB (l.getD i z72).f0 (l.getD i z72).f1 with
    | false => rfl
    | true =>
      rw [if_pos rfl]
      have := hin k 0 (by omega) (by omega) (by omega)
      refine this.trans ?_
      rw [Bool.true_and, Bool.and_assoc]
theorem impl_l0 (l : List S72) (hl : l.length ≤ 1048576) (k : Nat) (hk : 50000000 < k) (hm : ∀ x ∈ l, impl_isMethod.f k x.f0 x.f1 = some (methB x.f0 x.f1)) : ∀ (d i : Nat), i ≤ l.length → l.length - i = d → impl_isScript.l0 k l d = some (methsFrom l d i)
  | 0, i, h0, h1 => rfl
  | d + 1, i, h0, h1 => by
    have hi : i < l.length := by omega
    have hx : l.getD i z72 ∈ l := by
      rw [List.getD_eq_getElem?_getD, List.getElem?_eq_getElem hi]
      exact List.getElem_mem hi
    have e : (l.length : Int) - ((d + 1 : Nat) : Int) = (i : Int) := by omega
    obtain ⟨r, r1, r2⟩ := Func.idxO_any (fun y : S72 => y.f0.toList == (l.getD i z72).f0.toList) (l.take i) 0 (by omega)
    unfold impl_isScript.l0 methsFrom
    rw [e, rd_im, hm _ hx]
    simp only [Option.bind_some]
    cases methB (l.getD i z72).f0 (l.getD i z72).f1 with
    | false => rfl
    | true =>
      have hd : dupAt l 0 i = decide (r ≥ 0) := by
        rw [r2]
        unfold dupAt
        rw [List.drop_zero]
      rw [if_pos rfl, Int.toNat_natCast, r1]
      simp only [Option.bind_some]
      rw [hd, Bool.true_and]
      by_cases c : r ≥ 0
      · rw [if_pos c, decide_eq_true c]
        rfl
      · rw [if_neg c, decide_eq_false c, impl_l0 l hl k hk hm d (i + 1) (by omega) (by omega)]
        rfl
def scriptB (nm : ByteArray) (l : List S72) : Bool := methsFrom l (l.length - 0) 0 && (nameB nm && decide (l.length ≤ 4))
/-- Methods that are not too large. -/
def fitM (l : List S72) : Prop := l.length ≤ 1048576 ∧ ∀ x ∈ l, x.f0.size ≤ 1048576 ∧ x.f1.length ≤ 1048576 ∧ ∀ z ∈ x.f1, z.f5.size ≤ 1048576
theorem spec_script (nm : ByteArray) (hn : nm.size ≤ 1048576) (l : List S72) (hf : fitM l) : ∃ K, ∀ k, K ≤ k → spec_IsScript.f k nm l = some (scriptB nm l) :=
  outer nm hn l hf.1 (fun x hx k hk => spec_meth x.f0 x.f1 (hf.2 x hx).1 (hf.2 x hx).2.1 (hf.2 x hx).2.2 k hk) _ 0 (by omega) rfl
theorem impl_script (nm : ByteArray) (hn : nm.size ≤ 1048576) (l : List S72) (hf : fitM l) (k : Nat) (hk : 50000000 < k) : impl_isScript.f k nm l = some (scriptB nm l) := by
  have hl := hf.1
  have hmi : ∀ x ∈ l, impl_isMethod.f k x.f0 x.f1 = some (methB x.f0 x.f1) := fun x hx => impl_meth x.f0 x.f1 (hf.2 x hx).1 (hf.2 x hx).2.1 (hf.2 x hx).2.2 k hk
  unfold impl_isScript.f scriptB
  rw [impl_name nm (by omega) k (by omega)]
  simp only [Option.bind_some]
  cases nameB nm with
  | false => simp
  | true =>
    rw [if_pos rfl]
    by_cases c4 : l.length ≤ 4
    · rw [if_neg (by omega), impl_l0 l hl k hk hmi _ 0 (by omega) (by omega), decide_eq_true c4]
      simp
    · rw [if_pos (by omega), decide_eq_false c4]
      simp
/-- An element's first index is its own, if no earlier one is like it. -/
theorem idx_take {α : Type} (p : α → Bool) (z : α) : ∀ (l : List α) (i : Nat) (s : Int), 0 ≤ s → i < l.length → p (l.getD i z) = true → ∃ r1 r2, Func.idxO (fun x => some (p x)) l s = some r1 ∧ Func.idxO (fun x => some (p x)) (l.take i) s = some r2 ∧ (r1 = s + (i : Int) ↔ ¬ r2 ≥ 0)
  | [], _, _, _, h, _ => absurd h (by simp)
  | x :: xs, 0, s, h0, _, hp => by
    have hx : p x = true := hp
    refine ⟨s, -1, ?_, rfl, by simp⟩
    unfold Func.idxO
    simp only [Option.bind_some]
    rw [if_pos hx]
  | x :: xs, i + 1, s, h0, h, hp => by
    obtain ⟨r1, r2, e1, e2, e3⟩ := idx_take p z xs i (s + 1) (by omega) (by simpa using h) (by simpa using hp)
    by_cases c : p x = true
    · refine ⟨s, s, ?_, ?_, ?_⟩
      · unfold Func.idxO
        simp only [Option.bind_some]
        rw [if_pos c]
      · rw [List.take_succ_cons]
        unfold Func.idxO
        simp only [Option.bind_some]
        rw [if_pos c]
      · constructor
        · intro h
          omega
        · intro h
          exact absurd h0 h
    · refine ⟨r1, r2, ?_, ?_, ?_⟩
      · unfold Func.idxO
        simp only [Option.bind_some]
        rw [if_neg c]
        exact e1
      · rw [List.take_succ_cons]
        unfold Func.idxO
        simp only [Option.bind_some]
        rw [if_neg c]
        exact e2
      · rw [← e3]
        constructor <;> intro h <;> omega
theorem rd_is (l : List S46) (i : Nat) : rd_T46 l (i : Int) = l.getD i z46 := by
  unfold rd_T46
  rw [Int.toNat_natCast]
theorem spec_find (l : List S46) (s : ByteArray) (hb : l.length ≤ 1048576) (d : Nat) : ∀ (k i : Nat), i ≤ l.length → l.length - i = d → d < k → spec_FindScript.l0 k l s (i : Int) = Func.idxO (fun x : S46 => some (x.f0.toList == s.toList)) (l.drop i) (i : Int) := by
  induction d with
  | zero =>
    intro k i h0 h1 h2
    obtain ⟨k, rfl⟩ : ∃ m, k = m + 1 := ⟨k - 1, by omega⟩
    simp only [spec_FindScript.l0]
    rw [if_neg (by omega), List.drop_of_length_le (by omega)]
    rfl
  | succ d ih =>
    intro k i h0 h1 h2
    obtain ⟨k, rfl⟩ : ∃ m, k = m + 1 := ⟨k - 1, by omega⟩
    have hi : i < l.length := by omega
    simp only [spec_FindScript.l0]
    rw [if_pos (by omega), if_pos (by omega), Kit.wrap_succ i (by omega), Func.idxO_step _ l z46 i hi, ih k (i + 1) (by omega) (by omega) (by omega)]
    rw [rd_is]
    simp only [Option.bind_some]
    by_cases c : (l.getD i z46).f0.toList = s.toList
    · rw [if_pos c, if_pos (by simpa using c)]
    · rw [if_neg c, if_neg (by simpa using c)]
/-- The first script of the name of number i. -/
def firstB (l : List S46) (i : Nat) : Bool := decide (Func.idxO (fun x : S46 => some (x.f0.toList == (l.getD i z46).f0.toList)) l 0 = some (i : Int))
theorem firstB_spec (l : List S46) (i : Nat) (r1 : Int) (h : Func.idxO (fun x : S46 => some (x.f0.toList == (l.getD i z46).f0.toList)) l 0 = some r1) : firstB l i = decide (r1 = (i : Int)) := by
  unfold firstB
  rw [h]
  apply decide_eq_decide.2
  simp only [Option.some.injEq]
/-- The scripts from i on: each good, each the first of its name. -/
def libFrom (l : List S46) : Nat → Nat → Bool
  | 0, _ => true
  | d + 1, i => scriptB (l.getD i z46).f0 (l.getD i z46).f1 && (firstB l i && libFrom l d (i + 1))
theorem all_script : ∀ (l : List S46), (∀ x ∈ l, x.f0.size ≤ 1048576 ∧ fitM x.f1) → ∃ K, ∀ x ∈ l, ∀ k, K ≤ k → spec_IsScript.f k x.f0 x.f1 = some (scriptB x.f0 x.f1)
  | [], _ => ⟨0, fun x hx => absurd hx (by simp)⟩
  | y :: ys, h => by
    obtain ⟨K1, h1⟩ := all_script ys (fun x hx => h x (List.mem_cons_of_mem _ hx))
    obtain ⟨K2, h2⟩ := spec_script y.f0 (h y (List.mem_cons_self ..)).1 y.f1 (h y (List.mem_cons_self ..)).2
    refine ⟨K1 + K2, fun x hx k hk => ?_⟩
    rcases List.mem_cons.1 hx with rfl | hx
    · exact h2 k (by omega)
    · exact h1 x hx k (by omega)
theorem lib_spec (l : List S46) (hl : l.length ≤ 1048576) (K : Nat) (hK : ∀ x ∈ l, ∀ k, K ≤ k → spec_IsScript.f k x.f0 x.f1 = some (scriptB x.f0 x.f1)) : ∀ (d k i : Nat), i ≤ l.length → l.length - i = d → K + d + 1048580 < k → spec_IsLibrary.l0 k l (i : Int) = some (libFrom l d i && decide (l.length ≤ 6))
  | 0, k, i, h0, h1, h2 => by
    obtain ⟨k, rfl⟩ : ∃ m, k = m + 1 := ⟨k - 1, by omega⟩
    simp only [spec_IsLibrary.l0, libFrom]
    rw [if_neg (by omega), Bool.true_and]
    congr 1
    apply Bool.eq_iff_iff.2
    simp only [decide_eq_true_eq]
    omega
  | d + 1, k, i, h0, h1, h2 => by
    obtain ⟨k, rfl⟩ : ∃ m, k = m + 1 := ⟨k - 1, by omega⟩
    have hi : i < l.length := by omega
    have hx : l.getD i z46 ∈ l := by
      rw [List.getD_eq_getElem?_getD, List.getElem?_eq_getElem hi]
      exact List.getElem_mem hi
    obtain ⟨r, r1, _⟩ := Func.idxO_any (fun x : S46 => x.f0.toList == (l.getD i z46).f0.toList) l 0 (by omega)
    have e3 : spec_FindScript.f k l (l.getD i z46).f0 = some r := by
      unfold spec_FindScript.f
      refine (spec_find l (l.getD i z46).f0 hl l.length k 0 (by omega) (by omega) (by omega)).trans ?_
      rw [List.drop_zero]
      exact r1
    have hf := firstB_spec l i r r1
    simp only [spec_IsLibrary.l0, libFrom]
    rw [if_pos (by omega), if_pos (by omega), rd_is, hK _ hx k (by omega)]
    simp only [Option.bind_some]
    cases scriptB (l.getD i z46).f0 (l.getD i z46).f1 with
    | false => simp
    | true =>
      rw [if_pos rfl, e3]
      simp only [Option.bind_some]
      rw [hf, Bool.true_and]
      by_cases c : r = (i : Int)
      · rw [if_pos c, decide_eq_true c, Kit.wrap_succ i (by omega), lib_spec l hl K hK d k (i + 1) (by omega) (by omega) (by omega), Bool.true_and]
      · rw [if_neg c, decide_eq_false c]
        rfl
theorem lib_impl (l : List S46) (hl : l.length ≤ 1048576) (hf : ∀ x ∈ l, x.f0.size ≤ 1048576 ∧ fitM x.f1) : ∀ (d k i : Nat), i ≤ l.length → l.length - i = d → d + 50000010 < k → impl_isLibrary.l0 k l l (l.length : Int) (i : Int) = some (libFrom l d i)
  | 0, k, i, h0, h1, h2 => by
    obtain ⟨k, rfl⟩ : ∃ m, k = m + 1 := ⟨k - 1, by omega⟩
    simp only [impl_isLibrary.l0, libFrom]
    rw [if_neg (by omega)]
  | d + 1, k, i, h0, h1, h2 => by
    obtain ⟨k, rfl⟩ : ∃ m, k = m + 1 := ⟨k - 1, by omega⟩
    have hi : i < l.length := by omega
    have hx : l.getD i z46 ∈ l := by
      rw [List.getD_eq_getElem?_getD, List.getElem?_eq_getElem hi]
      exact List.getElem_mem hi
    obtain ⟨r1, r2, e1, e2, e3⟩ := idx_take (fun x : S46 => x.f0.toList == (l.getD i z46).f0.toList) z46 l i 0 (by omega) hi (by simp)
    have e4 : impl_FindScript.f (l.take i) (l.getD i z46).f0 = some r2 := by
      unfold impl_FindScript.f
      rw [if_pos (by rw [List.length_take]; omega)]
      exact e2
    have hb := firstB_spec l i r1 e1
    have hs := impl_script (l.getD i z46).f0 (hf _ hx).1 (l.getD i z46).f1 (hf _ hx).2 k (by omega)
    simp only [impl_isLibrary.l0, libFrom]
    rw [if_pos (by omega), if_pos (by omega), if_pos (by omega), rd_is, hs]
    simp only [Option.bind_some]
    cases scriptB (l.getD i z46).f0 (l.getD i z46).f1 with
    | false => simp
    | true =>
      rw [if_pos rfl, if_pos (by omega), Int.toNat_natCast, e4]
      simp only [Option.bind_some]
      rw [hb, Bool.true_and]
      by_cases c : r2 ≥ 0
      · rw [if_pos c, decide_eq_false (fun h => (e3.1 (by omega)) c)]
        rfl
      · rw [if_neg c, decide_eq_true (by have := e3.2 c; omega), Kit.wrap_succ i (by omega), lib_impl l hl hf d k (i + 1) (by omega) (by omega) (by omega), Bool.true_and]
theorem J_one (a : ByteArray) : strings_Join.J [a] = a := by
  apply ByteArray.ext
  apply Array.ext'
  simp [strings_Join.J, Go.Lib.join, List.intercalate]
theorem J_cons (a b : ByteArray) (r : List ByteArray) : strings_Join.J (a :: b :: r) = a ++ ((⟨#[32]⟩ : ByteArray) ++ strings_Join.J (b :: r)) := by
  apply ByteArray.ext
  apply Array.ext'
  simp [strings_Join.J, Go.Lib.join, List.intercalate, List.intersperse]
theorem J_size (y : List ByteArray) : (Go.Lib.join (y.map (·.data.toList)) [32]).length = (strings_Join.J y).size := rfl
theorem sp_size : (⟨#[32]⟩ : ByteArray).size = 1 := rfl
theorem op_size (a : Int) : (opn a).size ≤ 100 := by
  unfold opn
  split
  · rename_i h
    obtain ⟨n, hn⟩ : ∃ n : Nat, a.toNat = n := ⟨_, rfl⟩
    rw [hn]
    have h1 : n ≤ 10 := by omega
    have : ∀ m : Fin 11, (impl_OpName.tab.getD m.val ⟨#[]⟩).size ≤ 100 := by decide +kernel
    exact this ⟨n, by omega⟩
  · decide
def fiTail (A3 A4 : ByteArray) (c d : Int) (x : ByteArray) : ByteArray :=
  if c = -1 then (if d = -1 then x else (x ++ (⟨#[32]⟩ : ByteArray)) ++ A4) else (if d = -1 then (x ++ (⟨#[32]⟩ : ByteArray)) ++ A3 else (((x ++ (⟨#[32]⟩ : ByteArray)) ++ A3) ++ (⟨#[32]⟩ : ByteArray)) ++ A4)
theorem spec_j1 (x : ByteArray) (a b c d e : Int) (s A3 A4 : ByteArray) (k : Nat) (h3 : spec_FormatInt.f k c = some A3) (h4 : spec_FormatInt.f k d = some A4) (s3 : A3.size ≤ 21) (s4 : A4.size ≤ 21) (hx : x.size ≤ 3000000) : spec_FormatInstr.j1 (k + 1) x e a b c d s = some (fiTail A3 A4 c d x) := by
  simp only [spec_FormatInstr.j1]
  rw [h3, h4]
  unfold fiTail
  simp only [Option.bind_some, ByteArray.size_append, sp_size]
  by_cases c1 : c = -1
  · rw [if_pos c1, if_pos c1]
    by_cases d1 : d = -1
    · rw [if_pos d1, if_pos d1]
    · rw [if_neg d1, if_neg d1, if_pos (by omega), if_pos (by omega)]
  · rw [if_neg c1, if_neg c1, if_pos (by omega), if_pos (by omega)]
    by_cases d1 : d = -1
    · rw [if_pos d1, if_pos d1]
    · rw [if_neg d1, if_neg d1, if_pos (by omega), if_pos (by omega)]
def fiT (o A1 A2 A3 A4 : ByteArray) (op c d : Int) (nm : ByteArray) : ByteArray :=
  if op = 4 ∨ op = 10 then o ++ ((⟨#[32]⟩ : ByteArray) ++ A1)
  else if op = 5 then (((o ++ ((⟨#[32]⟩ : ByteArray) ++ A1)) ++ ((⟨#[32]⟩ : ByteArray) ++ A2)) ++ (⟨#[32]⟩ : ByteArray)) ++ A3
  else if op = 6 then fiTail A3 A4 c d ((((o ++ ((⟨#[32]⟩ : ByteArray) ++ A1)) ++ ((⟨#[32]⟩ : ByteArray) ++ A2)) ++ (⟨#[32]⟩ : ByteArray)) ++ nm)
  else if op = 7 then fiTail A3 A4 c d (((o ++ ((⟨#[32]⟩ : ByteArray) ++ A1)) ++ (⟨#[32]⟩ : ByteArray)) ++ nm)
  else (o ++ ((⟨#[32]⟩ : ByteArray) ++ A1)) ++ ((⟨#[32]⟩ : ByteArray) ++ A2)
theorem fiT_size (o A1 A2 A3 A4 : ByteArray) (op c d : Int) (nm : ByteArray) (ho : o.size ≤ 100) (s1 : A1.size ≤ 21) (s2 : A2.size ≤ 21) (s3 : A3.size ≤ 21) (s4 : A4.size ≤ 21) (hn : nm.size ≤ 2000000) : (fiT o A1 A2 A3 A4 op c d nm).size ≤ 3000000 := by
  unfold fiT fiTail
  repeat' split
  all_goals (simp only [ByteArray.size_append, sp_size]; omega)
theorem spec_j0 (o A1 A2 A3 A4 : ByteArray) (op a b c d : Int) (nm : ByteArray) (q : Bool) (hq : q = decide (op = 4 ∨ op = 10)) (k : Nat) (h3 : spec_FormatInt.f k c = some A3) (h4 : spec_FormatInt.f k d = some A4) (h3' : spec_FormatInt.f (k + 1) c = some A3)
    (ho : o.size ≤ 100) (s1 : A1.size ≤ 21) (s2 : A2.size ≤ 21) (s3 : A3.size ≤ 21) (s4 : A4.size ≤ 21) (hn : nm.size ≤ 2000000) :
    spec_FormatInstr.j0 (k + 1 + 1) o ((⟨#[32]⟩ : ByteArray) ++ A1) ((⟨#[32]⟩ : ByteArray) ++ A2) op q op a b c d nm = some (fiT o A1 A2 A3 A4 op c d nm) := by
  simp only [spec_FormatInstr.j0]
  rw [h3']
  subst hq
  unfold fiT
  simp only [Option.bind_some]
  by_cases c4 : op = 4 ∨ op = 10
  · rw [if_pos c4, decide_eq_true c4, if_pos rfl, if_pos (by simp only [ByteArray.size_append, sp_size]; omega)]
  rw [if_neg c4, decide_eq_false c4, if_neg (by decide)]
  have g1 : o.size + ((⟨#[32]⟩ : ByteArray) ++ A1).size ≤ 9223372036854775807 := by simp only [ByteArray.size_append, sp_size]; omega
  have g2 : (o ++ ((⟨#[32]⟩ : ByteArray) ++ A1)).size + ((⟨#[32]⟩ : ByteArray) ++ A2).size ≤ 9223372036854775807 := by simp only [ByteArray.size_append, sp_size]; omega
  have g3 : ((o ++ ((⟨#[32]⟩ : ByteArray) ++ A1)) ++ ((⟨#[32]⟩ : ByteArray) ++ A2)).size + 1 ≤ 9223372036854775807 := by simp only [ByteArray.size_append, sp_size]; omega
  by_cases c5 : op = 5
  · rw [if_pos c5, if_pos c5, if_pos g1, if_pos g2, if_pos g3, if_pos (by simp only [ByteArray.size_append, sp_size]; omega)]
  rw [if_neg c5, if_neg c5]
  by_cases c6 : op = 6
  · rw [if_pos c6, if_pos c6, if_pos g1, if_pos g2, if_pos g3, if_pos (by simp only [ByteArray.size_append, sp_size]; omega)]
    exact spec_j1 _ a b c d op nm A3 A4 k h3 h4 s3 s4 (by simp only [ByteArray.size_append, sp_size]; omega)
  rw [if_neg c6, if_neg c6]
  by_cases c7 : op = 7
  · rw [if_pos c7, if_pos c7, if_pos g1, if_pos (by simp only [ByteArray.size_append, sp_size]; omega), if_pos (by simp only [ByteArray.size_append, sp_size]; omega)]
    exact spec_j1 _ a b c d op nm A3 A4 k h3 h4 s3 s4 (by simp only [ByteArray.size_append, sp_size]; omega)
  rw [if_neg c7, if_neg c7, if_pos g1, if_pos g2]
theorem J_W (o : ByteArray) (op a b c d : Int) (nm : ByteArray) : strings_Join.J (impl_formatInstr.W o op a b c d nm) = fiT o (ba (Go.Lib.itoa a)) (ba (Go.Lib.itoa b)) (ba (Go.Lib.itoa c)) (ba (Go.Lib.itoa d)) op c d nm := by
  have e : ∀ n, impl_formatInstr_1.S n = ba (Go.Lib.itoa n) := fun _ => rfl
  unfold impl_formatInstr.W fiT fiTail impl_some.L
  simp only [List.filter_cons, List.filter_nil]
  by_cases c4 : op = 4 ∨ op = 10
  · rw [if_pos c4, if_pos c4]
    simp only [List.map_cons, List.map_nil, List.cons_append, List.nil_append, J_one, J_cons, e]
  rw [if_neg c4, if_neg c4]
  by_cases c5 : op = 5
  · rw [if_pos c5, if_pos c5]
    simp only [List.map_cons, List.map_nil, List.cons_append, List.nil_append, J_one, J_cons, e, ByteArray.append_assoc]
  rw [if_neg c5, if_neg c5]
  by_cases c6 : op = 6
  · rw [if_pos c6, if_pos c6]
    by_cases c1 : c = -1 <;> by_cases d1 : d = -1 <;> simp [c1, d1, J_one, J_cons, e, ByteArray.append_assoc]
  rw [if_neg c6, if_neg c6]
  by_cases c7 : op = 7
  · rw [if_pos c7, if_pos c7]
    by_cases c1 : c = -1 <;> by_cases d1 : d = -1 <;> simp [c1, d1, J_one, J_cons, e, ByteArray.append_assoc]
  rw [if_neg c7, if_neg c7]
  simp only [List.map_cons, List.map_nil, List.cons_append, List.nil_append, J_one, J_cons, e, ByteArray.append_assoc]
theorem itoa_size (n : Int) (h0 : -9223372036854775808 ≤ n) (h1 : n ≤ 9223372036854775807) : (ba (Go.Lib.itoa n)).size ≤ 21 := Go.Lib.itoa_length_le n h0 h1
def fiV (op a b c d : Int) (nm : ByteArray) : ByteArray := if instrB op a b c d nm = true then fiT (opn op) (ba (Go.Lib.itoa a)) (ba (Go.Lib.itoa b)) (ba (Go.Lib.itoa c)) (ba (Go.Lib.itoa d)) op c d nm else ⟨#[]⟩
theorem spec_fi (op a b c d : Int) (nm : ByteArray) (a0 : -9223372036854775808 ≤ a) (a1 : a ≤ 9223372036854775807) (b0 : -9223372036854775808 ≤ b) (b1 : b ≤ 9223372036854775807) (c0 : -9223372036854775808 ≤ c) (c1 : c ≤ 9223372036854775807) (d0 : -9223372036854775808 ≤ d) (d1 : d ≤ 9223372036854775807)
    (hn : nm.size ≤ 2000000) (k : Nat) (hk : nm.size + 40 < k) : spec_FormatInstr.f k op a b c d nm = some (fiV op a b c d nm) := by
  obtain ⟨k, rfl⟩ : ∃ m, k = m + 1 + 1 := ⟨k - 2, by omega⟩
  have f1 := spec_fmt a a0 a1
  have f2 := spec_fmt b b0 b1
  have f3 := spec_fmt c c0 c1
  have f4 := spec_fmt d d0 d1
  have s1 := itoa_size a a0 a1
  have s2 := itoa_size b b0 b1
  have s3 := itoa_size c c0 c1
  have s4 := itoa_size d d0 d1
  have so := op_size op
  unfold spec_FormatInstr.f fiV
  rw [spec_instr op a b c d nm (by omega) _ (by omega)]
  simp only [Option.bind_some]
  cases hv : instrB op a b c d nm
  · rw [if_neg (by decide), if_neg (by decide)]
  · rw [if_pos rfl, if_pos rfl, spec_op, f1 _ (by omega)]
    simp only [Option.bind_some]
    rw [if_pos (by omega), f2 _ (by omega)]
    simp only [Option.bind_some]
    rw [if_pos (by omega)]
    by_cases c4 : op = 4
    · rw [if_pos c4]
      exact spec_j0 _ _ _ _ _ op a b c d nm _ (by rw [c4]; rfl) k (f3 _ (by omega)) (f4 _ (by omega)) (f3 _ (by omega)) so s1 s2 s3 s4 hn
    · rw [if_neg c4]
      refine spec_j0 _ _ _ _ _ op a b c d nm _ ?_ k (f3 _ (by omega)) (f4 _ (by omega)) (f3 _ (by omega)) so s1 s2 s3 s4 hn
      by_cases c10 : op = 10
      · rw [c10]; rfl
      · rw [decide_eq_false (by omega)]
        exact beq_eq_false_iff_ne.mpr c10
theorem impl_fi0 (op a b c d : Int) (nm : ByteArray) (hv : instrB op a b c d nm = true) (a0 : -9223372036854775808 ≤ a) (a1 : a ≤ 9223372036854775807) (b0 : -9223372036854775808 ≤ b) (b1 : b ≤ 9223372036854775807) (c0 : -9223372036854775808 ≤ c) (c1 : c ≤ 9223372036854775807) (d0 : -9223372036854775808 ≤ d) (d1 : d ≤ 9223372036854775807)
    (hn : nm.size ≤ 2000000) : impl_formatInstr.f op a b c d nm = some (fiV op a b c d nm) := by
  unfold fiV
  rw [if_pos hv]
  unfold impl_formatInstr.f
  rw [impl_op]
  simp only [Option.bind_some]
  rw [J_size, J_W, if_pos]
  refine ⟨?_, ?_⟩
  · intro x hx
    simp only [List.mem_cons, List.not_mem_nil, or_false] at hx
    rcases hx with rfl | rfl | rfl | rfl
    · exact ⟨a0, a1⟩
    · exact ⟨b0, b1⟩
    · exact ⟨c0, c1⟩
    · exact ⟨d0, d1⟩
  · have := fiT_size (opn op) _ _ _ _ op c d nm (op_size op) (itoa_size a a0 a1) (itoa_size b b0 b1) (itoa_size c c0 c1) (itoa_size d d0 d1) hn
    omega
theorem fiV_size (op a b c d : Int) (nm : ByteArray) (a0 : -9223372036854775808 ≤ a) (a1 : a ≤ 9223372036854775807) (b0 : -9223372036854775808 ≤ b) (b1 : b ≤ 9223372036854775807) (c0 : -9223372036854775808 ≤ c) (c1 : c ≤ 9223372036854775807) (d0 : -9223372036854775808 ≤ d) (d1 : d ≤ 9223372036854775807)
    (hn : nm.size ≤ 2000000) : (fiV op a b c d nm).size ≤ 3000000 := by
  unfold fiV
  split
  · exact fiT_size (opn op) _ _ _ _ op c d nm (op_size op) (itoa_size a a0 a1) (itoa_size b b0 b1) (itoa_size c c0 c1) (itoa_size d d0 d1) hn
  · decide
theorem scr_size : (⟨#[115, 99, 114, 105, 112, 116, 32]⟩ : ByteArray).size = 7 := rfl
theorem met_size : (⟨#[109, 101, 116, 104, 111, 100, 32]⟩ : ByteArray).size = 7 := rfl
theorem nl_size : (⟨#[10]⟩ : ByteArray).size = 1 := rfl
def insT (x : S27) : ByteArray := fiV x.f0 x.f1 x.f2 x.f3 x.f4 x.f5
def codeT : List S27 → ByteArray → ByteArray
  | [], t => t
  | x :: r, t => codeT r (t ++ (insT x ++ (⟨#[10]⟩ : ByteArray)))
def methT : List S72 → ByteArray → ByteArray
  | [], t => t
  | m :: r, t => methT r (codeT m.f1 (t ++ (((⟨#[109, 101, 116, 104, 111, 100, 32]⟩ : ByteArray) ++ m.f0) ++ (⟨#[10]⟩ : ByteArray))))
/-- The whole numbers of an instruction. -/
def intI (z : S27) : Prop := (-9223372036854775808 ≤ z.f1 ∧ z.f1 ≤ 9223372036854775807) ∧ (-9223372036854775808 ≤ z.f2 ∧ z.f2 ≤ 9223372036854775807) ∧ (-9223372036854775808 ≤ z.f3 ∧ z.f3 ≤ 9223372036854775807) ∧ (-9223372036854775808 ≤ z.f4 ∧ z.f4 ≤ 9223372036854775807)
def intM (l : List S72) : Prop := ∀ x ∈ l, ∀ z ∈ x.f1, intI z
theorem insT_size (z : S27) (h : intI z) (hn : z.f5.size ≤ 1048576) : (insT z).size ≤ 3000000 :=
  fiV_size _ _ _ _ _ _ h.1.1 h.1.2 h.2.1.1 h.2.1.2 h.2.2.1.1 h.2.2.1.2 h.2.2.2.1 h.2.2.2.2 (by omega)
theorem codeT_size : ∀ (l : List S27) (t : ByteArray), (∀ z ∈ l, intI z ∧ z.f5.size ≤ 1048576) → (codeT l t).size ≤ t.size + l.length * 3000001
  | [], t, _ => by simp [codeT]
  | x :: r, t, h => by
    have h1 := codeT_size r (t ++ (insT x ++ (⟨#[10]⟩ : ByteArray))) (fun z hz => h z (List.mem_cons_of_mem _ hz))
    have h2 := insT_size x (h x (by simp)).1 (h x (by simp)).2
    simp only [ByteArray.size_append, nl_size] at h1
    simp only [codeT, List.length_cons]
    omega
theorem impl_l1 : ∀ (l : List S27) (t : ByteArray), (∀ z ∈ l, intI z ∧ z.f5.size ≤ 1048576 ∧ instB z = true) → t.size + l.length * 3000001 ≤ 100000000000 → impl_formatScript.l1 l t = some (codeT l t)
  | [], t, _, _ => rfl
  | x :: r, t, h, hs => by
    obtain ⟨hi, hn, hv⟩ := h x (by simp)
    have h2 := insT_size x hi hn
    have e : impl_formatInstr.f x.f0 x.f1 x.f2 x.f3 x.f4 x.f5 = some (insT x) := impl_fi0 _ _ _ _ _ _ hv hi.1.1 hi.1.2 hi.2.1.1 hi.2.1.2 hi.2.2.1.1 hi.2.2.1.2 hi.2.2.2.1 hi.2.2.2.2 (by omega)
    simp only [List.length_cons] at hs
    simp only [impl_formatScript.l1, codeT]
    rw [e]
    simp only [Option.bind_some]
    rw [if_pos (by omega)]
    exact impl_l1 r _ (fun z hz => h z (List.mem_cons_of_mem _ hz)) (by simp only [ByteArray.size_append, nl_size]; omega)
theorem impl_l0F : ∀ (l : List S72) (t : ByteArray), (∀ x ∈ l, x.f0.size ≤ 1048576 ∧ x.f1.length ≤ 12 ∧ ∀ z ∈ x.f1, intI z ∧ z.f5.size ≤ 1048576 ∧ instB z = true) → t.size + l.length * 40000000 ≤ 10000000000 → impl_formatScript.l0 l t = some (methT l t)
  | [], t, _, _ => rfl
  | x :: r, t, h, hs => by
    obtain ⟨hn, hc, hz⟩ := h x (by simp)
    simp only [List.length_cons] at hs
    simp only [impl_formatScript.l0, methT]
    rw [if_pos ⟨by omega, by omega⟩, impl_l1 x.f1 _ hz (by simp only [ByteArray.size_append, met_size, nl_size]; omega)]
    simp only [Option.bind_some]
    refine impl_l0F r _ (fun y hy => h y (List.mem_cons_of_mem _ hy)) ?_
    have h1 := codeT_size x.f1 (t ++ (((⟨#[109, 101, 116, 104, 111, 100, 32]⟩ : ByteArray) ++ x.f0) ++ (⟨#[10]⟩ : ByteArray))) (fun z hz' => ⟨(hz z hz').1, (hz z hz').2.1⟩)
    simp only [ByteArray.size_append, met_size, nl_size] at h1
    omega
/-- The text of a script that holds; else none. -/
def fsV (nm : ByteArray) (l : List S72) : ByteArray := if scriptB nm l = true then methT l ((⟨#[]⟩ : ByteArray) ++ (((⟨#[115, 99, 114, 105, 112, 116, 32]⟩ : ByteArray) ++ nm) ++ (⟨#[10]⟩ : ByteArray))) else ⟨#[]⟩
theorem methsFrom_all (l : List S72) : ∀ (d i : Nat), l.length - i = d → methsFrom l d i = true → ∀ j, i ≤ j → (h : j < l.length) → methB l[j].f0 l[j].f1 = true
  | 0, i, h0, _, j, h1, h2 => by omega
  | d + 1, i, h0, h, j, h1, h2 => by
    simp only [methsFrom, Bool.and_eq_true] at h
    by_cases c : j = i
    · subst c
      have := h.1
      rw [List.getD_eq_getElem?_getD, List.getElem?_eq_getElem h2] at this
      exact this
    · exact methsFrom_all l d (i + 1) (by omega) h.2.2 j (by omega) h2
theorem scriptB_all (nm : ByteArray) (l : List S72) (hf : fitM l) (hi : intM l) (h : scriptB nm l = true) : l.length ≤ 4 ∧ ∀ x ∈ l, x.f0.size ≤ 1048576 ∧ x.f1.length ≤ 12 ∧ ∀ z ∈ x.f1, intI z ∧ z.f5.size ≤ 1048576 ∧ instB z = true := by
  unfold scriptB at h
  simp only [Bool.and_eq_true, decide_eq_true_eq] at h
  refine ⟨h.2.2, fun x hx => ?_⟩
  obtain ⟨j, hj, rfl⟩ := List.getElem_of_mem hx
  have hm := methsFrom_all l _ 0 rfl h.1 j (by omega) hj
  unfold methB at hm
  simp only [Bool.and_eq_true, decide_eq_true_eq] at hm
  exact ⟨(hf.2 _ hx).1, hm.2.1, fun z hz => ⟨hi _ hx z hz, (hf.2 _ hx).2.2 z hz, List.all_eq_true.1 hm.2.2 z hz⟩⟩
theorem impl_fs (nm : ByteArray) (hn : nm.size ≤ 1048576) (l : List S72) (hf : fitM l) (hi : intM l) (h : scriptB nm l = true) : impl_formatScript.f nm l = some (fsV nm l) := by
  obtain ⟨h4, ha⟩ := scriptB_all nm l hf hi h
  unfold impl_formatScript.f fsV
  rw [if_pos ⟨by omega, by omega⟩, if_pos h]
  refine impl_l0F l _ ha ?_
  have e0 : (⟨#[]⟩ : ByteArray).size = 0 := rfl
  simp only [ByteArray.size_append, scr_size, nl_size, e0]
  omega
theorem fs_l1 (nm : ByteArray) (l : List S72) (hl : l.length ≤ 4) (i : Nat) (hi : i < l.length) (hc : (l.getD i z72).f1.length ≤ 12) (hz : ∀ z ∈ (l.getD i z72).f1, intI z ∧ z.f5.size ≤ 1048576) (v : ByteArray) (K : Nat) (d : Nat) : ∀ (k j : Nat) (t : ByteArray), j ≤ (l.getD i z72).f1.length → (l.getD i z72).f1.length - j = d → t.size + d * 3000001 ≤ 100000000000 →
    (∀ k, K ≤ k → spec_FormatScript.l0 k (codeT ((l.getD i z72).f1.drop j) t) ((i + 1 : Nat) : Int) nm l = some v) → K + d + 2000000 < k → spec_FormatScript.l1 k t (i : Int) (j : Int) nm l = some v := by
  induction d with
  | zero =>
    intro k j t h0 h1 hs hK hk
    obtain ⟨k, rfl⟩ : ∃ m, k = m + 1 := ⟨k - 1, by omega⟩
    have hj : j = (l.getD i z72).f1.length := by omega
    simp only [spec_FormatScript.l1]
    rw [rd_im, if_pos (by omega), if_pos (by omega), if_neg (by omega), Kit.wrap_succ i (by omega)]
    have := hK k (by omega)
    rw [hj, List.drop_length] at this
    exact this
  | succ d ih =>
    intro k j t h0 h1 hs hK hk
    obtain ⟨k, rfl⟩ : ∃ m, k = m + 1 := ⟨k - 1, by omega⟩
    have hj : j < (l.getD i z72).f1.length := by omega
    have hr : rd_T27 (l.getD i z72).f1 (j : Int) = (l.getD i z72).f1[j] := by
      unfold rd_T27
      rw [Int.toNat_natCast, List.getD_eq_getElem?_getD, List.getElem?_eq_getElem hj]
      rfl
    obtain ⟨hii, hn⟩ := hz _ (List.getElem_mem hj)
    have h2 := insT_size _ hii hn
    have e : ∀ k, 1100000 < k → spec_FormatInstr.f k (l.getD i z72).f1[j].f0 (l.getD i z72).f1[j].f1 (l.getD i z72).f1[j].f2 (l.getD i z72).f1[j].f3 (l.getD i z72).f1[j].f4 (l.getD i z72).f1[j].f5 = some (insT (l.getD i z72).f1[j]) := fun k hk => spec_fi _ _ _ _ _ _ hii.1.1 hii.1.2 hii.2.1.1 hii.2.1.2 hii.2.2.1.1 hii.2.2.1.2 hii.2.2.2.1 hii.2.2.2.2 (by omega) k (by omega)
    simp only [spec_FormatScript.l1]
    rw [rd_im, hr, if_pos (by omega), if_pos (by omega), if_pos (by omega), if_pos (by omega), e k (by omega)]
    simp only [Option.bind_some]
    rw [if_pos (by omega), if_pos (by simp only [ByteArray.size_append]; omega), Kit.wrap_succ j (by omega), ByteArray.append_assoc]
    refine ih k (j + 1) _ (by omega) (by omega) (by simp only [ByteArray.size_append, nl_size]; omega) ?_ (by omega)
    intro k' hk'
    have := hK k' hk'
    rw [List.drop_eq_getElem_cons hj] at this
    exact this
theorem fs_l0 (nm : ByteArray) (l : List S72) (hl : l.length ≤ 4) (ha : ∀ x ∈ l, x.f0.size ≤ 1048576 ∧ x.f1.length ≤ 12 ∧ ∀ z ∈ x.f1, intI z ∧ z.f5.size ≤ 1048576 ∧ instB z = true) : ∀ (d i : Nat) (t : ByteArray), i ≤ l.length → l.length - i = d → t.size + d * 40000000 ≤ 10000000000 → ∃ K, ∀ k, K ≤ k → spec_FormatScript.l0 k t (i : Int) nm l = some (methT (l.drop i) t)
  | 0, i, t, h0, h1, hs => by
    refine ⟨1, fun k hk => ?_⟩
    obtain ⟨k, rfl⟩ : ∃ m, k = m + 1 := ⟨k - 1, by omega⟩
    have hi : i = l.length := by omega
    subst hi
    simp only [spec_FormatScript.l0]
    rw [if_neg (by omega), List.drop_length]
    rfl
  | d + 1, i, t, h0, h1, hs => by
    have hi : i < l.length := by omega
    have hg : l.getD i z72 = l[i] := by rw [List.getD_eq_getElem?_getD, List.getElem?_eq_getElem hi]; rfl
    obtain ⟨hn, hc, hz⟩ := ha _ (List.getElem_mem hi)
    rw [← hg] at hn hc hz
    have hz2 : ∀ z ∈ (l.getD i z72).f1, intI z ∧ z.f5.size ≤ 1048576 := fun z h => ⟨(hz z h).1, (hz z h).2.1⟩
    obtain ⟨T, hT⟩ : ∃ T, T = t ++ (((⟨#[109, 101, 116, 104, 111, 100, 32]⟩ : ByteArray) ++ (l.getD i z72).f0) ++ (⟨#[10]⟩ : ByteArray)) := ⟨_, rfl⟩
    have hTs : T.size = t.size + (7 + (l.getD i z72).f0.size + 1) := by rw [hT]; simp only [ByteArray.size_append, met_size, nl_size]
    have h3 := codeT_size (l.getD i z72).f1 T hz2
    obtain ⟨K, hK⟩ := fs_l0 nm l hl ha d (i + 1) (codeT (l.getD i z72).f1 T) (by omega) (by omega) (by omega)
    refine ⟨K + 3000000, fun k hk => ?_⟩
    obtain ⟨k, rfl⟩ : ∃ m, k = m + 1 := ⟨k - 1, by omega⟩
    simp only [spec_FormatScript.l0]
    rw [rd_im, if_pos (by omega), if_pos (by omega), if_pos (by omega), if_pos (by simp only [ByteArray.size_append, met_size]; omega), if_pos (by simp only [ByteArray.size_append, met_size]; omega)]
    have e : ((t ++ (⟨#[109, 101, 116, 104, 111, 100, 32]⟩ : ByteArray)) ++ (l.getD i z72).f0) ++ (⟨#[10]⟩ : ByteArray) = T := by rw [hT, ByteArray.append_assoc, ByteArray.append_assoc, ByteArray.append_assoc]
    rw [e, List.drop_eq_getElem_cons hi]
    simp only [methT]
    rw [← hg, ← hT]
    exact fs_l1 nm l hl i hi hc hz2 _ K _ k 0 T (by omega) rfl (by omega) (fun k hk => hK k hk) (by omega)
theorem spec_fs (nm : ByteArray) (hn : nm.size ≤ 1048576) (l : List S72) (hf : fitM l) (hi : intM l) : ∃ K, ∀ k, K ≤ k → spec_FormatScript.f k nm l = some (fsV nm l) := by
  obtain ⟨K, hK⟩ := spec_script nm hn l hf
  unfold fsV
  cases hv : scriptB nm l
  · refine ⟨K, fun k hk => ?_⟩
    unfold spec_FormatScript.f
    rw [hK k hk, hv]
    simp only [Option.bind_some]
    rw [if_neg (by decide), if_neg (by decide)]
  · obtain ⟨h4, ha⟩ := scriptB_all nm l hf hi hv
    obtain ⟨T, hT⟩ : ∃ T, T = (((⟨#[115, 99, 114, 105, 112, 116, 32]⟩ : ByteArray) ++ nm) ++ (⟨#[10]⟩ : ByteArray)) := ⟨_, rfl⟩
    have hTs : T.size = 7 + nm.size + 1 := by rw [hT]; simp only [ByteArray.size_append, scr_size, nl_size]
    obtain ⟨K2, hK2⟩ := fs_l0 nm l h4 ha _ 0 T (by omega) rfl (by omega)
    refine ⟨K + K2, fun k hk => ?_⟩
    unfold spec_FormatScript.f
    rw [hK k (by omega), hv]
    simp only [Option.bind_some]
    rw [if_pos trivial, if_pos (by omega), if_pos (by simp only [ByteArray.size_append, scr_size]; omega), if_pos trivial, ← hT]
    have e0 : (⟨#[]⟩ : ByteArray) ++ T = T := ByteArray.empty_append
    rw [e0]
    exact hK2 k (by omega)
def libB (l : List S46) : Bool := libFrom l l.length 0 && decide (l.length ≤ 6)
def libT : List S46 → ByteArray → ByteArray
  | [], t => t
  | x :: r, t => libT r (t ++ fsV x.f0 x.f1)
def flV (l : List S46) : ByteArray := if libB l = true then libT l ⟨#[]⟩ else ⟨#[]⟩
theorem methT_size : ∀ (l : List S72) (t : ByteArray), (∀ x ∈ l, x.f0.size ≤ 1048576 ∧ x.f1.length ≤ 12 ∧ ∀ z ∈ x.f1, intI z ∧ z.f5.size ≤ 1048576 ∧ instB z = true) → (methT l t).size ≤ t.size + l.length * 40000000
  | [], t, _ => by simp [methT]
  | x :: r, t, h => by
    obtain ⟨hn, hc, hz⟩ := h x (by simp)
    have h1 := codeT_size x.f1 (t ++ (((⟨#[109, 101, 116, 104, 111, 100, 32]⟩ : ByteArray) ++ x.f0) ++ (⟨#[10]⟩ : ByteArray))) (fun z hz' => ⟨(hz z hz').1, (hz z hz').2.1⟩)
    have h2 := methT_size r (codeT x.f1 (t ++ (((⟨#[109, 101, 116, 104, 111, 100, 32]⟩ : ByteArray) ++ x.f0) ++ (⟨#[10]⟩ : ByteArray)))) (fun y hy => h y (List.mem_cons_of_mem _ hy))
    simp only [ByteArray.size_append, met_size, nl_size] at h1
    simp only [methT, List.length_cons]
    omega
theorem fsV_size (nm : ByteArray) (hn : nm.size ≤ 1048576) (l : List S72) (hf : fitM l) (hi : intM l) : (fsV nm l).size ≤ 200000000 := by
  unfold fsV
  split
  · rename_i h
    obtain ⟨h4, ha⟩ := scriptB_all nm l hf hi h
    have h1 := methT_size l ((⟨#[]⟩ : ByteArray) ++ (((⟨#[115, 99, 114, 105, 112, 116, 32]⟩ : ByteArray) ++ nm) ++ (⟨#[10]⟩ : ByteArray))) ha
    have e0 : (⟨#[]⟩ : ByteArray).size = 0 := rfl
    simp only [ByteArray.size_append, scr_size, nl_size, e0] at h1
    omega
  · decide
theorem libFrom_all (l : List S46) : ∀ (d i : Nat), l.length - i = d → libFrom l d i = true → ∀ j, i ≤ j → (h : j < l.length) → scriptB l[j].f0 l[j].f1 = true
  | 0, i, h0, _, j, h1, h2 => by omega
  | d + 1, i, h0, h, j, h1, h2 => by
    simp only [libFrom, Bool.and_eq_true] at h
    by_cases c : j = i
    · subst c
      have := h.1
      rw [List.getD_eq_getElem?_getD, List.getElem?_eq_getElem h2] at this
      exact this
    · exact libFrom_all l d (i + 1) (by omega) h.2.2 j (by omega) h2
theorem libB_all (l : List S46) (h : libB l = true) : l.length ≤ 6 ∧ ∀ x ∈ l, scriptB x.f0 x.f1 = true := by
  unfold libB at h
  simp only [Bool.and_eq_true, decide_eq_true_eq] at h
  refine ⟨h.2, fun x hx => ?_⟩
  obtain ⟨j, hj, rfl⟩ := List.getElem_of_mem hx
  exact libFrom_all l _ 0 rfl h.1 j (by omega) hj
theorem impl_fl0 : ∀ (l : List S46) (t : ByteArray), (∀ x ∈ l, (x.f0.size ≤ 1048576 ∧ fitM x.f1 ∧ intM x.f1) ∧ scriptB x.f0 x.f1 = true) → t.size + l.length * 200000000 ≤ 10000000000 → impl_FormatLibrary.l0 l t = some (libT l t)
  | [], t, _, _ => rfl
  | x :: r, t, h, hs => by
    obtain ⟨⟨hn, hf, hi⟩, hv⟩ := h x (by simp)
    have h2 := fsV_size x.f0 hn x.f1 hf hi
    simp only [List.length_cons] at hs
    simp only [impl_FormatLibrary.l0, libT]
    rw [impl_fs x.f0 hn x.f1 hf hi hv]
    simp only [Option.bind_some]
    rw [if_pos (by omega)]
    exact impl_fl0 r _ (fun y hy => h y (List.mem_cons_of_mem _ hy)) (by rw [ByteArray.size_append]; omega)
theorem impl_fl (l : List S46) (hl : l.length ≤ 1048576) (hm : ∀ x ∈ l, x.f0.size ≤ 1048576 ∧ fitM x.f1 ∧ intM x.f1) (k : Nat) (hk : 55000000 < k) : impl_FormatLibrary.f k l = some (flV l) := by
  have e : impl_isLibrary.f k l = some (libB l) := by
    unfold impl_isLibrary.f libB
    by_cases c8 : l.length ≤ 6
    · rw [if_neg (by omega)]
      have := lib_impl l hl (fun x hx => ⟨(hm x hx).1, (hm x hx).2.1⟩) l.length k 0 (by omega) (by omega) (by omega)
      rw [show (0 : Int) = ((0 : Nat) : Int) from rfl, this, decide_eq_true c8, Bool.and_true]
    · rw [if_pos (by omega), decide_eq_false c8, Bool.and_false]
  unfold impl_FormatLibrary.f flV
  rw [e]
  simp only [Option.bind_some]
  cases hv : libB l
  · rw [if_neg (by decide), if_neg (by decide)]
  · obtain ⟨h6, ha⟩ := libB_all l hv
    rw [if_pos rfl, if_pos rfl, if_pos (by omega)]
    refine impl_fl0 l _ (fun x hx => ⟨hm x hx, ha x hx⟩) ?_
    have e0 : (⟨#[]⟩ : ByteArray).size = 0 := rfl
    omega
theorem all_fs : ∀ (l : List S46), (∀ x ∈ l, x.f0.size ≤ 1048576 ∧ fitM x.f1 ∧ intM x.f1) → ∃ K, ∀ x ∈ l, ∀ k, K ≤ k → spec_FormatScript.f k x.f0 x.f1 = some (fsV x.f0 x.f1)
  | [], _ => ⟨0, fun x hx => absurd hx (by simp)⟩
  | y :: ys, h => by
    obtain ⟨K1, h1⟩ := all_fs ys (fun x hx => h x (List.mem_cons_of_mem _ hx))
    obtain ⟨hn, hf, hi⟩ := h y (List.mem_cons_self ..)
    obtain ⟨K2, h2⟩ := spec_fs y.f0 hn y.f1 hf hi
    refine ⟨K1 + K2, fun x hx k hk => ?_⟩
    rcases List.mem_cons.1 hx with rfl | hx
    · exact h2 k (by omega)
    · exact h1 x hx k (by omega)
theorem spec_fl0 (l : List S46) (hl : l.length ≤ 6) (hz : ∀ x ∈ l, (fsV x.f0 x.f1).size ≤ 200000000) (K : Nat) (hK : ∀ x ∈ l, ∀ k, K ≤ k → spec_FormatScript.f k x.f0 x.f1 = some (fsV x.f0 x.f1)) : ∀ (d k i : Nat) (t : ByteArray), i ≤ l.length → l.length - i = d → t.size + d * 200000000 ≤ 10000000000 → K + d < k → spec_FormatLibrary.l0 k l t (i : Int) = some (libT (l.drop i) t)
  | 0, k, i, t, h0, h1, hs, h2 => by
    obtain ⟨k, rfl⟩ : ∃ m, k = m + 1 := ⟨k - 1, by omega⟩
    have hi : i = l.length := by omega
    subst hi
    simp only [spec_FormatLibrary.l0]
    rw [if_neg (by omega), List.drop_length]
    rfl
  | d + 1, k, i, t, h0, h1, hs, h2 => by
    obtain ⟨k, rfl⟩ : ∃ m, k = m + 1 := ⟨k - 1, by omega⟩
    have hi : i < l.length := by omega
    have hr : rd_T46 l (i : Int) = l[i] := by
      rw [rd_is, List.getD_eq_getElem?_getD, List.getElem?_eq_getElem hi]
      rfl
    have h3 := hz _ (List.getElem_mem hi)
    simp only [spec_FormatLibrary.l0]
    rw [if_pos (by omega), if_pos (by omega), hr, hK _ (List.getElem_mem hi) k (by omega)]
    simp only [Option.bind_some]
    rw [if_pos (by omega), Kit.wrap_succ i (by omega), List.drop_eq_getElem_cons hi]
    exact spec_fl0 l hl hz K hK d k (i + 1) _ (by omega) (by omega) (by rw [ByteArray.size_append]; omega) (by omega)
theorem spec_fl (l : List S46) (hl : l.length ≤ 1048576) (hm : ∀ x ∈ l, x.f0.size ≤ 1048576 ∧ fitM x.f1 ∧ intM x.f1) : ∃ K, ∀ k, K ≤ k → spec_FormatLibrary.f k l = some (flV l) := by
  obtain ⟨K1, h1⟩ := all_script l (fun x hx => ⟨(hm x hx).1, (hm x hx).2.1⟩)
  obtain ⟨K2, h2⟩ := all_fs l hm
  refine ⟨K1 + K2 + 3000000, fun k hk => ?_⟩
  have e : spec_IsLibrary.f k l = some (libB l) := lib_spec l hl K1 h1 _ k 0 (by omega) (by omega) (by omega)
  unfold spec_FormatLibrary.f flV
  rw [e]
  simp only [Option.bind_some]
  cases hv : libB l
  · rw [if_neg (by decide), if_neg (by decide)]
  · obtain ⟨h6, ha⟩ := libB_all l hv
    rw [if_pos rfl, if_pos rfl]
    have e0 : (⟨#[]⟩ : ByteArray).size = 0 := rfl
    have := spec_fl0 l h6 (fun x hx => fsV_size x.f0 (hm x hx).1 x.f1 (hm x hx).2.1 (hm x hx).2.2) K2 h2 l.length k 0 ⟨#[]⟩ (by omega) rfl (by omega) (by omega)
    rw [List.drop_zero] at this
    exact this
theorem FnExactFormatLibrary : OpFnExactFormatLibrary.Pure := by
  intro y0 hg
  have ho : ∀ x ∈ y0, okS x := fun x hx => ⟨(hg.2 x hx).1, (hg.2 x hx).2.1, fun y hy => ⟨((hg.2 x hx).2.2 y hy).1, ((hg.2 x hx).2.2 y hy).2.1, fun z hz => (((hg.2 x hx).2.2 y hy).2.2 z hz).2.2.2.2.2⟩⟩
  by_cases c : Kit.sub 1048576 (y0.length + Kit.sumW wtS y0) < 0
  · refine ⟨60000000, ?_⟩
    unfold laws_FnExactFormatLibrary.f
    rw [szSS y0 hg.1 ho 1048576 (by omega) (by omega) _ (by omega)]
    simp only [Option.bind_some]
    rw [if_pos c]
  · have h1 := (Kit.sub_le 1048576 (y0.length + Kit.sumW wtS y0) (by omega)).1
    have hf := fit_all y0 1048576 (by omega)
    have hl : (y0.map cvS).length ≤ 1048576 := by rw [List.length_map]; omega
    have hm : ∀ x ∈ y0.map cvS, x.f0.size ≤ 1048576 ∧ fitM x.f1 ∧ intM x.f1 := by
      intro x hx
      obtain ⟨u, hu, rfl⟩ := List.mem_map.1 hx
      have hz := hf u hu
      refine ⟨hz.1, ⟨by show (u.f1.map cvM).length ≤ 1048576; rw [List.length_map]; exact hz.2.1, fun m hm => ?_⟩, fun m hm z hz' => ?_⟩
      · obtain ⟨v, hv, rfl⟩ := List.mem_map.1 hm
        refine ⟨(hz.2.2 v hv).2.1, by show (v.f1.map cvI).length ≤ 1048576; rw [List.length_map]; exact (hz.2.2 v hv).1, fun t ht => ?_⟩
        obtain ⟨s, hs, rfl⟩ := List.mem_map.1 ht
        exact (hz.2.2 v hv).2.2 s hs
      · obtain ⟨v, hv, rfl⟩ := List.mem_map.1 hm
        obtain ⟨s, hs, rfl⟩ := List.mem_map.1 hz'
        have g := ((hg.2 u hu).2.2 v hv).2.2 s hs
        exact ⟨wf_i64 g.2.1, wf_i64 g.2.2.1, wf_i64 g.2.2.2.1, wf_i64 g.2.2.2.2.1⟩
    obtain ⟨K, hK⟩ := spec_fl (y0.map cvS) hl hm
    have fin : ∀ k, K + 60000000 ≤ k → laws_FnExactFormatLibrary.f k y0 = some true := by
      intro k k0
      have e1 : laws_toScriptS.f k y0 = some (y0.map cvS) := toSS y0 k (by omega) (by omega) hf
      have e2 := hK k (by omega)
      have e3 := impl_fl (y0.map cvS) hl hm k (by omega)
      have e5 : laws_eqScriptS.f k (y0.map cvS) (y0.map cvS) = some true := by
        rw [eqSS (y0.map cvS) (y0.map cvS) k (by omega) hl (fun x hx => by
          obtain ⟨z, hz, rfl⟩ := List.mem_map.1 hx
          exact fit_cv z 1048576 (hf z hz)), decide_eq_true rfl]
      unfold laws_FnExactFormatLibrary.f
      rw [szSS y0 hg.1 ho 1048576 (by omega) (by omega) k (by omega)]
      simp only [Option.bind_some]
      rw [if_neg c, e1]
      simp only [Option.bind_some]
      rw [e2]
      simp only [Option.bind_some]
      rw [e3]
      simp only [Option.bind_some]
      rw [if_pos trivial, e5]
      rfl
    exact ⟨_, fin _ (Nat.le_refl _)⟩
end Go.Proofs.YtmipaoobkjppdaaDoor.Pure
