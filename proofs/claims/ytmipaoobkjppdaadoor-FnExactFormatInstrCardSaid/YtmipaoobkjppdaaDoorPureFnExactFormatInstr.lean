/- formatInstr: join of words against concatenations -/
import Derived.Test.YtmipaoobkjppdaaDoorOpFnExactFormatInstr
import Derived.Lib.ItoaLen
import Derived.Test.YtmipaoobkjppdaaDoorKit2
import Derived.Test.YtmipaoobkjppdaaDoorKit
set_option linter.unusedVariables false
set_option linter.unusedSimpArgs false
namespace Go.Proofs.YtmipaoobkjppdaaDoor.Pure
open Go.RowKit Go.Proofs.YtmipaoobkjppdaaDoor.QFnExactFormatInstr Go.Proofs.YtmipaoobkjppdaaDoorW.PrintWords Go.Proofs.YtmipaoobkjppdaaDoorW.PrintLast Go.Proofs.YtmipaoobkjppdaaDoor.OpFnExactFormatInstr

theorem wf_u8 {x : Int} (h : (Lit.int .u8 x).wf = true) : 0 ≤ x ∧ x < 256 := by
  simp [Lit.wf, IntKind.min, IntKind.max, IntKind.signed, IntKind.bits] at h
  omega
theorem wf_i64 {x : Int} (h : (Lit.int .i64 x).wf = true) : -9223372036854775808 ≤ x ∧ x ≤ 9223372036854775807 := by
  simp [Lit.wf, IntKind.min, IntKind.max, IntKind.signed, IntKind.bits] at h
  omega
def ba (l : List UInt8) : ByteArray := ⟨l.toArray⟩
theorem ba_append (l m : List UInt8) : ba l ++ ba m = ba (l ++ m) := by
  apply Kit.bytes_inj.1
  rw [Go.ByteArray.toList_eq, Go.ByteArray.toList_eq]
  simp [ba]
theorem ba_size (l : List UInt8) : (ba l).size = l.length := rfl
def dig (u : Nat) : List UInt8 := if u = 0 then [] else Go.Lib.decDigits u
theorem dig_step (u : Nat) (h : u ≠ 0) : dig u = dig (u / 10) ++ [UInt8.ofNat (48 + u % 10)] := by
  unfold dig
  rw [if_neg h, Go.Lib.decDigits]
  by_cases c : u < 10
  · rw [dif_pos c, if_pos (by omega), Nat.mod_eq_of_lt c]
    rfl
  · rw [dif_neg c, if_neg (by omega)]
def sgn (n : Int) (l : List UInt8) : List UInt8 := if n < 0 then 45 :: l else l
theorem str_one (m : Nat) (h : m < 10) : strOfNums [((48 + m : Nat) : Int)] = ba [UInt8.ofNat (48 + m)] := by
  unfold strOfNums ba
  simp only [List.map_cons, List.map_nil, Int.toNat_natCast]
theorem itoa_zero : Go.Lib.itoa 0 = [48] := by
  unfold Go.Lib.itoa
  rw [if_neg (by decide), Go.Lib.decDigits, dif_pos (by decide)]
  rfl
theorem fmt_l0 (n : Int) : ∀ (d k u : Nat) (x : Int) (l : List UInt8), (x = (u : Int) ∨ x = -(u : Int)) → u < 10 ^ d → u ≤ 9223372036854775808 → l.length + d ≤ 100 → d < k → spec_FormatInt.l0 k n (ba l) x = some (ba (sgn n (dig u ++ l)))
  | 0, k, u, x, l, hx, h1, h2, h3, h4 => by
    obtain ⟨k, rfl⟩ : ∃ m, k = m + 1 := ⟨k - 1, by omega⟩
    have hu : u = 0 := by simpa using h1
    subst hu
    have hx0 : x = 0 := by omega
    subst hx0
    simp only [spec_FormatInt.l0]
    rw [if_pos trivial, ba_size]
    unfold sgn dig
    by_cases c : n < 0
    · rw [if_pos c, if_pos (by omega), if_pos c]
      exact congrArg some (ba_append [45] l)
    · rw [if_neg c, if_neg c]
      rfl
  | d + 1, k, u, x, l, hx, h1, h2, h3, h4 => by
    obtain ⟨k, rfl⟩ : ∃ m, k = m + 1 := ⟨k - 1, by omega⟩
    by_cases h0 : u = 0
    · subst h0
      have hx0 : x = 0 := by omega
      subst hx0
      simp only [spec_FormatInt.l0]
      rw [if_pos trivial, ba_size]
      unfold sgn dig
      by_cases c : n < 0
      · rw [if_pos c, if_pos (by omega), if_pos c]
        exact congrArg some (ba_append [45] l)
      · rw [if_neg c, if_neg c]
        rfl
    · have hp : u / 10 < 10 ^ d := by
        rw [Nat.pow_succ] at h1
        omega
      have hm : u % 10 < 10 := Nat.mod_lt _ (by decide)
      have hs : (strOfNums [((48 + u % 10 : Nat) : Int)]).size + (ba l).size ≤ 9223372036854775807 := by
        rw [str_one _ hm, ba_size, ba_size]
        simp
        omega
      have fin : ∀ q : Int, (q = ((u / 10 : Nat) : Int) ∨ q = -((u / 10 : Nat) : Int)) → spec_FormatInt.l0 k n ((strOfNums [((48 + u % 10 : Nat) : Int)]) ++ ba l) (wrap64 q) = some (ba (sgn n (dig u ++ l))) := by
        intro q hq
        rw [Kit.wrap_id q (by omega) (by omega), str_one _ hm, ba_append, fmt_l0 n d k (u / 10) q _ hq hp (by omega) (by simp; omega) (by omega), dig_step u h0]
        simp
      simp only [spec_FormatInt.l0]
      rw [if_neg (show ¬ x = 0 by omega)]
      rcases hx with hx | hx
      · have e1 : Int.tmod x 10 = ((u % 10 : Nat) : Int) := by rw [hx]; rfl
        have e2 : Int.tdiv x 10 = ((u / 10 : Nat) : Int) := by rw [hx]; rfl
        rw [e1, e2, if_neg (by omega)]
        have e3 : (wrap64 (48 + ((u % 10 : Nat) : Int))) % 256 = ((48 + u % 10 : Nat) : Int) := by
          rw [Kit.wrap_id _ (by omega) (by omega)]
          omega
        rw [e3]
        simp only [Option.bind_some]
        rw [if_pos hs]
        exact fin _ (.inl rfl)
      · have e1 : Int.tmod x 10 = -((u % 10 : Nat) : Int) := by rw [hx, Int.neg_tmod]; rfl
        have e2 : Int.tdiv x 10 = -((u / 10 : Nat) : Int) := by rw [hx, Int.neg_tdiv]; rfl
        rw [e1, e2]
        by_cases c : -((u % 10 : Nat) : Int) < 0
        · rw [if_pos c]
          have e3 : (wrap64 (48 + (wrap64 (- -((u % 10 : Nat) : Int))))) % 256 = ((48 + u % 10 : Nat) : Int) := by
            rw [Int.neg_neg, Kit.wrap_id ((u % 10 : Nat) : Int) (by omega) (by omega), Kit.wrap_id _ (by omega) (by omega)]
            omega
          rw [e3]
          simp only [Option.bind_some]
          rw [if_pos hs]
          exact fin _ (.inr rfl)
        · rw [if_neg c]
          have e3 : (wrap64 (48 + -((u % 10 : Nat) : Int))) % 256 = ((48 + u % 10 : Nat) : Int) := by
            rw [Kit.wrap_id _ (by omega) (by omega)]
            omega
          rw [e3]
          simp only [Option.bind_some]
          rw [if_pos hs]
          exact fin _ (.inr rfl)
theorem spec_fmt (n : Int) (h0 : -9223372036854775808 ≤ n) (h1 : n ≤ 9223372036854775807) (k : Nat) (hk : 30 < k) : spec_FormatInt.f k n = some (ba (Go.Lib.itoa n)) := by
  unfold spec_FormatInt.f
  by_cases c : n = 0
  · rw [if_pos c, c, itoa_zero]
    rfl
  · rw [if_neg c]
    have := fmt_l0 n 20 k n.natAbs n [] (by omega) (by omega) (by omega) (by simp) (by omega)
    refine this.trans ?_
    unfold sgn Go.Lib.itoa dig
    rw [List.append_nil]
    by_cases c0 : n < 0
    · rw [if_pos c0, if_pos c0, if_neg (show ¬ n.natAbs = 0 by omega)]
    · rw [if_neg c0, if_neg c0, if_neg (show ¬ n.natAbs = 0 by omega), show n.natAbs = n.toNat by omega]
theorem impl_fmt (n : Int) (h0 : -9223372036854775808 ≤ n) (h1 : n ≤ 9223372036854775807) : impl_FormatInt.f n = some (ba (Go.Lib.itoa n)) := by
  unfold impl_FormatInt.f strconv_Itoa.f
  rw [if_pos h0, if_pos h1]
  rfl
def opn (a : Int) : ByteArray := if 1 ≤ a ∧ a ≤ 10 then impl_OpName.tab.getD a.toNat ⟨#[]⟩ else ⟨#[]⟩
theorem impl_op (a : Int) : impl_OpName.f a = some (opn a) := by
  unfold impl_OpName.f opn
  split <;> rfl
theorem spec_op (a : Int) : spec_OpName.f a = some (opn a) := by
  unfold spec_OpName.f opn spec_l1In.f
  by_cases c : 1 ≤ a ∧ a ≤ 10
  · rw [if_pos (show a ≥ 1 from c.1), decide_eq_true c.2, if_pos c]
    simp only [Option.bind_some]
    rw [if_pos trivial, if_pos (by omega), if_pos (by simp; omega)]
    rfl
  · rw [if_neg c]
    by_cases c1 : a ≥ 1
    · rw [if_pos c1, decide_eq_false (fun h => c ⟨c1, h⟩)]
      simp only [Option.bind_some]
      rw [if_neg (by simp)]
    · rw [if_neg c1]
      simp only [Option.bind_some]
      rw [if_neg (by simp)]
def inB (a lo hi : Int) : Bool := decide (lo ≤ a) && decide (a ≤ hi)
def lowC (c : UInt8) : Bool := decide (97 ≤ c.toNat) && decide (c.toNat ≤ 122)
def nameB (s : ByteArray) : Bool := inB (s.size : Int) 1 6 && s.data.toList.all lowC
theorem spec_in (a lo hi : Int) : spec_l1In.f a lo hi = some (inB a lo hi) := by
  unfold spec_l1In.f inB
  by_cases h : a ≥ lo
  · rw [if_pos h, decide_eq_true h, Bool.true_and]
  · rw [if_neg h, decide_eq_false h, Bool.false_and]
theorem impl_in_ (a lo hi : Int) : impl_in.f a lo hi = some (inB a lo hi) := spec_in a lo hi
theorem bt_list (s : ByteArray) (i : Nat) (h : i < s.data.toList.length) : bt s (i : Int) = ((s.data.toList[i]).toNat : Int) := by
  have h' : (i : Int).toNat < s.size := by simpa using h
  unfold bt
  rw [dif_pos h']
  rfl
theorem size_list (s : ByteArray) : s.data.toList.length = s.size := rfl
theorem spec_name_loop (s : ByteArray) (hb : s.size ≤ 40000000) (d : Nat) : ∀ (k i : Nat), i ≤ s.size → s.size - i = d → d < k → spec_IsName.l0 k s (i : Int) = some (inB (s.size : Int) 1 6 && (s.data.toList.drop i).all lowC) := by
  induction d with
  | zero =>
    intro k i h0 h1 h2
    obtain ⟨k, rfl⟩ : ∃ m, k = m + 1 := ⟨k - 1, by omega⟩
    simp only [spec_IsName.l0]
    rw [if_neg (by omega), spec_in, List.drop_eq_nil_of_le (by rw [size_list]; omega)]
    simp
  | succ d ih =>
    intro k i h0 h1 h2
    obtain ⟨k, rfl⟩ : ∃ m, k = m + 1 := ⟨k - 1, by omega⟩
    have hi : i < s.data.toList.length := by rw [size_list]; omega
    simp only [spec_IsName.l0]
    rw [if_pos (by omega), if_pos (by omega), bt_list s i hi, Kit.drop_get _ i hi, List.all_cons, Kit.wrap_succ i (by omega), ih k (i + 1) (by omega) (by omega) (by omega)]
    unfold lowC
    by_cases c1 : (((s.data.toList[i]).toNat : Int)) < 97
    · rw [if_pos c1, decide_eq_false (show ¬ 97 ≤ (s.data.toList[i]).toNat by omega)]
      simp
    by_cases c2 : (((s.data.toList[i]).toNat : Int)) > 122
    · rw [if_neg c1, if_pos c2, decide_eq_false (show ¬ (s.data.toList[i]).toNat ≤ 122 by omega)]
      simp
    rw [if_neg c1, if_neg c2, decide_eq_true (show 97 ≤ (s.data.toList[i]).toNat by omega), decide_eq_true (show (s.data.toList[i]).toNat ≤ 122 by omega)]
    simp
theorem impl_name_loop (s : ByteArray) (hb : s.size ≤ 40000000) (d : Nat) : ∀ (k i : Nat), i ≤ s.size → s.size - i = d → d < k → impl_isName.l0 k s (s.size : Int) (i : Int) = some ((s.data.toList.drop i).all lowC) := by
  induction d with
  | zero =>
    intro k i h0 h1 h2
    obtain ⟨k, rfl⟩ : ∃ m, k = m + 1 := ⟨k - 1, by omega⟩
    simp only [impl_isName.l0]
    rw [if_neg (by omega), List.drop_eq_nil_of_le (by rw [size_list]; omega)]
    simp
  | succ d ih =>
    intro k i h0 h1 h2
    obtain ⟨k, rfl⟩ : ∃ m, k = m + 1 := ⟨k - 1, by omega⟩
    have hi : i < s.data.toList.length := by rw [size_list]; omega
    simp only [impl_isName.l0]
    rw [if_pos (by omega), if_pos (by omega), if_pos (by omega), bt_list s i hi, Kit.drop_get _ i hi, List.all_cons, Kit.wrap_succ i (by omega), ih k (i + 1) (by omega) (by omega) (by omega)]
    unfold lowC
    by_cases c1 : (((s.data.toList[i]).toNat : Int)) < 97
    · rw [if_pos c1, decide_eq_false (show ¬ 97 ≤ (s.data.toList[i]).toNat by omega)]
      simp
    by_cases c2 : (((s.data.toList[i]).toNat : Int)) > 122
    · rw [if_neg c1, if_pos c2, decide_eq_false (show ¬ (s.data.toList[i]).toNat ≤ 122 by omega)]
      simp
    rw [if_neg c1, if_neg c2, decide_eq_true (show 97 ≤ (s.data.toList[i]).toNat by omega), decide_eq_true (show (s.data.toList[i]).toNat ≤ 122 by omega)]
    simp
theorem spec_name (s : ByteArray) (hb : s.size ≤ 40000000) (k : Nat) (hk : s.size < k) : spec_IsName.f k s = some (nameB s) := by
  have := spec_name_loop s hb s.size k 0 (by omega) (by omega) hk
  simpa [spec_IsName.f, nameB] using this
theorem impl_name (s : ByteArray) (hb : s.size ≤ 40000000) (k : Nat) (hk : s.size < k) : impl_isName.f k s = some (nameB s) := by
  have := impl_name_loop s hb s.size k 0 (by omega) (by omega) hk
  unfold impl_isName.f nameB
  rw [impl_in_]
  simp only [Option.bind_some]
  cases inB (s.size : Int) 1 6
  · simp
  · simpa using this
def regB (a : Int) : Bool := inB a 0 7
def pairB (c d : Int) : Bool := if c = -1 then d == -1 else regB c && (d == -1 || regB d)
def emptyB (s : ByteArray) : Bool := s.toList == ([] : List UInt8)
def instrB (op a b c d : Int) (s : ByteArray) : Bool :=
  if op = 1 then (c == 0 && (d == 0 && emptyB s)) && (regB a && inB b 0 999999)
  else if op = 2 then (c == 0 && (d == 0 && emptyB s)) && (regB a && inB b 0 1)
  else if op = 3 then (c == 0 && (d == 0 && emptyB s)) && (regB a && inB b 0 2)
  else if op = 4 ∨ op = 10 then (c == 0 && (d == 0 && emptyB s)) && (regB a && b == 0)
  else if op = 5 then (d == 0 && emptyB s) && (regB a && (regB b && regB c))
  else if op = 6 then regB a && (regB b && (pairB c d && nameB s))
  else if op = 7 then regB a && (b == 0 && (pairB c d && nameB s))
  else if op = 8 then (c == 0 && (d == 0 && emptyB s)) && (inB a 0 2 && regB b)
  else if op = 9 then (c == 0 && (d == 0 && emptyB s)) && (regB a && inB b 1 12)
  else false
theorem iteS (p x : Bool) : (if p = true then some x else some false) = some (p && x) := by cases p <;> rfl
theorem iteZ (a : Int) (x : Bool) : (if a = 0 then some x else some false) = some (a == 0 && x) := by
  by_cases h : a = 0
  · simp [h]
  · rw [if_neg h, beq_eq_false_iff_ne.mpr h, Bool.false_and]
theorem spec_reg (a : Int) : spec_IsReg.f a = some (regB a) := by
  unfold spec_IsReg.f regB
  rw [spec_in]
  rfl
theorem impl_reg (a : Int) : impl_isReg.f a = some (regB a) := by
  unfold impl_isReg.f regB
  rw [impl_in_]
  rfl
theorem reg_neg : regB (-1) = false := by decide
theorem spec_two (op a b c d : Int) (s : ByteArray) : spec_l5Two.f op a b c d s = some (pairB c d) := by
  unfold spec_l5Two.f pairB
  simp only [spec_reg, Option.bind_some, iteS]
  by_cases h1 : c = -1 <;> by_cases h2 : d = -1
  · simp [h1, h2]
  · simp [h1, h2, reg_neg]
  · simp [h1, h2]
    cases regB c <;> rfl
  · have e2 : (d == -1) = false := beq_eq_false_iff_ne.mpr h2
    simp [h1, h2, e2, iteS]
theorem impl_pair (c d : Int) : impl_pairOk.f c d = some (pairB c d) := by
  unfold impl_pairOk.f pairB
  simp only [impl_reg, Option.bind_some, iteS]
  by_cases h1 : c = -1 <;> by_cases h2 : d = -1
  · simp [h1, h2, reg_neg]
  · simp [h1, h2, reg_neg]
  · simp [h1, h2, reg_neg]
    cases regB c <;> rfl
  · have e2 : (d == -1) = false := beq_eq_false_iff_ne.mpr h2
    simp [h1, h2, reg_neg, e2]
    cases regB c <;> cases regB d <;> rfl
theorem spec_instr (op a b c d : Int) (s : ByteArray) (hs : s.size ≤ 40000000) (k : Nat) (hk : s.size + 2 < k) : spec_IsInstr.f k op a b c d s = some (instrB op a b c d s) := by
  obtain ⟨k, rfl⟩ : ∃ m, k = m + 1 + 1 := ⟨k - 2, by omega⟩
  have e : spec_IsInstr.f (k + 1 + 1) op a b c d s = spec_IsInstr.j0 (k + 1 + 1) (c == 0 && (d == 0 && emptyB s)) op a b c d s := by
    unfold spec_IsInstr.f emptyB
    by_cases h1 : c = 0
    · by_cases h2 : d = 0
      · rw [if_pos h1, if_pos h2, beq_iff_eq.mpr h1, beq_iff_eq.mpr h2, Bool.true_and, Bool.true_and]
      · rw [if_pos h1, if_neg h2, beq_eq_false_iff_ne.mpr h2, Bool.false_and, Bool.and_false]
    · rw [if_neg h1, beq_eq_false_iff_ne.mpr h1, Bool.false_and]
  rw [e]
  have hn := spec_name s hs k (by omega)
  simp only [spec_IsInstr.j0, spec_IsInstr.j1, spec_reg, spec_in, spec_two, hn, Option.bind_some, iteS, iteZ]
  unfold instrB
  rw [show (s.toList == ([] : List UInt8)) = emptyB s from rfl]
  generalize hp : (c == 0 && (d == 0 && emptyB s)) = p
  by_cases h1 : op = 1
  · simp only [h1, if_true, iteS]
  by_cases h2 : op = 2
  · simp only [h2, if_true, iteS]
    simp
  by_cases h3 : op = 3
  · simp only [h3, if_true, iteS]
    simp
  by_cases h4 : op = 4
  · simp [h4] <;> cases p <;> simp
  by_cases h10 : op = 10
  · simp [h10] <;> cases p <;> simp
  by_cases h5 : op = 5
  · simp [h5] <;> cases regB a <;> cases regB b <;> cases regB c <;> cases (d == 0) <;> cases emptyB s <;> rfl
  by_cases h6 : op = 6
  · simp [h6]
  by_cases h7 : op = 7
  · simp [h7]
  by_cases h8 : op = 8
  · simp [h8] <;> cases p <;> simp
  by_cases h9 : op = 9
  · simp [h9] <;> cases p <;> simp
  simp [h1, h2, h3, h4, h5, h6, h7, h8, h9, h10]
theorem impl_instr (op a b c d : Int) (s : ByteArray) (hs : s.size ≤ 40000000) (k : Nat) (hk : s.size + 2 < k) : impl_isInstr.f k op a b c d s = some (instrB op a b c d s) := by
  obtain ⟨k, rfl⟩ : ∃ m, k = m + 1 := ⟨k - 1, by omega⟩
  have hn := impl_name s hs k (by omega)
  unfold impl_isInstr.f
  simp only [impl_isInstr.j0, impl_reg, impl_in_, impl_pair, hn, Option.bind_some, iteS, iteZ]
  unfold instrB
  rw [show (s.toList == ([] : List UInt8)) = emptyB s from rfl]
  by_cases h1 : op = 1
  · simp only [h1, if_true, iteS]
  by_cases h2 : op = 2
  · simp only [h2, if_true, iteS]
    simp
  by_cases h3 : op = 3
  · simp only [h3, if_true, iteS]
    simp
  by_cases h4 : op = 4
  · simp [h4] <;> cases regB a <;> cases (b == 0) <;> cases (c == 0) <;> cases (d == 0) <;> cases emptyB s <;> rfl
  by_cases h10 : op = 10
  · simp [h10] <;> cases regB a <;> cases (b == 0) <;> cases (c == 0) <;> cases (d == 0) <;> cases emptyB s <;> rfl
  by_cases h5 : op = 5
  · simp [h5]
  by_cases h6 : op = 6
  · simp [h6]
  by_cases h7 : op = 7
  · simp [h7]
  by_cases h8 : op = 8
  · simp [h8]
  by_cases h9 : op = 9
  · simp [h9]
  simp [h1, h2, h3, h4, h5, h6, h7, h8, h9, h10]
theorem J_one (a : ByteArray) : strings_Join.J [a] = a := by
  apply ByteArray.ext
  apply Array.ext'
  simp [strings_Join.J, Go.Lib.join, List.intercalate]
theorem J_cons (a b : ByteArray) (r : List ByteArray) : strings_Join.J (a :: b :: r) = a ++ ((⟨#[32]⟩ : ByteArray) ++ strings_Join.J (b :: r)) := by
  apply ByteArray.ext
  apply Array.ext'
  simp [strings_Join.J, Go.Lib.join, List.intercalate, List.intersperse]
theorem J_size (y : List ByteArray) : (Go.Lib.join (y.map (·.data.toList)) [32]).length = (strings_Join.J y).size := rfl
theorem sp_size : (⟨#[32]⟩ : ByteArray).size = 1 := rfl
theorem op_size (a : Int) : (opn a).size ≤ 100 := by
  unfold opn
  split
  · rename_i h
    obtain ⟨n, hn⟩ : ∃ n : Nat, a.toNat = n := ⟨_, rfl⟩
    rw [hn]
    have h1 : n ≤ 10 := by omega
    have : ∀ m : Fin 11, (impl_OpName.tab.getD m.val ⟨#[]⟩).size ≤ 100 := by decide +kernel
    exact this ⟨n, by omega⟩
  · decide
def fiTail (A3 A4 : ByteArray) (c d : Int) (x : ByteArray) : ByteArray :=
  if c = -1 then (if d = -1 then x else (x ++ (⟨#[32]⟩ : ByteArray)) ++ A4) else (if d = -1 then (x ++ (⟨#[32]⟩ : ByteArray)) ++ A3 else (((x ++ (⟨#[32]⟩ : ByteArray)) ++ A3) ++ (⟨#[32]⟩ : ByteArray)) ++ A4)
theorem spec_j1 (x : ByteArray) (a b c d e : Int) (s A3 A4 : ByteArray) (k : Nat) (h3 : spec_FormatInt.f k c = some A3) (h4 : spec_FormatInt.f k d = some A4) (s3 : A3.size ≤ 21) (s4 : A4.size ≤ 21) (hx : x.size ≤ 3000000) : spec_FormatInstr.j1 (k + 1) x e a b c d s = some (fiTail A3 A4 c d x) := by
  simp only [spec_FormatInstr.j1]
  rw [h3, h4]
  unfold fiTail
  simp only [Option.bind_some, ByteArray.size_append, sp_size]
  by_cases c1 : c = -1
  · rw [if_pos c1, if_pos c1]
    by_cases d1 : d = -1
    · rw [if_pos d1, if_pos d1]
    · rw [if_neg d1, if_neg d1, if_pos (by omega), if_pos (by omega)]
  · rw [if_neg c1, if_neg c1, if_pos (by omega), if_pos (by omega)]
    by_cases d1 : d = -1
    · rw [if_pos d1, if_pos d1]
    · rw [if_neg d1, if_neg d1, if_pos (by omega), if_pos (by omega)]
def fiT (o A1 A2 A3 A4 : ByteArray) (op c d : Int) (nm : ByteArray) : ByteArray :=
  if op = 4 ∨ op = 10 then o ++ ((⟨#[32]⟩ : ByteArray) ++ A1)
  else if op = 5 then (((o ++ ((⟨#[32]⟩ : ByteArray) ++ A1)) ++ ((⟨#[32]⟩ : ByteArray) ++ A2)) ++ (⟨#[32]⟩ : ByteArray)) ++ A3
  else if op = 6 then fiTail A3 A4 c d ((((o ++ ((⟨#[32]⟩ : ByteArray) ++ A1)) ++ ((⟨#[32]⟩ : ByteArray) ++ A2)) ++ (⟨#[32]⟩ : ByteArray)) ++ nm)
  else if op = 7 then fiTail A3 A4 c d (((o ++ ((⟨#[32]⟩ : ByteArray) ++ A1)) ++ (⟨#[32]⟩ : ByteArray)) ++ nm)
  else (o ++ ((⟨#[32]⟩ : ByteArray) ++ A1)) ++ ((⟨#[32]⟩ : ByteArray) ++ A2)
theorem fiT_size (o A1 A2 A3 A4 : ByteArray) (op c d : Int) (nm : ByteArray) (ho : o.size ≤ 100) (s1 : A1.size ≤ 21) (s2 : A2.size ≤ 21) (s3 : A3.size ≤ 21) (s4 : A4.size ≤ 21) (hn : nm.size ≤ 2000000) : (fiT o A1 A2 A3 A4 op c d nm).size ≤ 3000000 := by
  unfold fiT fiTail
  repeat' split
  all_goals (simp only [ByteArray.size_append, sp_size]; omega)
theorem spec_j0 (o A1 A2 A3 A4 : ByteArray) (op a b c d : Int) (nm : ByteArray) (q : Bool) (hq : q = decide (op = 4 ∨ op = 10)) (k : Nat) (h3 : spec_FormatInt.f k c = some A3) (h4 : spec_FormatInt.f k d = some A4) (h3' : spec_FormatInt.f (k + 1) c = some A3)
    (ho : o.size ≤ 100) (s1 : A1.size ≤ 21) (s2 : A2.size ≤ 21) (s3 : A3.size ≤ 21) (s4 : A4.size ≤ 21) (hn : nm.size ≤ 2000000) :
    spec_FormatInstr.j0 (k + 1 + 1) o ((⟨#[32]⟩ : ByteArray) ++ A1) ((⟨#[32]⟩ : ByteArray) ++ A2) op q op a b c d nm = some (fiT o A1 A2 A3 A4 op c d nm) := by
  simp only [spec_FormatInstr.j0]
  rw [h3']
  subst hq
  unfold fiT
  simp only [Option.bind_some]
  by_cases c4 : op = 4 ∨ op = 10
  · rw [if_pos c4, decide_eq_true c4, if_pos rfl, if_pos (by simp only [ByteArray.size_append, sp_size]; omega)]
  rw [if_neg c4, decide_eq_false c4, if_neg (by decide)]
  have g1 : o.size + ((⟨#[32]⟩ : ByteArray) ++ A1).size ≤ 9223372036854775807 := by simp only [ByteArray.size_append, sp_size]; omega
  have g2 : (o ++ ((⟨#[32]⟩ : ByteArray) ++ A1)).size + ((⟨#[32]⟩ : ByteArray) ++ A2).size ≤ 9223372036854775807 := by simp only [ByteArray.size_append, sp_size]; omega
  have g3 : ((o ++ ((⟨#[32]⟩ : ByteArray) ++ A1)) ++ ((⟨#[32]⟩ : ByteArray) ++ A2)).size + 1 ≤ 9223372036854775807 := by simp only [ByteArray.size_append, sp_size]; omega
  by_cases c5 : op = 5
  · rw [if_pos c5, if_pos c5, if_pos g1, if_pos g2, if_pos g3, if_pos (by simp only [ByteArray.size_append, sp_size]; omega)]
  rw [if_neg c5, if_neg c5]
  by_cases c6 : op = 6
  · rw [if_pos c6, if_pos c6, if_pos g1, if_pos g2, if_pos g3, if_pos (by simp only [ByteArray.size_append, sp_size]; omega)]
    exact spec_j1 _ a b c d op nm A3 A4 k h3 h4 s3 s4 (by simp only [ByteArray.size_append, sp_size]; omega)
  rw [if_neg c6, if_neg c6]
  by_cases c7 : op = 7
  · rw [if_pos c7, if_pos c7, if_pos g1, if_pos (by simp only [ByteArray.size_append, sp_size]; omega), if_pos (by simp only [ByteArray.size_append, sp_size]; omega)]
    exact spec_j1 _ a b c d op nm A3 A4 k h3 h4 s3 s4 (by simp only [ByteArray.size_append, sp_size]; omega)
  rw [if_neg c7, if_neg c7, if_pos g1, if_pos g2]
theorem J_W (o : ByteArray) (op a b c d : Int) (nm : ByteArray) : strings_Join.J (impl_formatInstr.W o op a b c d nm) = fiT o (ba (Go.Lib.itoa a)) (ba (Go.Lib.itoa b)) (ba (Go.Lib.itoa c)) (ba (Go.Lib.itoa d)) op c d nm := by
  have e : ∀ n, impl_formatInstr_1.S n = ba (Go.Lib.itoa n) := fun _ => rfl
  unfold impl_formatInstr.W fiT fiTail impl_some.L
  simp only [List.filter_cons, List.filter_nil]
  by_cases c4 : op = 4 ∨ op = 10
  · rw [if_pos c4, if_pos c4]
    simp only [List.map_cons, List.map_nil, List.cons_append, List.nil_append, J_one, J_cons, e]
  rw [if_neg c4, if_neg c4]
  by_cases c5 : op = 5
  · rw [if_pos c5, if_pos c5]
    simp only [List.map_cons, List.map_nil, List.cons_append, List.nil_append, J_one, J_cons, e, ByteArray.append_assoc]
  rw [if_neg c5, if_neg c5]
  by_cases c6 : op = 6
  · rw [if_pos c6, if_pos c6]
    by_cases c1 : c = -1 <;> by_cases d1 : d = -1 <;> simp [c1, d1, J_one, J_cons, e, ByteArray.append_assoc]
  rw [if_neg c6, if_neg c6]
  by_cases c7 : op = 7
  · rw [if_pos c7, if_pos c7]
    by_cases c1 : c = -1 <;> by_cases d1 : d = -1 <;> simp [c1, d1, J_one, J_cons, e, ByteArray.append_assoc]
  rw [if_neg c7, if_neg c7]
  simp only [List.map_cons, List.map_nil, List.cons_append, List.nil_append, J_one, J_cons, e, ByteArray.append_assoc]
theorem itoa_size (n : Int) (h0 : -9223372036854775808 ≤ n) (h1 : n ≤ 9223372036854775807) : (ba (Go.Lib.itoa n)).size ≤ 21 := Go.Lib.itoa_length_le n h0 h1
def fiV (op a b c d : Int) (nm : ByteArray) : ByteArray := if instrB op a b c d nm = true then fiT (opn op) (ba (Go.Lib.itoa a)) (ba (Go.Lib.itoa b)) (ba (Go.Lib.itoa c)) (ba (Go.Lib.itoa d)) op c d nm else ⟨#[]⟩
theorem spec_fi (op a b c d : Int) (nm : ByteArray) (a0 : -9223372036854775808 ≤ a) (a1 : a ≤ 9223372036854775807) (b0 : -9223372036854775808 ≤ b) (b1 : b ≤ 9223372036854775807) (c0 : -9223372036854775808 ≤ c) (c1 : c ≤ 9223372036854775807) (d0 : -9223372036854775808 ≤ d) (d1 : d ≤ 9223372036854775807)
    (hn : nm.size ≤ 2000000) (k : Nat) (hk : nm.size + 40 < k) : spec_FormatInstr.f k op a b c d nm = some (fiV op a b c d nm) := by
  obtain ⟨k, rfl⟩ : ∃ m, k = m + 1 + 1 := ⟨k - 2, by omega⟩
  have f1 := spec_fmt a a0 a1
  have f2 := spec_fmt b b0 b1
  have f3 := spec_fmt c c0 c1
  have f4 := spec_fmt d d0 d1
  have s1 := itoa_size a a0 a1
  have s2 := itoa_size b b0 b1
  have s3 := itoa_size c c0 c1
  have s4 := itoa_size d d0 d1
  have so := op_size op
  unfold spec_FormatInstr.f fiV
  rw [spec_instr op a b c d nm (by omega) _ (by omega)]
  simp only [Option.bind_some]
  cases hv : instrB op a b c d nm
  · rw [if_neg (by decide), if_neg (by decide)]
  · rw [if_pos rfl, if_pos rfl, spec_op, f1 _ (by omega)]
    simp only [Option.bind_some]
    rw [if_pos (by omega), f2 _ (by omega)]
    simp only [Option.bind_some]
    rw [if_pos (by omega)]
    by_cases c4 : op = 4
    · rw [if_pos c4]
      exact spec_j0 _ _ _ _ _ op a b c d nm _ (by rw [c4]; rfl) k (f3 _ (by omega)) (f4 _ (by omega)) (f3 _ (by omega)) so s1 s2 s3 s4 hn
    · rw [if_neg c4]
      refine spec_j0 _ _ _ _ _ op a b c d nm _ ?_ k (f3 _ (by omega)) (f4 _ (by omega)) (f3 _ (by omega)) so s1 s2 s3 s4 hn
      by_cases c10 : op = 10
      · rw [c10]; rfl
      · rw [decide_eq_false (by omega)]
        exact beq_eq_false_iff_ne.mpr c10
theorem impl_fi (op a b c d : Int) (nm : ByteArray) (a0 : -9223372036854775808 ≤ a) (a1 : a ≤ 9223372036854775807) (b0 : -9223372036854775808 ≤ b) (b1 : b ≤ 9223372036854775807) (c0 : -9223372036854775808 ≤ c) (c1 : c ≤ 9223372036854775807) (d0 : -9223372036854775808 ≤ d) (d1 : d ≤ 9223372036854775807)
    (hn : nm.size ≤ 2000000) (k : Nat) (hk : nm.size + 40 < k) : impl_FormatInstr.f k op a b c d nm = some (fiV op a b c d nm) := by
  unfold impl_FormatInstr.f fiV
  rw [impl_instr op a b c d nm (by omega) _ (by omega)]
  simp only [Option.bind_some]
  cases hv : instrB op a b c d nm
  · rw [if_neg (by decide), if_neg (by decide)]
  · rw [if_pos rfl, if_pos rfl]
    unfold impl_formatInstr.f
    rw [impl_op]
    simp only [Option.bind_some]
    rw [J_size, J_W, if_pos]
    · simp only [Option.bind_some]
    · refine ⟨?_, ?_⟩
      · intro x hx
        simp only [List.mem_cons, List.not_mem_nil, or_false] at hx
        rcases hx with rfl | rfl | rfl | rfl
        · exact ⟨a0, a1⟩
        · exact ⟨b0, b1⟩
        · exact ⟨c0, c1⟩
        · exact ⟨d0, d1⟩
      · have := fiT_size (opn op) _ _ _ _ op c d nm (op_size op) (itoa_size a a0 a1) (itoa_size b b0 b1) (itoa_size c c0 c1) (itoa_size d d0 d1) hn
        omega
theorem FnExactFormatInstr : OpFnExactFormatInstr.Pure := by
  intro y0 hg
  have hz : y0.f5.size ≤ maxLen := hg.2.2.2.2.2
  simp only [maxLen] at hz
  have e0 : wrap64 (1048576 - (y0.f5.size : Int)) = 1048576 - (y0.f5.size : Int) := Kit.wrap_id _ (by omega) (by omega)
  by_cases c : 1048576 - (y0.f5.size : Int) < 0
  · refine ⟨0, ?_⟩
    unfold laws_FnExactFormatInstr.f laws_szInstr.f
    rw [e0, if_pos c]
    rfl
  · refine ⟨1048700, ?_⟩
    have w1 := wf_i64 hg.2.1
    have w2 := wf_i64 hg.2.2.1
    have w3 := wf_i64 hg.2.2.2.1
    have w4 := wf_i64 hg.2.2.2.2.1
    unfold laws_FnExactFormatInstr.f laws_szInstr.f laws_toInstr.f
    rw [e0, if_neg c]
    simp only [Option.bind_some]
    rw [if_neg c, spec_fi _ _ _ _ _ _ w1.1 w1.2 w2.1 w2.2 w3.1 w3.2 w4.1 w4.2 (by omega) _ (by omega)]
    simp only [Option.bind_some]
    rw [impl_fi _ _ _ _ _ _ w1.1 w1.2 w2.1 w2.2 w3.1 w3.2 w4.1 w4.2 (by omega) _ (by omega)]
    simp only [Option.bind_some]
    rw [if_pos trivial]

end Go.Proofs.YtmipaoobkjppdaaDoor.Pure
