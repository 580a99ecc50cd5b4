/- ParseInstr: the program's reading of an instruction against the reference's -/
import Derived.Test.YtmipaoobkjppdaaDoorOpFnExactParseInstr
import Derived.Lib.ItoaLen
import Derived.Lib.AtoiTie
import Derived.Lib.ItoaMem
import Derived.Test.YtmipaoobkjppdaaDoorKit2
import Derived.Test.YtmipaoobkjppdaaDoorKit
set_option linter.unusedVariables false
set_option linter.unusedSimpArgs false
namespace Go.Proofs.YtmipaoobkjppdaaDoor.Pure
open Go.RowKit Go.Proofs.YtmipaoobkjppdaaDoor.QFnExactParseInstr Go.Proofs.YtmipaoobkjppdaaDoorW.PrintWords Go.Proofs.YtmipaoobkjppdaaDoorW.PrintLast Go.Proofs.YtmipaoobkjppdaaDoor.OpFnExactParseInstr

theorem wf_u8 {x : Int} (h : (Lit.int .u8 x).wf = true) : 0 ≤ x ∧ x < 256 := by
  simp [Lit.wf, IntKind.min, IntKind.max, IntKind.signed, IntKind.bits] at h
  omega
theorem wf_i64 {x : Int} (h : (Lit.int .i64 x).wf = true) : -9223372036854775808 ≤ x ∧ x ≤ 9223372036854775807 := by
  simp [Lit.wf, IntKind.min, IntKind.max, IntKind.signed, IntKind.bits] at h
  omega
def ba (l : List UInt8) : ByteArray := ⟨l.toArray⟩
theorem ba_append (l m : List UInt8) : ba l ++ ba m = ba (l ++ m) := by
  apply Kit.bytes_inj.1
  rw [Go.ByteArray.toList_eq, Go.ByteArray.toList_eq]
  simp [ba]
theorem ba_size (l : List UInt8) : (ba l).size = l.length := rfl
def dig (u : Nat) : List UInt8 := if u = 0 then [] else Go.Lib.decDigits u
theorem dig_step (u : Nat) (h : u ≠ 0) : dig u = dig (u / 10) ++ [UInt8.ofNat (48 + u % 10)] := by
  unfold dig
  rw [if_neg h, Go.Lib.decDigits]
  by_cases c : u < 10
  · rw [dif_pos c, if_pos (by omega), Nat.mod_eq_of_lt c]
    rfl
  · rw [dif_neg c, if_neg (by omega)]
def sgn (n : Int) (l : List UInt8) : List UInt8 := if n < 0 then 45 :: l else l
theorem str_one (m : Nat) (h : m < 10) : strOfNums [((48 + m : Nat) : Int)] = ba [UInt8.ofNat (48 + m)] := by
  unfold strOfNums ba
  simp only [List.map_cons, List.map_nil, Int.toNat_natCast]
theorem itoa_zero : Go.Lib.itoa 0 = [48] := by
  unfold Go.Lib.itoa
  rw [if_neg (by decide), Go.Lib.decDigits, dif_pos (by decide)]
  rfl
theorem fmt_l0 (n : Int) : ∀ (d k u : Nat) (x : Int) (l : List UInt8), (x = (u : Int) ∨ x = -(u : Int)) → u < 10 ^ d → u ≤ 9223372036854775808 → l.length + d ≤ 100 → d < k → spec_FormatInt.l0 k n (ba l) x = some (ba (sgn n (dig u ++ l)))
  | 0, k, u, x, l, hx, h1, h2, h3, h4 => by
    obtain ⟨k, rfl⟩ : ∃ m, k = m + 1 := ⟨k - 1, by omega⟩
    have hu : u = 0 := by simpa using h1
    subst hu
    have hx0 : x = 0 := by omega
    subst hx0
    simp only [spec_FormatInt.l0]
    rw [if_pos trivial, ba_size]
    unfold sgn dig
    by_cases c : n < 0
    · rw [if_pos c, if_pos (by omega), if_pos c]
      exact congrArg some (ba_append [45] l)
    · rw [if_neg c, if_neg c]
      rfl
  | d + 1, k, u, x, l, hx, h1, h2, h3, h4 => by
    obtain ⟨k, rfl⟩ : ∃ m, k = m + 1 := ⟨k - 1, by omega⟩
    by_cases h0 : u = 0
    · subst h0
      have hx0 : x = 0 := by omega
      subst hx0
      simp only [spec_FormatInt.l0]
      rw [if_pos trivial, ba_size]
      unfold sgn dig
      by_cases c : n < 0
      · rw [if_pos c, if_pos (by omega), if_pos c]
        exact congrArg some (ba_append [45] l)
      · rw [if_neg c, if_neg c]
        rfl
    · have hp : u / 10 < 10 ^ d := by
        rw [Nat.pow_succ] at h1
        omega
      have hm : u % 10 < 10 := Nat.mod_lt _ (by decide)
      have hs : (strOfNums [((48 + u % 10 : Nat) : Int)]).size + (ba l).size ≤ 9223372036854775807 := by
        rw [str_one _ hm, ba_size, ba_size]
        simp
        omega
      have fin : ∀ q : Int, (q = ((u / 10 : Nat) : Int) ∨ q = -((u / 10 : Nat) : Int)) → spec_FormatInt.l0 k n ((strOfNums [((48 + u % 10 : Nat) : Int)]) ++ ba l) (wrap64 q) = some (ba (sgn n (dig u ++ l))) := by
        intro q hq
        rw [Kit.wrap_id q (by omega) (by omega), str_one _ hm, ba_append, fmt_l0 n d k (u / 10) q _ hq hp (by omega) (by simp; omega) (by omega), dig_step u h0]
        simp
      simp only [spec_FormatInt.l0]
      rw [if_neg (show ¬ x = 0 by omega)]
      rcases hx with hx | hx
      · have e1 : Int.tmod x 10 = ((u % 10 : Nat) : Int) := by rw [hx]; rfl
        have e2 : Int.tdiv x 10 = ((u / 10 : Nat) : Int) := by rw [hx]; rfl
        rw [e1, e2, if_neg (by omega)]
        have e3 : (wrap64 (48 + ((u % 10 : Nat) : Int))) % 256 = ((48 + u % 10 : Nat) : Int) := by
          rw [Kit.wrap_id _ (by omega) (by omega)]
          omega
        rw [e3]
        simp only [Option.bind_some]
        rw [if_pos hs]
        exact fin _ (.inl rfl)
      · have e1 : Int.tmod x 10 = -((u % 10 : Nat) : Int) := by rw [hx, Int.neg_tmod]; rfl
        have e2 : Int.tdiv x 10 = -((u / 10 : Nat) : Int) := by rw [hx, Int.neg_tdiv]; rfl
        rw [e1, e2]
        by_cases c : -((u % 10 : Nat) : Int) < 0
        · rw [if_pos c]
          have e3 : (wrap64 (48 + (wrap64 (- -((u % 10 : Nat) : Int))))) % 256 = ((48 + u % 10 : Nat) : Int) := by
            rw [Int.neg_neg, Kit.wrap_id ((u % 10 : Nat) : Int) (by omega) (by omega), Kit.wrap_id _ (by omega) (by omega)]
            omega
          rw [e3]
          simp only [Option.bind_some]
          rw [if_pos hs]
          exact fin _ (.inr rfl)
        · rw [if_neg c]
          have e3 : (wrap64 (48 + -((u % 10 : Nat) : Int))) % 256 = ((48 + u % 10 : Nat) : Int) := by
            rw [Kit.wrap_id _ (by omega) (by omega)]
            omega
          rw [e3]
          simp only [Option.bind_some]
          rw [if_pos hs]
          exact fin _ (.inr rfl)
theorem spec_fmt (n : Int) (h0 : -9223372036854775808 ≤ n) (h1 : n ≤ 9223372036854775807) (k : Nat) (hk : 30 < k) : spec_FormatInt.f k n = some (ba (Go.Lib.itoa n)) := by
  unfold spec_FormatInt.f
  by_cases c : n = 0
  · rw [if_pos c, c, itoa_zero]
    rfl
  · rw [if_neg c]
    have := fmt_l0 n 20 k n.natAbs n [] (by omega) (by omega) (by omega) (by simp) (by omega)
    refine this.trans ?_
    unfold sgn Go.Lib.itoa dig
    rw [List.append_nil]
    by_cases c0 : n < 0
    · rw [if_pos c0, if_pos c0, if_neg (show ¬ n.natAbs = 0 by omega)]
    · rw [if_neg c0, if_neg c0, if_neg (show ¬ n.natAbs = 0 by omega), show n.natAbs = n.toNat by omega]
theorem impl_fmt (n : Int) (h0 : -9223372036854775808 ≤ n) (h1 : n ≤ 9223372036854775807) : impl_FormatInt.f n = some (ba (Go.Lib.itoa n)) := by
  unfold impl_FormatInt.f strconv_Itoa.f
  rw [if_pos h0, if_pos h1]
  rfl
def opn (a : Int) : ByteArray := if 1 ≤ a ∧ a ≤ 10 then impl_OpName.tab.getD a.toNat ⟨#[]⟩ else ⟨#[]⟩
theorem impl_op (a : Int) : impl_OpName.f a = some (opn a) := by
  unfold impl_OpName.f opn
  split <;> rfl
theorem spec_op (a : Int) : spec_OpName.f a = some (opn a) := by
  unfold spec_OpName.f opn spec_l1In.f
  by_cases c : 1 ≤ a ∧ a ≤ 10
  · rw [if_pos (show a ≥ 1 from c.1), decide_eq_true c.2, if_pos c]
    simp only [Option.bind_some]
    rw [if_pos trivial, if_pos (by omega), if_pos (by simp; omega)]
    rfl
  · rw [if_neg c]
    by_cases c1 : a ≥ 1
    · rw [if_pos c1, decide_eq_false (fun h => c ⟨c1, h⟩)]
      simp only [Option.bind_some]
      rw [if_neg (by simp)]
    · rw [if_neg c1]
      simp only [Option.bind_some]
      rw [if_neg (by simp)]
def inB (a lo hi : Int) : Bool := decide (lo ≤ a) && decide (a ≤ hi)
def lowC (c : UInt8) : Bool := decide (97 ≤ c.toNat) && decide (c.toNat ≤ 122)
def nameB (s : ByteArray) : Bool := inB (s.size : Int) 1 6 && s.data.toList.all lowC
theorem spec_in (a lo hi : Int) : spec_l1In.f a lo hi = some (inB a lo hi) := by
  unfold spec_l1In.f inB
  by_cases h : a ≥ lo
  · rw [if_pos h, decide_eq_true h, Bool.true_and]
  · rw [if_neg h, decide_eq_false h, Bool.false_and]
theorem impl_in_ (a lo hi : Int) : impl_in.f a lo hi = some (inB a lo hi) := spec_in a lo hi
theorem bt_list (s : ByteArray) (i : Nat) (h : i < s.data.toList.length) : bt s (i : Int) = ((s.data.toList[i]).toNat : Int) := by
  have h' : (i : Int).toNat < s.size := by simpa using h
  unfold bt
  rw [dif_pos h']
  rfl
theorem size_list (s : ByteArray) : s.data.toList.length = s.size := rfl
theorem spec_name_loop (s : ByteArray) (hb : s.size ≤ 40000000) (d : Nat) : ∀ (k i : Nat), i ≤ s.size → s.size - i = d → d < k → spec_IsName.l0 k s (i : Int) = some (inB (s.size : Int) 1 6 && (s.data.toList.drop i).all lowC) := by
  induction d with
  | zero =>
    intro k i h0 h1 h2
    obtain ⟨k, rfl⟩ : ∃ m, k = m + 1 := ⟨k - 1, by omega⟩
    simp only [spec_IsName.l0]
    rw [if_neg (by omega), spec_in, List.drop_eq_nil_of_le (by rw [size_list]; omega)]
    simp
  | succ d ih =>
    intro k i h0 h1 h2
    obtain ⟨k, rfl⟩ : ∃ m, k = m + 1 := ⟨k - 1, by omega⟩
    have hi : i < s.data.toList.length := by rw [size_list]; omega
    simp only [spec_IsName.l0]
    rw [if_pos (by omega), if_pos (by omega), bt_list s i hi, Kit.drop_get _ i hi, List.all_cons, Kit.wrap_succ i (by omega), ih k (i + 1) (by omega) (by omega) (by omega)]
    unfold lowC
    by_cases c1 : (((s.data.toList[i]).toNat : Int)) < 97
    · rw [if_pos c1, decide_eq_false (show ¬ 97 ≤ (s.data.toList[i]).toNat by omega)]
      simp
    by_cases c2 : (((s.data.toList[i]).toNat : Int)) > 122
    · rw [if_neg c1, if_pos c2, decide_eq_false (show ¬ (s.data.toList[i]).toNat ≤ 122 by omega)]
      simp
    rw [if_neg c1, if_neg c2, decide_eq_true (show 97 ≤ (s.data.toList[i]).toNat by omega), decide_eq_true (show (s.data.toList[i]).toNat ≤ 122 by omega)]
    simp
theorem impl_name_loop (s : ByteArray) (hb : s.size ≤ 40000000) (d : Nat) : ∀ (k i : Nat), i ≤ s.size → s.size - i = d → d < k → impl_isName.l0 k s (s.size : Int) (i : Int) = some ((s.data.toList.drop i).all lowC) := by
  induction d with
  | zero =>
    intro k i h0 h1 h2
    obtain ⟨k, rfl⟩ : ∃ m, k = m + 1 := ⟨k - 1, by omega⟩
    simp only [impl_isName.l0]
    rw [if_neg (by omega), List.drop_eq_nil_of_le (by rw [size_list]; omega)]
    simp
  | succ d ih =>
    intro k i h0 h1 h2
    obtain ⟨k, rfl⟩ : ∃ m, k = m + 1 := ⟨k - 1, by omega⟩
    have hi : i < s.data.toList.length := by rw [size_list]; omega
    simp only [impl_isName.l0]
    rw [if_pos (by omega), if_pos (by omega), if_pos (by omega), bt_list s i hi, Kit.drop_get _ i hi, List.all_cons, Kit.wrap_succ i (by omega), ih k (i + 1) (by omega) (by omega) (by omega)]
    unfold lowC
    by_cases c1 : (((s.data.toList[i]).toNat : Int)) < 97
    · rw [if_pos c1, decide_eq_false (show ¬ 97 ≤ (s.data.toList[i]).toNat by omega)]
      simp
    by_cases c2 : (((s.data.toList[i]).toNat : Int)) > 122
    · rw [if_neg c1, if_pos c2, decide_eq_false (show ¬ (s.data.toList[i]).toNat ≤ 122 by omega)]
      simp
    rw [if_neg c1, if_neg c2, decide_eq_true (show 97 ≤ (s.data.toList[i]).toNat by omega), decide_eq_true (show (s.data.toList[i]).toNat ≤ 122 by omega)]
    simp
theorem spec_name (s : ByteArray) (hb : s.size ≤ 40000000) (k : Nat) (hk : s.size < k) : spec_IsName.f k s = some (nameB s) := by
  have := spec_name_loop s hb s.size k 0 (by omega) (by omega) hk
  simpa [spec_IsName.f, nameB] using this
theorem impl_name (s : ByteArray) (hb : s.size ≤ 40000000) (k : Nat) (hk : s.size < k) : impl_isName.f k s = some (nameB s) := by
  have := impl_name_loop s hb s.size k 0 (by omega) (by omega) hk
  unfold impl_isName.f nameB
  rw [impl_in_]
  simp only [Option.bind_some]
  cases inB (s.size : Int) 1 6
  · simp
  · simpa using this
def regB (a : Int) : Bool := inB a 0 7
def pairB (c d : Int) : Bool := if c = -1 then d == -1 else regB c && (d == -1 || regB d)
def emptyB (s : ByteArray) : Bool := s.toList == ([] : List UInt8)
def instrB (op a b c d : Int) (s : ByteArray) : Bool :=
  if op = 1 then (c == 0 && (d == 0 && emptyB s)) && (regB a && inB b 0 999999)
  else if op = 2 then (c == 0 && (d == 0 && emptyB s)) && (regB a && inB b 0 1)
  else if op = 3 then (c == 0 && (d == 0 && emptyB s)) && (regB a && inB b 0 2)
  else if op = 4 ∨ op = 10 then (c == 0 && (d == 0 && emptyB s)) && (regB a && b == 0)
  else if op = 5 then (d == 0 && emptyB s) && (regB a && (regB b && regB c))
  else if op = 6 then regB a && (regB b && (pairB c d && nameB s))
  else if op = 7 then regB a && (b == 0 && (pairB c d && nameB s))
  else if op = 8 then (c == 0 && (d == 0 && emptyB s)) && (inB a 0 2 && regB b)
  else if op = 9 then (c == 0 && (d == 0 && emptyB s)) && (regB a && inB b 1 12)
  else false
theorem iteS (p x : Bool) : (if p = true then some x else some false) = some (p && x) := by cases p <;> rfl
theorem iteZ (a : Int) (x : Bool) : (if a = 0 then some x else some false) = some (a == 0 && x) := by
  by_cases h : a = 0
  · simp [h]
  · rw [if_neg h, beq_eq_false_iff_ne.mpr h, Bool.false_and]
theorem spec_reg (a : Int) : spec_IsReg.f a = some (regB a) := by
  unfold spec_IsReg.f regB
  rw [spec_in]
  rfl
theorem impl_reg (a : Int) : impl_isReg.f a = some (regB a) := by
  unfold impl_isReg.f regB
  rw [impl_in_]
  rfl
theorem reg_neg : regB (-1) = false := by decide
theorem spec_two (op a b c d : Int) (s : ByteArray) : spec_l5Two.f op a b c d s = some (pairB c d) := by
  unfold spec_l5Two.f pairB
  simp only [spec_reg, Option.bind_some, iteS]
  by_cases h1 : c = -1 <;> by_cases h2 : d = -1
  · simp [h1, h2]
  · simp [h1, h2, reg_neg]
  · simp [h1, h2]
    cases regB c <;> rfl
  · have e2 : (d == -1) = false := beq_eq_false_iff_ne.mpr h2
    simp [h1, h2, e2, iteS]
theorem impl_pair (c d : Int) : impl_pairOk.f c d = some (pairB c d) := by
  unfold impl_pairOk.f pairB
  simp only [impl_reg, Option.bind_some, iteS]
  by_cases h1 : c = -1 <;> by_cases h2 : d = -1
  · simp [h1, h2, reg_neg]
  · simp [h1, h2, reg_neg]
  · simp [h1, h2, reg_neg]
    cases regB c <;> rfl
  · have e2 : (d == -1) = false := beq_eq_false_iff_ne.mpr h2
    simp [h1, h2, reg_neg, e2]
    cases regB c <;> cases regB d <;> rfl
theorem spec_instr (op a b c d : Int) (s : ByteArray) (hs : s.size ≤ 40000000) (k : Nat) (hk : s.size + 2 < k) : spec_IsInstr.f k op a b c d s = some (instrB op a b c d s) := by
  obtain ⟨k, rfl⟩ : ∃ m, k = m + 1 + 1 := ⟨k - 2, by omega⟩
  have e : spec_IsInstr.f (k + 1 + 1) op a b c d s = spec_IsInstr.j0 (k + 1 + 1) (c == 0 && (d == 0 && emptyB s)) op a b c d s := by
    unfold spec_IsInstr.f emptyB
    by_cases h1 : c = 0
    · by_cases h2 : d = 0
      · rw [if_pos h1, if_pos h2, beq_iff_eq.mpr h1, beq_iff_eq.mpr h2, Bool.true_and, Bool.true_and]
      · rw [if_pos h1, if_neg h2, beq_eq_false_iff_ne.mpr h2, Bool.false_and, Bool.and_false]
    · rw [if_neg h1, beq_eq_false_iff_ne.mpr h1, Bool.false_and]
  rw [e]
  have hn := spec_name s hs k (by omega)
  simp only [spec_IsInstr.j0, spec_IsInstr.j1, spec_reg, spec_in, spec_two, hn, Option.bind_some, iteS, iteZ]
  unfold instrB
  rw [show (s.toList == ([] : List UInt8)) = emptyB s from rfl]
  generalize hp : (c == 0 && (d == 0 && emptyB s)) = p
  by_cases h1 : op = 1
  · simp only [h1, if_true, iteS]
  by_cases h2 : op = 2
  · simp only [h2, if_true, iteS]
    simp
  by_cases h3 : op = 3
  · simp only [h3, if_true, iteS]
    simp
  by_cases h4 : op = 4
  · simp [h4] <;> cases p <;> simp
  by_cases h10 : op = 10
  · simp [h10] <;> cases p <;> simp
  by_cases h5 : op = 5
  · simp [h5] <;> cases regB a <;> cases regB b <;> cases regB c <;> cases (d == 0) <;> cases emptyB s <;> rfl
  by_cases h6 : op = 6
  · simp [h6]
  by_cases h7 : op = 7
  · simp [h7]
  by_cases h8 : op = 8
  · simp [h8] <;> cases p <;> simp
  by_cases h9 : op = 9
  · simp [h9] <;> cases p <;> simp
  simp [h1, h2, h3, h4, h5, h6, h7, h8, h9, h10]
theorem impl_instr (op a b c d : Int) (s : ByteArray) (hs : s.size ≤ 40000000) (k : Nat) (hk : s.size + 2 < k) : impl_isInstr.f k op a b c d s = some (instrB op a b c d s) := by
  obtain ⟨k, rfl⟩ : ∃ m, k = m + 1 := ⟨k - 1, by omega⟩
  have hn := impl_name s hs k (by omega)
  unfold impl_isInstr.f
  simp only [impl_isInstr.j0, impl_reg, impl_in_, impl_pair, hn, Option.bind_some, iteS, iteZ]
  unfold instrB
  rw [show (s.toList == ([] : List UInt8)) = emptyB s from rfl]
  by_cases h1 : op = 1
  · simp only [h1, if_true, iteS]
  by_cases h2 : op = 2
  · simp only [h2, if_true, iteS]
    simp
  by_cases h3 : op = 3
  · simp only [h3, if_true, iteS]
    simp
  by_cases h4 : op = 4
  · simp [h4] <;> cases regB a <;> cases (b == 0) <;> cases (c == 0) <;> cases (d == 0) <;> cases emptyB s <;> rfl
  by_cases h10 : op = 10
  · simp [h10] <;> cases regB a <;> cases (b == 0) <;> cases (c == 0) <;> cases (d == 0) <;> cases emptyB s <;> rfl
  by_cases h5 : op = 5
  · simp [h5]
  by_cases h6 : op = 6
  · simp [h6]
  by_cases h7 : op = 7
  · simp [h7]
  by_cases h8 : op = 8
  · simp [h8]
  by_cases h9 : op = 9
  · simp [h9]
  simp [h1, h2, h3, h4, h5, h6, h7, h8, h9, h10]
theorem J_one (a : ByteArray) : strings_Join.J [a] = a := by
  apply ByteArray.ext
  apply Array.ext'
  simp [strings_Join.J, Go.Lib.join, List.intercalate]
theorem J_cons (a b : ByteArray) (r : List ByteArray) : strings_Join.J (a :: b :: r) = a ++ ((⟨#[32]⟩ : ByteArray) ++ strings_Join.J (b :: r)) := by
  apply ByteArray.ext
  apply Array.ext'
  simp [strings_Join.J, Go.Lib.join, List.intercalate, List.intersperse]
theorem J_size (y : List ByteArray) : (Go.Lib.join (y.map (·.data.toList)) [32]).length = (strings_Join.J y).size := rfl
theorem sp_size : (⟨#[32]⟩ : ByteArray).size = 1 := rfl
theorem op_size (a : Int) : (opn a).size ≤ 100 := by
  unfold opn
  split
  · rename_i h
    obtain ⟨n, hn⟩ : ∃ n : Nat, a.toNat = n := ⟨_, rfl⟩
    rw [hn]
    have h1 : n ≤ 10 := by omega
    have : ∀ m : Fin 11, (impl_OpName.tab.getD m.val ⟨#[]⟩).size ≤ 100 := by decide +kernel
    exact this ⟨n, by omega⟩
  · decide
def fiTail (A3 A4 : ByteArray) (c d : Int) (x : ByteArray) : ByteArray :=
  if c = -1 then (if d = -1 then x else (x ++ (⟨#[32]⟩ : ByteArray)) ++ A4) else (if d = -1 then (x ++ (⟨#[32]⟩ : ByteArray)) ++ A3 else (((x ++ (⟨#[32]⟩ : ByteArray)) ++ A3) ++ (⟨#[32]⟩ : ByteArray)) ++ A4)
theorem spec_j1 (x : ByteArray) (a b c d e : Int) (s A3 A4 : ByteArray) (k : Nat) (h3 : spec_FormatInt.f k c = some A3) (h4 : spec_FormatInt.f k d = some A4) (s3 : A3.size ≤ 21) (s4 : A4.size ≤ 21) (hx : x.size ≤ 3000000) : spec_FormatInstr.j1 (k + 1) x e a b c d s = some (fiTail A3 A4 c d x) := by
  simp only [spec_FormatInstr.j1]
  rw [h3, h4]
  unfold fiTail
  simp only [Option.bind_some, ByteArray.size_append, sp_size]
  by_cases c1 : c = -1
  · rw [if_pos c1, if_pos c1]
    by_cases d1 : d = -1
    · rw [if_pos d1, if_pos d1]
    · rw [if_neg d1, if_neg d1, if_pos (by omega), if_pos (by omega)]
  · rw [if_neg c1, if_neg c1, if_pos (by omega), if_pos (by omega)]
    by_cases d1 : d = -1
    · rw [if_pos d1, if_pos d1]
    · rw [if_neg d1, if_neg d1, if_pos (by omega), if_pos (by omega)]
def fiT (o A1 A2 A3 A4 : ByteArray) (op c d : Int) (nm : ByteArray) : ByteArray :=
  if op = 4 ∨ op = 10 then o ++ ((⟨#[32]⟩ : ByteArray) ++ A1)
  else if op = 5 then (((o ++ ((⟨#[32]⟩ : ByteArray) ++ A1)) ++ ((⟨#[32]⟩ : ByteArray) ++ A2)) ++ (⟨#[32]⟩ : ByteArray)) ++ A3
  else if op = 6 then fiTail A3 A4 c d ((((o ++ ((⟨#[32]⟩ : ByteArray) ++ A1)) ++ ((⟨#[32]⟩ : ByteArray) ++ A2)) ++ (⟨#[32]⟩ : ByteArray)) ++ nm)
  else if op = 7 then fiTail A3 A4 c d (((o ++ ((⟨#[32]⟩ : ByteArray) ++ A1)) ++ (⟨#[32]⟩ : ByteArray)) ++ nm)
  else (o ++ ((⟨#[32]⟩ : ByteArray) ++ A1)) ++ ((⟨#[32]⟩ : ByteArray) ++ A2)
theorem fiT_size (o A1 A2 A3 A4 : ByteArray) (op c d : Int) (nm : ByteArray) (ho : o.size ≤ 100) (s1 : A1.size ≤ 21) (s2 : A2.size ≤ 21) (s3 : A3.size ≤ 21) (s4 : A4.size ≤ 21) (hn : nm.size ≤ 2000000) : (fiT o A1 A2 A3 A4 op c d nm).size ≤ 3000000 := by
  unfold fiT fiTail
  repeat' split
  all_goals (simp only [ByteArray.size_append, sp_size]; omega)
theorem spec_j0 (o A1 A2 A3 A4 : ByteArray) (op a b c d : Int) (nm : ByteArray) (q : Bool) (hq : q = decide (op = 4 ∨ op = 10)) (k : Nat) (h3 : spec_FormatInt.f k c = some A3) (h4 : spec_FormatInt.f k d = some A4) (h3' : spec_FormatInt.f (k + 1) c = some A3)
    (ho : o.size ≤ 100) (s1 : A1.size ≤ 21) (s2 : A2.size ≤ 21) (s3 : A3.size ≤ 21) (s4 : A4.size ≤ 21) (hn : nm.size ≤ 2000000) :
    spec_FormatInstr.j0 (k + 1 + 1) o ((⟨#[32]⟩ : ByteArray) ++ A1) ((⟨#[32]⟩ : ByteArray) ++ A2) op q op a b c d nm = some (fiT o A1 A2 A3 A4 op c d nm) := by
  simp only [spec_FormatInstr.j0]
  rw [h3']
  subst hq
  unfold fiT
  simp only [Option.bind_some]
  by_cases c4 : op = 4 ∨ op = 10
  · rw [if_pos c4, decide_eq_true c4, if_pos rfl, if_pos (by simp only [ByteArray.size_append, sp_size]; omega)]
  rw [if_neg c4, decide_eq_false c4, if_neg (by decide)]
  have g1 : o.size + ((⟨#[32]⟩ : ByteArray) ++ A1).size ≤ 9223372036854775807 := by simp only [ByteArray.size_append, sp_size]; omega
  have g2 : (o ++ ((⟨#[32]⟩ : ByteArray) ++ A1)).size + ((⟨#[32]⟩ : ByteArray) ++ A2).size ≤ 9223372036854775807 := by simp only [ByteArray.size_append, sp_size]; omega
  have g3 : ((o ++ ((⟨#[32]⟩ : ByteArray) ++ A1)) ++ ((⟨#[32]⟩ : ByteArray) ++ A2)).size + 1 ≤ 9223372036854775807 := by simp only [ByteArray.size_append, sp_size]; omega
  by_cases c5 : op = 5
  · rw [if_pos c5, if_pos c5, if_pos g1, if_pos g2, if_pos g3, if_pos (by simp only [ByteArray.size_append, sp_size]; omega)]
  rw [if_neg c5, if_neg c5]
  by_cases c6 : op = 6
  · rw [if_pos c6, if_pos c6, if_pos g1, if_pos g2, if_pos g3, if_pos (by simp only [ByteArray.size_append, sp_size]; omega)]
    exact spec_j1 _ a b c d op nm A3 A4 k h3 h4 s3 s4 (by simp only [ByteArray.size_append, sp_size]; omega)
  rw [if_neg c6, if_neg c6]
  by_cases c7 : op = 7
  · rw [if_pos c7, if_pos c7, if_pos g1, if_pos (by simp only [ByteArray.size_append, sp_size]; omega), if_pos (by simp only [ByteArray.size_append, sp_size]; omega)]
    exact spec_j1 _ a b c d op nm A3 A4 k h3 h4 s3 s4 (by simp only [ByteArray.size_append, sp_size]; omega)
  rw [if_neg c7, if_neg c7, if_pos g1, if_pos g2]
theorem J_W (o : ByteArray) (op a b c d : Int) (nm : ByteArray) : strings_Join.J (impl_formatInstr.W o op a b c d nm) = fiT o (ba (Go.Lib.itoa a)) (ba (Go.Lib.itoa b)) (ba (Go.Lib.itoa c)) (ba (Go.Lib.itoa d)) op c d nm := by
  have e : ∀ n, impl_formatInstr_1.S n = ba (Go.Lib.itoa n) := fun _ => rfl
  unfold impl_formatInstr.W fiT fiTail impl_some.L
  simp only [List.filter_cons, List.filter_nil]
  by_cases c4 : op = 4 ∨ op = 10
  · rw [if_pos c4, if_pos c4]
    simp only [List.map_cons, List.map_nil, List.cons_append, List.nil_append, J_one, J_cons, e]
  rw [if_neg c4, if_neg c4]
  by_cases c5 : op = 5
  · rw [if_pos c5, if_pos c5]
    simp only [List.map_cons, List.map_nil, List.cons_append, List.nil_append, J_one, J_cons, e, ByteArray.append_assoc]
  rw [if_neg c5, if_neg c5]
  by_cases c6 : op = 6
  · rw [if_pos c6, if_pos c6]
    by_cases c1 : c = -1 <;> by_cases d1 : d = -1 <;> simp [c1, d1, J_one, J_cons, e, ByteArray.append_assoc]
  rw [if_neg c6, if_neg c6]
  by_cases c7 : op = 7
  · rw [if_pos c7, if_pos c7]
    by_cases c1 : c = -1 <;> by_cases d1 : d = -1 <;> simp [c1, d1, J_one, J_cons, e, ByteArray.append_assoc]
  rw [if_neg c7, if_neg c7]
  simp only [List.map_cons, List.map_nil, List.cons_append, List.nil_append, J_one, J_cons, e, ByteArray.append_assoc]
theorem itoa_size (n : Int) (h0 : -9223372036854775808 ≤ n) (h1 : n ≤ 9223372036854775807) : (ba (Go.Lib.itoa n)).size ≤ 21 := Go.Lib.itoa_length_le n h0 h1
def fiV (op a b c d : Int) (nm : ByteArray) : ByteArray := if instrB op a b c d nm = true then fiT (opn op) (ba (Go.Lib.itoa a)) (ba (Go.Lib.itoa b)) (ba (Go.Lib.itoa c)) (ba (Go.Lib.itoa d)) op c d nm else ⟨#[]⟩
theorem spec_fi (op a b c d : Int) (nm : ByteArray) (a0 : -9223372036854775808 ≤ a) (a1 : a ≤ 9223372036854775807) (b0 : -9223372036854775808 ≤ b) (b1 : b ≤ 9223372036854775807) (c0 : -9223372036854775808 ≤ c) (c1 : c ≤ 9223372036854775807) (d0 : -9223372036854775808 ≤ d) (d1 : d ≤ 9223372036854775807)
    (hn : nm.size ≤ 2000000) (k : Nat) (hk : nm.size + 40 < k) : spec_FormatInstr.f k op a b c d nm = some (fiV op a b c d nm) := by
  obtain ⟨k, rfl⟩ : ∃ m, k = m + 1 + 1 := ⟨k - 2, by omega⟩
  have f1 := spec_fmt a a0 a1
  have f2 := spec_fmt b b0 b1
  have f3 := spec_fmt c c0 c1
  have f4 := spec_fmt d d0 d1
  have s1 := itoa_size a a0 a1
  have s2 := itoa_size b b0 b1
  have s3 := itoa_size c c0 c1
  have s4 := itoa_size d d0 d1
  have so := op_size op
  unfold spec_FormatInstr.f fiV
  rw [spec_instr op a b c d nm (by omega) _ (by omega)]
  simp only [Option.bind_some]
  cases hv : instrB op a b c d nm
  · rw [if_neg (by decide), if_neg (by decide)]
  · rw [if_pos rfl, if_pos rfl, spec_op, f1 _ (by omega)]
    simp only [Option.bind_some]
    rw [if_pos (by omega), f2 _ (by omega)]
    simp only [Option.bind_some]
    rw [if_pos (by omega)]
    by_cases c4 : op = 4
    · rw [if_pos c4]
      exact spec_j0 _ _ _ _ _ op a b c d nm _ (by rw [c4]; rfl) k (f3 _ (by omega)) (f4 _ (by omega)) (f3 _ (by omega)) so s1 s2 s3 s4 hn
    · rw [if_neg c4]
      refine spec_j0 _ _ _ _ _ op a b c d nm _ ?_ k (f3 _ (by omega)) (f4 _ (by omega)) (f3 _ (by omega)) so s1 s2 s3 s4 hn
      by_cases c10 : op = 10
      · rw [c10]; rfl
      · rw [decide_eq_false (by omega)]
        exact beq_eq_false_iff_ne.mpr c10
theorem impl_fi0 (op a b c d : Int) (nm : ByteArray) (hv : instrB op a b c d nm = true) (a0 : -9223372036854775808 ≤ a) (a1 : a ≤ 9223372036854775807) (b0 : -9223372036854775808 ≤ b) (b1 : b ≤ 9223372036854775807) (c0 : -9223372036854775808 ≤ c) (c1 : c ≤ 9223372036854775807) (d0 : -9223372036854775808 ≤ d) (d1 : d ≤ 9223372036854775807)
    (hn : nm.size ≤ 2000000) : impl_formatInstr.f op a b c d nm = some (fiV op a b c d nm) := by
  unfold fiV
  rw [if_pos hv]
  unfold impl_formatInstr.f
  rw [impl_op]
  simp only [Option.bind_some]
  rw [J_size, J_W, if_pos]
  refine ⟨?_, ?_⟩
  · intro x hx
    simp only [List.mem_cons, List.not_mem_nil, or_false] at hx
    rcases hx with rfl | rfl | rfl | rfl
    · exact ⟨a0, a1⟩
    · exact ⟨b0, b1⟩
    · exact ⟨c0, c1⟩
    · exact ⟨d0, d1⟩
  · have := fiT_size (opn op) _ _ _ _ op c d nm (op_size op) (itoa_size a a0 a1) (itoa_size b b0 b1) (itoa_size c c0 c1) (itoa_size d d0 d1) hn
    omega
theorem fiV_size (op a b c d : Int) (nm : ByteArray) (a0 : -9223372036854775808 ≤ a) (a1 : a ≤ 9223372036854775807) (b0 : -9223372036854775808 ≤ b) (b1 : b ≤ 9223372036854775807) (c0 : -9223372036854775808 ≤ c) (c1 : c ≤ 9223372036854775807) (d0 : -9223372036854775808 ≤ d) (d1 : d ≤ 9223372036854775807)
    (hn : nm.size ≤ 2000000) : (fiV op a b c d nm).size ≤ 3000000 := by
  unfold fiV
  split
  · exact fiT_size (opn op) _ _ _ _ op c d nm (op_size op) (itoa_size a a0 a1) (itoa_size b b0 b1) (itoa_size c c0 c1) (itoa_size d d0 d1) hn
  · decide
theorem digitVal_mk (m : Nat) (h : m < 10) : Go.Lib.digitVal (UInt8.ofNat (48 + m)) = some m := by
  have e : (UInt8.ofNat (48 + m)).toNat = 48 + m := by
    rw [UInt8.toNat_ofNat']
    omega
  unfold Go.Lib.digitVal
  rw [e, if_pos (by omega)]
  congr 1
  omega
theorem decFrom_snoc : ∀ (l : List UInt8) (acc m d : Nat) (b : UInt8), Go.Lib.decFrom acc l = some m → Go.Lib.digitVal b = some d → Go.Lib.decFrom acc (l ++ [b]) = some (m * 10 + d)
  | [], acc, m, d, b, h, hb => by
    simp only [Go.Lib.decFrom, Option.some.injEq] at h
    subst h
    simp [Go.Lib.decFrom, hb]
  | c :: r, acc, m, d, b, h, hb => by
    simp only [List.cons_append, Go.Lib.decFrom] at h ⊢
    cases hc : Go.Lib.digitVal c with
    | none =>
      rw [hc] at h
      exact absurd h (by simp)
    | some q =>
      rw [hc] at h
      exact decFrom_snoc r _ m d b h hb
theorem decFrom_dig : ∀ (u : Nat), Go.Lib.decFrom 0 (Go.Lib.decDigits u) = some u := by
  intro u
  induction u using Nat.strongRecOn with
  | _ u ih =>
    rw [Go.Lib.decDigits]
    by_cases c : u < 10
    · rw [dif_pos c]
      show (match Go.Lib.digitVal (UInt8.ofNat (48 + u)) with | some d => Go.Lib.decFrom (0 * 10 + d) [] | none => none) = some u
      rw [digitVal_mk u c]
      simp [Go.Lib.decFrom]
    · rw [dif_neg c, decFrom_snoc _ _ _ _ _ (ih (u / 10) (by omega)) (digitVal_mk (u % 10) (Nat.mod_lt _ (by decide)))]
      congr 1
      omega
theorem nd_le : ∀ (k u : Nat), u < 10 ^ (k + 1) → Go.Lib.nDigits u ≤ k + 1
  | 0, u, h => by rw [Go.Lib.nDigits_small (by simpa using h)]; exact Nat.le_refl _
  | k + 1, u, h => by
    by_cases c : u < 10
    · rw [Go.Lib.nDigits_small c]
      omega
    · rw [Go.Lib.nDigits_big c]
      have := nd_le k (u / 10) (by rw [Nat.pow_succ] at h; omega)
      omega
def canon (s : ByteArray) (n : Nat) : Prop := n ≤ 1000000000000 ∧ s.data.toList = Go.Lib.decDigits n
theorem canon_len (s : ByteArray) (n : Nat) (h : canon s n) : 1 ≤ s.data.toList.length ∧ s.data.toList.length ≤ 13 := by
  rw [h.2, Go.Lib.decDigits_length]
  exact ⟨Go.Lib.nDigits_pos n, nd_le 12 n (by have := h.1; omega)⟩
theorem atoi_canon (s : ByteArray) (n : Nat) (h : canon s n) : Go.Lib.atoiAll s.data.toList = .ok (n : Int) := by
  have hl := canon_len s n h
  have hd : Go.Lib.decFrom 0 s.data.toList = some n := by rw [h.2]; exact decFrom_dig n
  rw [Go.Lib.atoiAll_short _ (by omega)]
  cases hs : s.data.toList with
  | nil =>
    rw [hs] at hl
    exact absurd hl.1 (by decide)
  | cons c r =>
    rw [hs] at hd
    have hc : 48 ≤ c.toNat ∧ c.toNat ≤ 57 := by
      simp only [Go.Lib.decFrom, Go.Lib.digitVal] at hd
      by_cases q : 48 ≤ c.toNat ∧ c.toNat ≤ 57
      · exact q
      · rw [if_neg q] at hd
        exact absurd hd (by simp)
    have h45 : (c == 45) = false := by
      apply beq_eq_false_iff_ne.2
      rintro rfl
      exact absurd hc.1 (by decide)
    have h43 : (c == 43) = false := by
      apply beq_eq_false_iff_ne.2
      rintro rfl
      exact absurd hc.1 (by decide)
    unfold Go.Lib.atoi Go.Lib.decNat
    dsimp only
    rw [h45, h43]
    simp only [Bool.false_eq_true, if_false, List.isEmpty_cons]
    rw [hd]
    rfl
theorem ba_list (s : ByteArray) (l : List UInt8) : (ba l).toList = s.toList ↔ s.data.toList = l := by
  rw [Go.ByteArray.toList_eq, Go.ByteArray.toList_eq]
  show l = s.data.toList ↔ _
  exact eq_comm
def finP (s : ByteArray) : Option Nat → Int × Bool
  | none => (0, false)
  | some n => if (n : Int) > 1000000000000 then (0, false) else if (ba (Go.Lib.itoa (n : Int))).toList = s.toList then ((n : Int), true) else (0, false)
theorem spec_loop (s : ByteArray) (hs : s.size ≤ 13) : ∀ (d k i acc : Nat), i ≤ s.size → s.size - i = d → acc < 10 ^ i → d + 60 < k → spec_ParseInt.l0 k s (acc : Int) (i : Int) = some (finP s (Go.Lib.decFrom acc (s.data.toList.drop i)))
  | 0, k, i, acc, h0, h1, h2, h3 => by
    obtain ⟨k, rfl⟩ : ∃ m, k = m + 1 := ⟨k - 1, by omega⟩
    have hp : 10 ^ i ≤ 10 ^ 13 := Nat.pow_le_pow_right (by decide) (by omega)
    have hz : s.size = s.data.toList.length := rfl
    simp only [spec_ParseInt.l0]
    rw [if_neg (by omega), List.drop_of_length_le (by omega), spec_fmt (acc : Int) (by omega) (by omega) k (by omega)]
    simp only [Option.bind_some, Go.Lib.decFrom, finP]
    by_cases c : (acc : Int) > 1000000000000
    · rw [if_pos c, if_pos c]
    · rw [if_neg c, if_neg c]
      by_cases c2 : (ba (Go.Lib.itoa (acc : Int))).toList = s.toList
      · rw [if_pos c2, if_pos c2]
      · rw [if_neg c2, if_neg c2]
  | d + 1, k, i, acc, h0, h1, h2, h3 => by
    obtain ⟨k, rfl⟩ : ∃ m, k = m + 1 := ⟨k - 1, by omega⟩
    have hp : 10 ^ i ≤ 10 ^ 12 := Nat.pow_le_pow_right (by decide) (by omega)
    have hz : s.size = s.data.toList.length := rfl
    have hi : i < s.data.toList.length := by omega
    have hb := (s.data.toList[i]).toNat_lt
    simp only [spec_ParseInt.l0]
    rw [if_pos (by omega), if_pos (by omega), bt_list s i hi, List.drop_eq_getElem_cons hi, Kit.wrap_id _ (by omega) (by omega)]
    simp only [Go.Lib.decFrom, Go.Lib.digitVal]
    unfold spec_l1In.f
    by_cases c1 : 48 ≤ (s.data.toList[i]).toNat
    · rw [if_pos (by omega)]
      by_cases c2 : (s.data.toList[i]).toNat ≤ 57
      · rw [decide_eq_true (by omega), if_pos ⟨c1, c2⟩]
        simp only [Option.bind_some]
        have e : wrap64 ((wrap64 (10 * (acc : Int))) + ((((s.data.toList[i]).toNat : Int) - 48) % 256)) = ((acc * 10 + ((s.data.toList[i]).toNat - 48) : Nat) : Int) := by
          rw [Kit.wrap_id (10 * (acc : Int)) (by omega) (by omega), Kit.wrap_id _ (by omega) (by omega)]
          omega
        rw [if_pos trivial, e, Kit.wrap_succ i (by omega)]
        exact spec_loop s hs d k (i + 1) _ (by omega) (by omega) (by rw [Nat.pow_succ]; omega) (by omega)
      · rw [decide_eq_false (by omega), if_neg (fun h => c2 h.2)]
        simp only [Option.bind_some]
        rw [if_neg (by simp)]
        rfl
    · rw [if_neg (by omega), if_neg (fun h => c1 h.1)]
      simp only [Option.bind_some]
      rw [if_neg (by simp)]
      rfl
theorem spec_parse (s : ByteArray) (k : Nat) (hk : 100 < k) : spec_ParseInt.f k s = some (if 1 ≤ s.size ∧ s.size ≤ 13 then finP s (Go.Lib.decFrom 0 s.data.toList) else (0, false)) := by
  unfold spec_ParseInt.f spec_l1In.f
  by_cases c1 : 1 ≤ s.size
  · rw [if_pos (by omega)]
    by_cases c2 : s.size ≤ 13
    · rw [decide_eq_true (by omega), if_pos ⟨c1, c2⟩]
      simp only [Option.bind_some]
      rw [if_pos trivial]
      have := spec_loop s c2 s.size k 0 0 (by omega) (by omega) (by decide) (by omega)
      rw [List.drop_zero] at this
      exact this
    · rw [decide_eq_false (by omega), if_neg (fun h => c2 h.2)]
      simp only [Option.bind_some]
      rw [if_neg (by simp)]
  · rw [if_neg (by omega), if_neg (fun h => c1 h.1)]
    simp only [Option.bind_some]
    rw [if_neg (by simp)]
theorem spec_yes (s : ByteArray) (n : Nat) (h : canon s n) (k : Nat) (hk : 100 < k) : spec_ParseInt.f k s = some ((n : Int), true) := by
  have hl := canon_len s n h
  have hz : s.size = s.data.toList.length := rfl
  have hn := h.1
  have hd : Go.Lib.decFrom 0 s.data.toList = some n := by rw [h.2]; exact decFrom_dig n
  rw [spec_parse s k hk, if_pos ⟨by omega, by omega⟩, hd]
  unfold finP
  dsimp only
  rw [if_neg (by omega), if_pos ((ba_list s _).2 (by rw [Go.Lib.itoa_nonneg]; exact h.2))]
theorem spec_no (s : ByteArray) (h : ∀ n, ¬ canon s n) (k : Nat) (hk : 100 < k) : spec_ParseInt.f k s = some (0, false) := by
  rw [spec_parse s k hk]
  by_cases c : 1 ≤ s.size ∧ s.size ≤ 13
  · rw [if_pos c]
    cases Go.Lib.decFrom 0 s.data.toList with
    | none => rfl
    | some n =>
      unfold finP
      dsimp only
      by_cases c2 : (n : Int) > 1000000000000
      · rw [if_pos c2]
      · rw [if_neg c2]
        by_cases c3 : (ba (Go.Lib.itoa (n : Int))).toList = s.toList
        · exfalso
          have h3 := (ba_list s _).1 c3
          rw [Go.Lib.itoa_nonneg] at h3
          exact h n ⟨by omega, h3⟩
        · rw [if_neg c3]
  · rw [if_neg c]
def cutL (c : UInt8) : List UInt8 → List (List UInt8)
  | [] => [[]]
  | b :: r => if b = c then [] :: cutL c r else match cutL c r with
    | [] => [[b]]
    | h :: t => (b :: h) :: t
theorem cutL_ne (c : UInt8) : ∀ l, cutL c l ≠ []
  | [] => by simp [cutL]
  | b :: r => by
    unfold cutL
    split
    · simp
    · split <;> simp
theorem cutL_free (c : UInt8) : ∀ l, c ∉ l → cutL c l = [l]
  | [], _ => rfl
  | b :: r, h => by
    have h1 : b ≠ c := fun e => h (by rw [e]; exact List.mem_cons_self ..)
    unfold cutL
    rw [if_neg h1, cutL_free c r (fun hm => h (List.mem_cons_of_mem _ hm))]
theorem cutL_word (c : UInt8) : ∀ w r, c ∉ w → cutL c (w ++ c :: r) = w :: cutL c r
  | [], r, _ => by simp [cutL]
  | b :: w, r, h => by
    have h1 : b ≠ c := fun e => h (by rw [e]; exact List.mem_cons_self ..)
    rw [List.cons_append, cutL, if_neg h1, cutL_word c w r (fun hm => h (List.mem_cons_of_mem _ hm))]
theorem join_two (a b : List UInt8) (r : List (List UInt8)) (c : UInt8) : Go.Lib.join (a :: b :: r) [c] = a ++ c :: Go.Lib.join (b :: r) [c] := by
  simp [Go.Lib.join, List.intercalate, List.intersperse]
theorem cutL_join (c : UInt8) : ∀ ws : List (List UInt8), ws ≠ [] → (∀ w ∈ ws, c ∉ w) → cutL c (Go.Lib.join ws [c]) = ws
  | [], h, _ => absurd rfl h
  | [w], _, h => by
    have e : Go.Lib.join [w] [c] = w := by simp [Go.Lib.join, List.intercalate]
    rw [e]
    exact cutL_free c w (h w (by simp))
  | a :: b :: r, _, h => by
    rw [join_two, cutL_word c a _ (h a (by simp)), cutL_join c (b :: r) (by simp) (fun w hw => h w (List.mem_cons_of_mem _ hw))]
theorem occ_one (l : List UInt8) (c : UInt8) (j : Nat) : Go.Lib.occAt l [c] j = (l[j]? == some c) := by
  unfold Go.Lib.occAt
  cases h : l.drop j with
  | nil =>
    have : l[j]? = none := List.getElem?_eq_none (List.drop_eq_nil_iff.1 h)
    rw [this]
    rfl
  | cons b r =>
    have : l[j]? = some b := by
      have := congrArg (·[0]?) h
      simpa using this
    rw [this]
    simp only [List.isPrefixOf, Option.some_beq_some, Bool.and_true]
    exact BEq.comm
theorem splitK_cut (c : UInt8) : ∀ (k : Nat) (s : List UInt8), Go.Lib.count s [c] = k → Go.Lib.splitK [c] 0 k s = cutL c s
  | 0, s, h => by
    rw [Go.Lib.count_one] at h
    rw [cutL_free c s (List.count_eq_zero.1 h)]
    rfl
  | k + 1, s, h => by
    have h' := h
    rw [Go.Lib.count_one] at h'
    rcases Go.Lib.index_spec s [c] with ⟨h1, _⟩ | ⟨i, h1, h2, h3, h4⟩
    · rw [Go.Lib.count_miss h1] at h
      exact absurd h (by simp)
    · have hm : ¬ (Go.Lib.index s [c] == -1) = true := fun e => by have := beq_iff_eq.1 e; omega
      have e : (Go.Lib.index s [c]).toNat = i := by omega
      rw [occ_one] at h3
      have h3 := beq_iff_eq.1 h3
      obtain ⟨hi, hc⟩ := List.getElem?_eq_some_iff.1 h3
      have hs : s = s.take i ++ c :: s.drop (i + 1) := by
        rw [← hc, ← List.drop_eq_getElem_cons hi, List.take_append_drop]
      have hf : c ∉ s.take i := by
        intro hm
        obtain ⟨j, hj, ej⟩ := List.getElem_of_mem hm
        rw [List.length_take] at hj
        have h5 := h4 j (by omega)
        rw [occ_one] at h5
        rw [List.getElem_take] at ej
        rw [List.getElem?_eq_getElem (by omega), ej] at h5
        simp at h5
      have hk := Go.Lib.count_hit (by simp) h1
      rw [h] at hk
      have hk2 : Go.Lib.count (s.drop (i + 1)) [c] = k := by
        have : [c].length = 1 := rfl
        rw [this] at hk
        omega
      rw [Go.Lib.splitK, if_neg hm, e]
      conv => rhs; rw [hs]
      rw [cutL_word c _ _ hf]
      show s.take (i + 0) :: Go.Lib.splitK [c] 0 k (s.drop (i + 1)) = _
      rw [splitK_cut c k _ hk2]
      rfl
def wordsOf (c : UInt8) (s : ByteArray) : List ByteArray := (cutL c s.data.toList).map ba
theorem ba_data (s : ByteArray) : ba s.data.toList = s := by
  apply ByteArray.ext
  simp [ba]
theorem map_ba : ∀ l : List ByteArray, (l.map (·.data.toList)).map ba = l
  | [] => rfl
  | x :: r => by
    rw [List.map_cons, List.map_cons, map_ba r, ba_data]
theorem splitB_words (c : UInt8) (s : ByteArray) : Go.Lib.splitB ⟨#[c]⟩ 0 (Go.Lib.countB s ⟨#[c]⟩) s = wordsOf c s := by
  have h := Go.Lib.splitB_data ⟨#[c]⟩ 0 (Go.Lib.countB s ⟨#[c]⟩) s
  have h2 : Go.Lib.splitK [c] 0 (Go.Lib.countB s ⟨#[c]⟩) s.data.toList = cutL c s.data.toList := splitK_cut c _ _ rfl
  have h3 : (Go.Lib.splitB ⟨#[c]⟩ 0 (Go.Lib.countB s ⟨#[c]⟩) s).map (·.data.toList) = cutL c s.data.toList := h.trans h2
  rw [wordsOf, ← h3, map_ba]
theorem impl_split (c : UInt8) (s : ByteArray) (hs : s.size < 4294967281) : strings_Split.f s ⟨#[c]⟩ = some (wordsOf c s) := by
  unfold strings_Split.f
  rw [if_pos ⟨hs, rfl⟩, splitB_words]
def glue (p : List UInt8) : List (List UInt8) → List (List UInt8)
  | [] => [p]
  | h :: t => (p ++ h) :: t
theorem extract_ba (s : ByteArray) (f i : Nat) : s.extract ((f : Int)).toNat ((i : Int)).toNat = ba ((s.data.toList.drop f).take (i - f)) := by
  rw [← Go.Lib.extract_data, ba_data, Int.toNat_natCast, Int.toNat_natCast]
theorem bt_nth (s : ByteArray) (i : Nat) (h : i < s.data.toList.length) : bt s (i : Int) = ((s.data.toList[i]).toNat : Int) := by
  have h' : (i : Int).toNat < s.size := by simpa using h
  unfold bt
  rw [dif_pos h']
  rfl
theorem spec_split_loop (c : UInt8) (s : ByteArray) (hs : s.size ≤ 40000000) : ∀ (d k f i : Nat) (out : List ByteArray), f ≤ i → i ≤ s.size → s.size - i = d → out.length + d ≤ 50000000 → d + 2 ≤ k → spec_l7Split.l0 k s (c.toNat : Int) out (f : Int) (i : Int) = some (out ++ (glue ((s.data.toList.drop f).take (i - f)) (cutL c (s.data.toList.drop i))).map ba)
  | 0, k, f, i, out, h0, h1, h2, h3, h4 => by
    obtain ⟨k, rfl⟩ : ∃ m, k = m + 1 + 1 := ⟨k - 2, by omega⟩
    have hz : s.size = s.data.toList.length := rfl
    have hi : i = s.size := by omega
    subst hi
    rw [show s.data.toList.drop s.size = [] from List.drop_of_length_le (by omega)]
    simp only [spec_l7Split.l0]
    rw [if_pos (Int.le_refl _), if_pos trivial, if_pos (by omega), if_pos (by omega), if_pos (by omega), Kit.wrap_succ s.size (by omega), if_neg (by omega), extract_ba]
    simp [cutL, glue]
  | d + 1, k, f, i, out, h0, h1, h2, h3, h4 => by
    obtain ⟨k, rfl⟩ : ∃ m, k = m + 1 := ⟨k - 1, by omega⟩
    have hz : s.size = s.data.toList.length := rfl
    have hi : i < s.data.toList.length := by omega
    have hd : (s.data.toList.drop f).take (i + 1 - f) = (s.data.toList.drop f).take (i - f) ++ [s.data.toList[i]] := by
      rw [show i + 1 - f = (i - f) + 1 by omega, List.take_add_one, List.getElem?_drop, show f + (i - f) = i by omega, List.getElem?_eq_getElem hi]
      rfl
    simp only [spec_l7Split.l0]
    rw [if_pos (by omega), if_neg (by omega), if_pos (by omega), if_pos (by omega), bt_nth s i hi, List.drop_eq_getElem_cons hi, Kit.wrap_succ i (by omega)]
    by_cases hc : s.data.toList[i] = c
    · rw [if_pos (by rw [hc]), if_pos (by omega), if_pos (by omega), if_pos (by omega), extract_ba]
      rw [spec_split_loop c s hs d k (i + 1) (i + 1) _ (Nat.le_refl _) (by omega) (by omega) (by simp; omega) (by omega)]
      rw [Nat.sub_self, List.take_zero, cutL, if_pos hc]
      have hn := cutL_ne c (s.data.toList.drop (i + 1))
      cases h : cutL c (s.data.toList.drop (i + 1)) with
      | nil => exact absurd h hn
      | cons a t => simp [glue]
    · rw [if_neg (fun e => hc (UInt8.toNat_inj.1 (by omega)))]
      rw [spec_split_loop c s hs d k f (i + 1) out (by omega) (by omega) (by omega) (by omega) (by omega), hd, cutL, if_neg hc]
      have hn := cutL_ne c (s.data.toList.drop (i + 1))
      cases h : cutL c (s.data.toList.drop (i + 1)) with
      | nil => exact absurd h hn
      | cons a t => simp [glue]
theorem spec_split (c : UInt8) (s : ByteArray) (hs : s.size ≤ 40000000) (k : Nat) (hk : s.size + 2 ≤ k) : spec_l7Split.f k s (c.toNat : Int) = some (wordsOf c s) := by
  unfold spec_l7Split.f
  have h := spec_split_loop c s hs s.size k 0 0 [] (Nat.le_refl _) (Nat.zero_le _) (by omega) (by simp; omega) hk
  rw [show ((0 : Nat) : Int) = 0 from rfl] at h
  rw [h]
  have hn := cutL_ne c s.data.toList
  cases hc : cutL c s.data.toList with
  | nil => exact absurd hc hn
  | cons a t => simp [glue, wordsOf, hc]
theorem words_pos (c : UInt8) (s : ByteArray) : 0 < (wordsOf c s).length := by
  unfold wordsOf
  rw [List.length_map]
  exact List.length_pos_iff.2 (cutL_ne c _)
theorem cutL_size (c : UInt8) : ∀ l : List UInt8, (cutL c l).length ≤ l.length + 1 ∧ ∀ w ∈ cutL c l, w.length ≤ l.length
  | [] => by simp [cutL]
  | b :: r => by
    obtain ⟨h1, h2⟩ := cutL_size c r
    unfold cutL
    split
    · refine ⟨by simp; omega, fun w hw => ?_⟩
      rcases List.mem_cons.1 hw with rfl | hw
      · simp
      · have := h2 w hw
        simp
        omega
    · cases h : cutL c r with
      | nil => exact absurd h (cutL_ne c r)
      | cons a t =>
        rw [h] at h1 h2
        refine ⟨by simp at h1 ⊢; omega, fun w hw => ?_⟩
        rcases List.mem_cons.1 hw with rfl | hw
        · have := h2 a (by simp)
          simp
          omega
        · have := h2 w (List.mem_cons_of_mem _ hw)
          simp
          omega
theorem words_size (c : UInt8) (s : ByteArray) : (wordsOf c s).length ≤ s.size + 1 ∧ ∀ w ∈ wordsOf c s, w.size ≤ s.size := by
  obtain ⟨h1, h2⟩ := cutL_size c s.data.toList
  refine ⟨by unfold wordsOf; rw [List.length_map]; exact h1, fun w hw => ?_⟩
  obtain ⟨l, hl, rfl⟩ := List.mem_map.1 hw
  exact h2 l hl
theorem impl_fi (op a b c d : Int) (nm : ByteArray) (a0 : -9223372036854775808 ≤ a) (a1 : a ≤ 9223372036854775807) (b0 : -9223372036854775808 ≤ b) (b1 : b ≤ 9223372036854775807) (c0 : -9223372036854775808 ≤ c) (c1 : c ≤ 9223372036854775807) (d0 : -9223372036854775808 ≤ d) (d1 : d ≤ 9223372036854775807)
    (hn : nm.size ≤ 2000000) (k : Nat) (hk : nm.size + 40 < k) : impl_FormatInstr.f k op a b c d nm = some (fiV op a b c d nm) := by
  unfold impl_FormatInstr.f
  rw [impl_instr op a b c d nm (by omega) _ (by omega)]
  simp only [Option.bind_some]
  cases hv : instrB op a b c d nm
  · rw [if_neg (by decide)]
    unfold fiV
    rw [hv, if_neg (by decide)]
  · rw [if_pos rfl, impl_fi0 op a b c d nm hv a0 a1 b0 b1 c0 c1 d0 d1 hn]
    rfl
theorem bl_eq {x y : ByteArray} : x.toList = y.toList ↔ x = y := by
  rw [Go.ByteArray.toList_eq, Go.ByteArray.toList_eq]
  constructor
  · intro h
    rw [← ba_data x, ← ba_data y, h]
  · intro h
    rw [h]
theorem bl_nil {x : ByteArray} : x.toList = [] ↔ x = ⟨#[]⟩ := by
  have e : (⟨#[]⟩ : ByteArray).toList = [] := by rw [Go.ByteArray.toList_eq]
  constructor
  · intro h
    exact bl_eq.1 (h.trans e.symm)
  · intro h
    rw [h, e]
abbrev R7 := Int × Int × Int × Int × Int × ByteArray × Bool
def z7 : R7 := (0, 0, 0, 0, 0, (⟨#[]⟩ : ByteArray), false)
def i64P (n : Int) : Prop := -9223372036854775808 ≤ n ∧ n ≤ 9223372036854775807
def pgood (s : ByteArray) (op a b c d : Int) (nm : ByteArray) : Prop := instrB op a b c d nm = true ∧ fiV op a b c d nm = s
def finS (s : ByteArray) (op a b c d : Int) (nm : ByteArray) : R7 := if instrB op a b c d nm = true then (if (fiV op a b c d nm).toList = s.toList then (op, a, b, c, d, nm, true) else z7) else z7
theorem finS_good {s : ByteArray} {op a b c d : Int} {nm : ByteArray} (h : pgood s op a b c d nm) : finS s op a b c d nm = (op, a, b, c, d, nm, true) := by
  unfold finS
  rw [if_pos h.1, h.2, if_pos rfl]
theorem finS_bad {s : ByteArray} {op a b c d : Int} {nm : ByteArray} (h : ¬ pgood s op a b c d nm) : finS s op a b c d nm = z7 := by
  unfold finS
  by_cases c1 : instrB op a b c d nm = true
  · rw [if_pos c1]
    by_cases c2 : (fiV op a b c d nm).toList = s.toList
    · exact absurd ⟨c1, bl_eq.1 c2⟩ h
    · rw [if_neg c2]
  · rw [if_neg c1]
theorem spec_j1p (s : ByteArray) (op a b c d : Int) (nm : ByteArray) (ha : i64P a) (hb : i64P b) (hc : i64P c) (hd : i64P d) (hn : nm.size ≤ 2000000) (k : Nat) (hk : nm.size + 42 < k) : spec_ParseInstr.j1 k s op a b c d nm = some (finS s op a b c d nm) := by
  obtain ⟨k, rfl⟩ : ∃ m, k = m + 1 := ⟨k - 1, by omega⟩
  simp only [spec_ParseInstr.j1]
  rw [spec_instr op a b c d nm (by omega) _ (by omega), spec_fi op a b c d nm ha.1 ha.2 hb.1 hb.2 hc.1 hc.2 hd.1 hd.2 hn _ (by omega)]
  unfold finS z7
  simp only [Option.bind_some]
  by_cases c1 : instrB op a b c d nm = true
  · rw [if_pos c1, if_pos c1]
    by_cases c2 : (fiV op a b c d nm).toList = s.toList
    · rw [if_pos c2, if_pos c2]
    · rw [if_neg c2, if_neg c2]
  · rw [if_neg c1, if_neg c1]
def pI (w : ByteArray) : Int × Bool := if 1 ≤ w.size ∧ w.size ≤ 13 then finP w (Go.Lib.decFrom 0 w.data.toList) else (0, false)
theorem pI_bd (w : ByteArray) : 0 ≤ (pI w).1 ∧ (pI w).1 ≤ 1000000000000 := by
  unfold pI
  split
  · cases Go.Lib.decFrom 0 w.data.toList with
    | none =>
      show (0 : Int) ≤ 0 ∧ (0 : Int) ≤ 1000000000000
      omega
    | some n =>
      unfold finP
      dsimp only
      by_cases c : (n : Int) > 1000000000000
      · rw [if_pos c]
        decide
      · rw [if_neg c]
        split
        · exact ⟨by show (0 : Int) ≤ (n : Int); omega, by show (n : Int) ≤ _; omega⟩
        · decide
  · decide
theorem pI_num (n : Nat) (hn : n ≤ 1000000000000) : pI (ba (Go.Lib.itoa (n : Int))) = ((n : Int), true) := by
  have hc : canon (ba (Go.Lib.itoa (n : Int))) n := ⟨hn, by rw [Go.Lib.itoa_nonneg]; rfl⟩
  have h1 := spec_yes _ n hc 200 (by omega)
  rw [spec_parse _ 200 (by omega)] at h1
  exact Option.some.inj h1
def num (l : List ByteArray) (i : Nat) : Int := if i < l.length then (if (pI (l.getD i ByteArray.empty)).2 = true then (pI (l.getD i ByteArray.empty)).1 else -1) else -1
theorem num_i64 (l : List ByteArray) (i : Nat) : i64P (num l i) := by
  have := pI_bd (l.getD i ByteArray.empty)
  unfold num i64P
  split
  · split <;> omega
  · omega
theorem num_out (l : List ByteArray) (i : Nat) (h : l.length ≤ i) : num l i = -1 := by
  unfold num
  rw [if_neg (by omega)]
theorem num_in (l : List ByteArray) (i : Nat) (n : Int) (h : l[i]? = some (ba (Go.Lib.itoa n))) (h0 : 0 ≤ n) (h1 : n ≤ 1000000000000) : num l i = n := by
  obtain ⟨m, rfl⟩ := Int.eq_ofNat_of_zero_le h0
  have hp := pI_num m (by omega)
  unfold num
  rw [if_pos (List.getElem?_eq_some_iff.1 h).1, List.getD_eq_getElem?_getD, h, Option.getD_some, hp, if_pos rfl]
theorem spec_num (l : List ByteArray) (i : Nat) (k : Nat) (hk : 100 < k) : spec_l7Number.f k l (i : Int) = some (num l i) := by
  unfold spec_l7Number.f num
  by_cases c : i < l.length
  · rw [if_neg (by omega), if_pos (by omega), if_pos (by omega), if_pos c, spec_parse _ k hk]
    simp only [Option.bind_some]
    have e : rdOf ByteArray.empty l (i : Int) = l.getD i ByteArray.empty := by
      unfold rdOf
      rw [Int.toNat_natCast]
    rw [e]
    show (if (pI (l.getD i ByteArray.empty)).2 = true then some (pI (l.getD i ByteArray.empty)).1 else some (-1)) = _
    split <;> rfl
  · rw [if_pos (by omega), if_neg c]
def opL : Nat → Nat → ByteArray → Int
  | 0, _, _ => 0
  | d + 1, i, w => if (opn (i : Int)).data.toList = w.data.toList then (i : Int) else opL d (i + 1) w
def opW (w : ByteArray) : Int := opL 10 1 w
theorem spec_op_loop (w : ByteArray) : ∀ d k i : Nat, i + d = 11 → d < k → spec_l7Op.l0 k w (i : Int) = some (opL d i w)
  | 0, k, i, h, hk => by
    obtain ⟨k, rfl⟩ : ∃ m, k = m + 1 := ⟨k - 1, by omega⟩
    simp only [spec_l7Op.l0]
    rw [if_neg (by omega)]
    rfl
  | d + 1, k, i, h, hk => by
    obtain ⟨k, rfl⟩ : ∃ m, k = m + 1 := ⟨k - 1, by omega⟩
    simp only [spec_l7Op.l0]
    rw [if_pos (by omega), spec_op]
    simp only [Option.bind_some]
    rw [Go.ByteArray.toList_eq, Go.ByteArray.toList_eq, Kit.wrap_succ i (by omega), spec_op_loop w d k (i + 1) (by omega) (by omega), opL]
    split <;> rfl
theorem spec_opW (w : ByteArray) (k : Nat) (hk : 10 < k) : spec_l7Op.f k w = some (opW w) := spec_op_loop w 10 k 1 rfl hk
theorem opW_opn (op : Int) (h0 : 1 ≤ op) (h1 : op ≤ 10) : opW (opn op) = op := by
  obtain ⟨n, rfl⟩ := Int.eq_ofNat_of_zero_le (show 0 ≤ op by omega)
  have h : ∀ m : Fin 11, 1 ≤ m.val → opW (opn (m.val : Int)) = (m.val : Int) := by decide +kernel
  exact h ⟨n, by omega⟩ (by show 1 ≤ n; omega)
def specQ (s : ByteArray) (l : List ByteArray) (op : Int) : R7 :=
  if op = 4 ∨ op = 10 then finS s op (num l 1) 0 0 0 ⟨#[]⟩
  else if op = 5 then finS s op (num l 1) (num l 2) (num l 3) 0 ⟨#[]⟩
  else if op = 6 then finS s op (num l 1) (num l 2) (num l 4) (num l 5) (if 3 < l.length then l.getD 3 ByteArray.empty else ⟨#[]⟩)
  else if op = 7 then finS s op (num l 1) 0 (num l 3) (num l 4) (if 2 < l.length then l.getD 2 ByteArray.empty else ⟨#[]⟩)
  else finS s op (num l 1) (num l 2) 0 0 ⟨#[]⟩
theorem z_i64 : i64P 0 := by unfold i64P; omega
theorem word_size (l : List ByteArray) (N : Nat) (h : ∀ w ∈ l, w.size ≤ N) (i : Nat) : (l.getD i ByteArray.empty).size ≤ N := by
  rw [List.getD_eq_getElem?_getD]
  cases hi : l[i]? with
  | none => exact Nat.zero_le _
  | some x => exact h x (List.mem_of_getElem? hi)
theorem spec_pj (s : ByteArray) (l : List ByteArray) (op : Int) (hl : ∀ w ∈ l, w.size ≤ 1048576) (q : Bool) (hq : q = decide (op = 4 ∨ op = 10)) (k : Nat) (hk : 2000000 < k) : spec_ParseInstr.j0 k s l op q op (num l 1) 0 0 0 ⟨#[]⟩ = some (specQ s l op) := by
  obtain ⟨k, rfl⟩ : ∃ m, k = m + 1 := ⟨k - 1, by omega⟩
  have z0 : (⟨#[]⟩ : ByteArray).size = 0 := rfl
  subst hq
  simp only [spec_ParseInstr.j0]
  unfold specQ
  by_cases c4 : op = 4 ∨ op = 10
  · rw [if_pos c4, decide_eq_true c4, if_pos rfl, spec_j1p s op _ 0 0 0 _ (num_i64 _ _) z_i64 z_i64 z_i64 (by omega) _ (by omega)]
  rw [if_neg c4, decide_eq_false c4, if_neg (by decide)]
  have n2 : spec_l7Number.f k l 2 = some (num l 2) := spec_num l 2 k (by omega)
  have n3 : spec_l7Number.f k l 3 = some (num l 3) := spec_num l 3 k (by omega)
  have n4 : spec_l7Number.f k l 4 = some (num l 4) := spec_num l 4 k (by omega)
  have n5 : spec_l7Number.f k l 5 = some (num l 5) := spec_num l 5 k (by omega)
  have w3 := word_size l _ hl 3
  have w2 := word_size l _ hl 2
  rw [n2, n3, n4, n5]
  simp only [Option.bind_some]
  by_cases c5 : op = 5
  · rw [if_pos c5, if_pos c5, spec_j1p s op _ _ _ 0 _ (num_i64 _ _) (num_i64 _ _) (num_i64 _ _) z_i64 (by omega) _ (by omega)]
  rw [if_neg c5, if_neg c5]
  by_cases c6 : op = 6
  · rw [if_pos c6, if_pos c6]
    by_cases cl : 3 < l.length
    · rw [if_pos (by omega), if_pos (by omega), if_pos cl]
      exact spec_j1p s op _ _ _ _ _ (num_i64 _ _) (num_i64 _ _) (num_i64 _ _) (num_i64 _ _) (by show (l.getD 3 ByteArray.empty).size ≤ _; omega) _ (by show (l.getD 3 ByteArray.empty).size + 42 < _; omega)
    · rw [if_neg (by omega), if_neg cl]
      exact spec_j1p s op _ _ _ _ _ (num_i64 _ _) (num_i64 _ _) (num_i64 _ _) (num_i64 _ _) (by omega) _ (by omega)
  rw [if_neg c6, if_neg c6]
  by_cases c7 : op = 7
  · rw [if_pos c7, if_pos c7]
    by_cases cl : 2 < l.length
    · rw [if_pos (by omega), if_pos (by omega), if_pos cl]
      exact spec_j1p s op _ _ _ _ _ (num_i64 _ _) z_i64 (num_i64 _ _) (num_i64 _ _) (by show (l.getD 2 ByteArray.empty).size ≤ _; omega) _ (by show (l.getD 2 ByteArray.empty).size + 42 < _; omega)
    · rw [if_neg (by omega), if_neg cl]
      exact spec_j1p s op _ _ _ _ _ (num_i64 _ _) z_i64 (num_i64 _ _) (num_i64 _ _) (by omega) _ (by omega)
  rw [if_neg c7, if_neg c7, spec_j1p s op _ _ 0 0 _ (num_i64 _ _) (num_i64 _ _) z_i64 z_i64 (by omega) _ (by omega)]
theorem spec_pi (s : ByteArray) (hs : s.size ≤ 1048576) (k : Nat) (hk : 2000000 < k) : spec_ParseInstr.f k s = some (specQ s (wordsOf 32 s) (opW ((wordsOf 32 s).getD 0 ByteArray.empty))) := by
  obtain ⟨l, hl⟩ : ∃ l, l = wordsOf 32 s := ⟨_, rfl⟩
  have hp := words_pos 32 s
  have hz := (words_size 32 s).2
  have h1 := spec_split 32 s (by omega) k (by omega)
  rw [← hl] at hp hz h1 ⊢
  have n1 := spec_num l 1 k (by omega)
  have e : rdOf ByteArray.empty l 0 = l.getD 0 ByteArray.empty := rfl
  unfold spec_ParseInstr.f
  rw [show (32 : Int) = ((32 : UInt8).toNat : Int) from rfl, h1]
  simp only [Option.bind_some]
  rw [if_pos (by omega), e, spec_opW _ k (by omega)]
  simp only [Option.bind_some]
  rw [show (1 : Int) = ((1 : Nat) : Int) from rfl, n1]
  simp only [Option.bind_some]
  obtain ⟨op, ho⟩ : ∃ o, o = opW (l.getD 0 ByteArray.empty) := ⟨_, rfl⟩
  rw [← ho]
  have hl' : ∀ w ∈ l, w.size ≤ 1048576 := fun w hw => by have := hz w hw; omega
  by_cases c : op = 4
  · rw [if_pos c, spec_pj s l op hl' _ (by rw [c]; rfl) k hk]
  · rw [if_neg c]
    refine spec_pj s l op hl' _ ?_ k hk
    by_cases c10 : op = 10
    · rw [c10]; rfl
    · rw [decide_eq_false (by omega)]
      exact beq_eq_false_iff_ne.mpr c10
theorem dec_mem (u : Nat) : ∀ b ∈ Go.Lib.decDigits u, 48 ≤ b.toNat ∧ b.toNat ≤ 57 := by
  induction u using Nat.strongRecOn with
  | _ u ih =>
    intro b hb
    rw [Go.Lib.decDigits] at hb
    by_cases c : u < 10
    · rw [dif_pos c] at hb
      have e := List.mem_singleton.1 hb
      rw [e, UInt8.toNat_ofNat']
      omega
    · rw [dif_neg c] at hb
      rcases List.mem_append.1 hb with hb | hb
      · exact ih (u / 10) (by omega) b hb
      · have e := List.mem_singleton.1 hb
        rw [e, UInt8.toNat_ofNat']
        omega
theorem itoa_free (n : Int) : (32 : UInt8) ∉ Go.Lib.itoa n := by
  intro h
  unfold Go.Lib.itoa at h
  split at h
  · rcases List.mem_cons.1 h with h | h
    · exact absurd h (by decide)
    · exact absurd (dec_mem _ _ h).1 (by decide)
  · exact absurd (dec_mem _ _ h).1 (by decide)
theorem op_free (op : Int) : (32 : UInt8) ∉ (opn op).data.toList := by
  unfold opn
  split
  · rename_i h
    obtain ⟨n, hn⟩ : ∃ n : Nat, op.toNat = n := ⟨_, rfl⟩
    rw [hn]
    have h1 : n ≤ 10 := by omega
    have : ∀ m : Fin 11, (32 : UInt8) ∉ (impl_OpName.tab.getD m.val ⟨#[]⟩).data.toList := by decide +kernel
    exact this ⟨n, by omega⟩
  · simp
theorem name_mem {nm : ByteArray} (h : nameB nm = true) : ∀ b ∈ nm.data.toList, 97 ≤ b.toNat ∧ b.toNat ≤ 122 := by
  intro b hb
  unfold nameB at h
  have h2 := List.all_eq_true.1 (Bool.and_eq_true_iff.1 h).2 b hb
  simpa [lowC] using h2
theorem name_len {nm : ByteArray} (h : nameB nm = true) : 1 ≤ nm.data.toList.length ∧ nm.data.toList.length ≤ 6 := by
  unfold nameB at h
  have h1 := (Bool.and_eq_true_iff.1 h).1
  simp only [inB, Bool.and_eq_true, decide_eq_true_eq] at h1
  have hz : nm.size = nm.data.toList.length := rfl
  omega
theorem name_free {nm : ByteArray} (h : nameB nm = true) : (32 : UInt8) ∉ nm.data.toList := fun hb => absurd (name_mem h _ hb).1 (by decide)
theorem pair_facts {c d : Int} (h : pairB c d = true) : (c = -1 ∧ d = -1) ∨ ((0 ≤ c ∧ c ≤ 7) ∧ (d = -1 ∨ (0 ≤ d ∧ d ≤ 7))) := by
  unfold pairB at h
  split at h
  · rename_i hc
    exact .inl ⟨hc, by simpa using h⟩
  · simp only [regB, inB, Bool.and_eq_true, Bool.or_eq_true, beq_iff_eq, decide_eq_true_eq] at h
    exact .inr h
theorem inst_facts {op a b c d : Int} {nm : ByteArray} (h : instrB op a b c d nm = true) : (1 ≤ op ∧ op ≤ 10) ∧ (0 ≤ a ∧ a ≤ 7) ∧
    (((op = 4 ∨ op = 10) ∧ b = 0 ∧ c = 0 ∧ d = 0 ∧ nm = ⟨#[]⟩) ∨ (op = 5 ∧ (0 ≤ b ∧ b ≤ 7) ∧ (0 ≤ c ∧ c ≤ 7) ∧ d = 0 ∧ nm = ⟨#[]⟩) ∨ (op = 6 ∧ (0 ≤ b ∧ b ≤ 7) ∧ pairB c d = true ∧ nameB nm = true) ∨ (op = 7 ∧ b = 0 ∧ pairB c d = true ∧ nameB nm = true) ∨ ((op ≠ 4 ∧ op ≠ 10 ∧ op ≠ 5 ∧ op ≠ 6 ∧ op ≠ 7) ∧ (0 ≤ b ∧ b ≤ 999999) ∧ c = 0 ∧ d = 0 ∧ nm = ⟨#[]⟩)) := by
  unfold instrB at h
  by_cases c1 : op = 1
  · rw [if_pos c1] at h
    simp only [regB, inB, emptyB, Bool.and_eq_true, beq_iff_eq, decide_eq_true_eq] at h
    obtain ⟨⟨hc, hd, hn⟩, ha, hb⟩ := h
    exact ⟨by omega, ha, .inr (.inr (.inr (.inr ⟨by omega, by omega, hc, hd, bl_nil.1 hn⟩)))⟩
  rw [if_neg c1] at h
  by_cases c2 : op = 2
  · rw [if_pos c2] at h
    simp only [regB, inB, emptyB, Bool.and_eq_true, beq_iff_eq, decide_eq_true_eq] at h
    obtain ⟨⟨hc, hd, hn⟩, ha, hb⟩ := h
    exact ⟨by omega, ha, .inr (.inr (.inr (.inr ⟨by omega, by omega, hc, hd, bl_nil.1 hn⟩)))⟩
  rw [if_neg c2] at h
  by_cases c3 : op = 3
  · rw [if_pos c3] at h
    simp only [regB, inB, emptyB, Bool.and_eq_true, beq_iff_eq, decide_eq_true_eq] at h
    obtain ⟨⟨hc, hd, hn⟩, ha, hb⟩ := h
    exact ⟨by omega, ha, .inr (.inr (.inr (.inr ⟨by omega, by omega, hc, hd, bl_nil.1 hn⟩)))⟩
  rw [if_neg c3] at h
  by_cases c4 : op = 4 ∨ op = 10
  · rw [if_pos c4] at h
    simp only [regB, inB, emptyB, Bool.and_eq_true, beq_iff_eq, decide_eq_true_eq] at h
    obtain ⟨⟨hc, hd, hn⟩, ha, hb⟩ := h
    exact ⟨by omega, ha, .inl ⟨c4, hb, hc, hd, bl_nil.1 hn⟩⟩
  rw [if_neg c4] at h
  by_cases c5 : op = 5
  · rw [if_pos c5] at h
    simp only [regB, inB, emptyB, Bool.and_eq_true, beq_iff_eq, decide_eq_true_eq] at h
    obtain ⟨⟨hd, hn⟩, ha, hb, hc⟩ := h
    exact ⟨by omega, ha, .inr (.inl ⟨c5, hb, hc, hd, bl_nil.1 hn⟩)⟩
  rw [if_neg c5] at h
  by_cases c6 : op = 6
  · rw [if_pos c6] at h
    simp only [regB, inB, Bool.and_eq_true, decide_eq_true_eq] at h
    obtain ⟨ha, hb, hp, hn⟩ := h
    exact ⟨by omega, ha, .inr (.inr (.inl ⟨c6, hb, hp, hn⟩))⟩
  rw [if_neg c6] at h
  by_cases c7 : op = 7
  · rw [if_pos c7] at h
    simp only [regB, inB, Bool.and_eq_true, beq_iff_eq, decide_eq_true_eq] at h
    obtain ⟨ha, hb, hp, hn⟩ := h
    exact ⟨by omega, ha, .inr (.inr (.inr (.inl ⟨c7, hb, hp, hn⟩)))⟩
  rw [if_neg c7] at h
  by_cases c8 : op = 8
  · rw [if_pos c8] at h
    simp only [regB, inB, emptyB, Bool.and_eq_true, beq_iff_eq, decide_eq_true_eq] at h
    obtain ⟨⟨hc, hd, hn⟩, ha, hb⟩ := h
    exact ⟨by omega, by omega, .inr (.inr (.inr (.inr ⟨by omega, by omega, hc, hd, bl_nil.1 hn⟩)))⟩
  rw [if_neg c8] at h
  by_cases c9 : op = 9
  · rw [if_pos c9] at h
    simp only [regB, inB, emptyB, Bool.and_eq_true, beq_iff_eq, decide_eq_true_eq] at h
    obtain ⟨⟨hc, hd, hn⟩, ha, hb⟩ := h
    exact ⟨by omega, by omega, .inr (.inr (.inr (.inr ⟨by omega, by omega, hc, hd, bl_nil.1 hn⟩)))⟩
  rw [if_neg c9] at h
  exact absurd h (by decide)
theorem W_free {op a b c d : Int} {nm : ByteArray} (h : instrB op a b c d nm = true) : ∀ w ∈ impl_formatInstr.W (opn op) op a b c d nm, (32 : UInt8) ∉ w.data.toList := by
  have hS : ∀ (l : List Int), ∀ w ∈ l.map impl_formatInstr_1.S, (32 : UInt8) ∉ w.data.toList := by
    intro l w hw
    obtain ⟨n, _, rfl⟩ := List.mem_map.1 hw
    exact itoa_free n
  have hO : ∀ w ∈ [opn op], (32 : UInt8) ∉ w.data.toList := by
    intro w hw
    rw [List.mem_singleton.1 hw]
    exact op_free op
  have hN : (op = 6 ∨ op = 7) → ∀ w ∈ [nm], (32 : UInt8) ∉ w.data.toList := by
    intro ho w hw
    rw [List.mem_singleton.1 hw]
    rcases (inst_facts h).2.2 with x | x | x | x | x
    · omega
    · omega
    · exact name_free x.2.2.2
    · exact name_free x.2.2.2
    · omega
  unfold impl_formatInstr.W
  intro w hw
  split at hw
  · rcases List.mem_append.1 hw with hw | hw
    · exact hO w hw
    · exact hS _ w hw
  split at hw
  · rcases List.mem_append.1 hw with hw | hw
    · exact hO w hw
    · exact hS _ w hw
  split at hw
  · rename_i h6
    rcases List.mem_append.1 hw with hw | hw
    · rcases List.mem_append.1 hw with hw | hw
      · rcases List.mem_append.1 hw with hw | hw
        · exact hO w hw
        · exact hS _ w hw
      · exact hN (.inl h6) w hw
    · exact hS _ w hw
  split at hw
  · rename_i h7
    rcases List.mem_append.1 hw with hw | hw
    · rcases List.mem_append.1 hw with hw | hw
      · rcases List.mem_append.1 hw with hw | hw
        · exact hO w hw
        · exact hS _ w hw
      · exact hN (.inr h7) w hw
    · exact hS _ w hw
  · rcases List.mem_append.1 hw with hw | hw
    · exact hO w hw
    · exact hS _ w hw
theorem W_head (o : ByteArray) (op a b c d : Int) (nm : ByteArray) : ∃ x r, impl_formatInstr.W o op a b c d nm = o :: x :: r := by
  unfold impl_formatInstr.W
  split
  · exact ⟨_, _, rfl⟩
  split
  · exact ⟨_, _, rfl⟩
  split
  · exact ⟨_, _, rfl⟩
  split
  · exact ⟨_, _, rfl⟩
  · exact ⟨_, _, rfl⟩
theorem good_words {s : ByteArray} {op a b c d : Int} {nm : ByteArray} (h : pgood s op a b c d nm) : wordsOf 32 s = impl_formatInstr.W (opn op) op a b c d nm := by
  have hs : s = strings_Join.J (impl_formatInstr.W (opn op) op a b c d nm) := by
    rw [J_W, ← h.2]
    unfold fiV
    rw [if_pos h.1]
  have hd : s.data.toList = Go.Lib.join ((impl_formatInstr.W (opn op) op a b c d nm).map (·.data.toList)) [32] := by
    rw [hs]
    rfl
  obtain ⟨x, r, hx⟩ := W_head (opn op) op a b c d nm
  unfold wordsOf
  rw [hd, cutL_join 32 _ (by rw [hx]; simp) (fun w hw => by
    obtain ⟨v, hv, rfl⟩ := List.mem_map.1 hw
    exact W_free h.1 v hv), map_ba]
theorem good_ne {s : ByteArray} {op a b c d : Int} {nm : ByteArray} (h : pgood s op a b c d nm) : s.toList ≠ [] := by
  intro e
  have hw := good_words h
  obtain ⟨x, r, hx⟩ := W_head (opn op) op a b c d nm
  rw [bl_nil.1 e, hx] at hw
  have := congrArg List.length hw
  simp [wordsOf, cutL] at this
theorem S_eq (n : Int) : impl_formatInstr_1.S n = ba (Go.Lib.itoa n) := rfl
theorem specQ_good {s : ByteArray} {op a b c d : Int} {nm : ByteArray} (h : pgood s op a b c d nm) : specQ s (wordsOf 32 s) (opW ((wordsOf 32 s).getD 0 ByteArray.empty)) = (op, a, b, c, d, nm, true) := by
  obtain ⟨ho, ha, hf⟩ := inst_facts h.1
  have h0 : opW ((wordsOf 32 s).getD 0 ByteArray.empty) = op := by
    obtain ⟨x, r, hx⟩ := W_head (opn op) op a b c d nm
    rw [good_words h, hx]
    exact opW_opn op ho.1 ho.2
  rw [h0, good_words h]
  rcases hf with ⟨h1, rfl, rfl, rfl, rfl⟩ | ⟨rfl, hb, hc, rfl, rfl⟩ | ⟨rfl, hb, hp, hn⟩ | ⟨rfl, rfl, hp, hn⟩ | ⟨h1, hb, rfl, rfl, rfl⟩
  · have e : impl_formatInstr.W (opn op) op a 0 0 0 ⟨#[]⟩ = [opn op, ba (Go.Lib.itoa a)] := by
      unfold impl_formatInstr.W
      rw [if_pos h1]
      rfl
    unfold specQ
    rw [e, if_pos h1, num_in _ 1 a rfl ha.1 (by omega)]
    exact finS_good h
  · have e : impl_formatInstr.W (opn 5) 5 a b c 0 ⟨#[]⟩ = [opn 5, ba (Go.Lib.itoa a), ba (Go.Lib.itoa b), ba (Go.Lib.itoa c)] := rfl
    unfold specQ
    rw [e, if_neg (by omega), if_pos rfl, num_in _ 1 a rfl ha.1 (by omega), num_in _ 2 b rfl hb.1 (by omega), num_in _ 3 c rfl hc.1 (by omega)]
    exact finS_good h
  · have e : impl_formatInstr.W (opn 6) 6 a b c d nm = [opn 6, ba (Go.Lib.itoa a), ba (Go.Lib.itoa b), nm] ++ (impl_some.L c d).map impl_formatInstr_1.S := rfl
    unfold specQ
    rcases pair_facts hp with ⟨rfl, rfl⟩ | ⟨hc, hd⟩
    · have e2 : [opn 6, ba (Go.Lib.itoa a), ba (Go.Lib.itoa b), nm] ++ (impl_some.L (-1) (-1)).map impl_formatInstr_1.S = [opn 6, ba (Go.Lib.itoa a), ba (Go.Lib.itoa b), nm] := rfl
      rw [e, e2, if_neg (by omega), if_neg (by omega), if_pos rfl, num_in _ 1 a rfl ha.1 (by omega), num_in _ 2 b rfl hb.1 (by omega), num_out _ 4 (by simp), num_out _ 5 (by simp), if_pos (by simp)]
      exact finS_good h
    · have hcb : (c == -1) = false := beq_eq_false_iff_ne.mpr (by omega)
      rcases hd with rfl | hd
      · have e2 : [opn 6, ba (Go.Lib.itoa a), ba (Go.Lib.itoa b), nm] ++ (impl_some.L c (-1)).map impl_formatInstr_1.S = [opn 6, ba (Go.Lib.itoa a), ba (Go.Lib.itoa b), nm, ba (Go.Lib.itoa c)] := by
          simp [impl_some.L, List.filter_cons, hcb, S_eq]
        rw [e, e2, if_neg (by omega), if_neg (by omega), if_pos rfl, num_in _ 1 a rfl ha.1 (by omega), num_in _ 2 b rfl hb.1 (by omega), num_in _ 4 c rfl hc.1 (by omega), num_out _ 5 (by simp), if_pos (by simp)]
        exact finS_good h
      · have hdb : (d == -1) = false := beq_eq_false_iff_ne.mpr (by omega)
        have e2 : [opn 6, ba (Go.Lib.itoa a), ba (Go.Lib.itoa b), nm] ++ (impl_some.L c d).map impl_formatInstr_1.S = [opn 6, ba (Go.Lib.itoa a), ba (Go.Lib.itoa b), nm, ba (Go.Lib.itoa c), ba (Go.Lib.itoa d)] := by
          simp [impl_some.L, List.filter_cons, hcb, hdb, S_eq]
        rw [e, e2, if_neg (by omega), if_neg (by omega), if_pos rfl, num_in _ 1 a rfl ha.1 (by omega), num_in _ 2 b rfl hb.1 (by omega), num_in _ 4 c rfl hc.1 (by omega), num_in _ 5 d rfl hd.1 (by omega), if_pos (by simp)]
        exact finS_good h
  · have e : impl_formatInstr.W (opn 7) 7 a 0 c d nm = [opn 7, ba (Go.Lib.itoa a), nm] ++ (impl_some.L c d).map impl_formatInstr_1.S := rfl
    unfold specQ
    rcases pair_facts hp with ⟨rfl, rfl⟩ | ⟨hc, hd⟩
    · have e2 : [opn 7, ba (Go.Lib.itoa a), nm] ++ (impl_some.L (-1) (-1)).map impl_formatInstr_1.S = [opn 7, ba (Go.Lib.itoa a), nm] := rfl
      rw [e, e2, if_neg (by omega), if_neg (by omega), if_neg (by omega), if_pos rfl, num_in _ 1 a rfl ha.1 (by omega), num_out _ 3 (by simp), num_out _ 4 (by simp), if_pos (by simp)]
      exact finS_good h
    · have hcb : (c == -1) = false := beq_eq_false_iff_ne.mpr (by omega)
      rcases hd with rfl | hd
      · have e2 : [opn 7, ba (Go.Lib.itoa a), nm] ++ (impl_some.L c (-1)).map impl_formatInstr_1.S = [opn 7, ba (Go.Lib.itoa a), nm, ba (Go.Lib.itoa c)] := by
          simp [impl_some.L, List.filter_cons, hcb, S_eq]
        rw [e, e2, if_neg (by omega), if_neg (by omega), if_neg (by omega), if_pos rfl, num_in _ 1 a rfl ha.1 (by omega), num_in _ 3 c rfl hc.1 (by omega), num_out _ 4 (by simp), if_pos (by simp)]
        exact finS_good h
      · have hdb : (d == -1) = false := beq_eq_false_iff_ne.mpr (by omega)
        have e2 : [opn 7, ba (Go.Lib.itoa a), nm] ++ (impl_some.L c d).map impl_formatInstr_1.S = [opn 7, ba (Go.Lib.itoa a), nm, ba (Go.Lib.itoa c), ba (Go.Lib.itoa d)] := by
          simp [impl_some.L, List.filter_cons, hcb, hdb, S_eq]
        rw [e, e2, if_neg (by omega), if_neg (by omega), if_neg (by omega), if_pos rfl, num_in _ 1 a rfl ha.1 (by omega), num_in _ 3 c rfl hc.1 (by omega), num_in _ 4 d rfl hd.1 (by omega), if_pos (by simp)]
        exact finS_good h
  · have e : impl_formatInstr.W (opn op) op a b 0 0 ⟨#[]⟩ = [opn op, ba (Go.Lib.itoa a), ba (Go.Lib.itoa b)] := by
      unfold impl_formatInstr.W
      rw [if_neg (by omega), if_neg (by omega), if_neg (by omega), if_neg (by omega)]
      rfl
    unfold specQ
    rw [e, if_neg (by omega), if_neg (by omega), if_neg (by omega), if_neg (by omega), num_in _ 1 a rfl ha.1 (by omega), num_in _ 2 b rfl hb.1 (by omega)]
    exact finS_good h
def ixL : Nat → Nat → ByteArray → Int
  | 0, _, _ => -1
  | d + 1, i, w => if w.data.toList = (impl_OpName.tab.getD i ByteArray.empty).data.toList then (i : Int) else ixL d (i + 1) w
def ixW (w : ByteArray) : Int := ixL 11 0 w
theorem impl_ix_loop (w : ByteArray) : ∀ d k i : Nat, i + d = 11 → d < k → slices_Index_string_string.l0 k impl_OpName.tab w 11 (i : Int) = some (ixL d i w)
  | 0, k, i, h, hk => by
    obtain ⟨k, rfl⟩ : ∃ m, k = m + 1 := ⟨k - 1, by omega⟩
    simp only [slices_Index_string_string.l0]
    rw [if_neg (by omega)]
    rfl
  | d + 1, k, i, h, hk => by
    obtain ⟨k, rfl⟩ : ∃ m, k = m + 1 := ⟨k - 1, by omega⟩
    have e : rdOf ByteArray.empty impl_OpName.tab (i : Int) = impl_OpName.tab.getD i ByteArray.empty := by
      unfold rdOf
      rw [Int.toNat_natCast]
    simp only [slices_Index_string_string.l0]
    rw [if_pos (by omega), if_pos (by omega), if_pos (by show (i : Int) < 11; omega), e, Go.ByteArray.toList_eq, Go.ByteArray.toList_eq, Kit.wrap_succ i (by omega), impl_ix_loop w d k (i + 1) (by omega) (by omega), ixL]
    split <;> rfl
theorem impl_ix (w : ByteArray) (k : Nat) (hk : 11 < k) : slices_Index_string_string.f k impl_OpName.tab w = some (ixW w) := impl_ix_loop w 11 k 0 rfl hk
theorem ixW_opn (op : Int) (h0 : 1 ≤ op) (h1 : op ≤ 10) : ixW (opn op) = op := by
  obtain ⟨n, rfl⟩ := Int.eq_ofNat_of_zero_le (show 0 ≤ op by omega)
  have h : ∀ m : Fin 11, 1 ≤ m.val → ixW (opn (m.val : Int)) = (m.val : Int) := by decide +kernel
  exact h ⟨n, by omega⟩ (by show 1 ≤ n; omega)
theorem atoi_num (n : Int) (h0 : 0 ≤ n) (h1 : n ≤ 1000000000000) : Go.Lib.atoiAll (ba (Go.Lib.itoa n)).data.toList = .ok n := by
  obtain ⟨m, rfl⟩ := Int.eq_ofNat_of_zero_le h0
  exact atoi_canon _ m ⟨by omega, by rw [Go.Lib.itoa_nonneg]; rfl⟩
def okAtoi : Go.Lib.NumEnd Int → Bool
  | .ok _ => true
  | _ => false
theorem atoi_name {nm : ByteArray} (h : nameB nm = true) : okAtoi (Go.Lib.atoiAll nm.data.toList) = false := by
  have hl := name_len h
  have hm := name_mem h
  rw [Go.Lib.atoiAll_short _ (by omega)]
  cases hs : nm.data.toList with
  | nil =>
    rw [hs] at hl
    exact absurd hl.1 (by decide)
  | cons c r =>
    have hc := hm c (by rw [hs]; exact List.mem_cons_self ..)
    have h45 : (c == 45) = false := by
      apply beq_eq_false_iff_ne.2
      rintro rfl
      exact absurd hc.1 (by decide)
    have h43 : (c == 43) = false := by
      apply beq_eq_false_iff_ne.2
      rintro rfl
      exact absurd hc.1 (by decide)
    have hd : Go.Lib.digitVal c = none := by
      unfold Go.Lib.digitVal
      rw [if_neg (by omega)]
    unfold Go.Lib.atoi Go.Lib.decNat
    dsimp only
    rw [h45, h43]
    simp only [Bool.false_eq_true, if_false, List.isEmpty_cons, Go.Lib.decFrom, hd]
    rfl
theorem l_num (fs : List Nat) (r : List ByteArray) (kk : Nat) (a b c d : Int) (nm : ByteArray) (n : Int) (h0 : 0 ≤ n) (h1 : n ≤ 1000000000000) (hk : kk < fs.length) (q : Int × Int × Int × Int) (hq : impl_ParseInstr.put (fs.getD kk 0) n a b c d = q) :
    impl_ParseInstr.l fs (ba (Go.Lib.itoa n) :: r) kk a b c d nm = impl_ParseInstr.l fs r (kk + 1) q.1 q.2.1 q.2.2.1 q.2.2.2 nm := by
  simp only [impl_ParseInstr.l]
  rw [atoi_num n h0 h1]
  dsimp only
  rw [if_neg (by omega), hq]
theorem l_name (fs : List Nat) (r : List ByteArray) (kk : Nat) (a b c d : Int) (x : ByteArray) (h : nameB x = true) : impl_ParseInstr.l fs (x :: r) kk a b c d ⟨#[]⟩ = impl_ParseInstr.l fs r kk a b c d x := by
  simp only [impl_ParseInstr.l]
  have e := atoi_name h
  cases ha : Go.Lib.atoiAll x.data.toList with
  | ok v =>
    rw [ha] at e
    exact absurd e (by simp [okAtoi])
  | _ =>
    dsimp only
    rw [if_pos (bl_nil.2 rfl)]
theorem put_i64 (j : Nat) (n a b c d : Int) (hn : i64P n) (ha : i64P a) (hb : i64P b) (hc : i64P c) (hd : i64P d) : i64P (impl_ParseInstr.put j n a b c d).1 ∧ i64P (impl_ParseInstr.put j n a b c d).2.1 ∧ i64P (impl_ParseInstr.put j n a b c d).2.2.1 ∧ i64P (impl_ParseInstr.put j n a b c d).2.2.2 := by
  unfold impl_ParseInstr.put
  split
  · exact ⟨hn, hb, hc, hd⟩
  split
  · exact ⟨ha, hn, hc, hd⟩
  split
  · exact ⟨ha, hb, hn, hd⟩
  · exact ⟨ha, hb, hc, hn⟩
theorem l_tot (fs : List Nat) : ∀ (r : List ByteArray) (kk : Nat) (a b c d : Int) (nm : ByteArray), (∀ x ∈ r, x.size ≤ 1048576) → nm.size ≤ 1048576 → i64P a → i64P b → i64P c → i64P d →
    impl_ParseInstr.l fs r kk a b c d nm = none ∨ ∃ a' b' c' d' nm', impl_ParseInstr.l fs r kk a b c d nm = some (a', b', c', d', nm') ∧ i64P a' ∧ i64P b' ∧ i64P c' ∧ i64P d' ∧ nm'.size ≤ 1048576
  | [], kk, a, b, c, d, nm, _, hn, ha, hb, hc, hd => .inr ⟨a, b, c, d, nm, rfl, ha, hb, hc, hd, hn⟩
  | x :: r, kk, a, b, c, d, nm, hr, hn, ha, hb, hc, hd => by
    have hr' : ∀ y ∈ r, y.size ≤ 1048576 := fun y hy => hr y (List.mem_cons_of_mem _ hy)
    simp only [impl_ParseInstr.l]
    cases h : Go.Lib.atoiAll x.data.toList with
    | ok n =>
      dsimp only
      split
      · exact .inl rfl
      · obtain ⟨h1, h2, h3, h4⟩ := put_i64 (fs.getD kk 0) n a b c d (Go.Lib.atoiAll_bounds h) ha hb hc hd
        exact l_tot fs r _ _ _ _ _ nm hr' hn h1 h2 h3 h4
    | range =>
      dsimp only
      split
      · exact l_tot fs r _ _ _ _ _ x hr' (hr x (List.mem_cons_self ..)) ha hb hc hd
      · exact .inl rfl
    | _ =>
      dsimp only
      split
      · exact l_tot fs r _ _ _ _ _ x hr' (hr x (List.mem_cons_self ..)) ha hb hc hd
      · exact .inl rfl
theorem impl_pi0 (s : ByteArray) (hs : s.size ≤ 1048576) (k : Nat) (hk : 2000000 < k) : ∃ op, op = mx (ixW ((wordsOf 32 s).getD 0 ByteArray.empty)) 0 ∧
    impl_ParseInstr.f k s = impl_ParseInstr.e k s op (impl_ParseInstr.l (impl_ParseInstr.fs op) ((wordsOf 32 s).drop 1) 0 0 0 (impl_ParseInstr.z op) (impl_ParseInstr.z op) ⟨#[]⟩) := by
  refine ⟨_, rfl, ?_⟩
  have hp := words_pos 32 s
  have hz := words_size 32 s
  have e : rdOf ByteArray.empty (wordsOf 32 s) 0 = (wordsOf 32 s).getD 0 ByteArray.empty := rfl
  unfold impl_ParseInstr.f
  rw [impl_split 32 s (by omega)]
  simp only [Option.bind_some]
  rw [if_pos ⟨hp, by omega, fun x hx => by have := hz.2 x hx; omega⟩, e, impl_ix _ k (by omega)]
  rfl
theorem z_bd (op : Int) : i64P (impl_ParseInstr.z op) := by
  unfold impl_ParseInstr.z i64P
  split
  · omega
  · split <;> omega
theorem impl_e (s : ByteArray) (op a b c d : Int) (nm : ByteArray) (ha : i64P a) (hb : i64P b) (hc : i64P c) (hd : i64P d) (hn : nm.size ≤ 1048576) (k : Nat) (hk : 2000000 < k) : impl_ParseInstr.e k s op (some (a, b, c, d, nm)) = some (if (fiV op a b c d nm).toList = s.toList then if s.toList = [] then z7 else (op, a, b, c, d, nm, true) else z7) := by
  unfold impl_ParseInstr.e
  dsimp only
  rw [impl_fi op a b c d nm ha.1 ha.2 hb.1 hb.2 hc.1 hc.2 hd.1 hd.2 (by omega) k (by omega)]
  simp only [Option.bind_some]
  split
  · split <;> rfl
  · rfl
theorem impl_bad (s : ByteArray) (hs : s.size ≤ 1048576) (h : ∀ op a b c d nm, ¬ pgood s op a b c d nm) (k : Nat) (hk : 2000000 < k) : impl_ParseInstr.f k s = some z7 := by
  obtain ⟨op, _, he⟩ := impl_pi0 s hs k hk
  have hz := words_size 32 s
  rw [he]
  rcases l_tot (impl_ParseInstr.fs op) ((wordsOf 32 s).drop 1) 0 0 0 (impl_ParseInstr.z op) (impl_ParseInstr.z op) ⟨#[]⟩ (fun x hx => by have := hz.2 x (List.mem_of_mem_drop hx); omega) (by decide) z_i64 z_i64 (z_bd op) (z_bd op) with h1 | ⟨a, b, c, d, nm, h1, ha, hb, hc, hd, hn⟩
  · rw [h1]
    rfl
  · rw [h1, impl_e s op a b c d nm ha hb hc hd hn k hk]
    congr 1
    split
    · rename_i ht
      split
      · rfl
      · rename_i hne
        exfalso
        by_cases hi : instrB op a b c d nm = true
        · exact h op a b c d nm ⟨hi, bl_eq.1 ht⟩
        · apply hne
          rw [← ht]
          unfold fiV
          rw [if_neg hi]
          exact bl_nil.2 rfl
    · rfl
theorem impl_l_good {s : ByteArray} {op a b c d : Int} {nm : ByteArray} (h : pgood s op a b c d nm) : impl_ParseInstr.l (impl_ParseInstr.fs op) ((wordsOf 32 s).drop 1) 0 0 0 (impl_ParseInstr.z op) (impl_ParseInstr.z op) ⟨#[]⟩ = some (a, b, c, d, nm) := by
  obtain ⟨ho, ha, hf⟩ := inst_facts h.1
  rw [good_words h]
  rcases hf with ⟨h1, rfl, rfl, rfl, rfl⟩ | ⟨rfl, hb, hc, rfl, rfl⟩ | ⟨rfl, hb, hp, hn⟩ | ⟨rfl, rfl, hp, hn⟩ | ⟨h1, hb, rfl, rfl, rfl⟩
  · have e : impl_formatInstr.W (opn op) op a 0 0 0 ⟨#[]⟩ = [opn op, ba (Go.Lib.itoa a)] := by
      unfold impl_formatInstr.W
      rw [if_pos h1]
      rfl
    have ez : impl_ParseInstr.z op = 0 := by
      unfold impl_ParseInstr.z
      rw [if_neg (by omega), if_neg (by omega)]
    have ef : impl_ParseInstr.fs op = [1, 2, 3] := by
      unfold impl_ParseInstr.fs
      rw [if_neg (by omega), if_neg (by omega)]
    rw [e, ez, ef]
    show impl_ParseInstr.l [1, 2, 3] [ba (Go.Lib.itoa a)] 0 0 0 0 0 ⟨#[]⟩ = _
    rw [l_num _ _ _ _ _ _ _ _ a ha.1 (by omega) (by decide) (a, 0, 0, 0) rfl]
    rfl
  · show impl_ParseInstr.l [1, 2, 3] [ba (Go.Lib.itoa a), ba (Go.Lib.itoa b), ba (Go.Lib.itoa c)] 0 0 0 0 0 ⟨#[]⟩ = _
    rw [l_num _ _ _ _ _ _ _ _ a ha.1 (by omega) (by decide) (a, 0, 0, 0) rfl, l_num _ _ _ _ _ _ _ _ b hb.1 (by omega) (by decide) (a, b, 0, 0) rfl, l_num _ _ _ _ _ _ _ _ c hc.1 (by omega) (by decide) (a, b, c, 0) rfl]
    rfl
  · have e : impl_formatInstr.W (opn 6) 6 a b c d nm = [opn 6, ba (Go.Lib.itoa a), ba (Go.Lib.itoa b), nm] ++ (impl_some.L c d).map impl_formatInstr_1.S := rfl
    rw [e]
    show impl_ParseInstr.l [1, 2, 3, 4] ([ba (Go.Lib.itoa a), ba (Go.Lib.itoa b), nm] ++ (impl_some.L c d).map impl_formatInstr_1.S) 0 0 0 (-1) (-1) ⟨#[]⟩ = _
    simp only [List.cons_append, List.nil_append]
    rw [l_num _ _ _ _ _ _ _ _ a ha.1 (by omega) (by decide) (a, 0, -1, -1) rfl, l_num _ _ _ _ _ _ _ _ b hb.1 (by omega) (by decide) (a, b, -1, -1) rfl, l_name _ _ _ _ _ _ _ nm hn]
    rcases pair_facts hp with ⟨rfl, rfl⟩ | ⟨hc, hd⟩
    · rfl
    · have hcb : (c == -1) = false := beq_eq_false_iff_ne.mpr (by omega)
      rcases hd with rfl | hd
      · have e2 : (impl_some.L c (-1)).map impl_formatInstr_1.S = [ba (Go.Lib.itoa c)] := by
          simp [impl_some.L, List.filter_cons, hcb, S_eq]
        rw [e2, l_num _ _ _ _ _ _ _ _ c hc.1 (by omega) (by decide) (a, b, c, -1) rfl]
        rfl
      · have hdb : (d == -1) = false := beq_eq_false_iff_ne.mpr (by omega)
        have e2 : (impl_some.L c d).map impl_formatInstr_1.S = [ba (Go.Lib.itoa c), ba (Go.Lib.itoa d)] := by
          simp [impl_some.L, List.filter_cons, hcb, hdb, S_eq]
        rw [e2, l_num _ _ _ _ _ _ _ _ c hc.1 (by omega) (by decide) (a, b, c, -1) rfl, l_num _ _ _ _ _ _ _ _ d hd.1 (by omega) (by decide) (a, b, c, d) rfl]
        rfl
  · have e : impl_formatInstr.W (opn 7) 7 a 0 c d nm = [opn 7, ba (Go.Lib.itoa a), nm] ++ (impl_some.L c d).map impl_formatInstr_1.S := rfl
    rw [e]
    show impl_ParseInstr.l [1, 3, 4] ([ba (Go.Lib.itoa a), nm] ++ (impl_some.L c d).map impl_formatInstr_1.S) 0 0 0 (-1) (-1) ⟨#[]⟩ = _
    simp only [List.cons_append, List.nil_append]
    rw [l_num _ _ _ _ _ _ _ _ a ha.1 (by omega) (by decide) (a, 0, -1, -1) rfl, l_name _ _ _ _ _ _ _ nm hn]
    rcases pair_facts hp with ⟨rfl, rfl⟩ | ⟨hc, hd⟩
    · rfl
    · have hcb : (c == -1) = false := beq_eq_false_iff_ne.mpr (by omega)
      rcases hd with rfl | hd
      · have e2 : (impl_some.L c (-1)).map impl_formatInstr_1.S = [ba (Go.Lib.itoa c)] := by
          simp [impl_some.L, List.filter_cons, hcb, S_eq]
        rw [e2, l_num _ _ _ _ _ _ _ _ c hc.1 (by omega) (by decide) (a, 0, c, -1) rfl]
        rfl
      · have hdb : (d == -1) = false := beq_eq_false_iff_ne.mpr (by omega)
        have e2 : (impl_some.L c d).map impl_formatInstr_1.S = [ba (Go.Lib.itoa c), ba (Go.Lib.itoa d)] := by
          simp [impl_some.L, List.filter_cons, hcb, hdb, S_eq]
        rw [e2, l_num _ _ _ _ _ _ _ _ c hc.1 (by omega) (by decide) (a, 0, c, -1) rfl, l_num _ _ _ _ _ _ _ _ d hd.1 (by omega) (by decide) (a, 0, c, d) rfl]
        rfl
  · have e : impl_formatInstr.W (opn op) op a b 0 0 ⟨#[]⟩ = [opn op, ba (Go.Lib.itoa a), ba (Go.Lib.itoa b)] := by
      unfold impl_formatInstr.W
      rw [if_neg (by omega), if_neg (by omega), if_neg (by omega), if_neg (by omega)]
      rfl
    have ez : impl_ParseInstr.z op = 0 := by
      unfold impl_ParseInstr.z
      rw [if_neg (by omega), if_neg (by omega)]
    have ef : impl_ParseInstr.fs op = [1, 2, 3] := by
      unfold impl_ParseInstr.fs
      rw [if_neg (by omega), if_neg (by omega)]
    rw [e, ez, ef]
    show impl_ParseInstr.l [1, 2, 3] [ba (Go.Lib.itoa a), ba (Go.Lib.itoa b)] 0 0 0 0 0 ⟨#[]⟩ = _
    rw [l_num _ _ _ _ _ _ _ _ a ha.1 (by omega) (by decide) (a, 0, 0, 0) rfl, l_num _ _ _ _ _ _ _ _ b hb.1 (by omega) (by decide) (a, b, 0, 0) rfl]
    rfl
theorem good_i64 {s : ByteArray} {op a b c d : Int} {nm : ByteArray} (h : pgood s op a b c d nm) : i64P a ∧ i64P b ∧ i64P c ∧ i64P d ∧ nm.size ≤ 1048576 := by
  obtain ⟨ho, ha, hf⟩ := inst_facts h.1
  unfold i64P
  rcases hf with ⟨h1, rfl, rfl, rfl, rfl⟩ | ⟨rfl, hb, hc, rfl, rfl⟩ | ⟨rfl, hb, hp, hn⟩ | ⟨rfl, rfl, hp, hn⟩ | ⟨h1, hb, rfl, rfl, rfl⟩
  · exact ⟨by omega, by omega, by omega, by omega, by decide⟩
  · exact ⟨by omega, by omega, by omega, by omega, by decide⟩
  · have := name_len hn
    have hz : nm.size = nm.data.toList.length := rfl
    rcases pair_facts hp with h | h <;> exact ⟨by omega, by omega, by omega, by omega, by omega⟩
  · have := name_len hn
    have hz : nm.size = nm.data.toList.length := rfl
    rcases pair_facts hp with h | h <;> exact ⟨by omega, by omega, by omega, by omega, by omega⟩
  · exact ⟨by omega, by omega, by omega, by omega, by decide⟩
theorem impl_good {s : ByteArray} (hs : s.size ≤ 1048576) {op a b c d : Int} {nm : ByteArray} (h : pgood s op a b c d nm) (k : Nat) (hk : 2000000 < k) : impl_ParseInstr.f k s = some (op, a, b, c, d, nm, true) := by
  obtain ⟨op', ho', he⟩ := impl_pi0 s hs k hk
  obtain ⟨ho, _, _⟩ := inst_facts h.1
  have e0 : op' = op := by
    obtain ⟨x, r, hx⟩ := W_head (opn op) op a b c d nm
    rw [ho', good_words h, hx]
    show mx (ixW (opn op)) 0 = op
    rw [ixW_opn op ho.1 ho.2]
    unfold mx
    rw [if_neg (by omega)]
  subst e0
  obtain ⟨ha, hb, hc, hd, hn⟩ := good_i64 h
  rw [he, impl_l_good h, impl_e s op' a b c d nm ha hb hc hd hn k hk, h.2, if_pos rfl, if_neg (good_ne h)]
theorem pi_both (s : ByteArray) (hs : s.size ≤ 1048576) : ∃ r : R7, (∀ k, 2000000 < k → spec_ParseInstr.f k s = some r) ∧ (∀ k, 2000000 < k → impl_ParseInstr.f k s = some r) ∧
    ((r = z7 ∧ ∀ op a b c d nm, ¬ pgood s op a b c d nm) ∨ ∃ op a b c d nm, r = (op, a, b, c, d, nm, true) ∧ pgood s op a b c d nm) := by
  by_cases h : ∃ op a b c d nm, pgood s op a b c d nm
  · obtain ⟨op, a, b, c, d, nm, h⟩ := h
    exact ⟨_, fun k hk => by rw [spec_pi s hs k hk, specQ_good h], fun k hk => impl_good hs h k hk, .inr ⟨op, a, b, c, d, nm, rfl, h⟩⟩
  · have h' : ∀ op a b c d nm, ¬ pgood s op a b c d nm := fun op a b c d nm hp => h ⟨op, a, b, c, d, nm, hp⟩
    refine ⟨z7, fun k hk => ?_, fun k hk => impl_bad s hs h' k hk, .inl ⟨rfl, h'⟩⟩
    rw [spec_pi s hs k hk]
    congr 1
    unfold specQ
    split
    · exact finS_bad (h' _ _ _ _ _ _)
    split
    · exact finS_bad (h' _ _ _ _ _ _)
    split
    · exact finS_bad (h' _ _ _ _ _ _)
    split
    · exact finS_bad (h' _ _ _ _ _ _)
    · exact finS_bad (h' _ _ _ _ _ _)
theorem FnExactParseInstr : OpFnExactParseInstr.Pure := by
  intro a0 hs
  refine ⟨2000001, ?_⟩
  unfold laws_FnExactParseInstr.f
  by_cases c0 : (a0.size : Int) > 1048576
  · rw [if_pos c0]
  rw [if_neg c0]
  obtain ⟨r, h1, h2, _⟩ := pi_both a0 (by omega)
  rw [h1 _ (by omega), h2 _ (by omega)]
  simp only [Option.bind_some]
  unfold laws_eqInstr.f
  rw [if_pos rfl, if_pos rfl, if_pos rfl, if_pos rfl, if_pos rfl, if_pos rfl]
  simp

end Go.Proofs.YtmipaoobkjppdaaDoor.Pure
