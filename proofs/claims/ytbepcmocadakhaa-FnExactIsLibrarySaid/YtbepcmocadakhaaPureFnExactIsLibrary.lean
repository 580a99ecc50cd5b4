/- The plain law of IsLibrary. -/
import Derived.Test.YtbepcmocadakhaaOpFnExactIsLibrary
import Derived.Test.YtbepcmocadakhaaFunc
import Derived.Test.YtbepcmocadakhaaKit2
import Derived.Test.YtbepcmocadakhaaKit
set_option linter.unusedVariables false
set_option linter.unusedSimpArgs false
namespace Go.Proofs.Ytbepcmocadakhaa.Pure
open Go.RowKit Go.Proofs.Ytbepcmocadakhaa.QFnExactIsLibrary Go.Proofs.YtbepcmocadakhaaW.PrintWords Go.Proofs.YtbepcmocadakhaaW.PrintLast Go.Proofs.Ytbepcmocadakhaa.OpFnExactIsLibrary

def inB (a lo hi : Int) : Bool := decide (lo ≤ a) && decide (a ≤ hi)
def lowC (c : UInt8) : Bool := decide (97 ≤ c.toNat) && decide (c.toNat ≤ 122)
def nameB (s : ByteArray) : Bool := inB (s.size : Int) 1 6 && s.data.toList.all lowC
theorem spec_in (a lo hi : Int) : spec_l1In.f a lo hi = some (inB a lo hi) := by
  unfold spec_l1In.f inB
  by_cases h : a ≥ lo
  · rw [if_pos h, decide_eq_true h, Bool.true_and]
  · rw [if_neg h, decide_eq_false h, Bool.false_and]
theorem impl_in_ (a lo hi : Int) : impl_in.f a lo hi = some (inB a lo hi) := spec_in a lo hi
theorem bt_list (s : ByteArray) (i : Nat) (h : i < s.data.toList.length) : bt s (i : Int) = ((s.data.toList[i]).toNat : Int) := by
  have h' : (i : Int).toNat < s.size := by simpa using h
  unfold bt
  rw [dif_pos h']
  rfl
theorem size_list (s : ByteArray) : s.data.toList.length = s.size := rfl
theorem spec_name_loop (s : ByteArray) (hb : s.size ≤ 40000000) (d : Nat) : ∀ (k i : Nat), i ≤ s.size → s.size - i = d → d < k → spec_IsName.l0 k s (i : Int) = some (inB (s.size : Int) 1 6 && (s.data.toList.drop i).all lowC) := by
  induction d with
  | zero =>
    intro k i h0 h1 h2
    obtain ⟨k, rfl⟩ : ∃ m, k = m + 1 := ⟨k - 1, by omega⟩
    simp only [spec_IsName.l0]
    rw [if_neg (by omega), spec_in, List.drop_eq_nil_of_le (by rw [size_list]; omega)]
    simp
  | succ d ih =>
    intro k i h0 h1 h2
    obtain ⟨k, rfl⟩ : ∃ m, k = m + 1 := ⟨k - 1, by omega⟩
    have hi : i < s.data.toList.length := by rw [size_list]; omega
    simp only [spec_IsName.l0]
    rw [if_pos (by omega), if_pos (by omega), bt_list s i hi, Kit.drop_get _ i hi, List.all_cons, Kit.wrap_succ i (by omega), ih k (i + 1) (by omega) (by omega) (by omega)]
    unfold lowC
    by_cases c1 : (((s.data.toList[i]).toNat : Int)) < 97
    · rw [if_pos c1, decide_eq_false (show ¬ 97 ≤ (s.data.toList[i]).toNat by omega)]
      simp
    by_cases c2 : (((s.data.toList[i]).toNat : Int)) > 122
    · rw [if_neg c1, if_pos c2, decide_eq_false (show ¬ (s.data.toList[i]).toNat ≤ 122 by omega)]
      simp
    rw [if_neg c1, if_neg c2, decide_eq_true (show 97 ≤ (s.data.toList[i]).toNat by omega), decide_eq_true (show (s.data.toList[i]).toNat ≤ 122 by omega)]
    simp
theorem impl_name_loop (s : ByteArray) (hb : s.size ≤ 40000000) (d : Nat) : ∀ (k i : Nat), i ≤ s.size → s.size - i = d → d < k → impl_isName.l0 k s (s.size : Int) (i : Int) = some ((s.data.toList.drop i).all lowC) := by
  induction d with
  | zero =>
    intro k i h0 h1 h2
    obtain ⟨k, rfl⟩ : ∃ m, k = m + 1 := ⟨k - 1, by omega⟩
    simp only [impl_isName.l0]
    rw [if_neg (by omega), List.drop_eq_nil_of_le (by rw [size_list]; omega)]
    simp
  | succ d ih =>
    intro k i h0 h1 h2
    obtain ⟨k, rfl⟩ : ∃ m, k = m + 1 := ⟨k - 1, by omega⟩
    have hi : i < s.data.toList.length := by rw [size_list]; omega
    simp only [impl_isName.l0]
    rw [if_pos (by omega), if_pos (by omega), if_pos (by omega), bt_list s i hi, Kit.drop_get _ i hi, List.all_cons, Kit.wrap_succ i (by omega), ih k (i + 1) (by omega) (by omega) (by omega)]
    unfold lowC
    by_cases c1 : (((s.data.toList[i]).toNat : Int)) < 97
    · rw [if_pos c1, decide_eq_false (show ¬ 97 ≤ (s.data.toList[i]).toNat by omega)]
      simp
    by_cases c2 : (((s.data.toList[i]).toNat : Int)) > 122
    · rw [if_neg c1, if_pos c2, decide_eq_false (show ¬ (s.data.toList[i]).toNat ≤ 122 by omega)]
      simp
    rw [if_neg c1, if_neg c2, decide_eq_true (show 97 ≤ (s.data.toList[i]).toNat by omega), decide_eq_true (show (s.data.toList[i]).toNat ≤ 122 by omega)]
    simp
theorem spec_name (s : ByteArray) (hb : s.size ≤ 40000000) (k : Nat) (hk : s.size < k) : spec_IsName.f k s = some (nameB s) := by
  have := spec_name_loop s hb s.size k 0 (by omega) (by omega) hk
  simpa [spec_IsName.f, nameB] using this
theorem impl_name (s : ByteArray) (hb : s.size ≤ 40000000) (k : Nat) (hk : s.size < k) : impl_isName.f k s = some (nameB s) := by
  have := impl_name_loop s hb s.size k 0 (by omega) (by omega) hk
  unfold impl_isName.f nameB
  rw [impl_in_]
  simp only [Option.bind_some]
  cases inB (s.size : Int) 1 6
  · simp
  · simpa using this
def regB (a : Int) : Bool := inB a 0 7
def pairB (c d : Int) : Bool := if c = -1 then d == -1 else regB c && (d == -1 || regB d)
def emptyB (s : ByteArray) : Bool := s.toList == ([] : List UInt8)
def instrB (op a b c d : Int) (s : ByteArray) : Bool :=
  if op = 1 then (c == 0 && (d == 0 && emptyB s)) && (regB a && inB b 0 999999)
  else if op = 2 then (c == 0 && (d == 0 && emptyB s)) && (regB a && inB b 0 1)
  else if op = 3 then (c == 0 && (d == 0 && emptyB s)) && (regB a && inB b 0 2)
  else if op = 4 ∨ op = 10 then (c == 0 && (d == 0 && emptyB s)) && (regB a && b == 0)
  else if op = 5 then (d == 0 && emptyB s) && (regB a && (regB b && regB c))
  else if op = 6 then regB a && (regB b && (pairB c d && nameB s))
  else if op = 7 then regB a && (b == 0 && (pairB c d && nameB s))
  else if op = 8 then (c == 0 && (d == 0 && emptyB s)) && (inB a 0 2 && regB b)
  else if op = 9 then (c == 0 && (d == 0 && emptyB s)) && (regB a && inB b 1 12)
  else false
theorem iteS (p x : Bool) : (if p = true then some x else some false) = some (p && x) := by cases p <;> rfl
theorem iteZ (a : Int) (x : Bool) : (if a = 0 then some x else some false) = some (a == 0 && x) := by
  by_cases h : a = 0
  · simp [h]
  · rw [if_neg h, beq_eq_false_iff_ne.mpr h, Bool.false_and]
theorem spec_reg (a : Int) : spec_IsReg.f a = some (regB a) := by
  unfold spec_IsReg.f regB
  rw [spec_in]
  rfl
theorem impl_reg (a : Int) : impl_isReg.f a = some (regB a) := by
  unfold impl_isReg.f regB
  rw [impl_in_]
  rfl
theorem reg_neg : regB (-1) = false := by decide
theorem spec_two (op a b c d : Int) (s : ByteArray) : spec_l5Two.f op a b c d s = some (pairB c d) := by
  unfold spec_l5Two.f pairB
  simp only [spec_reg, Option.bind_some, iteS]
  by_cases h1 : c = -1 <;> by_cases h2 : d = -1
  · simp [h1, h2]
  · simp [h1, h2, reg_neg]
  · simp [h1, h2]
    cases regB c <;> rfl
  · have e2 : (d == -1) = false := beq_eq_false_iff_ne.mpr h2
    simp [h1, h2, e2, iteS]
theorem impl_pair (c d : Int) : impl_pairOk.f c d = some (pairB c d) := by
  unfold impl_pairOk.f pairB
  simp only [impl_reg, Option.bind_some, iteS]
  by_cases h1 : c = -1 <;> by_cases h2 : d = -1
  · simp [h1, h2, reg_neg]
  · simp [h1, h2, reg_neg]
  · simp [h1, h2, reg_neg]
    cases regB c <;> rfl
  · have e2 : (d == -1) = false := beq_eq_false_iff_ne.mpr h2
    simp [h1, h2, reg_neg, e2]
    cases regB c <;> cases regB d <;> rfl
theorem spec_instr (op a b c d : Int) (s : ByteArray) (hs : s.size ≤ 40000000) (k : Nat) (hk : s.size + 2 < k) : spec_IsInstr.f k op a b c d s = some (instrB op a b c d s) := by
  obtain ⟨k, rfl⟩ : ∃ m, k = m + 1 + 1 := ⟨k - 2, by omega⟩
  have e : spec_IsInstr.f (k + 1 + 1) op a b c d s = spec_IsInstr.j0 (k + 1 + 1) (c == 0 && (d == 0 && emptyB s)) op a b c d s := by
    unfold spec_IsInstr.f emptyB
    by_cases h1 : c = 0
    · by_cases h2 : d = 0
      · rw [if_pos h1, if_pos h2, beq_iff_eq.mpr h1, beq_iff_eq.mpr h2, Bool.true_and, Bool.true_and]
      · rw [if_pos h1, if_neg h2, beq_eq_false_iff_ne.mpr h2, Bool.false_and, Bool.and_false]
    · rw [if_neg h1, beq_eq_false_iff_ne.mpr h1, Bool.false_and]
  rw [e]
  have hn := spec_name s hs k (by omega)
  simp only [spec_IsInstr.j0, spec_IsInstr.j1, spec_reg, spec_in, spec_two, hn, Option.bind_some, iteS, iteZ]
  unfold instrB
  rw [show (s.toList == ([] : List UInt8)) = emptyB s from rfl]
  generalize hp : (c == 0 && (d == 0 && emptyB s)) = p
  by_cases h1 : op = 1
  · simp only [h1, if_true, iteS]
  by_cases h2 : op = 2
  · simp only [h2, if_true, iteS]
    simp
  by_cases h3 : op = 3
  · simp only [h3, if_true, iteS]
    simp
  by_cases h4 : op = 4
  · simp [h4] <;> cases p <;> simp
  by_cases h10 : op = 10
  · simp [h10] <;> cases p <;> simp
  by_cases h5 : op = 5
  · simp [h5] <;> cases regB a <;> cases regB b <;> cases regB c <;> cases (d == 0) <;> cases emptyB s <;> rfl
  by_cases h6 : op = 6
  · simp [h6]
  by_cases h7 : op = 7
  · simp [h7]
  by_cases h8 : op = 8
  · simp [h8] <;> cases p <;> simp
  by_cases h9 : op = 9
  · simp [h9] <;> cases p <;> simp
  simp [h1, h2, h3, h4, h5, h6, h7, h8, h9, h10]
theorem impl_instr (op a b c d : Int) (s : ByteArray) (hs : s.size ≤ 40000000) (k : Nat) (hk : s.size + 2 < k) : impl_isInstr.f k op a b c d s = some (instrB op a b c d s) := by
  obtain ⟨k, rfl⟩ : ∃ m, k = m + 1 := ⟨k - 1, by omega⟩
  have hn := impl_name s hs k (by omega)
  unfold impl_isInstr.f
  simp only [impl_isInstr.j0, impl_reg, impl_in_, impl_pair, hn, Option.bind_some, iteS, iteZ]
  unfold instrB
  rw [show (s.toList == ([] : List UInt8)) = emptyB s from rfl]
  by_cases h1 : op = 1
  · simp only [h1, if_true, iteS]
  by_cases h2 : op = 2
  · simp only [h2, if_true, iteS]
    simp
  by_cases h3 : op = 3
  · simp only [h3, if_true, iteS]
    simp
  by_cases h4 : op = 4
  · simp [h4] <;> cases regB a <;> cases (b == 0) <;> cases (c == 0) <;> cases (d == 0) <;> cases emptyB s <;> rfl
  by_cases h10 : op = 10
  · simp [h10] <;> cases regB a <;> cases (b == 0) <;> cases (c == 0) <;> cases (d == 0) <;> cases emptyB s <;> rfl
  by_cases h5 : op = 5
  · simp [h5]
  by_cases h6 : op = 6
  · simp [h6]
  by_cases h7 : op = 7
  · simp [h7]
  by_cases h8 : op = 8
  · simp [h8]
  by_cases h9 : op = 9
  · simp [h9]
  simp [h1, h2, h3, h4, h5, h6, h7, h8, h9, h10]
theorem s99_ext (x y : S99) : x = y ↔ (x.f0 = y.f0 ∧ x.f1 = y.f1 ∧ x.f2 = y.f2 ∧ x.f3 = y.f3 ∧ x.f4 = y.f4 ∧ x.f5 = y.f5) := by
  cases x; cases y; simp
noncomputable instance : DecidableEq S99 := fun x y => Classical.propDecidable _
def cvI (x : S115) : S99 := ⟨x.f0, x.f1, x.f2, x.f3, x.f4, x.f5⟩
def wtI (x : S115) : Nat := x.f5.size
def okI (x : S115) : Prop := x.f5.size ≤ maxLen
theorem szI (x : S115) (h : okI x) (left : Int) (h0 : 0 ≤ left) (h1 : left ≤ 1048576) : laws_szInstr.f x.f0 x.f1 x.f2 x.f3 x.f4 x.f5 left = some (Kit.sub left (wtI x)) := by
  unfold okI maxLen at h
  have e : wrap64 (left - (x.f5.size : Int)) = left - (x.f5.size : Int) := Kit.wrap_id _ (by omega) (by omega)
  unfold laws_szInstr.f Kit.sub wtI
  rw [e]
  split <;> rfl
theorem szIS (l : List S115) (h : l.length ≤ maxLen) (ho : ∀ x ∈ l, okI x) (left : Int) (h0 : 0 ≤ left) (h1 : left ≤ 1048576) (k : Nat) (hk : 1048577 < k) : laws_szInstrS.f k l left = some (Kit.sub left (l.length + Kit.sumW wtI l)) := by
  have hs : ∀ x ∈ l, ∀ (k : Nat) (left : Int), 1 < k → 0 ≤ left → left ≤ 1048576 → (fun (_ : Nat) (x : S115) (left : Int) => laws_szInstr.f x.f0 x.f1 x.f2 x.f3 x.f4 x.f5 left) k x left = some (Kit.sub left (wtI x)) := by
    intro x hx k left _ a b
    exact szI x (ho x hx) left a b
  have hb : l.length ≤ 9223372036854775807 := by simp only [maxLen] at h; omega
  exact Kit.szG_spec (fun (_ : Nat) (x : S115) (left : Int) => laws_szInstr.f x.f0 x.f1 x.f2 x.f3 x.f4 x.f5 left) wtI z115 laws_szInstrS.l0 (fun _ _ _ _ => by simp only [laws_szInstrS.l0, rd_T115]) (f := laws_szInstrS.f) (fun _ _ _ => rfl) 1 l hs hb left h0 h1 k (by omega)
theorem toIS (l : List S115) (k : Nat) (hk : l.length + 1 < k) (h : l.length ≤ 1048576) : laws_toInstrS.f k l = some (l.map cvI) :=
  Kit.copyG_spec (fun _ x => some (cvI x)) cvI z115 laws_toInstrS.l0 (fun _ _ _ _ => rfl) (f := laws_toInstrS.f) (z := z99) (fun _ _ => rfl) 1 l (fun _ _ _ _ => rfl) (by omega) (by omega) k hk
theorem eqI1 (x y : S99) : laws_eqInstr.f x.f0 x.f1 x.f2 x.f3 x.f4 x.f5 y.f0 y.f1 y.f2 y.f3 y.f4 y.f5 = some (decide (x = y)) := by
  unfold laws_eqInstr.f
  simp only [Kit.bytes_inj]
  by_cases h : x = y
  · subst h
    simp
  · have h' := fun g => h ((s99_ext x y).2 g)
    rw [decide_eq_false h]
    by_cases c0 : x.f0 = y.f0
    · by_cases c1 : x.f1 = y.f1
      · by_cases c2 : x.f2 = y.f2
        · by_cases c3 : x.f3 = y.f3
          · by_cases c4 : x.f4 = y.f4
            · by_cases c5 : x.f5 = y.f5
              · exact absurd ⟨c0, c1, c2, c3, c4, c5⟩ h'
              · rw [if_pos c0, if_pos c1, if_pos c2, if_pos c3, if_pos c4, if_neg c5]
            · rw [if_pos c0, if_pos c1, if_pos c2, if_pos c3, if_neg c4]
          · rw [if_pos c0, if_pos c1, if_pos c2, if_neg c3]
        · rw [if_pos c0, if_pos c1, if_neg c2]
      · rw [if_pos c0, if_neg c1]
    · rw [if_neg c0]
theorem eqIS (a b : List S99) (k : Nat) (hk : a.length + 1 < k) (h : a.length ≤ 40000000) : laws_eqInstrS.f k a b = some (decide (a = b)) :=
  Kit.eqG_spec (fun _ x y => laws_eqInstr.f x.f0 x.f1 x.f2 x.f3 x.f4 x.f5 y.f0 y.f1 y.f2 y.f3 y.f4 y.f5) z99 laws_eqInstrS.l0 (fun _ _ _ _ => rfl) (f := laws_eqInstrS.f) (fun _ _ _ => rfl) 1 a b (fun x _ y _ _ _ => eqI1 x y) (by omega) k hk
def wtM (x : S59) : Nat := x.f0.size + (x.f1.length + Kit.sumW wtI x.f1)
def okM (x : S59) : Prop := x.f0.size ≤ maxLen ∧ x.f1.length ≤ maxLen ∧ ∀ y ∈ x.f1, okI y
theorem szM (x : S59) (h : okM x) (left : Int) (h0 : 0 ≤ left) (h1 : left ≤ 1048576) (k : Nat) (hk : 1048577 < k) : laws_szMethod.f k x.f0 x.f1 left = some (Kit.sub left (wtM x)) := by
  obtain ⟨h2, h3, h4⟩ := h
  simp only [maxLen] at h2
  have e : wrap64 (left - (x.f0.size : Int)) = left - (x.f0.size : Int) := Kit.wrap_id _ (by omega) (by omega)
  unfold laws_szMethod.f wtM
  rw [e]
  by_cases c : left - (x.f0.size : Int) < 0
  · rw [if_pos c]
    congr 1
    unfold Kit.sub
    rw [if_pos (by omega)]
  · rw [if_neg c, szIS x.f1 h3 h4 _ (by omega) (by omega) k hk]
    simp only [Option.bind_some]
    unfold Kit.sub
    split <;> split <;> first | rfl | omega | (split <;> first | rfl | omega | (congr 1; omega)) | (congr 1; omega)
def cvM (x : S59) : S64 := ⟨x.f0, x.f1.map cvI⟩
theorem s64_ext (x y : S64) : x = y ↔ (x.f0 = y.f0 ∧ x.f1 = y.f1) := by
  cases x; cases y; simp
noncomputable instance : DecidableEq S64 := fun x y => Classical.propDecidable _
theorem szMS (l : List S59) (h : l.length ≤ maxLen) (ho : ∀ x ∈ l, okM x) (left : Int) (h0 : 0 ≤ left) (h1 : left ≤ 1048576) (k : Nat) (hk : 2097153 < k) : laws_szMethodS.f k l left = some (Kit.sub left (l.length + Kit.sumW wtM l)) := by
  have hs : ∀ x ∈ l, ∀ (k : Nat) (left : Int), 1048577 < k → 0 ≤ left → left ≤ 1048576 → (fun (k : Nat) (x : S59) (left : Int) => laws_szMethod.f k x.f0 x.f1 left) k x left = some (Kit.sub left (wtM x)) := by
    intro x hx k left hk a b
    exact szM x (ho x hx) left a b k hk
  have hb : l.length ≤ 9223372036854775807 := by simp only [maxLen] at h; omega
  exact Kit.szG_spec (fun (k : Nat) (x : S59) (left : Int) => laws_szMethod.f k x.f0 x.f1 left) wtM z59 laws_szMethodS.l0 (fun _ _ _ _ => by simp only [laws_szMethodS.l0, rd_T59]) (f := laws_szMethodS.f) (fun _ _ _ => rfl) 1048577 l hs hb left h0 h1 k (by omega)
theorem toM1 (x : S59) (k : Nat) (hk : x.f1.length + 1 < k) (h : x.f1.length ≤ 1048576) : laws_toMethod.f k x.f0 x.f1 = some (x.f0, x.f1.map cvI) := by
  unfold laws_toMethod.f
  rw [toIS x.f1 k hk h]
  rfl
theorem toMS (l : List S59) (k : Nat) (hk : l.length + 1048577 < k) (h : l.length ≤ 1048576) (hx : ∀ x ∈ l, x.f1.length ≤ 1048576) : laws_toMethodS.f k l = some (l.map cvM) :=
  Kit.copyG_spec (fun k (x : S59) => (laws_toMethod.f k x.f0 x.f1).bind fun b => some (⟨b.1, b.2⟩ : S64)) cvM z59 laws_toMethodS.l0 (fun _ _ _ _ => by simp only [laws_toMethodS.l0, rd_T59, Option.bind_assoc, Option.bind_some]) (f := laws_toMethodS.f) (z := z64) (fun _ _ => rfl) 1048577 l (fun x hm k hk => by
    have := hx x hm
    show (laws_toMethod.f k x.f0 x.f1).bind _ = _
    rw [toM1 x k (by omega) this]
    rfl) (by omega) (by omega) k hk
theorem eqM1 (x y : S64) (k : Nat) (hk : x.f1.length + 1 < k) (h : x.f1.length ≤ 40000000) : laws_eqMethod.f k x.f0 x.f1 y.f0 y.f1 = some (decide (x = y)) := by
  unfold laws_eqMethod.f
  rw [eqIS x.f1 y.f1 k hk h]
  simp only [Kit.bytes_inj, Option.bind_some]
  by_cases e : x = y
  · subst e
    simp
  · have h' := fun g => e ((s64_ext x y).2 g)
    rw [decide_eq_false e]
    by_cases c0 : x.f0 = y.f0
    · by_cases c1 : x.f1 = y.f1
      · exact absurd ⟨c0, c1⟩ h'
      · rw [if_pos c0, decide_eq_false c1]
        rfl
    · rw [if_neg c0]
theorem eqMS (a b : List S64) (k : Nat) (hk : a.length + 1048577 < k) (h : a.length ≤ 40000000) (hx : ∀ x ∈ a, x.f1.length ≤ 1048576) : laws_eqMethodS.f k a b = some (decide (a = b)) :=
  Kit.eqG_spec (fun k (x y : S64) => laws_eqMethod.f k x.f0 x.f1 y.f0 y.f1) z64 laws_eqMethodS.l0 (fun _ _ _ _ => rfl) (f := laws_eqMethodS.f) (fun _ _ _ => rfl) 1048577 a b (fun x hm y _ k hk => by
    have := hx x hm
    exact eqM1 x y k (by omega) (by omega)) (by omega) k hk
theorem le_sumW' {α : Type} (w : α → Nat) : ∀ (l : List α) (x : α), x ∈ l → w x ≤ Kit.sumW w l
  | [], x, h => absurd h (by simp)
  | y :: ys, x, h => by
    have e : Kit.sumW w (y :: ys) = w y + Kit.sumW w ys := by simp [Kit.sumW]
    rw [e]
    rcases List.mem_cons.1 h with rfl | h
    · omega
    · have := le_sumW' w ys x h
      omega
def wtS (x : S49) : Nat := x.f0.size + (x.f1.length + Kit.sumW wtM x.f1)
def okS (x : S49) : Prop := x.f0.size ≤ maxLen ∧ x.f1.length ≤ maxLen ∧ ∀ y ∈ x.f1, okM y
def cvS (x : S49) : S54 := ⟨x.f0, x.f1.map cvM⟩
theorem s54_ext (x y : S54) : x = y ↔ (x.f0 = y.f0 ∧ x.f1 = y.f1) := by
  cases x; cases y; simp
noncomputable instance : DecidableEq S54 := fun x y => Classical.propDecidable _
/-- What a size says of the parts. -/
theorem partM (l : List S59) (n : Nat) (h : l.length + Kit.sumW wtM l ≤ n) : ∀ x ∈ l, x.f1.length ≤ n ∧ x.f0.size ≤ n ∧ ∀ y ∈ x.f1, y.f5.size ≤ n := by
  intro x hx
  have h1 := le_sumW' wtM l x hx
  have h2 : wtM x = x.f0.size + (x.f1.length + Kit.sumW wtI x.f1) := rfl
  refine ⟨by omega, by omega, fun y hy => ?_⟩
  have h3 := le_sumW' wtI x.f1 y hy
  have h4 : wtI y = y.f5.size := rfl
  omega
theorem szS (x : S49) (h : okS x) (left : Int) (h0 : 0 ≤ left) (h1 : left ≤ 1048576) (k : Nat) (hk : 2097153 < k) : laws_szScript.f k x.f0 x.f1 left = some (Kit.sub left (wtS x)) := by
  obtain ⟨h2, h3, h4⟩ := h
  simp only [maxLen] at h2
  have e : wrap64 (left - (x.f0.size : Int)) = left - (x.f0.size : Int) := Kit.wrap_id _ (by omega) (by omega)
  unfold laws_szScript.f wtS
  rw [e]
  by_cases c : left - (x.f0.size : Int) < 0
  · rw [if_pos c]
    congr 1
    unfold Kit.sub
    rw [if_pos (by omega)]
  · rw [if_neg c, szMS x.f1 h3 h4 _ (by omega) (by omega) k hk]
    simp only [Option.bind_some]
    unfold Kit.sub
    split <;> split <;> first | rfl | omega | (split <;> first | rfl | omega | (congr 1; omega)) | (congr 1; omega)
theorem toS1 (x : S49) (k : Nat) (hk : 2097160 < k) (h : x.f1.length ≤ 1048576) (hx : ∀ y ∈ x.f1, y.f1.length ≤ 1048576) : laws_toScript.f k x.f0 x.f1 = some (x.f0, x.f1.map cvM) := by
  unfold laws_toScript.f
  rw [toMS x.f1 k (by omega) h hx]
  rfl
theorem eqS1 (x y : S54) (k : Nat) (hk : 2097160 < k) (h : x.f1.length ≤ 1048576) (hx : ∀ y ∈ x.f1, y.f1.length ≤ 1048576) : laws_eqScript.f k x.f0 x.f1 y.f0 y.f1 = some (decide (x = y)) := by
  unfold laws_eqScript.f
  rw [eqMS x.f1 y.f1 k (by omega) (by omega) hx]
  simp only [Kit.bytes_inj, Option.bind_some]
  by_cases e : x = y
  · subst e
    simp
  · have h' := fun g => e ((s54_ext x y).2 g)
    rw [decide_eq_false e]
    by_cases c0 : x.f0 = y.f0
    · by_cases c1 : x.f1 = y.f1
      · exact absurd ⟨c0, c1⟩ h'
      · rw [if_pos c0, decide_eq_false c1]
        rfl
    · rw [if_neg c0]
theorem szSS (l : List S49) (h : l.length ≤ maxLen) (ho : ∀ x ∈ l, okS x) (left : Int) (h0 : 0 ≤ left) (h1 : left ≤ 1048576) (k : Nat) (hk : 3145730 < k) : laws_szScriptS.f k l left = some (Kit.sub left (l.length + Kit.sumW wtS l)) := by
  have hs : ∀ x ∈ l, ∀ (k : Nat) (left : Int), 2097153 < k → 0 ≤ left → left ≤ 1048576 → (fun (k : Nat) (x : S49) (left : Int) => laws_szScript.f k x.f0 x.f1 left) k x left = some (Kit.sub left (wtS x)) := by
    intro x hx k left hk a b
    exact szS x (ho x hx) left a b k hk
  have hb : l.length ≤ 9223372036854775807 := by simp only [maxLen] at h; omega
  exact Kit.szG_spec (fun (k : Nat) (x : S49) (left : Int) => laws_szScript.f k x.f0 x.f1 left) wtS z49 laws_szScriptS.l0 (fun _ _ _ _ => by simp only [laws_szScriptS.l0, rd_T49]) (f := laws_szScriptS.f) (fun _ _ _ => rfl) 2097153 l hs hb left h0 h1 k (by omega)
/-- A script that is not too large. -/
def fitS (n : Nat) (x : S49) : Prop := x.f0.size ≤ n ∧ x.f1.length ≤ n ∧ ∀ y ∈ x.f1, y.f1.length ≤ n ∧ y.f0.size ≤ n ∧ ∀ z ∈ y.f1, z.f5.size ≤ n
theorem fit_of (x : S49) (n : Nat) (h : wtS x ≤ n) : fitS n x := by
  have h2 : wtS x = x.f0.size + (x.f1.length + Kit.sumW wtM x.f1) := rfl
  exact ⟨by omega, by omega, partM x.f1 n (by omega)⟩
theorem fit_all (l : List S49) (n : Nat) (h : l.length + Kit.sumW wtS l ≤ n) : ∀ x ∈ l, fitS n x := fun x hx => fit_of x n (by have := le_sumW' wtS l x hx; omega)
theorem toSS (l : List S49) (k : Nat) (hk : 4000000 < k) (h : l.length ≤ 1048576) (hx : ∀ x ∈ l, fitS 1048576 x) : laws_toScriptS.f k l = some (l.map cvS) :=
  Kit.copyG_spec (fun k (x : S49) => (laws_toScript.f k x.f0 x.f1).bind fun b => some (⟨b.1, b.2⟩ : S54)) cvS z49 laws_toScriptS.l0 (fun _ _ _ _ => by simp only [laws_toScriptS.l0, rd_T49, Option.bind_assoc, Option.bind_some]) (f := laws_toScriptS.f) (z := z54) (fun _ _ => rfl) 2097160 l (fun x hm k hk => by
    have := hx x hm
    show (laws_toScript.f k x.f0 x.f1).bind _ = _
    rw [toS1 x k hk this.2.1 (fun y hy => (this.2.2 y hy).1)]
    rfl) (by omega) (by omega) k (by omega)
theorem eqSS (a b : List S54) (k : Nat) (hk : 4000000 < k) (h : a.length ≤ 1048576) (hx : ∀ x ∈ a, x.f1.length ≤ 1048576 ∧ ∀ y ∈ x.f1, y.f1.length ≤ 1048576) : laws_eqScriptS.f k a b = some (decide (a = b)) :=
  Kit.eqG_spec (fun k (x y : S54) => laws_eqScript.f k x.f0 x.f1 y.f0 y.f1) z54 laws_eqScriptS.l0 (fun _ _ _ _ => rfl) (f := laws_eqScriptS.f) (fun _ _ _ => rfl) 2097160 a b (fun x hm y _ k hk => by
    have := hx x hm
    exact eqS1 x y k hk this.1 this.2) (by omega) k (by omega)
theorem fit_cv (x : S49) (n : Nat) (h : fitS n x) : (cvS x).f1.length ≤ n ∧ ∀ y ∈ (cvS x).f1, y.f1.length ≤ n := by
  refine ⟨by show (x.f1.map cvM).length ≤ n; rw [List.length_map]; exact h.2.1, fun y hy => ?_⟩
  obtain ⟨z, hz, rfl⟩ := List.mem_map.1 hy
  show (z.f1.map cvI).length ≤ n
  rw [List.length_map]
  exact (h.2.2 z hz).1
theorem le_sumW {α : Type} (w : α → Nat) : ∀ (l : List α) (x : α), x ∈ l → w x ≤ Kit.sumW w l
  | [], x, h => absurd h (by simp)
  | y :: ys, x, h => by
    have e : Kit.sumW w (y :: ys) = w y + Kit.sumW w ys := by simp [Kit.sumW]
    rw [e]
    rcases List.mem_cons.1 h with rfl | h
    · omega
    · have := le_sumW w ys x h
      omega
/-- One instruction's, one method's law. -/
def instB (x : S99) : Bool := instrB x.f0 x.f1 x.f2 x.f3 x.f4 x.f5
def methB (nm : ByteArray) (l : List S99) : Bool := nameB nm && (decide (l.length ≤ 12) && l.all instB)
theorem impl_meth (nm : ByteArray) (l : List S99) (hn : nm.size ≤ 1048576) (hl : l.length ≤ 1048576) (hw : ∀ x ∈ l, x.f5.size ≤ 1048576) (k : Nat) (hk : 50000000 < k) : impl_isMethod.f k nm l = some (methB nm l) := by
  unfold impl_isMethod.f methB
  rw [impl_name nm (by omega) k (by omega)]
  simp only [Option.bind_some]
  cases hnm : nameB nm with
  | false => rfl
  | true =>
    rw [if_pos rfl, Bool.true_and]
    by_cases c : l.length ≤ 12
    · rw [if_pos (by omega), decide_eq_true c, Bool.true_and]
      obtain ⟨r, r1, r2⟩ := Func.idxO_any (fun x => !(instB x)) l 0 (by omega)
      have e := Func.idxO_congr (q := fun x : S99 => impl_isMethod_1.f k x.f0 x.f1 x.f2 x.f3 x.f4 x.f5) (q' := fun x => some (!(instB x))) l 0 (fun x hx => by
        have := hw x hx
        show impl_isMethod_1.f k x.f0 x.f1 x.f2 x.f3 x.f4 x.f5 = _
        unfold impl_isMethod_1.f
        rw [impl_instr _ _ _ _ _ _ (by omega) k (by omega)]
        rfl)
      rw [e, r1]
      simp only [Option.bind_some]
      rw [r2]
      congr 1
      induction l with
      | nil => rfl
      | cons x xs _ => simp [List.any_eq_not_all_not]
    · rw [if_neg (by omega), decide_eq_false c]
      rfl
theorem meth_loop (nm : ByteArray) (l : List S99) (hn : nm.size ≤ 40000000) (hl : l.length ≤ 40000000) (hw : ∀ x ∈ l, x.f5.size ≤ 40000000) (d : Nat) : ∀ (k i : Nat), i ≤ l.length → l.length - i = d → d + 40000010 < k → spec_IsMethod.l0 k (i : Int) nm l = some ((l.drop i).all instB && (nameB nm && decide (l.length ≤ 12))) := by
  induction d with
  | zero =>
    intro k i h0 h1 h2
    obtain ⟨k, rfl⟩ : ∃ m, k = m + 1 := ⟨k - 1, by omega⟩
    simp only [spec_IsMethod.l0]
    rw [if_neg (by omega), spec_name nm hn k (by omega), List.drop_of_length_le (by omega)]
    simp only [Option.bind_some, List.all_nil, Bool.true_and]
    have : decide ((l.length : Int) ≤ 12) = decide (l.length ≤ 12) := by
      apply Bool.eq_iff_iff.2
      simp only [decide_eq_true_eq]
      omega
    rw [this]
    cases nameB nm <;> rfl
  | succ d ih =>
    intro k i h0 h1 h2
    obtain ⟨k, rfl⟩ : ∃ m, k = m + 1 := ⟨k - 1, by omega⟩
    have hi : i < l.length := by omega
    have e : rd_T99 l (i : Int) = l[i] := by
      unfold rd_T99
      rw [Int.toNat_natCast, List.getD_eq_getElem?_getD, List.getElem?_eq_getElem hi]
      rfl
    have hx := hw l[i] (List.getElem_mem hi)
    simp only [spec_IsMethod.l0]
    rw [if_pos (by omega), if_pos (by omega), e, spec_instr _ _ _ _ _ _ hx k (by omega), Kit.wrap_succ i (by omega), Kit.drop_get l i hi, List.all_cons]
    simp only [Option.bind_some]
    have hf : instrB l[i].f0 l[i].f1 l[i].f2 l[i].f3 l[i].f4 l[i].f5 = instB l[i] := rfl
    rw [hf, ih k (i + 1) (by omega) (by omega) (by omega)]
    cases instB l[i]
    · simp
    · simp
theorem spec_meth (nm : ByteArray) (l : List S99) (hn : nm.size ≤ 1048576) (hl : l.length ≤ 1048576) (hw : ∀ x ∈ l, x.f5.size ≤ 1048576) (k : Nat) (hk : 50000000 < k) : spec_IsMethod.f k nm l = some (methB nm l) := by
  have := meth_loop nm l (by omega) (by omega) (fun x hx => by have := hw x hx; omega) l.length k 0 (by omega) (by omega) (by omega)
  unfold methB
  rw [← Bool.and_assoc, Bool.and_comm (nameB nm && _) _]
  unfold spec_IsMethod.f
  refine this.trans ?_
  simp
/-- Does an earlier method bear the name? -/
def dupAt (l : List S64) (j i : Nat) : Bool := ((l.take i).drop j).any fun y => y.f0.toList == (l.getD i z64).f0.toList
/-- The methods from i on: each good, none twice. -/
def methsFrom (l : List S64) : Nat → Nat → Bool
  | 0, _ => true
  | d + 1, i => methB (l.getD i z64).f0 (l.getD i z64).f1 && (!(dupAt l 0 i) && methsFrom l d (i + 1))
theorem rd_im (l : List S64) (i : Nat) : rd_T64 l (i : Int) = l.getD i z64 := by
  unfold rd_T64
  rw [Int.toNat_natCast]
theorem inner (nm : ByteArray) (l : List S64) (hl : l.length ≤ 1048576) (i : Nat) (hi : i < l.length) (v : Bool) (K : Nat) (hK : ∀ k, K ≤ k → spec_IsScript.l0 k ((i + 1 : Nat) : Int) nm l = some v) (d : Nat) : ∀ (k j : Nat), j ≤ i → i - j = d → K + d < k → spec_IsScript.l1 k (i : Int) (j : Int) nm l = some (!(dupAt l j i) && v) := by
  induction d with
  | zero =>
    intro k j h0 h1 h2
    obtain ⟨k, rfl⟩ : ∃ m, k = m + 1 := ⟨k - 1, by omega⟩
    obtain rfl : j = i := by omega
    simp only [spec_IsScript.l1]
    rw [if_neg (by omega), Kit.wrap_succ j (by omega), hK k (by omega)]
    unfold dupAt
    rw [List.drop_of_length_le (by rw [List.length_take]; omega)]
    rfl
  | succ d ih =>
    intro k j h0 h1 h2
    obtain ⟨k, rfl⟩ : ∃ m, k = m + 1 := ⟨k - 1, by omega⟩
    have hj : j < (l.take i).length := by rw [List.length_take]; omega
    have hd : dupAt l j i = ((l.getD j z64).f0.toList == (l.getD i z64).f0.toList || dupAt l (j + 1) i) := by
      unfold dupAt
      rw [List.drop_eq_getElem_cons hj, List.any_cons, List.getElem_take]
      congr 2
      rw [List.getD_eq_getElem?_getD, List.getElem?_eq_getElem (by omega)]
      rfl
    simp only [spec_IsScript.l1]
    rw [if_pos (by omega), if_pos (by omega), if_pos (by omega), if_pos (by omega), if_pos (by omega), rd_im, rd_im, Kit.wrap_succ j (by omega), hd]
    by_cases c : (l.getD j z64).f0.toList = (l.getD i z64).f0.toList
    · rw [if_pos c, show ((l.getD j z64).f0.toList == (l.getD i z64).f0.toList) = true from by simpa using c]
      rfl
    · rw [if_neg c, show ((l.getD j z64).f0.toList == (l.getD i z64).f0.toList) = false from by simpa using c, Bool.false_or]
      exact ih k (j + 1) (by omega) (by omega) (by omega)
theorem outer (nm : ByteArray) (hn : nm.size ≤ 1048576) (l : List S64) (hl : l.length ≤ 1048576) (hm : ∀ x ∈ l, ∀ k, 50000000 < k → spec_IsMethod.f k x.f0 x.f1 = some (methB x.f0 x.f1)) : ∀ (d i : Nat), i ≤ l.length → l.length - i = d → ∃ K, ∀ k, K ≤ k → spec_IsScript.l0 k (i : Int) nm l = some (methsFrom l d i && (nameB nm && decide (l.length ≤ 4)))
  | 0, i, h0, h1 => by
    refine ⟨1048600, fun k hk => ?_⟩
    obtain ⟨k, rfl⟩ : ∃ m, k = m + 1 := ⟨k - 1, by omega⟩
    simp only [spec_IsScript.l0, methsFrom]
    rw [if_neg (by omega), spec_name nm (by omega) k (by omega)]
    simp only [Option.bind_some, Bool.true_and]
    have : decide ((l.length : Int) ≤ 4) = decide (l.length ≤ 4) := by
      apply Bool.eq_iff_iff.2
      simp only [decide_eq_true_eq]
      omega
    rw [this]
    cases nameB nm <;> rfl
  | d + 1, i, h0, h1 => by
    have hi : i < l.length := by omega
    obtain ⟨K, hK⟩ := outer nm hn l hl hm d (i + 1) (by omega) (by omega)
    have hin := inner nm l hl i hi _ K hK i
    refine ⟨K + i + 50000010, fun k hk => ?_⟩
    obtain ⟨k, rfl⟩ : ∃ m, k = m + 1 := ⟨k - 1, by omega⟩
    have hx : l.getD i z64 ∈ l := by
      rw [List.getD_eq_getElem?_getD, List.getElem?_eq_getElem hi]
      exact List.getElem_mem hi
    simp only [spec_IsScript.l0, methsFrom]
    rw [if_pos (by omega), if_pos (by omega), rd_im, hm _ hx k (by omega)]
    simp only [Option.bind_some]
    cases methB (l.getD i z64).f0 (l.getD i z64).f1 with
    | false => rfl
    | true =>
      rw [if_pos rfl]
      have := hin k 0 (by omega) (by omega) (by omega)
      refine this.trans ?_
      rw [Bool.true_and, Bool.and_assoc]
theorem impl_l0 (l : List S64) (hl : l.length ≤ 1048576) (k : Nat) (hk : 50000000 < k) (hm : ∀ x ∈ l, impl_isMethod.f k x.f0 x.f1 = some (methB x.f0 x.f1)) : ∀ (d i : Nat), i ≤ l.length → l.length - i = d → impl_isScript.l0 k l d = some (methsFrom l d i)
  | 0, i, h0, h1 => rfl
  | d + 1, i, h0, h1 => by
    have hi : i < l.length := by omega
    have hx : l.getD i z64 ∈ l := by
      rw [List.getD_eq_getElem?_getD, List.getElem?_eq_getElem hi]
      exact List.getElem_mem hi
    have e : (l.length : Int) - ((d + 1 : Nat) : Int) = (i : Int) := by omega
    obtain ⟨r, r1, r2⟩ := Func.idxO_any (fun y : S64 => y.f0.toList == (l.getD i z64).f0.toList) (l.take i) 0 (by omega)
    unfold impl_isScript.l0 methsFrom
    rw [e, rd_im, hm _ hx]
    simp only [Option.bind_some]
    cases methB (l.getD i z64).f0 (l.getD i z64).f1 with
    | false => rfl
    | true =>
      have hd : dupAt l 0 i = decide (r ≥ 0) := by
        rw [r2]
        unfold dupAt
        rw [List.drop_zero]
      rw [if_pos rfl, Int.toNat_natCast, r1]
      simp only [Option.bind_some]
      rw [hd, Bool.true_and]
      by_cases c : r ≥ 0
      · rw [if_pos c, decide_eq_true c]
        rfl
      · rw [if_neg c, decide_eq_false c, impl_l0 l hl k hk hm d (i + 1) (by omega) (by omega)]
        rfl
def scriptB (nm : ByteArray) (l : List S64) : Bool := methsFrom l (l.length - 0) 0 && (nameB nm && decide (l.length ≤ 4))
/-- Methods that are not too large. -/
def fitM (l : List S64) : Prop := l.length ≤ 1048576 ∧ ∀ x ∈ l, x.f0.size ≤ 1048576 ∧ x.f1.length ≤ 1048576 ∧ ∀ z ∈ x.f1, z.f5.size ≤ 1048576
theorem spec_script (nm : ByteArray) (hn : nm.size ≤ 1048576) (l : List S64) (hf : fitM l) : ∃ K, ∀ k, K ≤ k → spec_IsScript.f k nm l = some (scriptB nm l) :=
  outer nm hn l hf.1 (fun x hx k hk => spec_meth x.f0 x.f1 (hf.2 x hx).1 (hf.2 x hx).2.1 (hf.2 x hx).2.2 k hk) _ 0 (by omega) rfl
theorem impl_script (nm : ByteArray) (hn : nm.size ≤ 1048576) (l : List S64) (hf : fitM l) (k : Nat) (hk : 50000000 < k) : impl_isScript.f k nm l = some (scriptB nm l) := by
  have hl := hf.1
  have hmi : ∀ x ∈ l, impl_isMethod.f k x.f0 x.f1 = some (methB x.f0 x.f1) := fun x hx => impl_meth x.f0 x.f1 (hf.2 x hx).1 (hf.2 x hx).2.1 (hf.2 x hx).2.2 k hk
  unfold impl_isScript.f scriptB
  rw [impl_name nm (by omega) k (by omega)]
  simp only [Option.bind_some]
  cases nameB nm with
  | false => simp
  | true =>
    rw [if_pos rfl]
    by_cases c4 : l.length ≤ 4
    · rw [if_neg (by omega), impl_l0 l hl k hk hmi _ 0 (by omega) (by omega), decide_eq_true c4]
      simp
    · rw [if_pos (by omega), decide_eq_false c4]
      simp
/-- An element's first index is its own, if no earlier one is like it. -/
theorem idx_take {α : Type} (p : α → Bool) (z : α) : ∀ (l : List α) (i : Nat) (s : Int), 0 ≤ s → i < l.length → p (l.getD i z) = true → ∃ r1 r2, Func.idxO (fun x => some (p x)) l s = some r1 ∧ Func.idxO (fun x => some (p x)) (l.take i) s = some r2 ∧ (r1 = s + (i : Int) ↔ ¬ r2 ≥ 0)
  | [], _, _, _, h, _ => absurd h (by simp)
  | x :: xs, 0, s, h0, _, hp => by
    have hx : p x = true := hp
    refine ⟨s, -1, ?_, rfl, by simp⟩
    unfold Func.idxO
    simp only [Option.bind_some]
    rw [if_pos hx]
  | x :: xs, i + 1, s, h0, h, hp => by
    obtain ⟨r1, r2, e1, e2, e3⟩ := idx_take p z xs i (s + 1) (by omega) (by simpa using h) (by simpa using hp)
    by_cases c : p x = true
    · refine ⟨s, s, ?_, ?_, ?_⟩
      · unfold Func.idxO
        simp only [Option.bind_some]
        rw [if_pos c]
      · rw [List.take_succ_cons]
        unfold Func.idxO
        simp only [Option.bind_some]
        rw [if_pos c]
      · constructor
        · intro h
          omega
        · intro h
          exact absurd h0 h
    · refine ⟨r1, r2, ?_, ?_, ?_⟩
      · unfold Func.idxO
        simp only [Option.bind_some]
        rw [if_neg c]
        exact e1
      · rw [List.take_succ_cons]
        unfold Func.idxO
        simp only [Option.bind_some]
        rw [if_neg c]
        exact e2
      · rw [← e3]
        constructor <;> intro h <;> omega
theorem rd_is (l : List S54) (i : Nat) : rd_T54 l (i : Int) = l.getD i z54 := by
  unfold rd_T54
  rw [Int.toNat_natCast]
theorem spec_find (l : List S54) (s : ByteArray) (hb : l.length ≤ 1048576) (d : Nat) : ∀ (k i : Nat), i ≤ l.length → l.length - i = d → d < k → spec_FindScript.l0 k l s (i : Int) = Func.idxO (fun x : S54 => some (x.f0.toList == s.toList)) (l.drop i) (i : Int) := by
  induction d with
  | zero =>
    intro k i h0 h1 h2
    obtain ⟨k, rfl⟩ : ∃ m, k = m + 1 := ⟨k - 1, by omega⟩
    simp only [spec_FindScript.l0]
    rw [if_neg (by omega), List.drop_of_length_le (by omega)]
    rfl
  | succ d ih =>
    intro k i h0 h1 h2
    obtain ⟨k, rfl⟩ : ∃ m, k = m + 1 := ⟨k - 1, by omega⟩
    have hi : i < l.length := by omega
    simp only [spec_FindScript.l0]
    rw [if_pos (by omega), if_pos (by omega), Kit.wrap_succ i (by omega), Func.idxO_step _ l z54 i hi, ih k (i + 1) (by omega) (by omega) (by omega)]
    rw [rd_is]
    simp only [Option.bind_some]
    by_cases c : (l.getD i z54).f0.toList = s.toList
    · rw [if_pos c, if_pos (by simpa using c)]
    · rw [if_neg c, if_neg (by simpa using c)]
/-- The first script of the name of number i. -/
def firstB (l : List S54) (i : Nat) : Bool := decide (Func.idxO (fun x : S54 => some (x.f0.toList == (l.getD i z54).f0.toList)) l 0 = some (i : Int))
theorem firstB_spec (l : List S54) (i : Nat) (r1 : Int) (h : Func.idxO (fun x : S54 => some (x.f0.toList == (l.getD i z54).f0.toList)) l 0 = some r1) : firstB l i = decide (r1 = (i : Int)) := by
  unfold firstB
  rw [h]
  apply decide_eq_decide.2
  simp only [Option.some.injEq]
/-- The scripts from i on: each good, each the first of its name. -/
def libFrom (l : List S54) : Nat → Nat → Bool
  | 0, _ => true
  | d + 1, i => scriptB (l.getD i z54).f0 (l.getD i z54).f1 && (firstB l i && libFrom l d (i + 1))
theorem all_script : ∀ (l : List S54), (∀ x ∈ l, x.f0.size ≤ 1048576 ∧ fitM x.f1) → ∃ K, ∀ x ∈ l, ∀ k, K ≤ k → spec_IsScript.f k x.f0 x.f1 = some (scriptB x.f0 x.f1)
  | [], _ => ⟨0, fun x hx => absurd hx (by simp)⟩
  | y :: ys, h => by
    obtain ⟨K1, h1⟩ := all_script ys (fun x hx => h x (List.mem_cons_of_mem _ hx))
    obtain ⟨K2, h2⟩ := spec_script y.f0 (h y (List.mem_cons_self ..)).1 y.f1 (h y (List.mem_cons_self ..)).2
    refine ⟨K1 + K2, fun x hx k hk => ?_⟩
    rcases List.mem_cons.1 hx with rfl | hx
    · exact h2 k (by omega)
    · exact h1 x hx k (by omega)
theorem lib_spec (l : List S54) (hl : l.length ≤ 1048576) (K : Nat) (hK : ∀ x ∈ l, ∀ k, K ≤ k → spec_IsScript.f k x.f0 x.f1 = some (scriptB x.f0 x.f1)) : ∀ (d k i : Nat), i ≤ l.length → l.length - i = d → K + d + 1048580 < k → spec_IsLibrary.l0 k l (i : Int) = some (libFrom l d i && decide (l.length ≤ 6))
  | 0, k, i, h0, h1, h2 => by
    obtain ⟨k, rfl⟩ : ∃ m, k = m + 1 := ⟨k - 1, by omega⟩
    simp only [spec_IsLibrary.l0, libFrom]
    rw [if_neg (by omega), Bool.true_and]
    congr 1
    apply Bool.eq_iff_iff.2
    simp only [decide_eq_true_eq]
    omega
  | d + 1, k, i, h0, h1, h2 => by
    obtain ⟨k, rfl⟩ : ∃ m, k = m + 1 := ⟨k - 1, by omega⟩
    have hi : i < l.length := by omega
    have hx : l.getD i z54 ∈ l := by
      rw [List.getD_eq_getElem?_getD, List.getElem?_eq_getElem hi]
      exact List.getElem_mem hi
    obtain ⟨r, r1, _⟩ := Func.idxO_any (fun x : S54 => x.f0.toList == (l.getD i z54).f0.toList) l 0 (by omega)
    have e3 : spec_FindScript.f k l (l.getD i z54).f0 = some r := by
      unfold spec_FindScript.f
      refine (spec_find l (l.getD i z54).f0 hl l.length k 0 (by omega) (by omega) (by omega)).trans ?_
      rw [List.drop_zero]
      exact r1
    have hf := firstB_spec l i r r1
    simp only [spec_IsLibrary.l0, libFrom]
    rw [if_pos (by omega), if_pos (by omega), rd_is, hK _ hx k (by omega)]
    simp only [Option.bind_some]
    cases scriptB (l.getD i z54).f0 (l.getD i z54).f1 with
    | false => simp
    | true =>
      rw [if_pos rfl, e3]
      simp only [Option.bind_some]
      rw [hf, Bool.true_and]
      by_cases c : r = (i : Int)
      · rw [if_pos c, decide_eq_true c, Kit.wrap_succ i (by omega), lib_spec l hl K hK d k (i + 1) (by omega) (by omega) (by omega), Bool.true_and]
      · rw [if_neg c, decide_eq_false c]
        rfl
theorem lib_impl (l : List S54) (hl : l.length ≤ 1048576) (hf : ∀ x ∈ l, x.f0.size ≤ 1048576 ∧ fitM x.f1) : ∀ (d k i : Nat), i ≤ l.length → l.length - i = d → d + 50000010 < k → impl_isLibrary.l0 k l l (l.length : Int) (i : Int) = some (libFrom l d i)
  | 0, k, i, h0, h1, h2 => by
    obtain ⟨k, rfl⟩ : ∃ m, k = m + 1 := ⟨k - 1, by omega⟩
    simp only [impl_isLibrary.l0, libFrom]
    rw [if_neg (by omega)]
  | d + 1, k, i, h0, h1, h2 => by
    obtain ⟨k, rfl⟩ : ∃ m, k = m + 1 := ⟨k - 1, by omega⟩
    have hi : i < l.length := by omega
    have hx : l.getD i z54 ∈ l := by
      rw [List.getD_eq_getElem?_getD, List.getElem?_eq_getElem hi]
      exact List.getElem_mem hi
    obtain ⟨r1, r2, e1, e2, e3⟩ := idx_take (fun x : S54 => x.f0.toList == (l.getD i z54).f0.toList) z54 l i 0 (by omega) hi (by simp)
    have e4 : impl_FindScript.f (l.take i) (l.getD i z54).f0 = some r2 := by
      unfold impl_FindScript.f
      rw [if_pos (by rw [List.length_take]; omega)]
      exact e2
    have hb := firstB_spec l i r1 e1
    have hs := impl_script (l.getD i z54).f0 (hf _ hx).1 (l.getD i z54).f1 (hf _ hx).2 k (by omega)
    simp only [impl_isLibrary.l0, libFrom]
    rw [if_pos (by omega), if_pos (by omega), if_pos (by omega), rd_is, hs]
    simp only [Option.bind_some]
    cases scriptB (l.getD i z54).f0 (l.getD i z54).f1 with
    | false => simp
    | true =>
      rw [if_pos rfl, if_pos (by omega), Int.toNat_natCast, e4]
      simp only [Option.bind_some]
      rw [hb, Bool.true_and]
      by_cases c : r2 ≥ 0
      · rw [if_pos c, decide_eq_false (fun h => (e3.1 (by omega)) c)]
        rfl
      · rw [if_neg c, decide_eq_true (by have := e3.2 c; omega), Kit.wrap_succ i (by omega), lib_impl l hl hf d k (i + 1) (by omega) (by omega) (by omega), Bool.true_and]
theorem lib_law (y0 : List S49) (hg : y0.length ≤ maxLen ∧ ∀ y ∈ y0, OpFnExactIsLibrary.G49 y) : ∃ K, ∀ k, K ≤ k → laws_FnExactIsLibrary.f k y0 = some true := by
  have ho : ∀ x ∈ y0, okS x := fun x hx => ⟨(hg.2 x hx).1, (hg.2 x hx).2.1, fun y hy => ⟨((hg.2 x hx).2.2 y hy).1, ((hg.2 x hx).2.2 y hy).2.1, fun z hz => (((hg.2 x hx).2.2 y hy).2.2 z hz).2.2.2.2.2⟩⟩
  by_cases c : Kit.sub 1048576 (y0.length + Kit.sumW wtS y0) < 0
  · refine ⟨60000000, fun k k0 => ?_⟩
    unfold laws_FnExactIsLibrary.f
    rw [szSS y0 hg.1 ho 1048576 (by omega) (by omega) k (by omega)]
    simp only [Option.bind_some]
    rw [if_pos c]
  · have h1 := (Kit.sub_le 1048576 (y0.length + Kit.sumW wtS y0) (by omega)).1
    have hf := fit_all y0 1048576 (by omega)
    have hl : (y0.map cvS).length ≤ 1048576 := by rw [List.length_map]; omega
    have hm : ∀ x ∈ y0.map cvS, x.f0.size ≤ 1048576 ∧ fitM x.f1 := by
      intro x hx
      obtain ⟨u, hu, rfl⟩ := List.mem_map.1 hx
      have hz := hf u hu
      refine ⟨hz.1, by show (u.f1.map cvM).length ≤ 1048576; rw [List.length_map]; exact hz.2.1, fun m hm => ?_⟩
      obtain ⟨v, hv, rfl⟩ := List.mem_map.1 hm
      refine ⟨(hz.2.2 v hv).2.1, by show (v.f1.map cvI).length ≤ 1048576; rw [List.length_map]; exact (hz.2.2 v hv).1, fun t ht => ?_⟩
      obtain ⟨s, hs, rfl⟩ := List.mem_map.1 ht
      exact (hz.2.2 v hv).2.2 s hs
    obtain ⟨K, hK⟩ := all_script (y0.map cvS) hm
    refine ⟨K + 60000000, fun k k0 => ?_⟩
    have e1 : laws_toScriptS.f k y0 = some (y0.map cvS) := toSS y0 k (by omega) (by omega) hf
    have e2 : spec_IsLibrary.f k (y0.map cvS) = some (libFrom (y0.map cvS) (y0.map cvS).length 0 && decide ((y0.map cvS).length ≤ 6)) := lib_spec (y0.map cvS) hl K hK _ k 0 (by omega) (by omega) (by omega)
    have e3 : impl_IsLibrary.f k (y0.map cvS) = some (libFrom (y0.map cvS) (y0.map cvS).length 0 && decide ((y0.map cvS).length ≤ 6)) := by
      unfold impl_IsLibrary.f impl_isLibrary.f
      by_cases c8 : (y0.map cvS).length ≤ 6
      · rw [if_neg (by omega)]
        have := lib_impl (y0.map cvS) hl hm (y0.map cvS).length k 0 (by omega) (by omega) (by omega)
        rw [show (0 : Int) = ((0 : Nat) : Int) from rfl, this, decide_eq_true c8, Bool.and_true]
        rfl
      · rw [if_pos (by omega), decide_eq_false c8, Bool.and_false]
        rfl
    have e5 : laws_eqScriptS.f k (y0.map cvS) (y0.map cvS) = some true := by
      rw [eqSS (y0.map cvS) (y0.map cvS) k (by omega) hl (fun x hx => by
        obtain ⟨z, hz, rfl⟩ := List.mem_map.1 hx
        exact fit_cv z 1048576 (hf z hz)), decide_eq_true rfl]
    unfold laws_FnExactIsLibrary.f
    rw [szSS y0 hg.1 ho 1048576 (by omega) (by omega) k (by omega)]
    simp only [Option.bind_some]
    rw [if_neg c, e1]
    simp only [Option.bind_some]
    rw [e2]
    simp only [Option.bind_some]
    rw [e3]
    simp only [Option.bind_some]
    rw [if_neg (by simp), e5]
    rfl
theorem FnExactIsLibrary : OpFnExactIsLibrary.Pure := by
  intro y0 hg
  obtain ⟨K, h⟩ := lib_law y0 hg
  exact ⟨K, h K (Nat.le_refl _)⟩

end Go.Proofs.Ytbepcmocadakhaa.Pure
