/- The plain law of EqualScripts. -/
import Derived.Test.YtbepcmocadakhaaOpFnExactEqualScripts
import Derived.Test.YtbepcmocadakhaaEq
import Derived.Test.YtbepcmocadakhaaKit2
import Derived.Test.YtbepcmocadakhaaKit
set_option linter.unusedVariables false
set_option linter.unusedSimpArgs false
namespace Go.Proofs.Ytbepcmocadakhaa.Pure
open Go.RowKit Go.Proofs.Ytbepcmocadakhaa.QFnExactEqualScripts Go.Proofs.YtbepcmocadakhaaW.PrintWords Go.Proofs.YtbepcmocadakhaaW.PrintLast Go.Proofs.Ytbepcmocadakhaa.OpFnExactEqualScripts

theorem s99_ext (x y : S99) : x = y ↔ (x.f0 = y.f0 ∧ x.f1 = y.f1 ∧ x.f2 = y.f2 ∧ x.f3 = y.f3 ∧ x.f4 = y.f4 ∧ x.f5 = y.f5) := by
  cases x; cases y; simp
noncomputable instance : DecidableEq S99 := fun x y => Classical.propDecidable _
def cvI (x : S115) : S99 := ⟨x.f0, x.f1, x.f2, x.f3, x.f4, x.f5⟩
def wtI (x : S115) : Nat := x.f5.size
def okI (x : S115) : Prop := x.f5.size ≤ maxLen
theorem szI (x : S115) (h : okI x) (left : Int) (h0 : 0 ≤ left) (h1 : left ≤ 1048576) : laws_szInstr.f x.f0 x.f1 x.f2 x.f3 x.f4 x.f5 left = some (Kit.sub left (wtI x)) := by
  unfold okI maxLen at h
  have e : wrap64 (left - (x.f5.size : Int)) = left - (x.f5.size : Int) := Kit.wrap_id _ (by omega) (by omega)
  unfold laws_szInstr.f Kit.sub wtI
  rw [e]
  split <;> rfl
theorem szIS (l : List S115) (h : l.length ≤ maxLen) (ho : ∀ x ∈ l, okI x) (left : Int) (h0 : 0 ≤ left) (h1 : left ≤ 1048576) (k : Nat) (hk : 1048577 < k) : laws_szInstrS.f k l left = some (Kit.sub left (l.length + Kit.sumW wtI l)) := by
  have hs : ∀ x ∈ l, ∀ (k : Nat) (left : Int), 1 < k → 0 ≤ left → left ≤ 1048576 → (fun (_ : Nat) (x : S115) (left : Int) => laws_szInstr.f x.f0 x.f1 x.f2 x.f3 x.f4 x.f5 left) k x left = some (Kit.sub left (wtI x)) := by
    intro x hx k left _ a b
    exact szI x (ho x hx) left a b
  have hb : l.length ≤ 9223372036854775807 := by simp only [maxLen] at h; omega
  exact Kit.szG_spec (fun (_ : Nat) (x : S115) (left : Int) => laws_szInstr.f x.f0 x.f1 x.f2 x.f3 x.f4 x.f5 left) wtI z115 laws_szInstrS.l0 (fun _ _ _ _ => by simp only [laws_szInstrS.l0, rd_T115]) (f := laws_szInstrS.f) (fun _ _ _ => rfl) 1 l hs hb left h0 h1 k (by omega)
theorem toIS (l : List S115) (k : Nat) (hk : l.length + 1 < k) (h : l.length ≤ 1048576) : laws_toInstrS.f k l = some (l.map cvI) :=
  Kit.copyG_spec (fun _ x => some (cvI x)) cvI z115 laws_toInstrS.l0 (fun _ _ _ _ => rfl) (f := laws_toInstrS.f) (z := z99) (fun _ _ => rfl) 1 l (fun _ _ _ _ => rfl) (by omega) (by omega) k hk
theorem eqI1 (x y : S99) : laws_eqInstr.f x.f0 x.f1 x.f2 x.f3 x.f4 x.f5 y.f0 y.f1 y.f2 y.f3 y.f4 y.f5 = some (decide (x = y)) := by
  unfold laws_eqInstr.f
  simp only [Kit.bytes_inj]
  by_cases h : x = y
  · subst h
    simp
  · have h' := fun g => h ((s99_ext x y).2 g)
    rw [decide_eq_false h]
    by_cases c0 : x.f0 = y.f0
    · by_cases c1 : x.f1 = y.f1
      · by_cases c2 : x.f2 = y.f2
        · by_cases c3 : x.f3 = y.f3
          · by_cases c4 : x.f4 = y.f4
            · by_cases c5 : x.f5 = y.f5
              · exact absurd ⟨c0, c1, c2, c3, c4, c5⟩ h'
              · rw [if_pos c0, if_pos c1, if_pos c2, if_pos c3, if_pos c4, if_neg c5]
            · rw [if_pos c0, if_pos c1, if_pos c2, if_pos c3, if_neg c4]
          · rw [if_pos c0, if_pos c1, if_pos c2, if_neg c3]
        · rw [if_pos c0, if_pos c1, if_neg c2]
      · rw [if_pos c0, if_neg c1]
    · rw [if_neg c0]
theorem eqIS (a b : List S99) (k : Nat) (hk : a.length + 1 < k) (h : a.length ≤ 40000000) : laws_eqInstrS.f k a b = some (decide (a = b)) :=
  Kit.eqG_spec (fun _ x y => laws_eqInstr.f x.f0 x.f1 x.f2 x.f3 x.f4 x.f5 y.f0 y.f1 y.f2 y.f3 y.f4 y.f5) z99 laws_eqInstrS.l0 (fun _ _ _ _ => rfl) (f := laws_eqInstrS.f) (fun _ _ _ => rfl) 1 a b (fun x _ y _ _ _ => eqI1 x y) (by omega) k hk
def wtM (x : S59) : Nat := x.f0.size + (x.f1.length + Kit.sumW wtI x.f1)
def okM (x : S59) : Prop := x.f0.size ≤ maxLen ∧ x.f1.length ≤ maxLen ∧ ∀ y ∈ x.f1, okI y
theorem szM (x : S59) (h : okM x) (left : Int) (h0 : 0 ≤ left) (h1 : left ≤ 1048576) (k : Nat) (hk : 1048577 < k) : laws_szMethod.f k x.f0 x.f1 left = some (Kit.sub left (wtM x)) := by
  obtain ⟨h2, h3, h4⟩ := h
  simp only [maxLen] at h2
  have e : wrap64 (left - (x.f0.size : Int)) = left - (x.f0.size : Int) := Kit.wrap_id _ (by omega) (by omega)
  unfold laws_szMethod.f wtM
  rw [e]
  by_cases c : left - (x.f0.size : Int) < 0
  · rw [if_pos c]
    congr 1
    unfold Kit.sub
    rw [if_pos (by omega)]
  · rw [if_neg c, szIS x.f1 h3 h4 _ (by omega) (by omega) k hk]
    simp only [Option.bind_some]
    unfold Kit.sub
    split <;> split <;> first | rfl | omega | (split <;> first | rfl | omega | (congr 1; omega)) | (congr 1; omega)
def cvM (x : S59) : S64 := ⟨x.f0, x.f1.map cvI⟩
theorem s64_ext (x y : S64) : x = y ↔ (x.f0 = y.f0 ∧ x.f1 = y.f1) := by
  cases x; cases y; simp
noncomputable instance : DecidableEq S64 := fun x y => Classical.propDecidable _
theorem szMS (l : List S59) (h : l.length ≤ maxLen) (ho : ∀ x ∈ l, okM x) (left : Int) (h0 : 0 ≤ left) (h1 : left ≤ 1048576) (k : Nat) (hk : 2097153 < k) : laws_szMethodS.f k l left = some (Kit.sub left (l.length + Kit.sumW wtM l)) := by
  have hs : ∀ x ∈ l, ∀ (k : Nat) (left : Int), 1048577 < k → 0 ≤ left → left ≤ 1048576 → (fun (k : Nat) (x : S59) (left : Int) => laws_szMethod.f k x.f0 x.f1 left) k x left = some (Kit.sub left (wtM x)) := by
    intro x hx k left hk a b
    exact szM x (ho x hx) left a b k hk
  have hb : l.length ≤ 9223372036854775807 := by simp only [maxLen] at h; omega
  exact Kit.szG_spec (fun (k : Nat) (x : S59) (left : Int) => laws_szMethod.f k x.f0 x.f1 left) wtM z59 laws_szMethodS.l0 (fun _ _ _ _ => by simp only [laws_szMethodS.l0, rd_T59]) (f := laws_szMethodS.f) (fun _ _ _ => rfl) 1048577 l hs hb left h0 h1 k (by omega)
theorem toM1 (x : S59) (k : Nat) (hk : x.f1.length + 1 < k) (h : x.f1.length ≤ 1048576) : laws_toMethod.f k x.f0 x.f1 = some (x.f0, x.f1.map cvI) := by
  unfold laws_toMethod.f
  rw [toIS x.f1 k hk h]
  rfl
theorem toMS (l : List S59) (k : Nat) (hk : l.length + 1048577 < k) (h : l.length ≤ 1048576) (hx : ∀ x ∈ l, x.f1.length ≤ 1048576) : laws_toMethodS.f k l = some (l.map cvM) :=
  Kit.copyG_spec (fun k (x : S59) => (laws_toMethod.f k x.f0 x.f1).bind fun b => some (⟨b.1, b.2⟩ : S64)) cvM z59 laws_toMethodS.l0 (fun _ _ _ _ => by simp only [laws_toMethodS.l0, rd_T59, Option.bind_assoc, Option.bind_some]) (f := laws_toMethodS.f) (z := z64) (fun _ _ => rfl) 1048577 l (fun x hm k hk => by
    have := hx x hm
    show (laws_toMethod.f k x.f0 x.f1).bind _ = _
    rw [toM1 x k (by omega) this]
    rfl) (by omega) (by omega) k hk
theorem eqM1 (x y : S64) (k : Nat) (hk : x.f1.length + 1 < k) (h : x.f1.length ≤ 40000000) : laws_eqMethod.f k x.f0 x.f1 y.f0 y.f1 = some (decide (x = y)) := by
  unfold laws_eqMethod.f
  rw [eqIS x.f1 y.f1 k hk h]
  simp only [Kit.bytes_inj, Option.bind_some]
  by_cases e : x = y
  · subst e
    simp
  · have h' := fun g => e ((s64_ext x y).2 g)
    rw [decide_eq_false e]
    by_cases c0 : x.f0 = y.f0
    · by_cases c1 : x.f1 = y.f1
      · exact absurd ⟨c0, c1⟩ h'
      · rw [if_pos c0, decide_eq_false c1]
        rfl
    · rw [if_neg c0]
theorem eqMS (a b : List S64) (k : Nat) (hk : a.length + 1048577 < k) (h : a.length ≤ 40000000) (hx : ∀ x ∈ a, x.f1.length ≤ 1048576) : laws_eqMethodS.f k a b = some (decide (a = b)) :=
  Kit.eqG_spec (fun k (x y : S64) => laws_eqMethod.f k x.f0 x.f1 y.f0 y.f1) z64 laws_eqMethodS.l0 (fun _ _ _ _ => rfl) (f := laws_eqMethodS.f) (fun _ _ _ => rfl) 1048577 a b (fun x hm y _ k hk => by
    have := hx x hm
    exact eqM1 x y k (by omega) (by omega)) (by omega) k hk
theorem le_sumW' {α : Type} (w : α → Nat) : ∀ (l : List α) (x : α), x ∈ l → w x ≤ Kit.sumW w l
  | [], x, h => absurd h (by simp)
  | y :: ys, x, h => by
    have e : Kit.sumW w (y :: ys) = w y + Kit.sumW w ys := by simp [Kit.sumW]
    rw [e]
    rcases List.mem_cons.1 h with rfl | h
    · omega
    · have := le_sumW' w ys x h
      omega
def wtS (x : S49) : Nat := x.f0.size + (x.f1.length + Kit.sumW wtM x.f1)
def okS (x : S49) : Prop := x.f0.size ≤ maxLen ∧ x.f1.length ≤ maxLen ∧ ∀ y ∈ x.f1, okM y
def cvS (x : S49) : S54 := ⟨x.f0, x.f1.map cvM⟩
theorem s54_ext (x y : S54) : x = y ↔ (x.f0 = y.f0 ∧ x.f1 = y.f1) := by
  cases x; cases y; simp
noncomputable instance : DecidableEq S54 := fun x y => Classical.propDecidable _
/-- What a size says of the parts. -/
theorem partM (l : List S59) (n : Nat) (h : l.length + Kit.sumW wtM l ≤ n) : ∀ x ∈ l, x.f1.length ≤ n ∧ x.f0.size ≤ n ∧ ∀ y ∈ x.f1, y.f5.size ≤ n := by
  intro x hx
  have h1 := le_sumW' wtM l x hx
  have h2 : wtM x = x.f0.size + (x.f1.length + Kit.sumW wtI x.f1) := rfl
  refine ⟨by omega, by omega, fun y hy => ?_⟩
  have h3 := le_sumW' wtI x.f1 y hy
  have h4 : wtI y = y.f5.size := rfl
  omega
theorem szS (x : S49) (h : okS x) (left : Int) (h0 : 0 ≤ left) (h1 : left ≤ 1048576) (k : Nat) (hk : 2097153 < k) : laws_szScript.f k x.f0 x.f1 left = some (Kit.sub left (wtS x)) := by
  obtain ⟨h2, h3, h4⟩ := h
  simp only [maxLen] at h2
  have e : wrap64 (left - (x.f0.size : Int)) = left - (x.f0.size : Int) := Kit.wrap_id _ (by omega) (by omega)
  unfold laws_szScript.f wtS
  rw [e]
  by_cases c : left - (x.f0.size : Int) < 0
  · rw [if_pos c]
    congr 1
    unfold Kit.sub
    rw [if_pos (by omega)]
  · rw [if_neg c, szMS x.f1 h3 h4 _ (by omega) (by omega) k hk]
    simp only [Option.bind_some]
    unfold Kit.sub
    split <;> split <;> first | rfl | omega | (split <;> first | rfl | omega | (congr 1; omega)) | (congr 1; omega)
theorem toS1 (x : S49) (k : Nat) (hk : 2097160 < k) (h : x.f1.length ≤ 1048576) (hx : ∀ y ∈ x.f1, y.f1.length ≤ 1048576) : laws_toScript.f k x.f0 x.f1 = some (x.f0, x.f1.map cvM) := by
  unfold laws_toScript.f
  rw [toMS x.f1 k (by omega) h hx]
  rfl
theorem eqS1 (x y : S54) (k : Nat) (hk : 2097160 < k) (h : x.f1.length ≤ 1048576) (hx : ∀ y ∈ x.f1, y.f1.length ≤ 1048576) : laws_eqScript.f k x.f0 x.f1 y.f0 y.f1 = some (decide (x = y)) := by
  unfold laws_eqScript.f
  rw [eqMS x.f1 y.f1 k (by omega) (by omega) hx]
  simp only [Kit.bytes_inj, Option.bind_some]
  by_cases e : x = y
  · subst e
    simp
  · have h' := fun g => e ((s54_ext x y).2 g)
    rw [decide_eq_false e]
    by_cases c0 : x.f0 = y.f0
    · by_cases c1 : x.f1 = y.f1
      · exact absurd ⟨c0, c1⟩ h'
      · rw [if_pos c0, decide_eq_false c1]
        rfl
    · rw [if_neg c0]
theorem rd_ii (l : List S99) (i : Nat) : rd_T99 l (i : Int) = l.getD i z99 := by
  unfold rd_T99
  rw [Int.toNat_natCast]
theorem rd_im (l : List S64) (i : Nat) : rd_T64 l (i : Int) = l.getD i z64 := by
  unfold rd_T64
  rw [Int.toNat_natCast]
theorem get_lt {α : Type} (l : List α) (z : α) (i : Nat) (h : i < l.length) : l.getD i z = l[i] := by
  rw [List.getD_eq_getElem?_getD, List.getElem?_eq_getElem h]
  rfl
theorem neI (x y : S99) : (!(x.f0 == y.f0) || (!(x.f1 == y.f1) || (!(x.f2 == y.f2) || (!(x.f3 == y.f3) || (!(x.f4 == y.f4) || (!(x.f5.toList == y.f5.toList))))))) = !decide (x = y) := by
  by_cases e : x = y
  · subst e
    simp
  · rw [decide_eq_false e]
    have h' := fun g => e ((s99_ext x y).2 g)
    apply Classical.byContradiction
    intro hn
    apply h'
    simp only [Bool.not_false, Bool.or_eq_true, Bool.not_eq_eq_eq_not, Bool.not_true, beq_eq_false_iff_ne, ne_eq, not_or, Decidable.not_not] at hn
    exact ⟨hn.1, hn.2.1, hn.2.2.1, hn.2.2.2.1, hn.2.2.2.2.1, by simpa only [Kit.bytes_inj] using hn.2.2.2.2.2⟩
theorem implI (a b : List S99) (k : Nat) (hk : a.length < k) (h : a.length ≤ 40000000) : impl_Instr.f k a b = some (decide (a = b)) :=
  Kit.eqn_spec z99 impl_Instr.l0 (fun k x0 x1 n i => by
    simp only [impl_Instr.l0, neI]
    show _ = if _ then (if _ then (if _ then (if _ then (if rd_T99 x0 i = rd_T99 x1 i then _ else _) else _) else _) else _) else _
    by_cases h0 : rd_T99 x0 i = rd_T99 x1 i <;> simp [h0]) (f := impl_Instr.f) (fun _ _ _ => rfl) a b (by omega) k hk
theorem impl_scripts (n0 n1 : ByteArray) (a b : List S64) (hl : a.length ≤ 1048576) (hm : ∀ x ∈ a, x.f1.length ≤ 1048576) (k : Nat) (hk : 1048600 < k) : impl_EqualScripts.f k n0 a n1 b = some (decide (n0 = n1 ∧ a = b)) := by
  unfold impl_EqualScripts.f
  by_cases c : n0 = n1
  · rw [if_pos (by rw [c]), if_pos (by omega)]
    by_cases c1 : a.length = b.length
    · rw [if_pos (by omega)]
      rw [Func.eqO_eq _ a b (fun l m => decide (l = m)) (fun l m => decide_eq_true_iff) c1 (fun x hx y _ => ?_)]
      · congr 1
        apply decide_eq_decide.2
        exact ⟨fun h => ⟨c, h⟩, fun h => h.2⟩
      · refine ⟨decide (x = y), ?_, decide_eq_true_iff⟩
        show impl_EqualScripts_1.f k x.f0 x.f1 y.f0 y.f1 = _
        unfold impl_EqualScripts_1.f
        have hx1 := hm x hx
        by_cases c2 : x.f0 = y.f0
        · rw [if_pos (by rw [c2]), implI x.f1 y.f1 k (by omega) (by omega)]
          simp only [Option.bind_some]
          congr 1
          apply decide_eq_decide.2
          rw [s64_ext]
          exact ⟨fun h => ⟨c2, h⟩, fun h => h.2⟩
        · rw [if_neg (by simpa only [Kit.bytes_inj] using c2), decide_eq_false (fun h => c2 (by rw [h]))]
    · rw [if_neg (by omega), decide_eq_false (fun h => c1 (by rw [h.2]))]
  · rw [if_neg (by simpa only [Kit.bytes_inj] using c), decide_eq_false (fun h => c h.1)]
theorem inner (n0 n1 : ByteArray) (a b : List S64) (i : Nat) (hi : i < 1048576) (u v : ByteArray) (x y : List S99) (hxy : x.length = y.length) (hx : x.length ≤ 1048576) (r : Bool) (K : Nat) (hK : ∀ k, K ≤ k → spec_EqualScripts.l0 k ((i + 1 : Nat) : Int) n0 a n1 b = some r) (d : Nat) : ∀ (k j : Nat), j ≤ x.length → x.length - j = d → K + d < k → spec_EqualScripts.l1 k (i : Int) (j : Int) n0 a n1 b u x v y = some (decide (x.drop j = y.drop j) && r) := by
  induction d with
  | zero =>
    intro k j h0 h1 h2
    obtain ⟨k, rfl⟩ : ∃ m, k = m + 1 := ⟨k - 1, by omega⟩
    simp only [spec_EqualScripts.l1]
    rw [if_neg (by omega), Kit.wrap_succ i (by omega), hK k (by omega), List.drop_of_length_le (by omega), List.drop_of_length_le (by omega), decide_eq_true rfl, Bool.true_and]
  | succ d ih =>
    intro k j h0 h1 h2
    obtain ⟨k, rfl⟩ : ∃ m, k = m + 1 := ⟨k - 1, by omega⟩
    have h3 : j < x.length := by omega
    have h4 : j < y.length := by omega
    simp only [spec_EqualScripts.l1, neI]
    rw [if_pos (by omega), if_pos (by omega), if_pos (by omega), rd_ii, rd_ii, get_lt x _ j h3, get_lt y _ j h4, Kit.wrap_succ j (by omega), List.drop_eq_getElem_cons h3, List.drop_eq_getElem_cons h4]
    by_cases c : x[j] = y[j]
    · rw [decide_eq_true c, if_neg (by simp), ih k (j + 1) (by omega) (by omega) (by omega)]
      congr 2
      apply decide_eq_decide.2
      rw [c]
      simp only [List.cons.injEq, true_and]
    · rw [decide_eq_false c, if_pos (by simp), decide_eq_false (by
        intro h
        simp only [List.cons.injEq] at h
        exact c h.1), Bool.false_and]
theorem outer (n0 n1 : ByteArray) (a b : List S64) (hab : a.length = b.length) (hl : a.length ≤ 1048576) (hm : ∀ x ∈ a, x.f1.length ≤ 1048576) : ∀ (d i : Nat), i ≤ a.length → a.length - i = d → ∃ K, ∀ k, K ≤ k → spec_EqualScripts.l0 k (i : Int) n0 a n1 b = some (decide (a.drop i = b.drop i))
  | 0, i, h0, h1 => by
    refine ⟨1, fun k hk => ?_⟩
    obtain ⟨k, rfl⟩ : ∃ m, k = m + 1 := ⟨k - 1, by omega⟩
    simp only [spec_EqualScripts.l0]
    rw [if_neg (by omega), List.drop_of_length_le (by omega), List.drop_of_length_le (by omega), decide_eq_true rfl]
  | d + 1, i, h0, h1 => by
    have h3 : i < a.length := by omega
    have h4 : i < b.length := by omega
    obtain ⟨K, hK⟩ := outer n0 n1 a b hab hl hm d (i + 1) (by omega) (by omega)
    have hx := hm a[i] (List.getElem_mem h3)
    refine ⟨K + a[i].f1.length + 10, fun k hk => ?_⟩
    obtain ⟨k, rfl⟩ : ∃ m, k = m + 2 := ⟨k - 2, by omega⟩
    have hd : decide (a.drop i = b.drop i) = decide (a[i] = b[i] ∧ a.drop (i + 1) = b.drop (i + 1)) := by
      apply decide_eq_decide.2
      rw [List.drop_eq_getElem_cons h3, List.drop_eq_getElem_cons h4]
      simp only [List.cons.injEq]
    rw [hd]
    simp only [spec_EqualScripts.l0]
    rw [if_pos (by omega), if_pos (by omega), if_pos (by omega), rd_im, rd_im, get_lt a _ i h3, get_lt b _ i h4]
    simp only [spec_EqualScripts.j2]
    by_cases c0 : a[i].f0 = b[i].f0
    · rw [if_pos (by rw [c0])]
      by_cases c1 : a[i].f1.length = b[i].f1.length
      · rw [if_neg (by rw [c1]; simp)]
        have := inner n0 n1 a b i (by omega) a[i].f0 b[i].f0 a[i].f1 b[i].f1 c1 hx _ K hK a[i].f1.length k 0 (by omega) (by omega) (by omega)
        refine this.trans ?_
        congr 1
        apply Bool.eq_iff_iff.2
        simp only [List.drop_zero, Bool.and_eq_true, decide_eq_true_eq, s64_ext]
        exact ⟨fun h => ⟨⟨c0, h.1⟩, h.2⟩, fun h => ⟨h.1.2, h.2⟩⟩
      · rw [if_pos (bne_iff_ne.2 (by omega)), decide_eq_false (fun h => c1 (by rw [h.1]))]
    · rw [if_neg (by simpa only [Kit.bytes_inj] using c0), if_pos trivial, decide_eq_false (fun h => c0 (by rw [h.1]))]
theorem spec_scripts (n0 n1 : ByteArray) (a b : List S64) (hl : a.length ≤ 1048576) (hm : ∀ x ∈ a, x.f1.length ≤ 1048576) : ∃ K, ∀ k, K ≤ k → spec_EqualScripts.f k n0 a n1 b = some (decide (n0 = n1 ∧ a = b)) := by
  by_cases c1 : a.length = b.length
  · obtain ⟨K, hK⟩ := outer n0 n1 a b c1 hl hm a.length 0 (by omega) (by omega)
    refine ⟨K + 10, fun k hk => ?_⟩
    obtain ⟨k, rfl⟩ : ∃ m, k = m + 1 := ⟨k - 1, by omega⟩
    unfold spec_EqualScripts.f
    simp only [spec_EqualScripts.j0]
    by_cases c : n0 = n1
    · rw [if_pos (by rw [c]), if_neg (by rw [c1]; simp)]
      refine (hK k (by omega)).trans ?_
      congr 1
      apply decide_eq_decide.2
      rw [List.drop_zero, List.drop_zero]
      exact ⟨fun h => ⟨c, h⟩, fun h => h.2⟩
    · rw [if_neg (by simpa only [Kit.bytes_inj] using c), if_pos trivial, decide_eq_false (fun h => c h.1)]
  · refine ⟨10, fun k hk => ?_⟩
    obtain ⟨k, rfl⟩ : ∃ m, k = m + 1 := ⟨k - 1, by omega⟩
    unfold spec_EqualScripts.f
    simp only [spec_EqualScripts.j0]
    rw [decide_eq_false (fun h => c1 (by rw [h.2]))]
    by_cases c : n0 = n1
    · rw [if_pos (by rw [c]), if_pos (bne_iff_ne.2 (by omega))]
    · rw [if_neg (by simpa only [Kit.bytes_inj] using c), if_pos trivial]
theorem equal_law (y0 y1 : S49) (hg : OpFnExactEqualScripts.G49 y0) (hg1 : OpFnExactEqualScripts.G49 y1) : ∃ K, ∀ k, K ≤ k → laws_FnExactEqualScripts.f k y0.f0 y0.f1 y1.f0 y1.f1 = some true := by
  have ho : okS y0 := ⟨hg.1, hg.2.1, fun y hy => ⟨(hg.2.2 y hy).1, (hg.2.2 y hy).2.1, fun z hz => ((hg.2.2 y hy).2.2 z hz).2.2.2.2.2⟩⟩
  have ho1 : okS y1 := ⟨hg1.1, hg1.2.1, fun y hy => ⟨(hg1.2.2 y hy).1, (hg1.2.2 y hy).2.1, fun z hz => ((hg1.2.2 y hy).2.2 z hz).2.2.2.2.2⟩⟩
  by_cases c : Kit.sub 1048576 (wtS y0) < 0
  · refine ⟨60000000, fun k k0 => ?_⟩
    unfold laws_FnExactEqualScripts.f
    rw [szS y0 ho 1048576 (by omega) (by omega) k (by omega)]
    simp only [Option.bind_some]
    rw [if_pos c]
  have h1 := Kit.sub_le 1048576 (wtS y0) (by omega)
  by_cases c' : Kit.sub (Kit.sub 1048576 (wtS y0)) (wtS y1) < 0
  · refine ⟨60000000, fun k k0 => ?_⟩
    unfold laws_FnExactEqualScripts.f
    rw [szS y0 ho 1048576 (by omega) (by omega) k (by omega)]
    simp only [Option.bind_some]
    rw [if_neg c, szS y1 ho1 _ (by omega) (by omega) k (by omega)]
    simp only [Option.bind_some]
    rw [if_pos c']
  · have h2 := Kit.sub_le (Kit.sub 1048576 (wtS y0)) (wtS y1) (by omega)
    have w0 : wtS y0 = y0.f0.size + (y0.f1.length + Kit.sumW wtM y0.f1) := rfl
    have w1 : wtS y1 = y1.f0.size + (y1.f1.length + Kit.sumW wtM y1.f1) := rfl
    have hp := partM y0.f1 1048576 (by omega)
    have hp1 := partM y1.f1 1048576 (by omega)
    have hl : (y0.f1.map cvM).length ≤ 1048576 := by rw [List.length_map]; omega
    have hl1 : (y1.f1.map cvM).length ≤ 1048576 := by rw [List.length_map]; omega
    have hm : ∀ x ∈ y0.f1.map cvM, x.f1.length ≤ 1048576 := by
      intro x hx
      obtain ⟨y, hy, rfl⟩ := List.mem_map.1 hx
      show (y.f1.map cvI).length ≤ 1048576
      rw [List.length_map]
      exact (hp y hy).1
    have hm1 : ∀ x ∈ y1.f1.map cvM, x.f1.length ≤ 1048576 := by
      intro x hx
      obtain ⟨y, hy, rfl⟩ := List.mem_map.1 hx
      show (y.f1.map cvI).length ≤ 1048576
      rw [List.length_map]
      exact (hp1 y hy).1
    obtain ⟨K, hK⟩ := spec_scripts y0.f0 y1.f0 (y0.f1.map cvM) (y1.f1.map cvM) hl hm
    refine ⟨K + 60000000, fun k k0 => ?_⟩
    have e1 : laws_toScript.f k y0.f0 y0.f1 = some (y0.f0, y0.f1.map cvM) := toS1 y0 k (by omega) (by omega) (fun y hy => (hp y hy).1)
    have e2 : laws_toScript.f k y1.f0 y1.f1 = some (y1.f0, y1.f1.map cvM) := toS1 y1 k (by omega) (by omega) (fun y hy => (hp1 y hy).1)
    have e3 := hK k (by omega)
    have e4 := impl_scripts y0.f0 y1.f0 (y0.f1.map cvM) (y1.f1.map cvM) hl hm k (by omega)
    have e5 : laws_eqScript.f k y0.f0 (y0.f1.map cvM) y0.f0 (y0.f1.map cvM) = some true := by
      have := eqS1 (cvS y0) (cvS y0) k (by omega) hl hm
      rw [decide_eq_true rfl] at this
      exact this
    have e6 : laws_eqScript.f k y1.f0 (y1.f1.map cvM) y1.f0 (y1.f1.map cvM) = some true := by
      have := eqS1 (cvS y1) (cvS y1) k (by omega) hl1 hm1
      rw [decide_eq_true rfl] at this
      exact this
    unfold laws_FnExactEqualScripts.f
    rw [szS y0 ho 1048576 (by omega) (by omega) k (by omega)]
    simp only [Option.bind_some]
    rw [if_neg c, szS y1 ho1 _ (by omega) (by omega) k (by omega)]
    simp only [Option.bind_some]
    rw [if_neg c', e1]
    simp only [Option.bind_some]
    rw [e2]
    simp only [Option.bind_some]
    rw [e3]
    simp only [Option.bind_some]
    rw [e4]
    simp only [Option.bind_some]
    rw [if_neg (by simp), e5]
    simp only [Option.bind_some]
    rw [if_pos trivial, e6]
    rfl
theorem FnExactEqualScripts : OpFnExactEqualScripts.Pure := by
  intro y0 y1 hg hg1
  obtain ⟨K, h⟩ := equal_law y0 y1 hg hg1
  exact ⟨K, h K (Nat.le_refl _)⟩

end Go.Proofs.Ytbepcmocadakhaa.Pure
