/- A script is found alike. -/
import Derived.Test.YtbepcmocadakhaaOpFnExactFindScript
import Derived.Test.YtbepcmocadakhaaFunc
import Derived.Test.YtbepcmocadakhaaKit2
import Derived.Test.YtbepcmocadakhaaKit
set_option linter.unusedVariables false
set_option linter.unusedSimpArgs false
namespace Go.Proofs.Ytbepcmocadakhaa.Pure
open Go.RowKit Go.Proofs.Ytbepcmocadakhaa.QFnExactFindScript Go.Proofs.YtbepcmocadakhaaW.PrintWords Go.Proofs.YtbepcmocadakhaaW.PrintLast Go.Proofs.Ytbepcmocadakhaa.OpFnExactFindScript

theorem s99_ext (x y : S99) : x = y ↔ (x.f0 = y.f0 ∧ x.f1 = y.f1 ∧ x.f2 = y.f2 ∧ x.f3 = y.f3 ∧ x.f4 = y.f4 ∧ x.f5 = y.f5) := by
  cases x; cases y; simp
noncomputable instance : DecidableEq S99 := fun x y => Classical.propDecidable _
def cvI (x : S115) : S99 := ⟨x.f0, x.f1, x.f2, x.f3, x.f4, x.f5⟩
def wtI (x : S115) : Nat := x.f5.size
def okI (x : S115) : Prop := x.f5.size ≤ maxLen
theorem szI (x : S115) (h : okI x) (left : Int) (h0 : 0 ≤ left) (h1 : left ≤ 1048576) : laws_szInstr.f x.f0 x.f1 x.f2 x.f3 x.f4 x.f5 left = some (Kit.sub left (wtI x)) := by
  unfold okI maxLen at h
  have e : wrap64 (left - (x.f5.size : Int)) = left - (x.f5.size : Int) := Kit.wrap_id _ (by omega) (by omega)
  unfold laws_szInstr.f Kit.sub wtI
  rw [e]
  split <;> rfl
theorem szIS (l : List S115) (h : l.length ≤ maxLen) (ho : ∀ x ∈ l, okI x) (left : Int) (h0 : 0 ≤ left) (h1 : left ≤ 1048576) (k : Nat) (hk : 1048577 < k) : laws_szInstrS.f k l left = some (Kit.sub left (l.length + Kit.sumW wtI l)) := by
  have hs : ∀ x ∈ l, ∀ (k : Nat) (left : Int), 1 < k → 0 ≤ left → left ≤ 1048576 → (fun (_ : Nat) (x : S115) (left : Int) => laws_szInstr.f x.f0 x.f1 x.f2 x.f3 x.f4 x.f5 left) k x left = some (Kit.sub left (wtI x)) := by
    intro x hx k left _ a b
    exact szI x (ho x hx) left a b
  have hb : l.length ≤ 9223372036854775807 := by simp only [maxLen] at h; omega
  exact Kit.szG_spec (fun (_ : Nat) (x : S115) (left : Int) => laws_szInstr.f x.f0 x.f1 x.f2 x.f3 x.f4 x.f5 left) wtI z115 laws_szInstrS.l0 (fun _ _ _ _ => by simp only [laws_szInstrS.l0, rd_T115]) (f := laws_szInstrS.f) (fun _ _ _ => rfl) 1 l hs hb left h0 h1 k (by omega)
theorem toIS (l : List S115) (k : Nat) (hk : l.length + 1 < k) (h : l.length ≤ 1048576) : laws_toInstrS.f k l = some (l.map cvI) :=
  Kit.copyG_spec (fun _ x => some (cvI x)) cvI z115 laws_toInstrS.l0 (fun _ _ _ _ => rfl) (f := laws_toInstrS.f) (z := z99) (fun _ _ => rfl) 1 l (fun _ _ _ _ => rfl) (by omega) (by omega) k hk
theorem eqI1 (x y : S99) : laws_eqInstr.f x.f0 x.f1 x.f2 x.f3 x.f4 x.f5 y.f0 y.f1 y.f2 y.f3 y.f4 y.f5 = some (decide (x = y)) := by
  unfold laws_eqInstr.f
  simp only [Kit.bytes_inj]
  by_cases h : x = y
  · subst h
    simp
  · have h' := fun g => h ((s99_ext x y).2 g)
    rw [decide_eq_false h]
    by_cases c0 : x.f0 = y.f0
    · by_cases c1 : x.f1 = y.f1
      · by_cases c2 : x.f2 = y.f2
        · by_cases c3 : x.f3 = y.f3
          · by_cases c4 : x.f4 = y.f4
            · by_cases c5 : x.f5 = y.f5
              · exact absurd ⟨c0, c1, c2, c3, c4, c5⟩ h'
              · rw [if_pos c0, if_pos c1, if_pos c2, if_pos c3, if_pos c4, if_neg c5]
            · rw [if_pos c0, if_pos c1, if_pos c2, if_pos c3, if_neg c4]
          · rw [if_pos c0, if_pos c1, if_pos c2, if_neg c3]
        · rw [if_pos c0, if_pos c1, if_neg c2]
      · rw [if_pos c0, if_neg c1]
    · rw [if_neg c0]
theorem eqIS (a b : List S99) (k : Nat) (hk : a.length + 1 < k) (h : a.length ≤ 40000000) : laws_eqInstrS.f k a b = some (decide (a = b)) :=
  Kit.eqG_spec (fun _ x y => laws_eqInstr.f x.f0 x.f1 x.f2 x.f3 x.f4 x.f5 y.f0 y.f1 y.f2 y.f3 y.f4 y.f5) z99 laws_eqInstrS.l0 (fun _ _ _ _ => rfl) (f := laws_eqInstrS.f) (fun _ _ _ => rfl) 1 a b (fun x _ y _ _ _ => eqI1 x y) (by omega) k hk
def wtM (x : S59) : Nat := x.f0.size + (x.f1.length + Kit.sumW wtI x.f1)
def okM (x : S59) : Prop := x.f0.size ≤ maxLen ∧ x.f1.length ≤ maxLen ∧ ∀ y ∈ x.f1, okI y
theorem szM (x : S59) (h : okM x) (left : Int) (h0 : 0 ≤ left) (h1 : left ≤ 1048576) (k : Nat) (hk : 1048577 < k) : laws_szMethod.f k x.f0 x.f1 left = some (Kit.sub left (wtM x)) := by
  obtain ⟨h2, h3, h4⟩ := h
  simp only [maxLen] at h2
  have e : wrap64 (left - (x.f0.size : Int)) = left - (x.f0.size : Int) := Kit.wrap_id _ (by omega) (by omega)
  unfold laws_szMethod.f wtM
  rw [e]
  by_cases c : left - (x.f0.size : Int) < 0
  · rw [if_pos c]
    congr 1
    unfold Kit.sub
    rw [if_pos (by omega)]
  · rw [if_neg c, szIS x.f1 h3 h4 _ (by omega) (by omega) k hk]
    simp only [Option.bind_some]
    unfold Kit.sub
    split <;> split <;> first | rfl | omega | (split <;> first | rfl | omega | (congr 1; omega)) | (congr 1; omega)
def cvM (x : S59) : S64 := ⟨x.f0, x.f1.map cvI⟩
theorem s64_ext (x y : S64) : x = y ↔ (x.f0 = y.f0 ∧ x.f1 = y.f1) := by
  cases x; cases y; simp
noncomputable instance : DecidableEq S64 := fun x y => Classical.propDecidable _
theorem szMS (l : List S59) (h : l.length ≤ maxLen) (ho : ∀ x ∈ l, okM x) (left : Int) (h0 : 0 ≤ left) (h1 : left ≤ 1048576) (k : Nat) (hk : 2097153 < k) : laws_szMethodS.f k l left = some (Kit.sub left (l.length + Kit.sumW wtM l)) := by
  have hs : ∀ x ∈ l, ∀ (k : Nat) (left : Int), 1048577 < k → 0 ≤ left → left ≤ 1048576 → (fun (k : Nat) (x : S59) (left : Int) => laws_szMethod.f k x.f0 x.f1 left) k x left = some (Kit.sub left (wtM x)) := by
    intro x hx k left hk a b
    exact szM x (ho x hx) left a b k hk
  have hb : l.length ≤ 9223372036854775807 := by simp only [maxLen] at h; omega
  exact Kit.szG_spec (fun (k : Nat) (x : S59) (left : Int) => laws_szMethod.f k x.f0 x.f1 left) wtM z59 laws_szMethodS.l0 (fun _ _ _ _ => by simp only [laws_szMethodS.l0, rd_T59]) (f := laws_szMethodS.f) (fun _ _ _ => rfl) 1048577 l hs hb left h0 h1 k (by omega)
theorem toM1 (x : S59) (k : Nat) (hk : x.f1.length + 1 < k) (h : x.f1.length ≤ 1048576) : laws_toMethod.f k x.f0 x.f1 = some (x.f0, x.f1.map cvI) := by
  unfold laws_toMethod.f
  rw [toIS x.f1 k hk h]
  rfl
theorem toMS (l : List S59) (k : Nat) (hk : l.length + 1048577 < k) (h : l.length ≤ 1048576) (hx : ∀ x ∈ l, x.f1.length ≤ 1048576) : laws_toMethodS.f k l = some (l.map cvM) :=
  Kit.copyG_spec (fun k (x : S59) => (laws_toMethod.f k x.f0 x.f1).bind fun b => some (⟨b.1, b.2⟩ : S64)) cvM z59 laws_toMethodS.l0 (fun _ _ _ _ => by simp only [laws_toMethodS.l0, rd_T59, Option.bind_assoc, Option.bind_some]) (f := laws_toMethodS.f) (z := z64) (fun _ _ => rfl) 1048577 l (fun x hm k hk => by
    have := hx x hm
    show (laws_toMethod.f k x.f0 x.f1).bind _ = _
    rw [toM1 x k (by omega) this]
    rfl) (by omega) (by omega) k hk
theorem eqM1 (x y : S64) (k : Nat) (hk : x.f1.length + 1 < k) (h : x.f1.length ≤ 40000000) : laws_eqMethod.f k x.f0 x.f1 y.f0 y.f1 = some (decide (x = y)) := by
  unfold laws_eqMethod.f
  rw [eqIS x.f1 y.f1 k hk h]
  simp only [Kit.bytes_inj, Option.bind_some]
  by_cases e : x = y
  · subst e
    simp
  · have h' := fun g => e ((s64_ext x y).2 g)
    rw [decide_eq_false e]
    by_cases c0 : x.f0 = y.f0
    · by_cases c1 : x.f1 = y.f1
      · exact absurd ⟨c0, c1⟩ h'
      · rw [if_pos c0, decide_eq_false c1]
        rfl
    · rw [if_neg c0]
theorem eqMS (a b : List S64) (k : Nat) (hk : a.length + 1048577 < k) (h : a.length ≤ 40000000) (hx : ∀ x ∈ a, x.f1.length ≤ 1048576) : laws_eqMethodS.f k a b = some (decide (a = b)) :=
  Kit.eqG_spec (fun k (x y : S64) => laws_eqMethod.f k x.f0 x.f1 y.f0 y.f1) z64 laws_eqMethodS.l0 (fun _ _ _ _ => rfl) (f := laws_eqMethodS.f) (fun _ _ _ => rfl) 1048577 a b (fun x hm y _ k hk => by
    have := hx x hm
    exact eqM1 x y k (by omega) (by omega)) (by omega) k hk
theorem le_sumW' {α : Type} (w : α → Nat) : ∀ (l : List α) (x : α), x ∈ l → w x ≤ Kit.sumW w l
  | [], x, h => absurd h (by simp)
  | y :: ys, x, h => by
    have e : Kit.sumW w (y :: ys) = w y + Kit.sumW w ys := by simp [Kit.sumW]
    rw [e]
    rcases List.mem_cons.1 h with rfl | h
    · omega
    · have := le_sumW' w ys x h
      omega
def wtS (x : S49) : Nat := x.f0.size + (x.f1.length + Kit.sumW wtM x.f1)
def okS (x : S49) : Prop := x.f0.size ≤ maxLen ∧ x.f1.length ≤ maxLen ∧ ∀ y ∈ x.f1, okM y
def cvS (x : S49) : S54 := ⟨x.f0, x.f1.map cvM⟩
theorem s54_ext (x y : S54) : x = y ↔ (x.f0 = y.f0 ∧ x.f1 = y.f1) := by
  cases x; cases y; simp
noncomputable instance : DecidableEq S54 := fun x y => Classical.propDecidable _
/-- What a size says of the parts. -/
theorem partM (l : List S59) (n : Nat) (h : l.length + Kit.sumW wtM l ≤ n) : ∀ x ∈ l, x.f1.length ≤ n ∧ x.f0.size ≤ n ∧ ∀ y ∈ x.f1, y.f5.size ≤ n := by
  intro x hx
  have h1 := le_sumW' wtM l x hx
  have h2 : wtM x = x.f0.size + (x.f1.length + Kit.sumW wtI x.f1) := rfl
  refine ⟨by omega, by omega, fun y hy => ?_⟩
  have h3 := le_sumW' wtI x.f1 y hy
  have h4 : wtI y = y.f5.size := rfl
  omega
theorem szS (x : S49) (h : okS x) (left : Int) (h0 : 0 ≤ left) (h1 : left ≤ 1048576) (k : Nat) (hk : 2097153 < k) : laws_szScript.f k x.f0 x.f1 left = some (Kit.sub left (wtS x)) := by
  obtain ⟨h2, h3, h4⟩ := h
  simp only [maxLen] at h2
  have e : wrap64 (left - (x.f0.size : Int)) = left - (x.f0.size : Int) := Kit.wrap_id _ (by omega) (by omega)
  unfold laws_szScript.f wtS
  rw [e]
  by_cases c : left - (x.f0.size : Int) < 0
  · rw [if_pos c]
    congr 1
    unfold Kit.sub
    rw [if_pos (by omega)]
  · rw [if_neg c, szMS x.f1 h3 h4 _ (by omega) (by omega) k hk]
    simp only [Option.bind_some]
    unfold Kit.sub
    split <;> split <;> first | rfl | omega | (split <;> first | rfl | omega | (congr 1; omega)) | (congr 1; omega)
theorem toS1 (x : S49) (k : Nat) (hk : 2097160 < k) (h : x.f1.length ≤ 1048576) (hx : ∀ y ∈ x.f1, y.f1.length ≤ 1048576) : laws_toScript.f k x.f0 x.f1 = some (x.f0, x.f1.map cvM) := by
  unfold laws_toScript.f
  rw [toMS x.f1 k (by omega) h hx]
  rfl
theorem eqS1 (x y : S54) (k : Nat) (hk : 2097160 < k) (h : x.f1.length ≤ 1048576) (hx : ∀ y ∈ x.f1, y.f1.length ≤ 1048576) : laws_eqScript.f k x.f0 x.f1 y.f0 y.f1 = some (decide (x = y)) := by
  unfold laws_eqScript.f
  rw [eqMS x.f1 y.f1 k (by omega) (by omega) hx]
  simp only [Kit.bytes_inj, Option.bind_some]
  by_cases e : x = y
  · subst e
    simp
  · have h' := fun g => e ((s54_ext x y).2 g)
    rw [decide_eq_false e]
    by_cases c0 : x.f0 = y.f0
    · by_cases c1 : x.f1 = y.f1
      · exact absurd ⟨c0, c1⟩ h'
      · rw [if_pos c0, decide_eq_false c1]
        rfl
    · rw [if_neg c0]
theorem szSS (l : List S49) (h : l.length ≤ maxLen) (ho : ∀ x ∈ l, okS x) (left : Int) (h0 : 0 ≤ left) (h1 : left ≤ 1048576) (k : Nat) (hk : 3145730 < k) : laws_szScriptS.f k l left = some (Kit.sub left (l.length + Kit.sumW wtS l)) := by
  have hs : ∀ x ∈ l, ∀ (k : Nat) (left : Int), 2097153 < k → 0 ≤ left → left ≤ 1048576 → (fun (k : Nat) (x : S49) (left : Int) => laws_szScript.f k x.f0 x.f1 left) k x left = some (Kit.sub left (wtS x)) := by
    intro x hx k left hk a b
    exact szS x (ho x hx) left a b k hk
  have hb : l.length ≤ 9223372036854775807 := by simp only [maxLen] at h; omega
  exact Kit.szG_spec (fun (k : Nat) (x : S49) (left : Int) => laws_szScript.f k x.f0 x.f1 left) wtS z49 laws_szScriptS.l0 (fun _ _ _ _ => by simp only [laws_szScriptS.l0, rd_T49]) (f := laws_szScriptS.f) (fun _ _ _ => rfl) 2097153 l hs hb left h0 h1 k (by omega)
/-- A script that is not too large. -/
def fitS (n : Nat) (x : S49) : Prop := x.f0.size ≤ n ∧ x.f1.length ≤ n ∧ ∀ y ∈ x.f1, y.f1.length ≤ n ∧ y.f0.size ≤ n ∧ ∀ z ∈ y.f1, z.f5.size ≤ n
theorem fit_of (x : S49) (n : Nat) (h : wtS x ≤ n) : fitS n x := by
  have h2 : wtS x = x.f0.size + (x.f1.length + Kit.sumW wtM x.f1) := rfl
  exact ⟨by omega, by omega, partM x.f1 n (by omega)⟩
theorem fit_all (l : List S49) (n : Nat) (h : l.length + Kit.sumW wtS l ≤ n) : ∀ x ∈ l, fitS n x := fun x hx => fit_of x n (by have := le_sumW' wtS l x hx; omega)
theorem toSS (l : List S49) (k : Nat) (hk : 4000000 < k) (h : l.length ≤ 1048576) (hx : ∀ x ∈ l, fitS 1048576 x) : laws_toScriptS.f k l = some (l.map cvS) :=
  Kit.copyG_spec (fun k (x : S49) => (laws_toScript.f k x.f0 x.f1).bind fun b => some (⟨b.1, b.2⟩ : S54)) cvS z49 laws_toScriptS.l0 (fun _ _ _ _ => by simp only [laws_toScriptS.l0, rd_T49, Option.bind_assoc, Option.bind_some]) (f := laws_toScriptS.f) (z := z54) (fun _ _ => rfl) 2097160 l (fun x hm k hk => by
    have := hx x hm
    show (laws_toScript.f k x.f0 x.f1).bind _ = _
    rw [toS1 x k hk this.2.1 (fun y hy => (this.2.2 y hy).1)]
    rfl) (by omega) (by omega) k (by omega)
theorem eqSS (a b : List S54) (k : Nat) (hk : 4000000 < k) (h : a.length ≤ 1048576) (hx : ∀ x ∈ a, x.f1.length ≤ 1048576 ∧ ∀ y ∈ x.f1, y.f1.length ≤ 1048576) : laws_eqScriptS.f k a b = some (decide (a = b)) :=
  Kit.eqG_spec (fun k (x y : S54) => laws_eqScript.f k x.f0 x.f1 y.f0 y.f1) z54 laws_eqScriptS.l0 (fun _ _ _ _ => rfl) (f := laws_eqScriptS.f) (fun _ _ _ => rfl) 2097160 a b (fun x hm y _ k hk => by
    have := hx x hm
    exact eqS1 x y k hk this.1 this.2) (by omega) k (by omega)
theorem fit_cv (x : S49) (n : Nat) (h : fitS n x) : (cvS x).f1.length ≤ n ∧ ∀ y ∈ (cvS x).f1, y.f1.length ≤ n := by
  refine ⟨by show (x.f1.map cvM).length ≤ n; rw [List.length_map]; exact h.2.1, fun y hy => ?_⟩
  obtain ⟨z, hz, rfl⟩ := List.mem_map.1 hy
  show (z.f1.map cvI).length ≤ n
  rw [List.length_map]
  exact (h.2.2 z hz).1
theorem spec_find (l : List S54) (s : ByteArray) (hb : l.length ≤ 1048576) (d : Nat) : ∀ (k i : Nat), i ≤ l.length → l.length - i = d → d < k → spec_FindScript.l0 k l s (i : Int) = Func.idxO (fun x : S54 => some (x.f0.toList == s.toList)) (l.drop i) (i : Int) := by
  induction d with
  | zero =>
    intro k i h0 h1 h2
    obtain ⟨k, rfl⟩ : ∃ m, k = m + 1 := ⟨k - 1, by omega⟩
    simp only [spec_FindScript.l0]
    rw [if_neg (by omega), List.drop_of_length_le (by omega)]
    rfl
  | succ d ih =>
    intro k i h0 h1 h2
    obtain ⟨k, rfl⟩ : ∃ m, k = m + 1 := ⟨k - 1, by omega⟩
    have hi : i < l.length := by omega
    simp only [spec_FindScript.l0]
    rw [if_pos (by omega), if_pos (by omega), Kit.wrap_succ i (by omega), Func.idxO_step _ l z54 i hi, ih k (i + 1) (by omega) (by omega) (by omega)]
    have e : rd_T54 l (i : Int) = l.getD i z54 := by
      unfold rd_T54
      rw [Int.toNat_natCast]
    rw [e]
    simp only [Option.bind_some]
    by_cases c : (l.getD i z54).f0.toList = s.toList
    · rw [if_pos c, if_pos (by simpa using c)]
    · rw [if_neg c, if_neg (by simpa using c)]
theorem idx_some {α : Type} (p : α → Bool) (l : List α) (i : Int) (h : 0 ≤ i) : ∃ r, Func.idxO (fun x => some (p x)) l i = some r := (Func.idxO_any p l i h).imp fun _ h => h.1
theorem FnExactFindScript : OpFnExactFindScript.Pure := by
  intro y0 a1 hg hs
  have ho : ∀ x ∈ y0, okS x := fun x hx => ⟨(hg.2 x hx).1, (hg.2 x hx).2.1, fun y hy => ⟨((hg.2 x hx).2.2 y hy).1, ((hg.2 x hx).2.2 y hy).2.1, fun z hz => (((hg.2 x hx).2.2 y hy).2.2 z hz).2.2.2.2.2⟩⟩
  refine ⟨5000000, ?_⟩
  unfold laws_FnExactFindScript.f
  by_cases c1 : (a1.size : Int) > 1048576
  · rw [if_pos c1]
  rw [if_neg c1, szSS y0 hg.1 ho 1048576 (by omega) (by omega) 5000000 (by omega)]
  simp only [Option.bind_some]
  by_cases c : Kit.sub 1048576 (y0.length + Kit.sumW wtS y0) < 0
  · rw [if_pos c]
  · rw [if_neg c]
    have h1 := (Kit.sub_le 1048576 (y0.length + Kit.sumW wtS y0) (by omega)).1
    have hf := fit_all y0 1048576 (by omega)
    have hl : (y0.map cvS).length ≤ 1048576 := by rw [List.length_map]; omega
    have e1 := toSS y0 5000000 (by omega) (by omega) hf
    have e2 := spec_find (y0.map cvS) a1 hl (y0.map cvS).length 5000000 0 (by omega) (by omega) (by omega)
    obtain ⟨r, hr⟩ := idx_some (fun x : S54 => x.f0.toList == a1.toList) (y0.map cvS) 0 (by omega)
    have e3 : spec_FindScript.f 5000000 (y0.map cvS) a1 = some r := by
      unfold spec_FindScript.f
      refine e2.trans ?_
      rw [List.drop_zero]
      exact hr
    have e4 : impl_FindScript.f (y0.map cvS) a1 = some r := by
      unfold impl_FindScript.f
      rw [if_pos (by omega)]
      exact hr
    have e5 : laws_eqScriptS.f 5000000 (y0.map cvS) (y0.map cvS) = some true := by
      rw [eqSS (y0.map cvS) (y0.map cvS) 5000000 (by omega) hl (fun x hx => by
        obtain ⟨z, hz, rfl⟩ := List.mem_map.1 hx
        exact fit_cv z 1048576 (hf z hz)), decide_eq_true rfl]
    rw [e1]
    simp only [Option.bind_some]
    rw [e3]
    simp only [Option.bind_some]
    rw [e4]
    simp only [Option.bind_some]
    rw [if_pos trivial, e5]
    rfl

end Go.Proofs.Ytbepcmocadakhaa.Pure
