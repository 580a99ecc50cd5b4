/- The pure side of the law FnExactEnds: what the printed functions of the program and of the reference compute is the same, for every argument. -/
import Derived.Test.YtgggflbmcmalfaaOpFnExactEnds
import Derived.Test.YtgggflbmcmalfaaKit2
import Derived.Test.YtgggflbmcmalfaaKit
set_option linter.unusedVariables false
set_option linter.unusedSimpArgs false
namespace Go.Proofs.Ytgggflbmcmalfaa.Pure
open Go.RowKit Go.Proofs.Ytgggflbmcmalfaa.QFnExactEnds Go.Proofs.YtgggflbmcmalfaaW.PrintWords Go.Proofs.YtgggflbmcmalfaaW.PrintLast Go.Proofs.Ytgggflbmcmalfaa.OpFnExactEnds

theorem s50_ext (x y : S50) : x = y ↔ (x.f0 = y.f0 ∧ x.f1 = y.f1 ∧ x.f2 = y.f2 ∧ x.f3 = y.f3 ∧ x.f4 = y.f4 ∧ x.f5 = y.f5) := by
  cases x; cases y; simp
noncomputable instance : DecidableEq S50 := fun x y => Classical.propDecidable _
def cvI (x : S47) : S50 := ⟨x.f0, x.f1, x.f2, x.f3, x.f4, x.f5⟩
def wtI (x : S47) : Nat := x.f5.size
def okI (x : S47) : Prop := x.f5.size ≤ maxLen
theorem szI (x : S47) (h : okI x) (left : Int) (h0 : 0 ≤ left) (h1 : left ≤ 1048576) : laws_szInstr.f x.f0 x.f1 x.f2 x.f3 x.f4 x.f5 left = some (Kit.sub left (wtI x)) := by
  unfold okI maxLen at h
  have e : wrap64 (left - (x.f5.size : Int)) = left - (x.f5.size : Int) := Kit.wrap_id _ (by omega) (by omega)
  unfold laws_szInstr.f Kit.sub wtI
  rw [e]
  split <;> rfl
theorem szIS (l : List S47) (h : l.length ≤ maxLen) (ho : ∀ x ∈ l, okI x) (left : Int) (h0 : 0 ≤ left) (h1 : left ≤ 1048576) (k : Nat) (hk : 1048577 < k) : laws_szInstrS.f k l left = some (Kit.sub left (l.length + Kit.sumW wtI l)) := by
  have hs : ∀ x ∈ l, ∀ (k : Nat) (left : Int), 1 < k → 0 ≤ left → left ≤ 1048576 → (fun (_ : Nat) (x : S47) (left : Int) => laws_szInstr.f x.f0 x.f1 x.f2 x.f3 x.f4 x.f5 left) k x left = some (Kit.sub left (wtI x)) := by
    intro x hx k left _ a b
    exact szI x (ho x hx) left a b
  have hb : l.length ≤ 9223372036854775807 := by simp only [maxLen] at h; omega
  exact Kit.szG_spec (fun (_ : Nat) (x : S47) (left : Int) => laws_szInstr.f x.f0 x.f1 x.f2 x.f3 x.f4 x.f5 left) wtI z47 laws_szInstrS.l0 (fun _ _ _ _ => by simp only [laws_szInstrS.l0, rd_T47]) (f := laws_szInstrS.f) (fun _ _ _ => rfl) 1 l hs hb left h0 h1 k (by omega)
theorem toIS (l : List S47) (k : Nat) (hk : l.length + 1 < k) (h : l.length ≤ 1048576) : laws_toInstrS.f k l = some (l.map cvI) :=
  Kit.copyG_spec (fun _ x => some (cvI x)) cvI z47 laws_toInstrS.l0 (fun _ _ _ _ => rfl) (f := laws_toInstrS.f) (z := z50) (fun _ _ => rfl) 1 l (fun _ _ _ _ => rfl) (by omega) (by omega) k hk
theorem eqI1 (x y : S50) : laws_eqInstr.f x.f0 x.f1 x.f2 x.f3 x.f4 x.f5 y.f0 y.f1 y.f2 y.f3 y.f4 y.f5 = some (decide (x = y)) := by
  unfold laws_eqInstr.f
  simp only [Kit.bytes_inj]
  by_cases h : x = y
  · subst h
    simp
  · have h' := fun g => h ((s50_ext x y).2 g)
    rw [decide_eq_false h]
    by_cases c0 : x.f0 = y.f0
    · by_cases c1 : x.f1 = y.f1
      · by_cases c2 : x.f2 = y.f2
        · by_cases c3 : x.f3 = y.f3
          · by_cases c4 : x.f4 = y.f4
            · by_cases c5 : x.f5 = y.f5
              · exact absurd ⟨c0, c1, c2, c3, c4, c5⟩ h'
              · rw [if_pos c0, if_pos c1, if_pos c2, if_pos c3, if_pos c4, if_neg c5]
            · rw [if_pos c0, if_pos c1, if_pos c2, if_pos c3, if_neg c4]
          · rw [if_pos c0, if_pos c1, if_pos c2, if_neg c3]
        · rw [if_pos c0, if_pos c1, if_neg c2]
      · rw [if_pos c0, if_neg c1]
    · rw [if_neg c0]
theorem eqIS (a b : List S50) (k : Nat) (hk : a.length + 1 < k) (h : a.length ≤ 40000000) : laws_eqInstrS.f k a b = some (decide (a = b)) :=
  Kit.eqG_spec (fun _ x y => laws_eqInstr.f x.f0 x.f1 x.f2 x.f3 x.f4 x.f5 y.f0 y.f1 y.f2 y.f3 y.f4 y.f5) z50 laws_eqInstrS.l0 (fun _ _ _ _ => rfl) (f := laws_eqInstrS.f) (fun _ _ _ => rfl) 1 a b (fun x _ y _ _ _ => eqI1 x y) (by omega) k hk
def wtM (x : S55) : Nat := x.f0.size + (x.f1.length + Kit.sumW wtI x.f1)
def okM (x : S55) : Prop := x.f0.size ≤ maxLen ∧ x.f1.length ≤ maxLen ∧ ∀ y ∈ x.f1, okI y
theorem szM (x : S55) (h : okM x) (left : Int) (h0 : 0 ≤ left) (h1 : left ≤ 1048576) (k : Nat) (hk : 1048577 < k) : laws_szMethod.f k x.f0 x.f1 left = some (Kit.sub left (wtM x)) := by
  obtain ⟨h2, h3, h4⟩ := h
  simp only [maxLen] at h2
  have e : wrap64 (left - (x.f0.size : Int)) = left - (x.f0.size : Int) := Kit.wrap_id _ (by omega) (by omega)
  unfold laws_szMethod.f wtM
  rw [e]
  by_cases c : left - (x.f0.size : Int) < 0
  · rw [if_pos c]
    congr 1
    unfold Kit.sub
    rw [if_pos (by omega)]
  · rw [if_neg c, szIS x.f1 h3 h4 _ (by omega) (by omega) k hk]
    simp only [Option.bind_some]
    unfold Kit.sub
    split <;> split <;> first | rfl | omega | (split <;> first | rfl | omega | (congr 1; omega)) | (congr 1; omega)
theorem FnExactEnds : OpFnExactEnds.Pure := by
  intro y0 hg
  have ho : okM y0 := ⟨hg.1, hg.2.1, fun y hy => (hg.2.2 y hy).2.2.2.2.2⟩
  refine ⟨3000000, ?_⟩
  unfold laws_FnExactEnds.f
  rw [szM y0 ho 1048576 (by omega) (by omega) 3000000 (by omega)]
  simp only [Option.bind_some]
  by_cases c : Kit.sub 1048576 (wtM y0) < 0
  · rw [if_pos c]
  · rw [if_neg c]
    obtain ⟨h1, _⟩ := Kit.sub_le 1048576 (wtM y0) (by omega)
    unfold wtM at h1
    have hl : y0.f1.length ≤ 1048576 := by omega
    have ht : laws_toMethod.f 3000000 y0.f0 y0.f1 = some (y0.f0, y0.f1.map cvI) := by
      unfold laws_toMethod.f
      rw [toIS y0.f1 3000000 (by omega) hl]
      rfl
    have he : laws_eqMethod.f 3000000 y0.f0 (y0.f1.map cvI) y0.f0 (y0.f1.map cvI) = some true := by
      unfold laws_eqMethod.f
      rw [if_pos rfl, eqIS _ _ 3000000 (by simp; omega) (by simp; omega)]
      simp
    have e : impl_Ends.f y0.f0 (y0.f1.map cvI) = spec_Ends.f y0.f0 (y0.f1.map cvI) := rfl
    obtain ⟨b, hb⟩ : ∃ b, spec_Ends.f y0.f0 (y0.f1.map cvI) = some b := by
      have hm : (y0.f1.map cvI).length ≤ 1048576 := by simpa using hl
      unfold spec_Ends.f
      by_cases c1 : ((y0.f1.map cvI).length : Int) > 0
      · have e : wrap64 (((y0.f1.map cvI).length : Int) - 1) = ((y0.f1.map cvI).length : Int) - 1 := Kit.wrap_id _ (by omega) (by omega)
        rw [if_pos c1, e, if_pos (by omega), if_pos (by omega)]
        exact ⟨_, rfl⟩
      · rw [if_neg c1]
        exact ⟨_, rfl⟩
    simp only [ht, e, hb, he, Option.bind_some, bne_self_eq_false, Bool.false_eq_true, if_false, if_true]

end Go.Proofs.Ytgggflbmcmalfaa.Pure
