/- The pure side of the law FnExactIsName: what the printed functions of the program and of the reference compute is the same, for every argument. -/
import Derived.Test.YtbaehdopmpnjoaaPFnExactIsNamex1
import Derived.Test.YtbaehdopmpnjoaaKit
namespace Go.Proofs.Ytbaehdopmpnjoaa.Pure
open Go.RowKit Go.Proofs.Ytbaehdopmpnjoaa.PFnExactIsName Go.Proofs.YtbaehdopmpnjoaaW.PrintWords Go.Proofs.YtbaehdopmpnjoaaW.PrintLast

def low (s : ByteArray) (i n : Nat) : Prop := ∀ j, i ≤ j → j < n → ¬ bt s (j : Int) < 97 ∧ ¬ bt s (j : Int) > 122
theorem spec_loop (s : ByteArray) (hb : s.size ≤ 1048576) (d : Nat) : ∀ (k i : Nat), i ≤ s.size → s.size - i = d → d < k →
    (low s i s.size ∧ spec_IsName.l0 k s (i : Int) = ((spec_l1In.f (s.size : Int) 1 6).bind fun t => some t)) ∨ (¬ low s i s.size ∧ spec_IsName.l0 k s (i : Int) = some false) := by
  induction d with
  | zero =>
    intro k i h0 h1 h2
    obtain ⟨k, rfl⟩ : ∃ m, k = m + 1 := ⟨k - 1, by omega⟩
    refine .inl ⟨fun j h3 h4 => by omega, ?_⟩
    simp only [spec_IsName.l0]
    rw [if_neg (by omega)]
  | succ d ih =>
    intro k i h0 h1 h2
    obtain ⟨k, rfl⟩ : ∃ m, k = m + 1 := ⟨k - 1, by omega⟩
    simp only [spec_IsName.l0]
    rw [if_pos (by omega), if_pos (by omega)]
    by_cases c1 : bt s (i : Int) < 97
    · exact .inr ⟨fun h => (h i (by omega) (by omega)).1 c1, by rw [if_pos c1]⟩
    by_cases c2 : bt s (i : Int) > 122
    · exact .inr ⟨fun h => (h i (by omega) (by omega)).2 c2, by rw [if_neg c1, if_pos c2]⟩
    rw [if_neg c1, if_neg c2, Kit.wrap_succ i (by omega)]
    rcases ih k (i + 1) (by omega) (by omega) (by omega) with ⟨h, e⟩ | ⟨h, e⟩
    · refine .inl ⟨fun j h3 h4 => ?_, e⟩
      rcases Nat.lt_or_ge i j with h5 | h5
      · exact h j (by omega) h4
      · obtain rfl : j = i := by omega
        exact ⟨c1, c2⟩
    · exact .inr ⟨fun g => h (fun j h3 h4 => g j (by omega) h4), e⟩
theorem impl_loop (s : ByteArray) (hb : s.size ≤ 1048576) (d : Nat) : ∀ (k i : Nat), i ≤ s.size → s.size - i = d → d < k →
    (low s i s.size ∧ impl_isName.l0 k s (s.size : Int) (i : Int) = some true) ∨ (¬ low s i s.size ∧ impl_isName.l0 k s (s.size : Int) (i : Int) = some false) := by
  induction d with
  | zero =>
    intro k i h0 h1 h2
    obtain ⟨k, rfl⟩ : ∃ m, k = m + 1 := ⟨k - 1, by omega⟩
    refine .inl ⟨fun j h3 h4 => by omega, ?_⟩
    simp only [impl_isName.l0]
    rw [if_neg (by omega)]
  | succ d ih =>
    intro k i h0 h1 h2
    obtain ⟨k, rfl⟩ : ∃ m, k = m + 1 := ⟨k - 1, by omega⟩
    simp only [impl_isName.l0]
    rw [if_pos (by omega), if_pos (by omega), if_pos (by omega)]
    by_cases c1 : bt s (i : Int) < 97
    · exact .inr ⟨fun h => (h i (by omega) (by omega)).1 c1, by rw [if_pos c1]⟩
    by_cases c2 : bt s (i : Int) > 122
    · exact .inr ⟨fun h => (h i (by omega) (by omega)).2 c2, by rw [if_neg c1, if_pos c2]⟩
    rw [if_neg c1, if_neg c2, Kit.wrap_succ i (by omega)]
    rcases ih k (i + 1) (by omega) (by omega) (by omega) with ⟨h, e⟩ | ⟨h, e⟩
    · refine .inl ⟨fun j h3 h4 => ?_, e⟩
      rcases Nat.lt_or_ge i j with h5 | h5
      · exact h j (by omega) h4
      · obtain rfl : j = i := by omega
        exact ⟨c1, c2⟩
    · exact .inr ⟨fun g => h (fun j h3 h4 => g j (by omega) h4), e⟩
theorem same_name (s : ByteArray) (hb : s.size ≤ 1048576) (k : Nat) (hk : s.size < k) : ∃ b, spec_IsName.f k s = some b ∧ impl_IsName.f k s = some b := by
  have h1 := spec_loop s hb s.size k 0 (by omega) (by omega) hk
  have h2 := impl_loop s hb s.size k 0 (by omega) (by omega) hk
  have e0 : impl_in.f (s.size : Int) 1 6 = spec_l1In.f (s.size : Int) 1 6 := rfl
  obtain ⟨t, ht⟩ : ∃ t, spec_l1In.f (s.size : Int) 1 6 = some t := by unfold spec_l1In.f; split <;> exact ⟨_, rfl⟩
  unfold impl_IsName.f impl_isName.f spec_IsName.f
  rw [e0, ht]
  rw [ht] at h1
  simp only [Option.bind_some] at h1 ⊢
  rcases h1 with ⟨l1, e1⟩ | ⟨l1, e1⟩ <;> rcases h2 with ⟨l2, e2⟩ | ⟨l2, e2⟩
  · refine ⟨t, e1, ?_⟩
    cases t
    · rfl
    · rw [if_pos rfl]
      rw [show ((0 : Int)) = ((0 : Nat) : Int) from rfl, e2]
      rfl
  · exact absurd l1 l2
  · exact absurd l2 l1
  · refine ⟨false, e1, ?_⟩
    cases t
    · rfl
    · rw [if_pos rfl]
      rw [show ((0 : Int)) = ((0 : Nat) : Int) from rfl, e2]
      rfl
theorem FnExactIsName : laws_FnExactIsName.Pure := by
  intro a0 _
  by_cases c0 : (a0.size : Int) > 1048576
  · exact ⟨0, by unfold laws_FnExactIsName.f; rw [if_pos c0]⟩
  refine ⟨1048577, ?_⟩
  obtain ⟨b, e1, e2⟩ := same_name a0 (by omega) 1048577 (by omega)
  unfold laws_FnExactIsName.f
  rw [if_neg c0, e1]
  simp only [Option.bind_some]
  rw [e2]
  simp

end Go.Proofs.Ytbaehdopmpnjoaa.Pure
