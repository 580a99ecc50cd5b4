/- Lines are counted alike. -/
import Derived.Test.YtgggflbmcmalfaaQFnExactCountLinesx1
import Derived.Test.YtgggflbmcmalfaaKit
set_option linter.unusedVariables false
set_option linter.unusedSimpArgs false
namespace Go.Proofs.Ytgggflbmcmalfaa.Pure
open Go.RowKit Go.Proofs.Ytgggflbmcmalfaa.QFnExactCountLines Go.Proofs.YtgggflbmcmalfaaW.PrintWords Go.Proofs.YtgggflbmcmalfaaW.PrintLast

theorem count_loop (s : ByteArray) (hb : s.size ≤ 1048576) (d : Nat) : ∀ (k i n : Nat), i ≤ s.size → s.size - i = d → d < k → n ≤ i → spec_CountLines.l0 k s (n : Int) (i : Int) = some ((n + Lib.countByte (s.data.toList.drop i) 10 : Nat) : Int) := by
  have hs : s.data.toList.length = s.size := rfl
  induction d with
  | zero =>
    intro k i n h0 h1 h2 h3
    obtain ⟨k, rfl⟩ : ∃ m, k = m + 1 := ⟨k - 1, by omega⟩
    simp only [spec_CountLines.l0]
    rw [if_neg (by omega), List.drop_of_length_le (by omega)]
    rfl
  | succ d ih =>
    intro k i n h0 h1 h2 h3
    obtain ⟨k, rfl⟩ : ∃ m, k = m + 1 := ⟨k - 1, by omega⟩
    have hi : i < s.data.toList.length := by omega
    have e : bt s (i : Int) = ((s.data.toList[i]).toNat : Int) := by
      have hi' : i < s.size := hi
      unfold bt
      rw [Int.toNat_natCast, dif_pos hi']
      rfl
    simp only [spec_CountLines.l0]
    rw [if_pos (by omega), if_pos (by omega), e, Kit.wrap_succ n (by omega), Kit.wrap_succ i (by omega), Kit.drop_get _ i hi]
    have hd : ∀ l : List UInt8, Lib.countByte (s.data.toList[i] :: l) 10 = Lib.countByte l 10 + if s.data.toList[i] = 10 then 1 else 0 := by
      intro l
      unfold Lib.countByte
      rw [List.count_cons]
      by_cases c : s.data.toList[i] = 10
      · rw [if_pos c, c]
        rfl
      · rw [if_neg c, if_neg (by simpa using c)]
    rw [hd]
    by_cases c : s.data.toList[i] = 10
    · have c' : ((s.data.toList[i].toNat : Nat) : Int) = 10 := by rw [c]; rfl
      rw [if_pos c', if_pos c, ih k (i + 1) (n + 1) (by omega) (by omega) (by omega) (by omega)]
      congr 1
      omega
    · have c' : ¬ ((s.data.toList[i].toNat : Nat) : Int) = 10 := by
        intro h
        apply c
        apply UInt8.toNat_inj.1
        show _ = 10
        omega
      rw [if_neg c', if_neg c, ih k (i + 1) n (by omega) (by omega) (by omega) (by omega)]
      rfl
theorem FnExactCountLines : laws_FnExactCountLines.Pure := by
  intro a0 _
  by_cases c0 : (a0.size : Int) > 1048576
  · exact ⟨0, by unfold laws_FnExactCountLines.f; rw [if_pos c0]⟩
  refine ⟨1048600, ?_⟩
  have e1 := count_loop a0 (by omega) a0.size 1048600 0 0 (by omega) (by omega) (by omega) (by omega)
  rw [List.drop_zero, Nat.zero_add] at e1
  have e2 : impl_CountLines.f a0 = some (Lib.countByte a0.data.toList 10 : Int) := by
    unfold impl_CountLines.f strings_Count.f
    have h1 : (⟨#[10]⟩ : ByteArray).size = 1 := rfl
    rw [if_pos h1]
    rfl
  have e3 : spec_CountLines.f 1048600 a0 = some (Lib.countByte a0.data.toList 10 : Int) := e1
  unfold laws_FnExactCountLines.f
  rw [if_neg c0, e2, e3]
  simp

end Go.Proofs.Ytgggflbmcmalfaa.Pure
