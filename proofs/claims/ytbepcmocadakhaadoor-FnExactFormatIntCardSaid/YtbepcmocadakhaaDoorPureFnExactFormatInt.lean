/- The plain law of FormatInt. -/
import Derived.Test.YtbepcmocadakhaaDoorOpFnExactFormatInt
import Derived.Test.YtbepcmocadakhaaDoorKit2
import Derived.Test.YtbepcmocadakhaaDoorKit
set_option linter.unusedVariables false
set_option linter.unusedSimpArgs false
namespace Go.Proofs.YtbepcmocadakhaaDoor.Pure
open Go.RowKit Go.Proofs.YtbepcmocadakhaaDoor.QFnExactFormatInt Go.Proofs.YtbepcmocadakhaaDoorW.PrintWords Go.Proofs.YtbepcmocadakhaaDoorW.PrintLast Go.Proofs.YtbepcmocadakhaaDoor.OpFnExactFormatInt

theorem wf_u8 {x : Int} (h : (Lit.int .u8 x).wf = true) : 0 ≤ x ∧ x < 256 := by
  simp [Lit.wf, IntKind.min, IntKind.max, IntKind.signed, IntKind.bits] at h
  omega
theorem wf_i64 {x : Int} (h : (Lit.int .i64 x).wf = true) : -9223372036854775808 ≤ x ∧ x ≤ 9223372036854775807 := by
  simp [Lit.wf, IntKind.min, IntKind.max, IntKind.signed, IntKind.bits] at h
  omega
def ba (l : List UInt8) : ByteArray := ⟨l.toArray⟩
theorem ba_append (l m : List UInt8) : ba l ++ ba m = ba (l ++ m) := by
  apply Kit.bytes_inj.1
  rw [Go.ByteArray.toList_eq, Go.ByteArray.toList_eq]
  simp [ba]
theorem ba_size (l : List UInt8) : (ba l).size = l.length := rfl
def dig (u : Nat) : List UInt8 := if u = 0 then [] else Go.Lib.decDigits u
theorem dig_step (u : Nat) (h : u ≠ 0) : dig u = dig (u / 10) ++ [UInt8.ofNat (48 + u % 10)] := by
  unfold dig
  rw [if_neg h, Go.Lib.decDigits]
  by_cases c : u < 10
  · rw [dif_pos c, if_pos (by omega), Nat.mod_eq_of_lt c]
    rfl
  · rw [dif_neg c, if_neg (by omega)]
def sgn (n : Int) (l : List UInt8) : List UInt8 := if n < 0 then 45 :: l else l
theorem str_one (m : Nat) (h : m < 10) : strOfNums [((48 + m : Nat) : Int)] = ba [UInt8.ofNat (48 + m)] := by
  unfold strOfNums ba
  simp only [List.map_cons, List.map_nil, Int.toNat_natCast]
theorem itoa_zero : Go.Lib.itoa 0 = [48] := by
  unfold Go.Lib.itoa
  rw [if_neg (by decide), Go.Lib.decDigits, dif_pos (by decide)]
  rfl
theorem fmt_l0 (n : Int) : ∀ (d k u : Nat) (x : Int) (l : List UInt8), (x = (u : Int) ∨ x = -(u : Int)) → u < 10 ^ d → u ≤ 9223372036854775808 → l.length + d ≤ 100 → d < k → spec_FormatInt.l0 k n (ba l) x = some (ba (sgn n (dig u ++ l)))
  | 0, k, u, x, l, hx, h1, h2, h3, h4 => by
    obtain ⟨k, rfl⟩ : ∃ m, k = m + 1 := ⟨k - 1, by omega⟩
    have hu : u = 0 := by simpa using h1
    subst hu
    have hx0 : x = 0 := by omega
    subst hx0
    simp only [spec_FormatInt.l0]
    rw [if_pos trivial, ba_size]
    unfold sgn dig
    by_cases c : n < 0
    · rw [if_pos c, if_pos (by omega), if_pos c]
      exact congrArg some (ba_append [45] l)
    · rw [if_neg c, if_neg c]
      rfl
  | d + 1, k, u, x, l, hx, h1, h2, h3, h4 => by
    obtain ⟨k, rfl⟩ : ∃ m, k = m + 1 := ⟨k - 1, by omega⟩
    by_cases h0 : u = 0
    · subst h0
      have hx0 : x = 0 := by omega
      subst hx0
      simp only [spec_FormatInt.l0]
      rw [if_pos trivial, ba_size]
      unfold sgn dig
      by_cases c : n < 0
      · rw [if_pos c, if_pos (by omega), if_pos c]
        exact congrArg some (ba_append [45] l)
      · rw [if_neg c, if_neg c]
        rfl
    · have hp : u / 10 < 10 ^ d := by
        rw [Nat.pow_succ] at h1
        omega
      have hm : u % 10 < 10 := Nat.mod_lt _ (by decide)
      have hs : (strOfNums [((48 + u % 10 : Nat) : Int)]).size + (ba l).size ≤ 9223372036854775807 := by
        rw [str_one _ hm, ba_size, ba_size]
        simp
        omega
      have fin : ∀ q : Int, (q = ((u / 10 : Nat) : Int) ∨ q = -((u / 10 : Nat) : Int)) → spec_FormatInt.l0 k n ((strOfNums [((48 + u % 10 : Nat) : Int)]) ++ ba l) (wrap64 q) = some (ba (sgn n (dig u ++ l))) := by
        intro q hq
        rw [Kit.wrap_id q (by omega) (by omega), str_one _ hm, ba_append, fmt_l0 n d k (u / 10) q _ hq hp (by omega) (by simp; omega) (by omega), dig_step u h0]
        simp
      simp only [spec_FormatInt.l0]
      rw [if_neg (show ¬ x = 0 by omega)]
      rcases hx with hx | hx
      · have e1 : Int.tmod x 10 = ((u % 10 : Nat) : Int) := by rw [hx]; rfl
        have e2 : Int.tdiv x 10 = ((u / 10 : Nat) : Int) := by rw [hx]; rfl
        rw [e1, e2, if_neg (by omega)]
        have e3 : (wrap64 (48 + ((u % 10 : Nat) : Int))) % 256 = ((48 + u % 10 : Nat) : Int) := by
          rw [Kit.wrap_id _ (by omega) (by omega)]
          omega
        rw [e3]
        simp only [Option.bind_some]
        rw [if_pos hs]
        exact fin _ (.inl rfl)
      · have e1 : Int.tmod x 10 = -((u % 10 : Nat) : Int) := by rw [hx, Int.neg_tmod]; rfl
        have e2 : Int.tdiv x 10 = -((u / 10 : Nat) : Int) := by rw [hx, Int.neg_tdiv]; rfl
        rw [e1, e2]
        by_cases c : -((u % 10 : Nat) : Int) < 0
        · rw [if_pos c]
          have e3 : (wrap64 (48 + (wrap64 (- -((u % 10 : Nat) : Int))))) % 256 = ((48 + u % 10 : Nat) : Int) := by
            rw [Int.neg_neg, Kit.wrap_id ((u % 10 : Nat) : Int) (by omega) (by omega), Kit.wrap_id _ (by omega) (by omega)]
            omega
          rw [e3]
          simp only [Option.bind_some]
          rw [if_pos hs]
          exact fin _ (.inr rfl)
        · rw [if_neg c]
          have e3 : (wrap64 (48 + -((u % 10 : Nat) : Int))) % 256 = ((48 + u % 10 : Nat) : Int) := by
            rw [Kit.wrap_id _ (by omega) (by omega)]
            omega
          rw [e3]
          simp only [Option.bind_some]
          rw [if_pos hs]
          exact fin _ (.inr rfl)
theorem spec_fmt (n : Int) (h0 : -9223372036854775808 ≤ n) (h1 : n ≤ 9223372036854775807) (k : Nat) (hk : 30 < k) : spec_FormatInt.f k n = some (ba (Go.Lib.itoa n)) := by
  unfold spec_FormatInt.f
  by_cases c : n = 0
  · rw [if_pos c, c, itoa_zero]
    rfl
  · rw [if_neg c]
    have := fmt_l0 n 20 k n.natAbs n [] (by omega) (by omega) (by omega) (by simp) (by omega)
    refine this.trans ?_
    unfold sgn Go.Lib.itoa dig
    rw [List.append_nil]
    by_cases c0 : n < 0
    · rw [if_pos c0, if_pos c0, if_neg (show ¬ n.natAbs = 0 by omega)]
    · rw [if_neg c0, if_neg c0, if_neg (show ¬ n.natAbs = 0 by omega), show n.natAbs = n.toNat by omega]
theorem impl_fmt (n : Int) (h0 : -9223372036854775808 ≤ n) (h1 : n ≤ 9223372036854775807) : impl_FormatInt.f n = some (ba (Go.Lib.itoa n)) := by
  unfold impl_FormatInt.f strconv_Itoa.f
  rw [if_pos h0, if_pos h1]
  rfl
theorem FnExactFormatInt : OpFnExactFormatInt.Pure := by
  intro a0 hw
  have hb := wf_i64 hw
  refine ⟨100, ?_⟩
  unfold laws_FnExactFormatInt.f
  rw [spec_fmt a0 hb.1 hb.2 100 (by omega)]
  simp only [Option.bind_some]
  rw [impl_fmt a0 hb.1 hb.2]
  simp only [Option.bind_some]
  rw [if_pos trivial]

end Go.Proofs.YtbepcmocadakhaaDoor.Pure
