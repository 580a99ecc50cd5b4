/- The plain law of ParseInt. -/
import Derived.Test.YtbepcmocadakhaaDoorOpFnExactParseInt
import Derived.Lib.AtoiTie
import Derived.Lib.ItoaMem
import Derived.Test.YtbepcmocadakhaaDoorKit2
import Derived.Test.YtbepcmocadakhaaDoorKit
set_option linter.unusedVariables false
set_option linter.unusedSimpArgs false
namespace Go.Proofs.YtbepcmocadakhaaDoor.Pure
open Go.RowKit Go.Proofs.YtbepcmocadakhaaDoor.QFnExactParseInt Go.Proofs.YtbepcmocadakhaaDoorW.PrintWords Go.Proofs.YtbepcmocadakhaaDoorW.PrintLast Go.Proofs.YtbepcmocadakhaaDoor.OpFnExactParseInt

theorem wf_u8 {x : Int} (h : (Lit.int .u8 x).wf = true) : 0 ≤ x ∧ x < 256 := by
  simp [Lit.wf, IntKind.min, IntKind.max, IntKind.signed, IntKind.bits] at h
  omega
theorem wf_i64 {x : Int} (h : (Lit.int .i64 x).wf = true) : -9223372036854775808 ≤ x ∧ x ≤ 9223372036854775807 := by
  simp [Lit.wf, IntKind.min, IntKind.max, IntKind.signed, IntKind.bits] at h
  omega
def ba (l : List UInt8) : ByteArray := ⟨l.toArray⟩
theorem ba_append (l m : List UInt8) : ba l ++ ba m = ba (l ++ m) := by
  apply Kit.bytes_inj.1
  rw [Go.ByteArray.toList_eq, Go.ByteArray.toList_eq]
  simp [ba]
theorem ba_size (l : List UInt8) : (ba l).size = l.length := rfl
def dig (u : Nat) : List UInt8 := if u = 0 then [] else Go.Lib.decDigits u
theorem dig_step (u : Nat) (h : u ≠ 0) : dig u = dig (u / 10) ++ [UInt8.ofNat (48 + u % 10)] := by
  unfold dig
  rw [if_neg h, Go.Lib.decDigits]
  by_cases c : u < 10
  · rw [dif_pos c, if_pos (by omega), Nat.mod_eq_of_lt c]
    rfl
  · rw [dif_neg c, if_neg (by omega)]
def sgn (n : Int) (l : List UInt8) : List UInt8 := if n < 0 then 45 :: l else l
theorem str_one (m : Nat) (h : m < 10) : strOfNums [((48 + m : Nat) : Int)] = ba [UInt8.ofNat (48 + m)] := by
  unfold strOfNums ba
  simp only [List.map_cons, List.map_nil, Int.toNat_natCast]
theorem itoa_zero : Go.Lib.itoa 0 = [48] := by
  unfold Go.Lib.itoa
  rw [if_neg (by decide), Go.Lib.decDigits, dif_pos (by decide)]
  rfl
theorem fmt_l0 (n : Int) : ∀ (d k u : Nat) (x : Int) (l : List UInt8), (x = (u : Int) ∨ x = -(u : Int)) → u < 10 ^ d → u ≤ 9223372036854775808 → l.length + d ≤ 100 → d < k → spec_FormatInt.l0 k n (ba l) x = some (ba (sgn n (dig u ++ l)))
  | 0, k, u, x, l, hx, h1, h2, h3, h4 => by
    obtain ⟨k, rfl⟩ : ∃ m, k = m + 1 := ⟨k - 1, by omega⟩
    have hu : u = 0 := by simpa using h1
    subst hu
    have hx0 : x = 0 := by omega
    subst hx0
    simp only [spec_FormatInt.l0]
    rw [if_pos trivial, ba_size]
    unfold sgn dig
    by_cases c : n < 0
    · rw [if_pos c, if_pos (by omega), if_pos c]
      exact congrArg some (ba_append [45] l)
    · rw [if_neg c, if_neg c]
      rfl
  | d + 1, k, u, x, l, hx, h1, h2, h3, h4 => by
    obtain ⟨k, rfl⟩ : ∃ m, k = m + 1 := ⟨k - 1, by omega⟩
    by_cases h0 : u = 0
    · subst h0
      have hx0 : x = 0 := by omega
      subst hx0
      simp only [spec_FormatInt.l0]
      rw [if_pos trivial, ba_size]
      unfold sgn dig
      by_cases c : n < 0
      · rw [if_pos c, if_pos (by omega), if_pos c]
        exact congrArg some (ba_append [45] l)
      · rw [if_neg c, if_neg c]
        rfl
    · have hp : u / 10 < 10 ^ d := by
        rw [Nat.pow_succ] at h1
        omega
      have hm : u % 10 < 10 := Nat.mod_lt _ (by decide)
      have hs : (strOfNums [((48 + u % 10 : Nat) : Int)]).size + (ba l).size ≤ 9223372036854775807 := by
        rw [str_one _ hm, ba_size, ba_size]
        simp
        omega
      have fin : ∀ q : Int, (q = ((u / 10 : Nat) : Int) ∨ q = -((u / 10 : Nat) : Int)) → spec_FormatInt.l0 k n ((strOfNums [((48 + u % 10 : Nat) : Int)]) ++ ba l) (wrap64 q) = some (ba (sgn n (dig u ++ l))) := by
        intro q hq
        rw [Kit.wrap_id q (by omega) (by omega), str_one _ hm, ba_append, fmt_l0 n d k (u / 10) q _ hq hp (by omega) (by simp; omega) (by omega), dig_step u h0]
        simp
      simp only [spec_FormatInt.l0]
      rw [if_neg (show ¬ x = 0 by omega)]
      rcases hx with hx | hx
      · have e1 : Int.tmod x 10 = ((u % 10 : Nat) : Int) := by rw [hx]; rfl
        have e2 : Int.tdiv x 10 = ((u / 10 : Nat) : Int) := by rw [hx]; rfl
        rw [e1, e2, if_neg (by omega)]
        have e3 : (wrap64 (48 + ((u % 10 : Nat) : Int))) % 256 = ((48 + u % 10 : Nat) : Int) := by
          rw [Kit.wrap_id _ (by omega) (by omega)]
          omega
        rw [e3]
        simp only [Option.bind_some]
        rw [if_pos hs]
        exact fin _ (.inl rfl)
      · have e1 : Int.tmod x 10 = -((u % 10 : Nat) : Int) := by rw [hx, Int.neg_tmod]; rfl
        have e2 : Int.tdiv x 10 = -((u / 10 : Nat) : Int) := by rw [hx, Int.neg_tdiv]; rfl
        rw [e1, e2]
        by_cases c : -((u % 10 : Nat) : Int) < 0
        · rw [if_pos c]
          have e3 : (wrap64 (48 + (wrap64 (- -((u % 10 : Nat) : Int))))) % 256 = ((48 + u % 10 : Nat) : Int) := by
            rw [Int.neg_neg, Kit.wrap_id ((u % 10 : Nat) : Int) (by omega) (by omega), Kit.wrap_id _ (by omega) (by omega)]
            omega
          rw [e3]
          simp only [Option.bind_some]
          rw [if_pos hs]
          exact fin _ (.inr rfl)
        · rw [if_neg c]
          have e3 : (wrap64 (48 + -((u % 10 : Nat) : Int))) % 256 = ((48 + u % 10 : Nat) : Int) := by
            rw [Kit.wrap_id _ (by omega) (by omega)]
            omega
          rw [e3]
          simp only [Option.bind_some]
          rw [if_pos hs]
          exact fin _ (.inr rfl)
theorem spec_fmt (n : Int) (h0 : -9223372036854775808 ≤ n) (h1 : n ≤ 9223372036854775807) (k : Nat) (hk : 30 < k) : spec_FormatInt.f k n = some (ba (Go.Lib.itoa n)) := by
  unfold spec_FormatInt.f
  by_cases c : n = 0
  · rw [if_pos c, c, itoa_zero]
    rfl
  · rw [if_neg c]
    have := fmt_l0 n 20 k n.natAbs n [] (by omega) (by omega) (by omega) (by simp) (by omega)
    refine this.trans ?_
    unfold sgn Go.Lib.itoa dig
    rw [List.append_nil]
    by_cases c0 : n < 0
    · rw [if_pos c0, if_pos c0, if_neg (show ¬ n.natAbs = 0 by omega)]
    · rw [if_neg c0, if_neg c0, if_neg (show ¬ n.natAbs = 0 by omega), show n.natAbs = n.toNat by omega]
theorem digitVal_mk (m : Nat) (h : m < 10) : Go.Lib.digitVal (UInt8.ofNat (48 + m)) = some m := by
  have e : (UInt8.ofNat (48 + m)).toNat = 48 + m := by
    rw [UInt8.toNat_ofNat']
    omega
  unfold Go.Lib.digitVal
  rw [e, if_pos (by omega)]
  congr 1
  omega
theorem decFrom_snoc : ∀ (l : List UInt8) (acc m d : Nat) (b : UInt8), Go.Lib.decFrom acc l = some m → Go.Lib.digitVal b = some d → Go.Lib.decFrom acc (l ++ [b]) = some (m * 10 + d)
  | [], acc, m, d, b, h, hb => by
    simp only [Go.Lib.decFrom, Option.some.injEq] at h
    subst h
    simp [Go.Lib.decFrom, hb]
  | c :: r, acc, m, d, b, h, hb => by
    simp only [List.cons_append, Go.Lib.decFrom] at h ⊢
    cases hc : Go.Lib.digitVal c with
    | none =>
      rw [hc] at h
      exact absurd h (by simp)
    | some q =>
      rw [hc] at h
      exact decFrom_snoc r _ m d b h hb
theorem decFrom_dig : ∀ (u : Nat), Go.Lib.decFrom 0 (Go.Lib.decDigits u) = some u := by
  intro u
  induction u using Nat.strongRecOn with
  | _ u ih =>
    rw [Go.Lib.decDigits]
    by_cases c : u < 10
    · rw [dif_pos c]
      show (match Go.Lib.digitVal (UInt8.ofNat (48 + u)) with | some d => Go.Lib.decFrom (0 * 10 + d) [] | none => none) = some u
      rw [digitVal_mk u c]
      simp [Go.Lib.decFrom]
    · rw [dif_neg c, decFrom_snoc _ _ _ _ _ (ih (u / 10) (by omega)) (digitVal_mk (u % 10) (Nat.mod_lt _ (by decide)))]
      congr 1
      omega
theorem nd_le : ∀ (k u : Nat), u < 10 ^ (k + 1) → Go.Lib.nDigits u ≤ k + 1
  | 0, u, h => by rw [Go.Lib.nDigits_small (by simpa using h)]; exact Nat.le_refl _
  | k + 1, u, h => by
    by_cases c : u < 10
    · rw [Go.Lib.nDigits_small c]
      omega
    · rw [Go.Lib.nDigits_big c]
      have := nd_le k (u / 10) (by rw [Nat.pow_succ] at h; omega)
      omega
def canon (s : ByteArray) (n : Nat) : Prop := n ≤ 1000000000000 ∧ s.data.toList = Go.Lib.decDigits n
theorem canon_len (s : ByteArray) (n : Nat) (h : canon s n) : 1 ≤ s.data.toList.length ∧ s.data.toList.length ≤ 13 := by
  rw [h.2, Go.Lib.decDigits_length]
  exact ⟨Go.Lib.nDigits_pos n, nd_le 12 n (by have := h.1; omega)⟩
theorem atoi_canon (s : ByteArray) (n : Nat) (h : canon s n) : Go.Lib.atoiAll s.data.toList = .ok (n : Int) := by
  have hl := canon_len s n h
  have hd : Go.Lib.decFrom 0 s.data.toList = some n := by rw [h.2]; exact decFrom_dig n
  rw [Go.Lib.atoiAll_short _ (by omega)]
  cases hs : s.data.toList with
  | nil =>
    rw [hs] at hl
    exact absurd hl.1 (by decide)
  | cons c r =>
    rw [hs] at hd
    have hc : 48 ≤ c.toNat ∧ c.toNat ≤ 57 := by
      simp only [Go.Lib.decFrom, Go.Lib.digitVal] at hd
      by_cases q : 48 ≤ c.toNat ∧ c.toNat ≤ 57
      · exact q
      · rw [if_neg q] at hd
        exact absurd hd (by simp)
    have h45 : (c == 45) = false := by
      apply beq_eq_false_iff_ne.2
      rintro rfl
      exact absurd hc.1 (by decide)
    have h43 : (c == 43) = false := by
      apply beq_eq_false_iff_ne.2
      rintro rfl
      exact absurd hc.1 (by decide)
    unfold Go.Lib.atoi Go.Lib.decNat
    dsimp only
    rw [h45, h43]
    simp only [Bool.false_eq_true, if_false, List.isEmpty_cons]
    rw [hd]
    rfl
theorem ba_list (s : ByteArray) (l : List UInt8) : (ba l).toList = s.toList ↔ s.data.toList = l := by
  rw [Go.ByteArray.toList_eq, Go.ByteArray.toList_eq]
  show l = s.data.toList ↔ _
  exact eq_comm
theorem impl_yes (s : ByteArray) (n : Nat) (h : canon s n) : impl_ParseInt.f s = some ((n : Int), true) := by
  have hl := canon_len s n h
  have hz : s.size = s.data.toList.length := rfl
  have hn := h.1
  unfold impl_ParseInt.f
  rw [if_pos (by omega), atoi_canon s n h]
  unfold impl_ParseInt.g
  dsimp only
  rw [if_neg (by omega), if_neg (by omega), if_pos (show (⟨(Go.Lib.itoa (n : Int)).toArray⟩ : ByteArray).toList = s.toList from (ba_list s _).2 (by rw [Go.Lib.itoa_nonneg]; exact h.2))]
theorem impl_no (s : ByteArray) (hs : s.size ≤ 281474976710656) (h : ∀ n, ¬ canon s n) : impl_ParseInt.f s = some (0, false) := by
  unfold impl_ParseInt.f
  rw [if_pos hs]
  cases ha : Go.Lib.atoiAll s.data.toList with
  | range => rfl
  | ok v =>
    unfold impl_ParseInt.g
    dsimp only
    by_cases c1 : v < 0
    · rw [if_pos c1]
    · rw [if_neg c1]
      by_cases c2 : v > 1000000000000
      · rw [if_pos c2]
      · rw [if_neg c2]
        by_cases c3 : (⟨(Go.Lib.itoa v).toArray⟩ : ByteArray).toList = s.toList
        · exfalso
          have h3 := (ba_list s _).1 c3
          obtain ⟨n, rfl⟩ := Int.eq_ofNat_of_zero_le (show 0 ≤ v by omega)
          rw [Go.Lib.itoa_nonneg] at h3
          exact h n ⟨by omega, h3⟩
        · rw [if_neg c3]
  | _ => rfl
def finP (s : ByteArray) : Option Nat → Int × Bool
  | none => (0, false)
  | some n => if (n : Int) > 1000000000000 then (0, false) else if (ba (Go.Lib.itoa (n : Int))).toList = s.toList then ((n : Int), true) else (0, false)
theorem bt_list (s : ByteArray) (i : Nat) (h : i < s.data.toList.length) : bt s (i : Int) = ((s.data.toList[i]).toNat : Int) := by
  have h' : (i : Int).toNat < s.size := by simpa using h
  unfold bt
  rw [dif_pos h']
  rfl
theorem spec_loop (s : ByteArray) (hs : s.size ≤ 13) : ∀ (d k i acc : Nat), i ≤ s.size → s.size - i = d → acc < 10 ^ i → d + 60 < k → spec_ParseInt.l0 k s (acc : Int) (i : Int) = some (finP s (Go.Lib.decFrom acc (s.data.toList.drop i)))
  | 0, k, i, acc, h0, h1, h2, h3 => by
    obtain ⟨k, rfl⟩ : ∃ m, k = m + 1 := ⟨k - 1, by omega⟩
    have hp : 10 ^ i ≤ 10 ^ 13 := Nat.pow_le_pow_right (by decide) (by omega)
    have hz : s.size = s.data.toList.length := rfl
    simp only [spec_ParseInt.l0]
    rw [if_neg (by omega), List.drop_of_length_le (by omega), spec_fmt (acc : Int) (by omega) (by omega) k (by omega)]
    simp only [Option.bind_some, Go.Lib.decFrom, finP]
    by_cases c : (acc : Int) > 1000000000000
    · rw [if_pos c, if_pos c]
    · rw [if_neg c, if_neg c]
      by_cases c2 : (ba (Go.Lib.itoa (acc : Int))).toList = s.toList
      · rw [if_pos c2, if_pos c2]
      · rw [if_neg c2, if_neg c2]
  | d + 1, k, i, acc, h0, h1, h2, h3 => by
    obtain ⟨k, rfl⟩ : ∃ m, k = m + 1 := ⟨k - 1, by omega⟩
    have hp : 10 ^ i ≤ 10 ^ 12 := Nat.pow_le_pow_right (by decide) (by omega)
    have hz : s.size = s.data.toList.length := rfl
    have hi : i < s.data.toList.length := by omega
    have hb := (s.data.toList[i]).toNat_lt
    simp only [spec_ParseInt.l0]
    rw [if_pos (by omega), if_pos (by omega), bt_list s i hi, List.drop_eq_getElem_cons hi, Kit.wrap_id _ (by omega) (by omega)]
    simp only [Go.Lib.decFrom, Go.Lib.digitVal]
    unfold spec_l1In.f
    by_cases c1 : 48 ≤ (s.data.toList[i]).toNat
    · rw [if_pos (by omega)]
      by_cases c2 : (s.data.toList[i]).toNat ≤ 57
      · rw [decide_eq_true (by omega), if_pos ⟨c1, c2⟩]
        simp only [Option.bind_some]
        have e : wrap64 ((wrap64 (10 * (acc : Int))) + ((((s.data.toList[i]).toNat : Int) - 48) % 256)) = ((acc * 10 + ((s.data.toList[i]).toNat - 48) : Nat) : Int) := by
          rw [Kit.wrap_id (10 * (acc : Int)) (by omega) (by omega), Kit.wrap_id _ (by omega) (by omega)]
          omega
        rw [if_pos trivial, e, Kit.wrap_succ i (by omega)]
        exact spec_loop s hs d k (i + 1) _ (by omega) (by omega) (by rw [Nat.pow_succ]; omega) (by omega)
      · rw [decide_eq_false (by omega), if_neg (fun h => c2 h.2)]
        simp only [Option.bind_some]
        rw [if_neg (by simp)]
        rfl
    · rw [if_neg (by omega), if_neg (fun h => c1 h.1)]
      simp only [Option.bind_some]
      rw [if_neg (by simp)]
      rfl
theorem spec_parse (s : ByteArray) (k : Nat) (hk : 100 < k) : spec_ParseInt.f k s = some (if 1 ≤ s.size ∧ s.size ≤ 13 then finP s (Go.Lib.decFrom 0 s.data.toList) else (0, false)) := by
  unfold spec_ParseInt.f spec_l1In.f
  by_cases c1 : 1 ≤ s.size
  · rw [if_pos (by omega)]
    by_cases c2 : s.size ≤ 13
    · rw [decide_eq_true (by omega), if_pos ⟨c1, c2⟩]
      simp only [Option.bind_some]
      rw [if_pos trivial]
      have := spec_loop s c2 s.size k 0 0 (by omega) (by omega) (by decide) (by omega)
      rw [List.drop_zero] at this
      exact this
    · rw [decide_eq_false (by omega), if_neg (fun h => c2 h.2)]
      simp only [Option.bind_some]
      rw [if_neg (by simp)]
  · rw [if_neg (by omega), if_neg (fun h => c1 h.1)]
    simp only [Option.bind_some]
    rw [if_neg (by simp)]
theorem spec_yes (s : ByteArray) (n : Nat) (h : canon s n) (k : Nat) (hk : 100 < k) : spec_ParseInt.f k s = some ((n : Int), true) := by
  have hl := canon_len s n h
  have hz : s.size = s.data.toList.length := rfl
  have hn := h.1
  have hd : Go.Lib.decFrom 0 s.data.toList = some n := by rw [h.2]; exact decFrom_dig n
  rw [spec_parse s k hk, if_pos ⟨by omega, by omega⟩, hd]
  unfold finP
  dsimp only
  rw [if_neg (by omega), if_pos ((ba_list s _).2 (by rw [Go.Lib.itoa_nonneg]; exact h.2))]
theorem spec_no (s : ByteArray) (h : ∀ n, ¬ canon s n) (k : Nat) (hk : 100 < k) : spec_ParseInt.f k s = some (0, false) := by
  rw [spec_parse s k hk]
  by_cases c : 1 ≤ s.size ∧ s.size ≤ 13
  · rw [if_pos c]
    cases Go.Lib.decFrom 0 s.data.toList with
    | none => rfl
    | some n =>
      unfold finP
      dsimp only
      by_cases c2 : (n : Int) > 1000000000000
      · rw [if_pos c2]
      · rw [if_neg c2]
        by_cases c3 : (ba (Go.Lib.itoa (n : Int))).toList = s.toList
        · exfalso
          have h3 := (ba_list s _).1 c3
          rw [Go.Lib.itoa_nonneg] at h3
          exact h n ⟨by omega, h3⟩
        · rw [if_neg c3]
  · rw [if_neg c]
theorem FnExactParseInt : OpFnExactParseInt.Pure := by
  intro a0 hs
  have hs' : a0.size ≤ maxLen := hs
  simp only [maxLen] at hs'
  refine ⟨1000, ?_⟩
  unfold laws_FnExactParseInt.f
  by_cases c0 : (a0.size : Int) > 1048576
  · rw [if_pos c0]
  rw [if_neg c0]
  by_cases h : ∃ n, canon a0 n
  · obtain ⟨n, h⟩ := h
    rw [spec_yes a0 n h 1000 (by omega), impl_yes a0 n h]
    simp
  · have h' : ∀ n, ¬ canon a0 n := fun n hn => h ⟨n, hn⟩
    rw [spec_no a0 h' 1000 (by omega), impl_no a0 (by omega) h']
    simp

end Go.Proofs.YtbepcmocadakhaaDoor.Pure
