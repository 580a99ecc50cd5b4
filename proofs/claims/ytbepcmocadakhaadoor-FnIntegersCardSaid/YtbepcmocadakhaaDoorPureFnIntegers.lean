/- The plain law of Integers. -/
import Derived.Test.YtbepcmocadakhaaDoorOpFnIntegers
import Derived.Lib.AtoiTie
import Derived.Lib.ItoaMem
import Derived.Test.YtbepcmocadakhaaDoorKit2
import Derived.Test.YtbepcmocadakhaaDoorKit
set_option linter.unusedVariables false
set_option linter.unusedSimpArgs false
namespace Go.Proofs.YtbepcmocadakhaaDoor.Pure
open Go.RowKit Go.Proofs.YtbepcmocadakhaaDoor.QFnIntegers Go.Proofs.YtbepcmocadakhaaDoorW.PrintWords Go.Proofs.YtbepcmocadakhaaDoorW.PrintLast Go.Proofs.YtbepcmocadakhaaDoor.OpFnIntegers

theorem wf_u8 {x : Int} (h : (Lit.int .u8 x).wf = true) : 0 ≤ x ∧ x < 256 := by
  simp [Lit.wf, IntKind.min, IntKind.max, IntKind.signed, IntKind.bits] at h
  omega
theorem wf_i64 {x : Int} (h : (Lit.int .i64 x).wf = true) : -9223372036854775808 ≤ x ∧ x ≤ 9223372036854775807 := by
  simp [Lit.wf, IntKind.min, IntKind.max, IntKind.signed, IntKind.bits] at h
  omega
theorem and255 (n : Int) : Go.bits .and .i64 n 255 = n % 256 := by
  have h255 : (BitVec.ofInt 64 255).toNat = 2 ^ 8 - 1 := by decide
  have key : (BitVec.ofInt 64 n &&& BitVec.ofInt 64 255).toNat = (n % ((2 ^ 64 : Nat) : Int)).toNat % 2 ^ 8 := by
    rw [BitVec.toNat_and, BitVec.toNat_ofInt, h255, Nat.and_two_pow_sub_one_eq_mod]
  show IntKind.i64.wrap ((BitVec.ofInt 64 n &&& BitVec.ofInt 64 255).toNat : Nat) = n % 256
  rw [key, IntKind.wrap_i64]
  omega
/-- Where the drawer reads next. -/
def DPos (l : List Int) (p : Int) : Prop := 0 ≤ p ∧ p ≤ (l.length : Int)
theorem byte_ok (l : List Int) (hl : l.length ≤ 1048576) (p s : Int) (hp : DPos l p) : ∃ b q t, spec_l1Byte.f l p s = some (b, q, t) ∧ (0 ≤ b ∧ b < 256) ∧ DPos l q := by
  have h0 := hp.1
  have h1 := hp.2
  unfold spec_l1Byte.f
  by_cases c : p < (l.length : Int)
  · rw [if_pos c, if_pos h0]
    refine ⟨_, _, _, rfl, ?_, ?_⟩
    · rw [and255]
      exact ⟨Int.emod_nonneg _ (by decide), Int.emod_lt_of_pos _ (by decide)⟩
    · rw [Kit.wrap_id (p + 1) (by omega) (by omega)]
      exact ⟨by omega, by omega⟩
  · rw [if_neg c]
    refine ⟨_, _, _, rfl, ?_, hp⟩
    rw [and255]
    exact ⟨Int.emod_nonneg _ (by decide), Int.emod_lt_of_pos _ (by decide)⟩
theorem below_ok (l : List Int) (hl : l.length ≤ 1048576) (p s : Int) (hp : DPos l p) (a : Int) : ∃ v q t, spec_l1Below.f l p s a = some (v, q, t) ∧ (0 ≤ v ∧ (0 < a → v < a) ∧ (a ≤ 0 → v = 0)) ∧ DPos l q := by
  unfold spec_l1Below.f
  by_cases c : a ≤ 0
  · rw [if_pos c]
    exact ⟨0, p, s, rfl, ⟨by omega, by omega, fun _ => rfl⟩, hp⟩
  · rw [if_neg c]
    have hn : ¬ a = 0 := by omega
    by_cases c2 : a ≤ 256
    · rw [if_pos c2]
      obtain ⟨b, q, t, e, hb, hq⟩ := byte_ok l hl p s hp
      rw [e]
      simp only [Option.bind_some]
      rw [if_neg hn]
      exact ⟨_, _, _, rfl, ⟨Int.tmod_nonneg _ hb.1, fun _ => Int.tmod_lt_of_pos _ (by omega), fun h => absurd h c⟩, hq⟩
    · rw [if_neg c2]
      obtain ⟨b, q, t, e, hb, hq⟩ := byte_ok l hl p s hp
      rw [e]
      simp only [Option.bind_some]
      obtain ⟨b2, q2, t2, e2, hb2, hq2⟩ := byte_ok l hl q t hq
      rw [e2]
      simp only [Option.bind_some]
      obtain ⟨b3, q3, t3, e3, hb3, hq3⟩ := byte_ok l hl q2 t2 hq2
      rw [e3]
      simp only [Option.bind_some]
      rw [if_neg hn]
      have hv : 0 ≤ wrap64 ((wrap64 ((wrap64 (b * 65536)) + (wrap64 (b2 * 256)))) + b3) := by
        rw [Kit.wrap_id (b * 65536) (by omega) (by omega), Kit.wrap_id (b2 * 256) (by omega) (by omega), Kit.wrap_id (b * 65536 + b2 * 256) (by omega) (by omega), Kit.wrap_id _ (by omega) (by omega)]
        omega
      exact ⟨_, _, _, rfl, ⟨Int.tmod_nonneg _ hv, fun _ => Int.tmod_lt_of_pos _ (by omega), fun h => absurd h c⟩, hq3⟩
theorem once_ok (l : List Int) (hl : l.length ≤ 1048576) (p s : Int) (hp : DPos l p) (a : Int) : ∃ v q t, spec_l1Once.f l p s a = some (v, q, t) ∧ DPos l q := by
  obtain ⟨v, q, t, e, _, hq⟩ := below_ok l hl p s hp a
  unfold spec_l1Once.f
  rw [e]
  exact ⟨_, _, _, rfl, hq⟩
theorem int_ok (l : List Int) (hl : l.length ≤ 1048576) (p s : Int) (hp : DPos l p) (xs : List Int) (hx : xs ≠ []) : ∃ v q t, spec_l1Int.f l p s xs = some (v, q, t) ∧ v ∈ xs ∧ DPos l q := by
  obtain ⟨v, q, t, e, hv, hq⟩ := below_ok l hl p s hp (xs.length : Int)
  have hlen : 0 < xs.length := List.length_pos_iff.2 hx
  have hv1 := hv.2.1 (by omega)
  have hv0 := hv.1
  unfold spec_l1Int.f
  rw [e]
  simp only [Option.bind_some]
  rw [if_pos hv0, if_pos hv1]
  refine ⟨_, _, _, rfl, ?_, hq⟩
  obtain ⟨n, rfl⟩ := Int.eq_ofNat_of_zero_le hv0
  rw [Kit.rd_lt xs n (by omega)]
  exact List.getElem_mem _
theorem new_loop (l : List Int) (hl : l.length ≤ 1048576) (d : Nat) : ∀ (k i : Nat) (s : Int), i ≤ l.length → l.length - i = d → d < k → ∃ t, spec_l1New.l0 k l s (i : Int) = some (l, 0, t) := by
  induction d with
  | zero =>
    intro k i s h0 h1 h2
    obtain ⟨k, rfl⟩ : ∃ m, k = m + 1 := ⟨k - 1, by omega⟩
    simp only [spec_l1New.l0]
    rw [if_neg (by omega)]
    exact ⟨_, rfl⟩
  | succ d ih =>
    intro k i s h0 h1 h2
    obtain ⟨k, rfl⟩ : ∃ m, k = m + 1 := ⟨k - 1, by omega⟩
    simp only [spec_l1New.l0]
    rw [if_pos (by omega)]
    by_cases c : (i : Int) < 4000
    · rw [if_pos c, if_pos (by omega), Kit.wrap_succ i (by omega)]
      exact ih k (i + 1) _ (by omega) (by omega) (by omega)
    · rw [if_neg c]
      exact ⟨_, rfl⟩
theorem new_ok (l : List Int) (hl : l.length ≤ 1048576) (k : Nat) (hk : l.length < k) : ∃ t, spec_l1New.f k l = some (l, 0, t) := new_loop l hl l.length k 0 _ (by omega) (by omega) hk
theorem dpos0 (l : List Int) : DPos l 0 := ⟨by omega, by omega⟩
def ba (l : List UInt8) : ByteArray := ⟨l.toArray⟩
theorem ba_append (l m : List UInt8) : ba l ++ ba m = ba (l ++ m) := by
  apply Kit.bytes_inj.1
  rw [Go.ByteArray.toList_eq, Go.ByteArray.toList_eq]
  simp [ba]
theorem ba_size (l : List UInt8) : (ba l).size = l.length := rfl
def dig (u : Nat) : List UInt8 := if u = 0 then [] else Go.Lib.decDigits u
theorem dig_step (u : Nat) (h : u ≠ 0) : dig u = dig (u / 10) ++ [UInt8.ofNat (48 + u % 10)] := by
  unfold dig
  rw [if_neg h, Go.Lib.decDigits]
  by_cases c : u < 10
  · rw [dif_pos c, if_pos (by omega), Nat.mod_eq_of_lt c]
    rfl
  · rw [dif_neg c, if_neg (by omega)]
def sgn (n : Int) (l : List UInt8) : List UInt8 := if n < 0 then 45 :: l else l
theorem str_one (m : Nat) (h : m < 10) : strOfNums [((48 + m : Nat) : Int)] = ba [UInt8.ofNat (48 + m)] := by
  unfold strOfNums ba
  simp only [List.map_cons, List.map_nil, Int.toNat_natCast]
theorem itoa_zero : Go.Lib.itoa 0 = [48] := by
  unfold Go.Lib.itoa
  rw [if_neg (by decide), Go.Lib.decDigits, dif_pos (by decide)]
  rfl
theorem fmt_l0 (n : Int) : ∀ (d k u : Nat) (x : Int) (l : List UInt8), (x = (u : Int) ∨ x = -(u : Int)) → u < 10 ^ d → u ≤ 9223372036854775808 → l.length + d ≤ 100 → d < k → spec_FormatInt.l0 k n (ba l) x = some (ba (sgn n (dig u ++ l)))
  | 0, k, u, x, l, hx, h1, h2, h3, h4 => by
    obtain ⟨k, rfl⟩ : ∃ m, k = m + 1 := ⟨k - 1, by omega⟩
    have hu : u = 0 := by simpa using h1
    subst hu
    have hx0 : x = 0 := by omega
    subst hx0
    simp only [spec_FormatInt.l0]
    rw [if_pos trivial, ba_size]
    unfold sgn dig
    by_cases c : n < 0
    · rw [if_pos c, if_pos (by omega), if_pos c]
      exact congrArg some (ba_append [45] l)
    · rw [if_neg c, if_neg c]
      rfl
  | d + 1, k, u, x, l, hx, h1, h2, h3, h4 => by
    obtain ⟨k, rfl⟩ : ∃ m, k = m + 1 := ⟨k - 1, by omega⟩
    by_cases h0 : u = 0
    · subst h0
      have hx0 : x = 0 := by omega
      subst hx0
      simp only [spec_FormatInt.l0]
      rw [if_pos trivial, ba_size]
      unfold sgn dig
      by_cases c : n < 0
      · rw [if_pos c, if_pos (by omega), if_pos c]
        exact congrArg some (ba_append [45] l)
      · rw [if_neg c, if_neg c]
        rfl
    · have hp : u / 10 < 10 ^ d := by
        rw [Nat.pow_succ] at h1
        omega
      have hm : u % 10 < 10 := Nat.mod_lt _ (by decide)
      have hs : (strOfNums [((48 + u % 10 : Nat) : Int)]).size + (ba l).size ≤ 9223372036854775807 := by
        rw [str_one _ hm, ba_size, ba_size]
        simp
        omega
      have fin : ∀ q : Int, (q = ((u / 10 : Nat) : Int) ∨ q = -((u / 10 : Nat) : Int)) → spec_FormatInt.l0 k n ((strOfNums [((48 + u % 10 : Nat) : Int)]) ++ ba l) (wrap64 q) = some (ba (sgn n (dig u ++ l))) := by
        intro q hq
        rw [Kit.wrap_id q (by omega) (by omega), str_one _ hm, ba_append, fmt_l0 n d k (u / 10) q _ hq hp (by omega) (by simp; omega) (by omega), dig_step u h0]
        simp
      simp only [spec_FormatInt.l0]
      rw [if_neg (show ¬ x = 0 by omega)]
      rcases hx with hx | hx
      · have e1 : Int.tmod x 10 = ((u % 10 : Nat) : Int) := by rw [hx]; rfl
        have e2 : Int.tdiv x 10 = ((u / 10 : Nat) : Int) := by rw [hx]; rfl
        rw [e1, e2, if_neg (by omega)]
        have e3 : (wrap64 (48 + ((u % 10 : Nat) : Int))) % 256 = ((48 + u % 10 : Nat) : Int) := by
          rw [Kit.wrap_id _ (by omega) (by omega)]
          omega
        rw [e3]
        simp only [Option.bind_some]
        rw [if_pos hs]
        exact fin _ (.inl rfl)
      · have e1 : Int.tmod x 10 = -((u % 10 : Nat) : Int) := by rw [hx, Int.neg_tmod]; rfl
        have e2 : Int.tdiv x 10 = -((u / 10 : Nat) : Int) := by rw [hx, Int.neg_tdiv]; rfl
        rw [e1, e2]
        by_cases c : -((u % 10 : Nat) : Int) < 0
        · rw [if_pos c]
          have e3 : (wrap64 (48 + (wrap64 (- -((u % 10 : Nat) : Int))))) % 256 = ((48 + u % 10 : Nat) : Int) := by
            rw [Int.neg_neg, Kit.wrap_id ((u % 10 : Nat) : Int) (by omega) (by omega), Kit.wrap_id _ (by omega) (by omega)]
            omega
          rw [e3]
          simp only [Option.bind_some]
          rw [if_pos hs]
          exact fin _ (.inr rfl)
        · rw [if_neg c]
          have e3 : (wrap64 (48 + -((u % 10 : Nat) : Int))) % 256 = ((48 + u % 10 : Nat) : Int) := by
            rw [Kit.wrap_id _ (by omega) (by omega)]
            omega
          rw [e3]
          simp only [Option.bind_some]
          rw [if_pos hs]
          exact fin _ (.inr rfl)
theorem spec_fmt (n : Int) (h0 : -9223372036854775808 ≤ n) (h1 : n ≤ 9223372036854775807) (k : Nat) (hk : 30 < k) : spec_FormatInt.f k n = some (ba (Go.Lib.itoa n)) := by
  unfold spec_FormatInt.f
  by_cases c : n = 0
  · rw [if_pos c, c, itoa_zero]
    rfl
  · rw [if_neg c]
    have := fmt_l0 n 20 k n.natAbs n [] (by omega) (by omega) (by omega) (by simp) (by omega)
    refine this.trans ?_
    unfold sgn Go.Lib.itoa dig
    rw [List.append_nil]
    by_cases c0 : n < 0
    · rw [if_pos c0, if_pos c0, if_neg (show ¬ n.natAbs = 0 by omega)]
    · rw [if_neg c0, if_neg c0, if_neg (show ¬ n.natAbs = 0 by omega), show n.natAbs = n.toNat by omega]
theorem impl_fmt (n : Int) (h0 : -9223372036854775808 ≤ n) (h1 : n ≤ 9223372036854775807) : impl_FormatInt.f n = some (ba (Go.Lib.itoa n)) := by
  unfold impl_FormatInt.f strconv_Itoa.f
  rw [if_pos h0, if_pos h1]
  rfl
theorem digitVal_mk (m : Nat) (h : m < 10) : Go.Lib.digitVal (UInt8.ofNat (48 + m)) = some m := by
  have e : (UInt8.ofNat (48 + m)).toNat = 48 + m := by
    rw [UInt8.toNat_ofNat']
    omega
  unfold Go.Lib.digitVal
  rw [e, if_pos (by omega)]
  congr 1
  omega
theorem decFrom_snoc : ∀ (l : List UInt8) (acc m d : Nat) (b : UInt8), Go.Lib.decFrom acc l = some m → Go.Lib.digitVal b = some d → Go.Lib.decFrom acc (l ++ [b]) = some (m * 10 + d)
  | [], acc, m, d, b, h, hb => by
    simp only [Go.Lib.decFrom, Option.some.injEq] at h
    subst h
    simp [Go.Lib.decFrom, hb]
  | c :: r, acc, m, d, b, h, hb => by
    simp only [List.cons_append, Go.Lib.decFrom] at h ⊢
    cases hc : Go.Lib.digitVal c with
    | none =>
      rw [hc] at h
      exact absurd h (by simp)
    | some q =>
      rw [hc] at h
      exact decFrom_snoc r _ m d b h hb
theorem decFrom_dig : ∀ (u : Nat), Go.Lib.decFrom 0 (Go.Lib.decDigits u) = some u := by
  intro u
  induction u using Nat.strongRecOn with
  | _ u ih =>
    rw [Go.Lib.decDigits]
    by_cases c : u < 10
    · rw [dif_pos c]
      show (match Go.Lib.digitVal (UInt8.ofNat (48 + u)) with | some d => Go.Lib.decFrom (0 * 10 + d) [] | none => none) = some u
      rw [digitVal_mk u c]
      simp [Go.Lib.decFrom]
    · rw [dif_neg c, decFrom_snoc _ _ _ _ _ (ih (u / 10) (by omega)) (digitVal_mk (u % 10) (Nat.mod_lt _ (by decide)))]
      congr 1
      omega
theorem nd_le : ∀ (k u : Nat), u < 10 ^ (k + 1) → Go.Lib.nDigits u ≤ k + 1
  | 0, u, h => by rw [Go.Lib.nDigits_small (by simpa using h)]; exact Nat.le_refl _
  | k + 1, u, h => by
    by_cases c : u < 10
    · rw [Go.Lib.nDigits_small c]
      omega
    · rw [Go.Lib.nDigits_big c]
      have := nd_le k (u / 10) (by rw [Nat.pow_succ] at h; omega)
      omega
def canon (s : ByteArray) (n : Nat) : Prop := n ≤ 1000000000000 ∧ s.data.toList = Go.Lib.decDigits n
theorem canon_len (s : ByteArray) (n : Nat) (h : canon s n) : 1 ≤ s.data.toList.length ∧ s.data.toList.length ≤ 13 := by
  rw [h.2, Go.Lib.decDigits_length]
  exact ⟨Go.Lib.nDigits_pos n, nd_le 12 n (by have := h.1; omega)⟩
theorem atoi_canon (s : ByteArray) (n : Nat) (h : canon s n) : Go.Lib.atoiAll s.data.toList = .ok (n : Int) := by
  have hl := canon_len s n h
  have hd : Go.Lib.decFrom 0 s.data.toList = some n := by rw [h.2]; exact decFrom_dig n
  rw [Go.Lib.atoiAll_short _ (by omega)]
  cases hs : s.data.toList with
  | nil =>
    rw [hs] at hl
    exact absurd hl.1 (by decide)
  | cons c r =>
    rw [hs] at hd
    have hc : 48 ≤ c.toNat ∧ c.toNat ≤ 57 := by
      simp only [Go.Lib.decFrom, Go.Lib.digitVal] at hd
      by_cases q : 48 ≤ c.toNat ∧ c.toNat ≤ 57
      · exact q
      · rw [if_neg q] at hd
        exact absurd hd (by simp)
    have h45 : (c == 45) = false := by
      apply beq_eq_false_iff_ne.2
      rintro rfl
      exact absurd hc.1 (by decide)
    have h43 : (c == 43) = false := by
      apply beq_eq_false_iff_ne.2
      rintro rfl
      exact absurd hc.1 (by decide)
    unfold Go.Lib.atoi Go.Lib.decNat
    dsimp only
    rw [h45, h43]
    simp only [Bool.false_eq_true, if_false, List.isEmpty_cons]
    rw [hd]
    rfl
theorem ba_list (s : ByteArray) (l : List UInt8) : (ba l).toList = s.toList ↔ s.data.toList = l := by
  rw [Go.ByteArray.toList_eq, Go.ByteArray.toList_eq]
  show l = s.data.toList ↔ _
  exact eq_comm
theorem impl_yes (s : ByteArray) (n : Nat) (h : canon s n) : impl_ParseInt.f s = some ((n : Int), true) := by
  have hl := canon_len s n h
  have hz : s.size = s.data.toList.length := rfl
  have hn := h.1
  unfold impl_ParseInt.f
  rw [if_pos (by omega), atoi_canon s n h]
  unfold impl_ParseInt.g
  dsimp only
  rw [if_neg (by omega), if_neg (by omega), if_pos (show (⟨(Go.Lib.itoa (n : Int)).toArray⟩ : ByteArray).toList = s.toList from (ba_list s _).2 (by rw [Go.Lib.itoa_nonneg]; exact h.2))]
theorem impl_no (s : ByteArray) (hs : s.size ≤ 281474976710656) (h : ∀ n, ¬ canon s n) : impl_ParseInt.f s = some (0, false) := by
  unfold impl_ParseInt.f
  rw [if_pos hs]
  cases ha : Go.Lib.atoiAll s.data.toList with
  | range => rfl
  | ok v =>
    unfold impl_ParseInt.g
    dsimp only
    by_cases c1 : v < 0
    · rw [if_pos c1]
    · rw [if_neg c1]
      by_cases c2 : v > 1000000000000
      · rw [if_pos c2]
      · rw [if_neg c2]
        by_cases c3 : (⟨(Go.Lib.itoa v).toArray⟩ : ByteArray).toList = s.toList
        · exfalso
          have h3 := (ba_list s _).1 c3
          obtain ⟨n, rfl⟩ := Int.eq_ofNat_of_zero_le (show 0 ≤ v by omega)
          rw [Go.Lib.itoa_nonneg] at h3
          exact h n ⟨by omega, h3⟩
        · rw [if_neg c3]
  | _ => rfl
theorem tmod_bd (a b : Int) (hb : 0 < b) : -b < Int.tmod a b ∧ Int.tmod a b < b := by
  rcases Int.le_total 0 a with h | h
  · have h1 := Int.tmod_nonneg b h
    have h2 := Int.tmod_lt_of_pos a hb
    omega
  · have h0 := Int.neg_tmod (-a) b
    rw [Int.neg_neg] at h0
    have h1 := Int.tmod_nonneg b (show 0 ≤ -a by omega)
    have h2 := Int.tmod_lt_of_pos (-a) hb
    omega
theorem num_ok (l : List Int) (hl : l.length ≤ 1048576) (p s : Int) (hp : DPos l p) : ∃ v q t, spec_l1Num.f l p s = some (v, q, t) ∧ (0 ≤ v ∧ v ≤ 1000000000000) ∧ DPos l q := by
  unfold spec_l1Num.f
  obtain ⟨c, q, t, e, _, hq⟩ := below_ok l hl p s hp 4
  rw [e]
  simp only [Option.bind_some]
  by_cases c0 : c = 0
  · rw [if_pos c0]
    obtain ⟨v, q1, t1, e1, hv, hq1⟩ := below_ok l hl q t hq 2000
    have := hv.2.1 (by decide)
    rw [e1]
    exact ⟨v, _, _, rfl, ⟨hv.1, by omega⟩, hq1⟩
  · rw [if_neg c0]
    by_cases c1 : c = 1
    · rw [if_pos c1]
      obtain ⟨v, q1, t1, e1, hv, hq1⟩ := int_ok l hl q t hq [0, 1, 127, 128, 2147483646, 2147483647, 1000000000000] (by simp)
      rw [e1]
      refine ⟨v, _, _, rfl, ?_, hq1⟩
      simp only [List.mem_cons, List.not_mem_nil, or_false] at hv
      omega
    · rw [if_neg c1]
      by_cases c2 : c = 2
      · rw [if_pos c2]
        obtain ⟨v, q1, t1, e1, hv, hq1⟩ := below_ok l hl q t hq 1000000
        have h1 := hv.2.1 (by decide)
        rw [e1]
        simp only [Option.bind_some]
        obtain ⟨v2, q2, t2, e2, hv2, hq2⟩ := below_ok l hl q1 t1 hq1 1000000
        have h2 := hv2.2.1 (by decide)
        rw [e2]
        simp only [Option.bind_some]
        have h3 : 0 ≤ v * v2 := Int.mul_nonneg hv.1 hv2.1
        have h4 : v * v2 ≤ 1000000 * 1000000 := Int.mul_le_mul (by omega) (by omega) hv2.1 (by decide)
        rw [Kit.wrap_id (v * v2) (by omega) (by omega)]
        exact ⟨_, _, _, rfl, ⟨h3, by omega⟩, hq2⟩
      · rw [if_neg c2]
        obtain ⟨v, q1, t1, e1, hv, hq1⟩ := below_ok l hl q t hq 20
        have := hv.2.1 (by decide)
        rw [e1]
        exact ⟨v, _, _, rfl, ⟨hv.1, by omega⟩, hq1⟩
theorem raw_ok (l : List Int) (hl : l.length ≤ 1048576) (p s : Int) (hp : DPos l p) : ∃ v q t, spec_l1Raw.f l p s = some (v, q, t) ∧ (-9223372036854775808 ≤ v ∧ v ≤ 9223372036854775807) ∧ DPos l q := by
  unfold spec_l1Raw.f spec_l1Odd.f
  obtain ⟨c, q, t, e, hq⟩ := once_ok l hl p s hp 2
  rw [e]
  simp only [Option.bind_some]
  by_cases c0 : c = true
  · rw [if_pos c0]
    obtain ⟨v, q1, t1, e1, hv, hq1⟩ := int_ok l hl q t hq [(-1), 0, 1, 2, 255, 256, 65535, 2147483647, 2147483648, 4294967295, 4294967296, (-2147483648), 9223372036854775807, (-9223372036854775808)] (by simp)
    rw [e1]
    refine ⟨v, _, _, rfl, ?_, hq1⟩
    simp only [List.mem_cons, List.not_mem_nil, or_false] at hv
    omega
  · rw [if_neg c0]
    obtain ⟨v, q1, t1, e1, hv, hq1⟩ := int_ok l hl q t hq [(-1), 1000000000000, 1000000000001] (by simp)
    rw [e1]
    refine ⟨v, _, _, rfl, ?_, hq1⟩
    simp only [List.mem_cons, List.not_mem_nil, or_false] at hv
    omega
theorem one_ok (l : List Int) (hl : l.length ≤ 1048576) (p s : Int) (hp : DPos l p) : ∃ v q t, spec_l1One.f l p s = some (v, q, t) ∧ (-9223372036854775808 ≤ v ∧ v ≤ 9223372036854775807) ∧ DPos l q := by
  unfold spec_l1One.f
  obtain ⟨c, q, t, e, hq⟩ := once_ok l hl p s hp 6
  rw [e]
  simp only [Option.bind_some]
  by_cases c0 : c = true
  · rw [if_pos c0]
    obtain ⟨v, q1, t1, e1, hv, hq1⟩ := raw_ok l hl q t hq
    rw [e1]
    exact ⟨v, _, _, rfl, hv, hq1⟩
  · rw [if_neg c0]
    obtain ⟨v, q1, t1, e1, hv, hq1⟩ := num_ok l hl q t hq
    rw [e1]
    exact ⟨v, _, _, rfl, ⟨by omega, by omega⟩, hq1⟩
theorem str_ok (l : List Int) (hl : l.length ≤ 1048576) (p s : Int) (hp : DPos l p) (xs : List ByteArray) (hx : xs ≠ []) (hz : ∀ x ∈ xs, x.size ≤ 100) : ∃ v q t, spec_l1Str.f l p s xs = some (v, q, t) ∧ v.size ≤ 100 ∧ DPos l q := by
  obtain ⟨v, q, t, e, hv, hq⟩ := below_ok l hl p s hp (xs.length : Int)
  have hlen : 0 < xs.length := List.length_pos_iff.2 hx
  have hv1 := hv.2.1 (by omega)
  have hv0 := hv.1
  unfold spec_l1Str.f
  rw [e]
  simp only [Option.bind_some]
  rw [if_pos hv0, if_pos hv1]
  refine ⟨_, _, _, rfl, ?_, hq⟩
  obtain ⟨n, rfl⟩ := Int.eq_ofNat_of_zero_le hv0
  unfold rdOf
  rw [Int.toNat_natCast, List.getD_eq_getElem?_getD, List.getElem?_eq_getElem (by omega)]
  exact hz _ (List.getElem_mem _)
theorem itoa_len (v : Int) (h0 : 0 ≤ v) (h1 : v ≤ 1000000000000) : (ba (Go.Lib.itoa v)).size ≤ 100 := by
  obtain ⟨n, rfl⟩ := Int.eq_ofNat_of_zero_le h0
  rw [ba_size, Go.Lib.itoa_nonneg, Go.Lib.decDigits_length]
  have := nd_le 12 n (by omega)
  omega
theorem draw_str (l : List Int) (hl : l.length ≤ 1048576) (k : Nat) (hk : l.length + 100 < k) : ∃ s, spec_DrawParseInt.f k l = some s ∧ s.size ≤ 100 := by
  unfold spec_DrawParseInt.f
  obtain ⟨t0, e0⟩ := new_ok l hl k (by omega)
  rw [e0]
  simp only [Option.bind_some]
  obtain ⟨c, q, t, e, hq⟩ := once_ok l hl 0 t0 (dpos0 l) 2
  rw [e]
  simp only [Option.bind_some]
  by_cases c0 : c = true
  · rw [if_pos c0]
    obtain ⟨v, q1, t1, e1, hv, hq1⟩ := str_ok l hl q t hq [(⟨#[]⟩ : ByteArray), (⟨#[48]⟩ : ByteArray), (⟨#[48, 48]⟩ : ByteArray), (⟨#[45, 49]⟩ : ByteArray), (⟨#[48, 49]⟩ : ByteArray), (⟨#[55]⟩ : ByteArray), (⟨#[49, 48, 48, 48, 48, 48, 48, 48, 48, 48, 48, 48, 48]⟩ : ByteArray), (⟨#[49, 48, 48, 48, 48, 48, 48, 48, 48, 48, 48, 48, 49]⟩ : ByteArray), (⟨#[57, 57, 57, 57, 57, 57, 57, 57, 57, 57, 57, 57, 57, 57]⟩ : ByteArray), (⟨#[49, 120]⟩ : ByteArray), (⟨#[32, 49]⟩ : ByteArray)] (by simp) (by
      intro x hx
      simp only [List.mem_cons, List.not_mem_nil, or_false] at hx
      rcases hx with rfl | rfl | rfl | rfl | rfl | rfl | rfl | rfl | rfl | rfl | rfl <;> decide)
    rw [e1]
    exact ⟨v, rfl, hv⟩
  · rw [if_neg c0]
    obtain ⟨v, q1, t1, e1, hv, hq1⟩ := num_ok l hl q t hq
    rw [e1]
    simp only [Option.bind_some]
    rw [spec_fmt v (by omega) (by omega) k (by omega)]
    exact ⟨_, rfl, itoa_len v hv.1 hv.2⟩
theorem canon_itoa (m : Int) (n : Nat) (h : canon (ba (Go.Lib.itoa m)) n) : m = (n : Int) := by
  have h1 : Go.Lib.itoa m = Go.Lib.decDigits n := h.2
  have h2 : Go.Lib.decFrom 0 (Go.Lib.itoa m) = some n := by rw [h1]; exact decFrom_dig n
  by_cases c : m < 0
  · exfalso
    unfold Go.Lib.itoa at h2
    rw [if_pos c] at h2
    have : Go.Lib.digitVal 45 = none := by decide
    simp only [Go.Lib.decFrom, this] at h2
    exact absurd h2 (by simp)
  · obtain ⟨u, rfl⟩ := Int.eq_ofNat_of_zero_le (show 0 ≤ m by omega)
    rw [Go.Lib.itoa_nonneg, decFrom_dig] at h2
    rw [Option.some.inj h2]
theorem parse_fmt (m : Int) (h0 : -9223372036854775808 ≤ m) (h1 : m ≤ 9223372036854775807) (hs : (ba (Go.Lib.itoa m)).size ≤ 281474976710656) : impl_ParseInt.f (ba (Go.Lib.itoa m)) = some (if 0 ≤ m ∧ m ≤ 1000000000000 then (m, true) else (0, false)) := by
  by_cases c : 0 ≤ m ∧ m ≤ 1000000000000
  · rw [if_pos c]
    obtain ⟨n, rfl⟩ := Int.eq_ofNat_of_zero_le c.1
    exact impl_yes _ n ⟨by omega, by rw [Go.Lib.itoa_nonneg]; rfl⟩
  · rw [if_neg c]
    refine impl_no _ hs (fun n hn => ?_)
    have := canon_itoa m n hn
    have := hn.1
    omega
theorem ndm_le (u : Nat) (h : u ≤ 9223372036854775808) : Go.Lib.nDigits u ≤ 20 := nd_le 19 u (by omega)
theorem itoa_size (m : Int) (h0 : -9223372036854775808 ≤ m) (h1 : m ≤ 9223372036854775807) : (ba (Go.Lib.itoa m)).size ≤ 281474976710656 := by
  rw [ba_size]
  unfold Go.Lib.itoa
  by_cases c : m < 0
  · rw [if_pos c, List.length_cons, Go.Lib.decDigits_length]
    have := ndm_le m.natAbs (by omega)
    omega
  · rw [if_neg c, Go.Lib.decDigits_length]
    have := ndm_le m.toNat (by omega)
    omega
def ceilV (a b : Int) : Int := if (0 ≤ a ∧ a ≤ 1000000000000) ∧ (1 ≤ b ∧ b ≤ 1000000000000) then (a + b - 1) / b else 0
def modV (a b : Int) : Int := if 1 ≤ b ∧ b ≤ 1000000000000 then (if Int.tmod a b + b < b then Int.tmod a b + b else Int.tmod a b) else 0
theorem in_ok (x lo hi : Int) : impl_in.f x lo hi = some (decide (lo ≤ x ∧ x ≤ hi)) := by
  unfold impl_in.f
  by_cases h : lo ≤ x
  · rw [if_pos h]
    congr 1
    apply decide_eq_decide.2
    exact ⟨fun g => ⟨h, g⟩, fun g => g.2⟩
  · rw [if_neg h, decide_eq_false (fun g => h g.1)]
theorem ceil_ok (a b : Int) : impl_CeilDiv.f a b = some (ceilV a b) := by
  unfold impl_CeilDiv.f ceilV
  rw [in_ok, in_ok]
  simp only [Option.bind_some]
  by_cases c : 0 ≤ a ∧ a ≤ 1000000000000
  · rw [decide_eq_true c, if_pos rfl]
    by_cases d : 1 ≤ b ∧ b ≤ 1000000000000
    · rw [decide_eq_true d, if_pos rfl, if_neg (by omega), if_pos ⟨c, d⟩, Kit.wrap_id (a + b) (by omega) (by omega), Kit.wrap_id (a + b - 1) (by omega) (by omega), Int.tdiv_eq_ediv_of_nonneg (by omega)]
      have h1 := Int.ediv_nonneg (show 0 ≤ a + b - 1 by omega) (show 0 ≤ b by omega)
      have h2 := Int.ediv_le_self b (show 0 ≤ a + b - 1 by omega)
      rw [Kit.wrap_id _ (by omega) (by omega)]
    · rw [decide_eq_false d, if_neg (by simp), if_neg (fun g => d g.2)]
  · rw [decide_eq_false c, if_neg (by simp), if_neg (fun g => c g.1)]
theorem mod_ok (a b : Int) : impl_Mod.f a b = some (modV a b) := by
  unfold impl_Mod.f modV
  rw [in_ok]
  simp only [Option.bind_some]
  by_cases d : 1 ≤ b ∧ b ≤ 1000000000000
  · have hb := tmod_bd a b (by omega)
    rw [decide_eq_true d, if_pos rfl, if_neg (by omega), if_pos d, Kit.wrap_id _ (by omega) (by omega)]
    generalize Int.tmod a b = t at hb
    congr 1
    rw [Int.tmod_eq_emod_of_nonneg (by omega)]
    by_cases c : t + b < b
    · rw [if_pos c, Int.emod_eq_of_lt (by omega) c]
    · rw [if_neg c, Int.add_emod_right, Int.emod_eq_of_lt (by omega) (by omega)]
  · rw [decide_eq_false d, if_neg (by simp), if_neg d]
theorem j0_ok (a b : Int) (ha0 : -9223372036854775808 ≤ a) (ha1 : a ≤ 9223372036854775807) (k : Nat) : laws_FnIntegers.j0 (k + 3) a b (ceilV a b) (modV a b) false = some true := by
  have bad : ¬ (1 ≤ b ∧ b ≤ 1000000000000) → laws_FnIntegers.j1 (k + 2) a b (ceilV a b) (modV a b) true = some true := by
    intro h
    have e1 : ceilV a b = 0 := by unfold ceilV; rw [if_neg (fun g => h g.2)]
    have e2 : modV a b = 0 := by unfold modV; rw [if_neg h]
    rw [e1, e2]
    simp only [laws_FnIntegers.j1]
    rw [if_pos trivial, if_pos trivial]
    rfl
  simp only [laws_FnIntegers.j0]
  rw [if_neg (by simp)]
  by_cases c1 : b < 1
  · rw [if_pos c1]
    exact bad (by omega)
  · rw [if_neg c1]
    by_cases c2 : b > 1000000000000
    · rw [decide_eq_true c2]
      exact bad (by omega)
    · rw [decide_eq_false c2]
      have d : 1 ≤ b ∧ b ≤ 1000000000000 := by omega
      have hb := tmod_bd a b (by omega)
      have e2 : modV a b = if Int.tmod a b + b < b then Int.tmod a b + b else Int.tmod a b := by unfold modV; rw [if_pos d]
      have hr : 0 ≤ modV a b ∧ modV a b < b ∧ (Int.tmod a b - modV a b = 0 ∨ Int.tmod a b - modV a b = -b) := by
        rw [e2]
        split <;> omega
      have hz : Int.tmod (wrap64 (Int.tmod a b - modV a b)) b = 0 := by
        rcases hr.2.2 with h | h
        · rw [h, Kit.wrap_id 0 (by decide) (by decide)]
          exact Int.zero_tmod b
        · rw [h, Kit.wrap_id (-b) (by omega) (by omega), Int.neg_tmod, Int.tmod_self]
          rfl
      simp only [laws_FnIntegers.j1]
      rw [if_neg (by simp), if_neg (by omega), if_neg (by omega), if_neg (by omega), hz]
      show laws_FnIntegers.j2 (k + 1) a b (ceilV a b) false = some true
      simp only [laws_FnIntegers.j2]
      rw [if_neg (by simp)]
      by_cases c3 : a < 0
      · have e1 : ceilV a b = 0 := by unfold ceilV; rw [if_neg (by omega)]
        rw [if_pos c3, e1]
        rfl
      · rw [if_neg c3]
        by_cases c4 : a > 1000000000000
        · have e1 : ceilV a b = 0 := by unfold ceilV; rw [if_neg (by omega)]
          rw [if_pos c4, e1]
          rfl
        · rw [if_neg c4]
          have e1 : ceilV a b = (a + b - 1) / b := by unfold ceilV; rw [if_pos (by omega)]
          have h1 := Int.ediv_mul_le (a + b - 1) (show b ≠ 0 by omega)
          have h2 := Int.lt_ediv_add_one_mul_self (a + b - 1) (show 0 < b by omega)
          rw [Int.add_mul, Int.one_mul] at h2
          rw [e1]
          generalize (a + b - 1) / b * b = p at h1 h2
          rw [Kit.wrap_id p (by omega) (by omega), if_pos (by omega), Kit.wrap_id (p - a) (by omega) (by omega), decide_eq_true (by omega)]
theorem integers_law (l0 : List Int) (m : Nat) (hm : 1048700 ≤ m) : laws_FnIntegers.f (m + 3) l0 = some true := by
  unfold laws_FnIntegers.f laws_big.f
  simp only [Option.bind_some]
  by_cases c0 : (l0.length : Int) > 1048576
  · rw [decide_eq_true c0, if_pos rfl]
  rw [decide_eq_false c0, if_neg (by simp)]
  have hl : l0.length ≤ 1048576 := by omega
  obtain ⟨s, ds, hs⟩ := draw_str l0 hl (m + 3) (by omega)
  obtain ⟨t0, e0⟩ := new_ok l0 hl (m + 3) (by omega)
  obtain ⟨n, q1, t1, e1, hn, hq1⟩ := one_ok l0 hl 0 t0 (dpos0 l0)
  obtain ⟨b, q2, t2, e2, hb, hq2⟩ := one_ok l0 hl q1 t1 hq1
  have d2 : spec_DrawFormatInt.f (m + 3) l0 = some n := by
    unfold spec_DrawFormatInt.f
    rw [e0]
    simp only [Option.bind_some]
    rw [e1]
    rfl
  have d3 : spec_DrawCeilDiv.f (m + 3) l0 = some (n, b) := by
    unfold spec_DrawCeilDiv.f
    rw [e0]
    simp only [Option.bind_some]
    rw [e1]
    simp only [Option.bind_some]
    rw [e2]
    rfl
  have hj := j0_ok n b hn.1 hn.2 m
  have hp := parse_fmt n hn.1 hn.2 (itoa_size n hn.1 hn.2)
  have e8 : ∃ n1 ok, impl_ParseInt.f s = some (n1, ok) ∧ (ok = true → impl_FormatInt.f n1 = some s) := by
    by_cases h : ∃ u, canon s u
    · obtain ⟨u, h⟩ := h
      refine ⟨u, true, impl_yes s u h, fun _ => ?_⟩
      have h1 := h.1
      rw [impl_fmt (u : Int) (by omega) (by omega), Go.Lib.itoa_nonneg, ← h.2]
      rfl
    · exact ⟨0, false, impl_no s (by omega) (fun u hu => h ⟨u, hu⟩), fun h => absurd h (by simp)⟩
  obtain ⟨n1, ok, e8, e9⟩ := e8
  rw [ds]
  simp only [Option.bind_some]
  rw [e8]
  simp only [Option.bind_some]
  rw [d2]
  simp only [Option.bind_some]
  rw [impl_fmt n hn.1 hn.2]
  simp only [Option.bind_some]
  rw [hp]
  simp only [Option.bind_some]
  rw [d3]
  simp only [Option.bind_some]
  rw [ceil_ok]
  simp only [Option.bind_some]
  rw [mod_ok]
  simp only [Option.bind_some]
  have fin : (if n ≥ 0 then (if ((if 0 ≤ n ∧ n ≤ 1000000000000 then (n, true) else (0, false)).2 != (decide (n ≤ 1000000000000))) = true then (laws_FnIntegers.j0 (m + 3) n b (ceilV n b) (modV n b) true) else (if (if 0 ≤ n ∧ n ≤ 1000000000000 then (n, true) else (0, false)).2 = true then (laws_FnIntegers.j0 (m + 3) n b (ceilV n b) (modV n b) ((if 0 ≤ n ∧ n ≤ 1000000000000 then (n, true) else ((0 : Int), false)).1 != n)) else (laws_FnIntegers.j0 (m + 3) n b (ceilV n b) (modV n b) false))) else (if ((if 0 ≤ n ∧ n ≤ 1000000000000 then (n, true) else (0, false)).2 != false) = true then (laws_FnIntegers.j0 (m + 3) n b (ceilV n b) (modV n b) true) else (if (if 0 ≤ n ∧ n ≤ 1000000000000 then (n, true) else (0, false)).2 = true then (laws_FnIntegers.j0 (m + 3) n b (ceilV n b) (modV n b) ((if 0 ≤ n ∧ n ≤ 1000000000000 then (n, true) else ((0 : Int), false)).1 != n)) else (laws_FnIntegers.j0 (m + 3) n b (ceilV n b) (modV n b) false)))) = some true := by
    by_cases c : 0 ≤ n ∧ n ≤ 1000000000000
    · rw [if_pos c.1, if_pos c, decide_eq_true c.2, if_neg (by simp), if_pos rfl, show ((n, true).1 != n) = false by simp]
      exact hj
    · rw [if_neg c]
      by_cases c2 : n ≥ 0
      · rw [if_pos c2, decide_eq_false (by omega), if_neg (by simp), if_neg (by simp)]
        exact hj
      · rw [if_neg c2, if_neg (by simp), if_neg (by simp)]
        exact hj
  cases ok with
  | true =>
    rw [if_pos rfl, e9 rfl]
    simp only [Option.bind_some]
    rw [if_pos trivial]
    exact fin
  | false =>
    rw [if_neg (by simp)]
    exact fin
theorem FnIntegers : OpFnIntegers.Pure := by
  intro l0 hg
  exact ⟨1048700 + 3, integers_law l0 1048700 (Nat.le_refl _)⟩

end Go.Proofs.YtbepcmocadakhaaDoor.Pure
