/- The plain law of Instructions. -/
import Derived.Test.YtmipaoobkjppdaaDoorOpFnInstructions
import Derived.Test.YtmipaoobkjppdaaDoorKit
set_option linter.unusedVariables false
set_option linter.unusedSimpArgs false
namespace Go.Proofs.YtmipaoobkjppdaaDoor.Pure
open Go.RowKit Go.Proofs.YtmipaoobkjppdaaDoor.QFnInstructions Go.Proofs.YtmipaoobkjppdaaDoorW.PrintWords Go.Proofs.YtmipaoobkjppdaaDoorW.PrintLast Go.Proofs.YtmipaoobkjppdaaDoor.OpFnInstructions

theorem wf_u8 {x : Int} (h : (Lit.int .u8 x).wf = true) : 0 ≤ x ∧ x < 256 := by
  simp [Lit.wf, IntKind.min, IntKind.max, IntKind.signed, IntKind.bits] at h
  omega
theorem wf_i64 {x : Int} (h : (Lit.int .i64 x).wf = true) : -9223372036854775808 ≤ x ∧ x ≤ 9223372036854775807 := by
  simp [Lit.wf, IntKind.min, IntKind.max, IntKind.signed, IntKind.bits] at h
  omega
theorem and255 (n : Int) : Go.bits .and .i64 n 255 = n % 256 := by
  have h255 : (BitVec.ofInt 64 255).toNat = 2 ^ 8 - 1 := by decide
  have key : (BitVec.ofInt 64 n &&& BitVec.ofInt 64 255).toNat = (n % ((2 ^ 64 : Nat) : Int)).toNat % 2 ^ 8 := by
    rw [BitVec.toNat_and, BitVec.toNat_ofInt, h255, Nat.and_two_pow_sub_one_eq_mod]
  show IntKind.i64.wrap ((BitVec.ofInt 64 n &&& BitVec.ofInt 64 255).toNat : Nat) = n % 256
  rw [key, IntKind.wrap_i64]
  omega
/-- Where the drawer reads next. -/
def DPos (l : List Int) (p : Int) : Prop := 0 ≤ p ∧ p ≤ (l.length : Int)
theorem byte_ok (l : List Int) (hl : l.length ≤ 1048576) (p s : Int) (hp : DPos l p) : ∃ b q t, spec_l1Byte.f l p s = some (b, q, t) ∧ (0 ≤ b ∧ b < 256) ∧ DPos l q := by
  have h0 := hp.1
  have h1 := hp.2
  unfold spec_l1Byte.f
  by_cases c : p < (l.length : Int)
  · rw [if_pos c, if_pos h0]
    refine ⟨_, _, _, rfl, ?_, ?_⟩
    · rw [and255]
      exact ⟨Int.emod_nonneg _ (by decide), Int.emod_lt_of_pos _ (by decide)⟩
    · rw [Kit.wrap_id (p + 1) (by omega) (by omega)]
      exact ⟨by omega, by omega⟩
  · rw [if_neg c]
    refine ⟨_, _, _, rfl, ?_, hp⟩
    rw [and255]
    exact ⟨Int.emod_nonneg _ (by decide), Int.emod_lt_of_pos _ (by decide)⟩
theorem below_ok (l : List Int) (hl : l.length ≤ 1048576) (p s : Int) (hp : DPos l p) (a : Int) : ∃ v q t, spec_l1Below.f l p s a = some (v, q, t) ∧ (0 ≤ v ∧ (0 < a → v < a) ∧ (a ≤ 0 → v = 0)) ∧ DPos l q := by
  unfold spec_l1Below.f
  by_cases c : a ≤ 0
  · rw [if_pos c]
    exact ⟨0, p, s, rfl, ⟨by omega, by omega, fun _ => rfl⟩, hp⟩
  · rw [if_neg c]
    have hn : ¬ a = 0 := by omega
    by_cases c2 : a ≤ 256
    · rw [if_pos c2]
      obtain ⟨b, q, t, e, hb, hq⟩ := byte_ok l hl p s hp
      rw [e]
      simp only [Option.bind_some]
      rw [if_neg hn]
      exact ⟨_, _, _, rfl, ⟨Int.tmod_nonneg _ hb.1, fun _ => Int.tmod_lt_of_pos _ (by omega), fun h => absurd h c⟩, hq⟩
    · rw [if_neg c2]
      obtain ⟨b, q, t, e, hb, hq⟩ := byte_ok l hl p s hp
      rw [e]
      simp only [Option.bind_some]
      obtain ⟨b2, q2, t2, e2, hb2, hq2⟩ := byte_ok l hl q t hq
      rw [e2]
      simp only [Option.bind_some]
      obtain ⟨b3, q3, t3, e3, hb3, hq3⟩ := byte_ok l hl q2 t2 hq2
      rw [e3]
      simp only [Option.bind_some]
      rw [if_neg hn]
      have hv : 0 ≤ wrap64 ((wrap64 ((wrap64 (b * 65536)) + (wrap64 (b2 * 256)))) + b3) := by
        rw [Kit.wrap_id (b * 65536) (by omega) (by omega), Kit.wrap_id (b2 * 256) (by omega) (by omega), Kit.wrap_id (b * 65536 + b2 * 256) (by omega) (by omega), Kit.wrap_id _ (by omega) (by omega)]
        omega
      exact ⟨_, _, _, rfl, ⟨Int.tmod_nonneg _ hv, fun _ => Int.tmod_lt_of_pos _ (by omega), fun h => absurd h c⟩, hq3⟩
theorem once_ok (l : List Int) (hl : l.length ≤ 1048576) (p s : Int) (hp : DPos l p) (a : Int) : ∃ v q t, spec_l1Once.f l p s a = some (v, q, t) ∧ DPos l q := by
  obtain ⟨v, q, t, e, _, hq⟩ := below_ok l hl p s hp a
  unfold spec_l1Once.f
  rw [e]
  exact ⟨_, _, _, rfl, hq⟩
theorem int_ok (l : List Int) (hl : l.length ≤ 1048576) (p s : Int) (hp : DPos l p) (xs : List Int) (hx : xs ≠ []) : ∃ v q t, spec_l1Int.f l p s xs = some (v, q, t) ∧ v ∈ xs ∧ DPos l q := by
  obtain ⟨v, q, t, e, hv, hq⟩ := below_ok l hl p s hp (xs.length : Int)
  have hlen : 0 < xs.length := List.length_pos_iff.2 hx
  have hv1 := hv.2.1 (by omega)
  have hv0 := hv.1
  unfold spec_l1Int.f
  rw [e]
  simp only [Option.bind_some]
  rw [if_pos hv0, if_pos hv1]
  refine ⟨_, _, _, rfl, ?_, hq⟩
  obtain ⟨n, rfl⟩ := Int.eq_ofNat_of_zero_le hv0
  rw [Kit.rd_lt xs n (by omega)]
  exact List.getElem_mem _
theorem new_loop (l : List Int) (hl : l.length ≤ 1048576) (d : Nat) : ∀ (k i : Nat) (s : Int), i ≤ l.length → l.length - i = d → d < k → ∃ t, spec_l1New.l0 k l s (i : Int) = some (l, 0, t) := by
  induction d with
  | zero =>
    intro k i s h0 h1 h2
    obtain ⟨k, rfl⟩ : ∃ m, k = m + 1 := ⟨k - 1, by omega⟩
    simp only [spec_l1New.l0]
    rw [if_neg (by omega)]
    exact ⟨_, rfl⟩
  | succ d ih =>
    intro k i s h0 h1 h2
    obtain ⟨k, rfl⟩ : ∃ m, k = m + 1 := ⟨k - 1, by omega⟩
    simp only [spec_l1New.l0]
    rw [if_pos (by omega)]
    by_cases c : (i : Int) < 4000
    · rw [if_pos c, if_pos (by omega), Kit.wrap_succ i (by omega)]
      exact ih k (i + 1) _ (by omega) (by omega) (by omega)
    · rw [if_neg c]
      exact ⟨_, rfl⟩
theorem new_ok (l : List Int) (hl : l.length ≤ 1048576) (k : Nat) (hk : l.length < k) : ∃ t, spec_l1New.f k l = some (l, 0, t) := new_loop l hl l.length k 0 _ (by omega) (by omega) hk
theorem dpos0 (l : List Int) : DPos l 0 := ⟨by omega, by omega⟩
theorem str_ok (l : List Int) (hl : l.length ≤ 1048576) (p s : Int) (hp : DPos l p) (xs : List ByteArray) (hx : xs ≠ []) (hz : ∀ x ∈ xs, x.size ≤ 100) : ∃ v q t, spec_l1Str.f l p s xs = some (v, q, t) ∧ v.size ≤ 100 ∧ DPos l q := by
  obtain ⟨v, q, t, e, hv, hq⟩ := below_ok l hl p s hp (xs.length : Int)
  have hlen : 0 < xs.length := List.length_pos_iff.2 hx
  have hv1 := hv.2.1 (by omega)
  have hv0 := hv.1
  unfold spec_l1Str.f
  rw [e]
  simp only [Option.bind_some]
  rw [if_pos hv0, if_pos hv1]
  refine ⟨_, _, _, rfl, ?_, hq⟩
  obtain ⟨n, rfl⟩ := Int.eq_ofNat_of_zero_le hv0
  unfold rdOf
  rw [Int.toNat_natCast, List.getD_eq_getElem?_getD, List.getElem?_eq_getElem (by omega)]
  exact hz _ (List.getElem_mem _)
/-- What a drawer of an instruction gives. -/
def ResI (l : List Int) (o : Option (Int × Int × Int × Int × Int × ByteArray × Int × Int)) : Prop := ∃ op a b c d s q t, o = some (op, a, b, c, d, s, q, t) ∧ s.size ≤ 100 ∧ DPos l q
theorem l5name_ok (l : List Int) (hl : l.length ≤ 1048576) (p s : Int) (hp : DPos l p) : ∃ v q t, spec_l5Name.f l p s = some (v, q, t) ∧ v.size ≤ 100 ∧ DPos l q := by
  unfold spec_l5Name.f
  obtain ⟨v, q, t, e, hv, hq⟩ := str_ok l hl p s hp [(⟨#[103, 101, 116]⟩ : ByteArray), (⟨#[115, 101, 116]⟩ : ByteArray), (⟨#[97, 100, 100]⟩ : ByteArray), (⟨#[109, 97, 107, 101]⟩ : ByteArray), (⟨#[103, 111]⟩ : ByteArray)] (by simp) (by
    intro x hx
    simp only [List.mem_cons, List.not_mem_nil, or_false] at hx
    rcases hx with rfl | rfl | rfl | rfl | rfl <;> decide)
  rw [e]
  exact ⟨_, _, _, rfl, hv, hq⟩
theorem em_size : (⟨#[]⟩ : ByteArray).size ≤ 100 := by decide
theorem j2_okI (l : List Int) (hl : l.length ≤ 1048576) (k : Nat) (x3 x4 x5 x14 : Int) (b : Bool) (p s : Int) (hp : DPos l p) : ResI l (spec_l5Instr.j2 (k + 1) x3 x4 x5 x14 b l p s) := by
  simp only [spec_l5Instr.j2]
  by_cases c0 : b = true
  · rw [if_pos c0]
    by_cases c1 : x5 = -1
    · rw [if_pos c1]
      obtain ⟨v, q, t, e, hv, hq⟩ := l5name_ok l hl p s hp
      rw [e]
      exact ⟨_, _, _, _, _, _, _, _, rfl, hv, hq⟩
    · rw [if_neg c1]
      obtain ⟨u, q0, t0, e0, _, hq0⟩ := int_ok l hl p s hp [(-1), 0, 3] (by simp)
      rw [e0]
      simp only [Option.bind_some]
      obtain ⟨v, q, t, e, hv, hq⟩ := l5name_ok l hl q0 t0 hq0
      rw [e]
      exact ⟨_, _, _, _, _, _, _, _, rfl, hv, hq⟩
  · rw [if_neg c0]
    by_cases c9 : x14 = 9
    · rw [if_pos c9]
      by_cases c1 : x5 = -1
      · rw [if_pos c1]
        obtain ⟨v, q, t, e, hv, hq⟩ := str_ok l hl p s hp [(⟨#[99, 101, 108, 108]⟩ : ByteArray), (⟨#[112, 114, 111, 120, 121]⟩ : ByteArray), (⟨#[109, 97, 107, 101, 114]⟩ : ByteArray), (⟨#[110, 111, 110, 101]⟩ : ByteArray)] (by simp) (by
          intro x hx
          simp only [List.mem_cons, List.not_mem_nil, or_false] at hx
          rcases hx with rfl | rfl | rfl | rfl <;> decide)
        rw [e]
        exact ⟨_, _, _, _, _, _, _, _, rfl, hv, hq⟩
      · rw [if_neg c1]
        obtain ⟨v, q, t, e, hv, hq⟩ := str_ok l hl p s hp [(⟨#[99, 101, 108, 108]⟩ : ByteArray), (⟨#[112, 114, 111, 120, 121]⟩ : ByteArray), (⟨#[109, 97, 107, 101, 114]⟩ : ByteArray)] (by simp) (by
          intro x hx
          simp only [List.mem_cons, List.not_mem_nil, or_false] at hx
          rcases hx with rfl | rfl | rfl <;> decide)
        rw [e]
        exact ⟨_, _, _, _, _, _, _, _, rfl, hv, hq⟩
    · rw [if_neg c9]
      by_cases c10 : x14 = 10
      · rw [if_pos c10]
        obtain ⟨v, q, t, e, _, hq⟩ := below_ok l hl p s hp 3
        rw [e]
        exact ⟨_, _, _, _, _, _, _, _, rfl, em_size, hq⟩
      · rw [if_neg c10]
        obtain ⟨v, q, t, e, hq⟩ := once_ok l hl p s hp 2
        rw [e]
        simp only [Option.bind_some]
        by_cases c2 : v = true
        · rw [if_pos c2]
          obtain ⟨v3, q3, t3, e3, _, hq3⟩ := below_ok l hl q t hq 3
          rw [e3]
          exact ⟨_, _, _, _, _, _, _, _, rfl, em_size, hq3⟩
        · rw [if_neg c2]
          exact ⟨_, _, _, _, _, _, _, _, rfl, em_size, hq⟩
theorem j1_okI (l : List Int) (hl : l.length ≤ 1048576) (k : Nat) (x3 x4 x5 x14 : Int) (b : Bool) (p s : Int) (hp : DPos l p) : ResI l (spec_l5Instr.j1 (k + 2) x3 x4 x5 x14 b l p s) := by
  simp only [spec_l5Instr.j1]
  by_cases c0 : b = true
  · rw [if_pos c0]
    obtain ⟨v, q, t, e, _, hq⟩ := below_ok l hl p s hp 2
    rw [e]
    exact ⟨_, _, _, _, _, _, _, _, rfl, em_size, hq⟩
  · rw [if_neg c0]
    by_cases c4 : x14 = 4
    · rw [if_pos c4]
      obtain ⟨v, q, t, e, _, hq⟩ := below_ok l hl p s hp 3
      rw [e]
      exact ⟨_, _, _, _, _, _, _, _, rfl, em_size, hq⟩
    · rw [if_neg c4]
      by_cases c5 : x14 = 5
      · rw [if_pos c5]
        exact ⟨_, _, _, _, _, _, _, _, rfl, em_size, hp⟩
      · rw [if_neg c5]
        by_cases c6 : x14 = 6
        · rw [if_pos c6]
          obtain ⟨v, q, t, e, _, hq⟩ := below_ok l hl p s hp 4
          rw [e]
          exact ⟨_, _, _, _, _, _, _, _, rfl, em_size, hq⟩
        · rw [if_neg c6]
          by_cases c7 : x14 = 7
          · rw [if_pos c7]
            exact j2_okI l hl k _ _ _ _ _ p s hp
          · rw [if_neg c7]
            exact j2_okI l hl k _ _ _ _ _ p s hp
theorem j0_okI (l : List Int) (hl : l.length ≤ 1048576) (k : Nat) (x3 x4 x5 x14 : Int) (b : Bool) (p s : Int) (hp : DPos l p) : ResI l (spec_l5Instr.j0 (k + 3) x3 x4 x5 x14 b l p s) := by
  simp only [spec_l5Instr.j0]
  by_cases c0 : b = true
  · rw [if_pos c0]
    obtain ⟨v, q, t, e, _, hq⟩ := below_ok l hl p s hp 9
    rw [e]
    exact ⟨_, _, _, _, _, _, _, _, rfl, em_size, hq⟩
  · rw [if_neg c0]
    by_cases c2 : x14 = 2
    · rw [if_pos c2]
      exact j1_okI l hl k _ _ _ _ _ p s hp
    · rw [if_neg c2]
      exact j1_okI l hl k _ _ _ _ _ p s hp
theorem l5instr_ok (l : List Int) (hl : l.length ≤ 1048576) (k : Nat) (p s : Int) (hp : DPos l p) : ResI l (spec_l5Instr.f (k + 3) l p s) := by
  unfold spec_l5Instr.f
  obtain ⟨a, q, t, e, _, hq⟩ := below_ok l hl p s hp 4
  rw [e]
  simp only [Option.bind_some]
  obtain ⟨b, q1, t1, e1, _, hq1⟩ := below_ok l hl q t hq 4
  rw [e1]
  simp only [Option.bind_some]
  obtain ⟨d, q2, t2, e2, _, hq2⟩ := int_ok l hl q1 t1 hq1 [(-1), (-1), 0, 1, 2] (by simp)
  rw [e2]
  simp only [Option.bind_some]
  obtain ⟨c, q3, t3, e3, _, hq3⟩ := below_ok l hl q2 t2 hq2 12
  rw [e3]
  simp only [Option.bind_some]
  by_cases c0 : c = 0
  · rw [if_pos c0]
    exact j0_okI l hl k _ _ _ _ _ q3 t3 hq3
  · rw [if_neg c0]
    exact j0_okI l hl k _ _ _ _ _ q3 t3 hq3
theorem l5any_ok (l : List Int) (hl : l.length ≤ 1048576) (k : Nat) (p s : Int) (hp : DPos l p) : ResI l (spec_l5Any.f (k + 3) l p s) := by
  unfold spec_l5Any.f
  obtain ⟨op, a, b, c, d, n, q, t, e, hn, hq⟩ := l5instr_ok l hl k p s hp
  rw [e]
  simp only [Option.bind_some]
  obtain ⟨v, q1, t1, e1, _, hq1⟩ := below_ok l hl q t hq 10
  rw [e1]
  simp only [Option.bind_some]
  by_cases c0 : v = 0
  · rw [if_pos c0]
    obtain ⟨u, q2, t2, e2, _, hq2⟩ := int_ok l hl q1 t1 hq1 [(-1), 7, 8, 3] (by simp)
    rw [e2]
    exact ⟨_, _, _, _, _, _, _, _, rfl, hn, hq2⟩
  rw [if_neg c0]
  by_cases c1 : v = 1
  · rw [if_pos c1]
    obtain ⟨u, q2, t2, e2, _, hq2⟩ := int_ok l hl q1 t1 hq1 [(-1), 0, 2, 12, 13, 999999, 1000000] (by simp)
    rw [e2]
    exact ⟨_, _, _, _, _, _, _, _, rfl, hn, hq2⟩
  rw [if_neg c1]
  by_cases c2 : v = 2
  · rw [if_pos c2]
    obtain ⟨u, q2, t2, e2, _, hq2⟩ := int_ok l hl q1 t1 hq1 [(-1), 0, 8] (by simp)
    rw [e2]
    exact ⟨_, _, _, _, _, _, _, _, rfl, hn, hq2⟩
  rw [if_neg c2]
  by_cases c3 : v = 3
  · rw [if_pos c3]
    obtain ⟨u, q2, t2, e2, _, hq2⟩ := int_ok l hl q1 t1 hq1 [(-2), (-1), 0, 7] (by simp)
    rw [e2]
    exact ⟨_, _, _, _, _, _, _, _, rfl, hn, hq2⟩
  rw [if_neg c3]
  by_cases c4 : v = 4
  · rw [if_pos c4]
    obtain ⟨u, q2, t2, e2, hu, hq2⟩ := str_ok l hl q1 t1 hq1 [(⟨#[]⟩ : ByteArray), (⟨#[97, 98, 99, 100, 101, 102]⟩ : ByteArray), (⟨#[97, 98, 99, 100, 101, 102, 103]⟩ : ByteArray), (⟨#[65]⟩ : ByteArray), (⟨#[97, 49]⟩ : ByteArray)] (by simp) (by
      intro x hx
      simp only [List.mem_cons, List.not_mem_nil, or_false] at hx
      rcases hx with rfl | rfl | rfl | rfl | rfl <;> decide)
    rw [e2]
    exact ⟨_, _, _, _, _, _, _, _, rfl, hu, hq2⟩
  rw [if_neg c4]
  by_cases c5 : v = 5
  · rw [if_pos c5]
    obtain ⟨u, q2, t2, e2, _, hq2⟩ := int_ok l hl q1 t1 hq1 [0, 11, 6, 7] (by simp)
    rw [e2]
    exact ⟨_, _, _, _, _, _, _, _, rfl, hn, hq2⟩
  rw [if_neg c5]
  exact ⟨_, _, _, _, _, _, _, _, rfl, hn, hq1⟩
def inB (a lo hi : Int) : Bool := decide (lo ≤ a) && decide (a ≤ hi)
def lowC (c : UInt8) : Bool := decide (97 ≤ c.toNat) && decide (c.toNat ≤ 122)
def nameB (s : ByteArray) : Bool := inB (s.size : Int) 1 6 && s.data.toList.all lowC
theorem spec_in (a lo hi : Int) : spec_l1In.f a lo hi = some (inB a lo hi) := by
  unfold spec_l1In.f inB
  by_cases h : a ≥ lo
  · rw [if_pos h, decide_eq_true h, Bool.true_and]
  · rw [if_neg h, decide_eq_false h, Bool.false_and]
theorem impl_in_ (a lo hi : Int) : impl_in.f a lo hi = some (inB a lo hi) := spec_in a lo hi
theorem bt_list (s : ByteArray) (i : Nat) (h : i < s.data.toList.length) : bt s (i : Int) = ((s.data.toList[i]).toNat : Int) := by
  have h' : (i : Int).toNat < s.size := by simpa using h
  unfold bt
  rw [dif_pos h']
  rfl
theorem size_list (s : ByteArray) : s.data.toList.length = s.size := rfl
theorem spec_name_loop (s : ByteArray) (hb : s.size ≤ 40000000) (d : Nat) : ∀ (k i : Nat), i ≤ s.size → s.size - i = d → d < k → spec_IsName.l0 k s (i : Int) = some (inB (s.size : Int) 1 6 && (s.data.toList.drop i).all lowC) := by
  induction d with
  | zero =>
    intro k i h0 h1 h2
    obtain ⟨k, rfl⟩ : ∃ m, k = m + 1 := ⟨k - 1, by omega⟩
    simp only [spec_IsName.l0]
    rw [if_neg (by omega), spec_in, List.drop_eq_nil_of_le (by rw [size_list]; omega)]
    simp
  | succ d ih =>
    intro k i h0 h1 h2
    obtain ⟨k, rfl⟩ : ∃ m, k = m + 1 := ⟨k - 1, by omega⟩
    have hi : i < s.data.toList.length := by rw [size_list]; omega
    simp only [spec_IsName.l0]
    rw [if_pos (by omega), if_pos (by omega), bt_list s i hi, Kit.drop_get _ i hi, List.all_cons, Kit.wrap_succ i (by omega), ih k (i + 1) (by omega) (by omega) (by omega)]
    unfold lowC
    by_cases c1 : (((s.data.toList[i]).toNat : Int)) < 97
    · rw [if_pos c1, decide_eq_false (show ¬ 97 ≤ (s.data.toList[i]).toNat by omega)]
      simp
    by_cases c2 : (((s.data.toList[i]).toNat : Int)) > 122
    · rw [if_neg c1, if_pos c2, decide_eq_false (show ¬ (s.data.toList[i]).toNat ≤ 122 by omega)]
      simp
    rw [if_neg c1, if_neg c2, decide_eq_true (show 97 ≤ (s.data.toList[i]).toNat by omega), decide_eq_true (show (s.data.toList[i]).toNat ≤ 122 by omega)]
    simp
theorem impl_name_loop (s : ByteArray) (hb : s.size ≤ 40000000) (d : Nat) : ∀ (k i : Nat), i ≤ s.size → s.size - i = d → d < k → impl_isName.l0 k s (s.size : Int) (i : Int) = some ((s.data.toList.drop i).all lowC) := by
  induction d with
  | zero =>
    intro k i h0 h1 h2
    obtain ⟨k, rfl⟩ : ∃ m, k = m + 1 := ⟨k - 1, by omega⟩
    simp only [impl_isName.l0]
    rw [if_neg (by omega), List.drop_eq_nil_of_le (by rw [size_list]; omega)]
    simp
  | succ d ih =>
    intro k i h0 h1 h2
    obtain ⟨k, rfl⟩ : ∃ m, k = m + 1 := ⟨k - 1, by omega⟩
    have hi : i < s.data.toList.length := by rw [size_list]; omega
    simp only [impl_isName.l0]
    rw [if_pos (by omega), if_pos (by omega), if_pos (by omega), bt_list s i hi, Kit.drop_get _ i hi, List.all_cons, Kit.wrap_succ i (by omega), ih k (i + 1) (by omega) (by omega) (by omega)]
    unfold lowC
    by_cases c1 : (((s.data.toList[i]).toNat : Int)) < 97
    · rw [if_pos c1, decide_eq_false (show ¬ 97 ≤ (s.data.toList[i]).toNat by omega)]
      simp
    by_cases c2 : (((s.data.toList[i]).toNat : Int)) > 122
    · rw [if_neg c1, if_pos c2, decide_eq_false (show ¬ (s.data.toList[i]).toNat ≤ 122 by omega)]
      simp
    rw [if_neg c1, if_neg c2, decide_eq_true (show 97 ≤ (s.data.toList[i]).toNat by omega), decide_eq_true (show (s.data.toList[i]).toNat ≤ 122 by omega)]
    simp
theorem spec_name (s : ByteArray) (hb : s.size ≤ 40000000) (k : Nat) (hk : s.size < k) : spec_IsName.f k s = some (nameB s) := by
  have := spec_name_loop s hb s.size k 0 (by omega) (by omega) hk
  simpa [spec_IsName.f, nameB] using this
theorem impl_name (s : ByteArray) (hb : s.size ≤ 40000000) (k : Nat) (hk : s.size < k) : impl_isName.f k s = some (nameB s) := by
  have := impl_name_loop s hb s.size k 0 (by omega) (by omega) hk
  unfold impl_isName.f nameB
  rw [impl_in_]
  simp only [Option.bind_some]
  cases inB (s.size : Int) 1 6
  · simp
  · simpa using this
def regB (a : Int) : Bool := inB a 0 7
def pairB (c d : Int) : Bool := if c = -1 then d == -1 else regB c && (d == -1 || regB d)
def emptyB (s : ByteArray) : Bool := s.toList == ([] : List UInt8)
def instrB (op a b c d : Int) (s : ByteArray) : Bool :=
  if op = 1 then (c == 0 && (d == 0 && emptyB s)) && (regB a && inB b 0 999999)
  else if op = 2 then (c == 0 && (d == 0 && emptyB s)) && (regB a && inB b 0 1)
  else if op = 3 then (c == 0 && (d == 0 && emptyB s)) && (regB a && inB b 0 2)
  else if op = 4 ∨ op = 10 then (c == 0 && (d == 0 && emptyB s)) && (regB a && b == 0)
  else if op = 5 then (d == 0 && emptyB s) && (regB a && (regB b && regB c))
  else if op = 6 then regB a && (regB b && (pairB c d && nameB s))
  else if op = 7 then regB a && (b == 0 && (pairB c d && nameB s))
  else if op = 8 then (c == 0 && (d == 0 && emptyB s)) && (inB a 0 2 && regB b)
  else if op = 9 then (c == 0 && (d == 0 && emptyB s)) && (regB a && inB b 1 12)
  else false
theorem iteS (p x : Bool) : (if p = true then some x else some false) = some (p && x) := by cases p <;> rfl
theorem iteZ (a : Int) (x : Bool) : (if a = 0 then some x else some false) = some (a == 0 && x) := by
  by_cases h : a = 0
  · simp [h]
  · rw [if_neg h, beq_eq_false_iff_ne.mpr h, Bool.false_and]
theorem spec_reg (a : Int) : spec_IsReg.f a = some (regB a) := by
  unfold spec_IsReg.f regB
  rw [spec_in]
  rfl
theorem impl_reg (a : Int) : impl_isReg.f a = some (regB a) := by
  unfold impl_isReg.f regB
  rw [impl_in_]
  rfl
theorem reg_neg : regB (-1) = false := by decide
theorem spec_two (op a b c d : Int) (s : ByteArray) : spec_l5Two.f op a b c d s = some (pairB c d) := by
  unfold spec_l5Two.f pairB
  simp only [spec_reg, Option.bind_some, iteS]
  by_cases h1 : c = -1 <;> by_cases h2 : d = -1
  · simp [h1, h2]
  · simp [h1, h2, reg_neg]
  · simp [h1, h2]
    cases regB c <;> rfl
  · have e2 : (d == -1) = false := beq_eq_false_iff_ne.mpr h2
    simp [h1, h2, e2, iteS]
theorem impl_pair (c d : Int) : impl_pairOk.f c d = some (pairB c d) := by
  unfold impl_pairOk.f pairB
  simp only [impl_reg, Option.bind_some, iteS]
  by_cases h1 : c = -1 <;> by_cases h2 : d = -1
  · simp [h1, h2, reg_neg]
  · simp [h1, h2, reg_neg]
  · simp [h1, h2, reg_neg]
    cases regB c <;> rfl
  · have e2 : (d == -1) = false := beq_eq_false_iff_ne.mpr h2
    simp [h1, h2, reg_neg, e2]
    cases regB c <;> cases regB d <;> rfl
theorem spec_instr (op a b c d : Int) (s : ByteArray) (hs : s.size ≤ 40000000) (k : Nat) (hk : s.size + 2 < k) : spec_IsInstr.f k op a b c d s = some (instrB op a b c d s) := by
  obtain ⟨k, rfl⟩ : ∃ m, k = m + 1 + 1 := ⟨k - 2, by omega⟩
  have e : spec_IsInstr.f (k + 1 + 1) op a b c d s = spec_IsInstr.j0 (k + 1 + 1) (c == 0 && (d == 0 && emptyB s)) op a b c d s := by
    unfold spec_IsInstr.f emptyB
    by_cases h1 : c = 0
    · by_cases h2 : d = 0
      · rw [if_pos h1, if_pos h2, beq_iff_eq.mpr h1, beq_iff_eq.mpr h2, Bool.true_and, Bool.true_and]
      · rw [if_pos h1, if_neg h2, beq_eq_false_iff_ne.mpr h2, Bool.false_and, Bool.and_false]
    · rw [if_neg h1, beq_eq_false_iff_ne.mpr h1, Bool.false_and]
  rw [e]
  have hn := spec_name s hs k (by omega)
  simp only [spec_IsInstr.j0, spec_IsInstr.j1, spec_reg, spec_in, spec_two, hn, Option.bind_some, iteS, iteZ]
  unfold instrB
  rw [show (s.toList == ([] : List UInt8)) = emptyB s from rfl]
  generalize hp : (c == 0 && (d == 0 && emptyB s)) = p
  by_cases h1 : op = 1
  · simp only [h1, if_true, iteS]
  by_cases h2 : op = 2
  · simp only [h2, if_true, iteS]
    simp
  by_cases h3 : op = 3
  · simp only [h3, if_true, iteS]
    simp
  by_cases h4 : op = 4
  · simp [h4] <;> cases p <;> simp
  by_cases h10 : op = 10
  · simp [h10] <;> cases p <;> simp
  by_cases h5 : op = 5
  · simp [h5] <;> cases regB a <;> cases regB b <;> cases regB c <;> cases (d == 0) <;> cases emptyB s <;> rfl
  by_cases h6 : op = 6
  · simp [h6]
  by_cases h7 : op = 7
  · simp [h7]
  by_cases h8 : op = 8
  · simp [h8] <;> cases p <;> simp
  by_cases h9 : op = 9
  · simp [h9] <;> cases p <;> simp
  simp [h1, h2, h3, h4, h5, h6, h7, h8, h9, h10]
theorem impl_instr (op a b c d : Int) (s : ByteArray) (hs : s.size ≤ 40000000) (k : Nat) (hk : s.size + 2 < k) : impl_isInstr.f k op a b c d s = some (instrB op a b c d s) := by
  obtain ⟨k, rfl⟩ : ∃ m, k = m + 1 := ⟨k - 1, by omega⟩
  have hn := impl_name s hs k (by omega)
  unfold impl_isInstr.f
  simp only [impl_isInstr.j0, impl_reg, impl_in_, impl_pair, hn, Option.bind_some, iteS, iteZ]
  unfold instrB
  rw [show (s.toList == ([] : List UInt8)) = emptyB s from rfl]
  by_cases h1 : op = 1
  · simp only [h1, if_true, iteS]
  by_cases h2 : op = 2
  · simp only [h2, if_true, iteS]
    simp
  by_cases h3 : op = 3
  · simp only [h3, if_true, iteS]
    simp
  by_cases h4 : op = 4
  · simp [h4] <;> cases regB a <;> cases (b == 0) <;> cases (c == 0) <;> cases (d == 0) <;> cases emptyB s <;> rfl
  by_cases h10 : op = 10
  · simp [h10] <;> cases regB a <;> cases (b == 0) <;> cases (c == 0) <;> cases (d == 0) <;> cases emptyB s <;> rfl
  by_cases h5 : op = 5
  · simp [h5]
  by_cases h6 : op = 6
  · simp [h6]
  by_cases h7 : op = 7
  · simp [h7]
  by_cases h8 : op = 8
  · simp [h8]
  by_cases h9 : op = 9
  · simp [h9]
  simp [h1, h2, h3, h4, h5, h6, h7, h8, h9, h10]
def opn (a : Int) : ByteArray := if 1 ≤ a ∧ a ≤ 10 then impl_OpName.tab.getD a.toNat ⟨#[]⟩ else ⟨#[]⟩
theorem impl_op (a : Int) : impl_OpName.f a = some (opn a) := by
  unfold impl_OpName.f opn
  split <;> rfl
def smL (c d : Int) : List Int := [c, d].filter fun x => !(x == -1)
def regsV (op a b c d : Int) : List Int := if op = 5 then [b, c] else if op = 6 then [b] ++ smL c d else if op = 7 then smL c d else if op = 8 then [b] else if op = 9 then [a] else if op = 10 then [a] else []
theorem smL_len (c d : Int) : (smL c d).length ≤ 2 := List.length_filter_le _ _
theorem regs_len (op a b c d : Int) : (regsV op a b c d).length ≤ 3 := by
  have := smL_len c d
  unfold regsV
  repeat' split
  all_goals simp
  all_goals omega
theorem impl_regs (op a b c d : Int) (s : ByteArray) : impl_RegsOf.f op a b c d s = some (regsV op a b c d) := by
  have h := smL_len c d
  have e : impl_some.f [c, d] = some (smL c d) := rfl
  unfold impl_RegsOf.f regsV
  by_cases c5 : op = 5
  · rw [if_pos c5, if_pos c5]
  rw [if_neg c5, if_neg c5]
  by_cases c6 : op = 6
  · rw [if_pos c6, if_pos c6, e]
    simp only [Option.bind_some]
    rw [if_pos (by simp; omega)]
  rw [if_neg c6, if_neg c6]
  by_cases c7 : op = 7
  · rw [if_pos c7, if_pos c7, e]
    rfl
  rw [if_neg c7, if_neg c7]
  by_cases c8 : op = 8
  · rw [if_pos c8, if_pos c8]
  rw [if_neg c8, if_neg c8]
  by_cases c9 : op = 9
  · rw [if_pos c9, if_pos c9]
  rw [if_neg c9, if_neg c9]
  by_cases c10 : op = 10
  · rw [if_pos c10, if_pos c10]
  rw [if_neg c10, if_neg c10]
theorem spec_twoR (k : Nat) (x : List Int) (hx : x.length ≤ 100) (op a b c d : Int) (s : ByteArray) : spec_RegsOf.j1 (k + 1) x true op a b c d s = some (x ++ smL c d) := by
  simp only [spec_RegsOf.j1]
  rw [if_pos trivial]
  by_cases h1 : c = -1
  · rw [if_pos h1]
    by_cases h2 : d = -1
    · rw [if_pos h2]
      simp [smL, h1, h2]
    · rw [if_neg h2, if_pos (by omega)]
      simp [smL, h1, h2]
  · rw [if_neg h1, if_pos (by omega)]
    simp only [Option.bind_some]
    by_cases h2 : d = -1
    · rw [if_pos h2]
      simp [smL, h1, h2]
    · rw [if_neg h2, if_pos (by simp; omega)]
      simp [smL, h1, h2]
theorem spec_regs (k : Nat) (op a b c d : Int) (s : ByteArray) : spec_RegsOf.f (k + 2) op a b c d s = some (regsV op a b c d) := by
  unfold spec_RegsOf.f regsV
  simp only [Option.bind_some]
  by_cases c5 : op = 5
  · rw [if_pos c5, if_pos c5]
  rw [if_neg c5, if_neg c5]
  by_cases c6 : op = 6
  · rw [if_pos c6, if_pos c6, if_pos (by simp)]
    simp only [spec_RegsOf.j0]
    rw [if_pos c6, List.nil_append, spec_twoR k [b] (by simp)]
  rw [if_neg c6, if_neg c6]
  by_cases c7 : op = 7
  · rw [if_pos c7, if_neg (by omega), if_neg (by omega), if_neg (by omega)]
    simp only [spec_RegsOf.j0]
    rw [if_neg c6, show (op == 7) = true from by rw [c7]; rfl, spec_twoR k [] (by simp), List.nil_append]
  rw [if_neg c7]
  by_cases c8 : op = 8
  · rw [if_pos c8, if_pos c8]
  rw [if_neg c8, if_neg c8]
  by_cases c9 : op = 9
  · rw [if_pos c9, if_pos c9]
  rw [if_neg c9, if_neg c9]
  by_cases c10 : op = 10
  · rw [if_pos c10, if_pos c10]
  rw [if_neg c10, if_neg c10]
  simp only [spec_RegsOf.j0]
  rw [if_neg c6, show (op == 7) = false from by simpa using c7]
  simp only [spec_RegsOf.j1]
  rw [if_neg (by simp)]
theorem pair_regs (c d : Int) (h : pairB c d = true) : ∀ x ∈ smL c d, regB x = true := by
  intro x hx
  unfold smL at hx
  simp only [List.mem_filter, List.mem_cons, List.not_mem_nil, or_false] at hx
  unfold pairB at h
  by_cases h1 : c = -1
  · rw [if_pos h1] at h
    have h2 : d = -1 := by simpa using h
    obtain ⟨rfl | rfl, h3⟩ := hx
    · rw [h1] at h3
      exact absurd h3 (by decide)
    · rw [h2] at h3
      exact absurd h3 (by decide)
  · rw [if_neg h1] at h
    simp only [Bool.and_eq_true, Bool.or_eq_true, beq_iff_eq] at h
    obtain ⟨rfl | rfl, h3⟩ := hx
    · exact h.1
    · rcases h.2 with h2 | h2
      · rw [h2] at h3
        exact absurd h3 (by decide)
      · exact h2
theorem instr_regs (op a b c d : Int) (s : ByteArray) (h : instrB op a b c d s = true) : (1 ≤ op ∧ op ≤ 10) ∧ (∀ x ∈ regsV op a b c d, regB x = true) ∧ (op ≤ 7 → regB a = true) := by
  unfold instrB at h
  by_cases c1 : op = 1
  · subst c1
    simp only [if_true, Bool.and_eq_true] at h
    exact ⟨by decide, by intro x hx; exact absurd hx (by simp [regsV]), fun _ => h.2.1⟩
  rw [if_neg c1] at h
  by_cases c2 : op = 2
  · subst c2
    simp only [if_true, Bool.and_eq_true] at h
    exact ⟨by decide, by intro x hx; exact absurd hx (by simp [regsV]), fun _ => h.2.1⟩
  rw [if_neg c2] at h
  by_cases c3 : op = 3
  · subst c3
    simp only [if_true, Bool.and_eq_true] at h
    exact ⟨by decide, by intro x hx; exact absurd hx (by simp [regsV]), fun _ => h.2.1⟩
  rw [if_neg c3] at h
  by_cases c4 : op = 4 ∨ op = 10
  · rw [if_pos c4] at h
    simp only [Bool.and_eq_true] at h
    rcases c4 with rfl | rfl
    · exact ⟨by decide, by intro x hx; exact absurd hx (by simp [regsV]), fun _ => h.2.1⟩
    · refine ⟨by decide, fun x hx => ?_, fun _ => h.2.1⟩
      have : x = a := by simpa [regsV] using hx
      rw [this]
      exact h.2.1
  rw [if_neg c4] at h
  by_cases c5 : op = 5
  · subst c5
    simp only [if_true, Bool.and_eq_true] at h
    refine ⟨by decide, fun x hx => ?_, fun _ => h.2.1⟩
    have : x = b ∨ x = c := by simpa [regsV] using hx
    rcases this with rfl | rfl
    · exact h.2.2.1
    · exact h.2.2.2
  rw [if_neg c5] at h
  by_cases c6 : op = 6
  · subst c6
    simp only [if_true, Bool.and_eq_true] at h
    refine ⟨by decide, fun x hx => ?_, fun _ => h.1⟩
    have : x = b ∨ x ∈ smL c d := by simpa [regsV] using hx
    rcases this with rfl | h3
    · exact h.2.1
    · exact pair_regs c d h.2.2.1 x h3
  rw [if_neg c6] at h
  by_cases c7 : op = 7
  · subst c7
    simp only [if_true, Bool.and_eq_true] at h
    refine ⟨by decide, fun x hx => ?_, fun _ => h.1⟩
    have : x ∈ smL c d := by simpa [regsV] using hx
    exact pair_regs c d h.2.2.1 x this
  rw [if_neg c7] at h
  by_cases c8 : op = 8
  · subst c8
    simp only [if_true, Bool.and_eq_true] at h
    refine ⟨by decide, fun x hx => ?_, fun h9 => absurd h9 (by decide)⟩
    have : x = b := by simpa [regsV] using hx
    rw [this]
    exact h.2.2
  rw [if_neg c8] at h
  by_cases c9 : op = 9
  · subst c9
    simp only [if_true, Bool.and_eq_true] at h
    refine ⟨by decide, fun x hx => ?_, fun h9 => absurd h9 (by decide)⟩
    have : x = a := by simpa [regsV] using hx
    rw [this]
    exact h.2.1
  rw [if_neg c9] at h
  exact absurd h (by simp)
theorem opn_ne (op : Int) (h0 : 1 ≤ op) (h1 : op ≤ 10) : ¬ (opn op).toList = ([] : List UInt8) := by
  have hc : op = 1 ∨ op = 2 ∨ op = 3 ∨ op = 4 ∨ op = 5 ∨ op = 6 ∨ op = 7 ∨ op = 8 ∨ op = 9 ∨ op = 10 := by omega
  rcases hc with rfl | rfl | rfl | rfl | rfl | rfl | rfl | rfl | rfl | rfl <;> decide +kernel
def tgt (op a : Int) : Int := if 1 ≤ op ∧ op ≤ 7 then a else -1
theorem impl_tgt (op a b c d : Int) (s : ByteArray) : impl_TargetOf.f op a b c d s = some (tgt op a) := by
  unfold impl_TargetOf.f tgt
  rw [impl_in_]
  simp only [Option.bind_some, inB]
  by_cases h : 1 ≤ op ∧ op ≤ 7
  · rw [if_pos h, decide_eq_true h.1, decide_eq_true h.2]
    rfl
  · rw [if_neg h]
    by_cases h1 : 1 ≤ op
    · rw [decide_eq_false (fun h2 : op ≤ 7 => h ⟨h1, h2⟩), Bool.and_false]
      rfl
    · rw [decide_eq_false h1, Bool.false_and]
      rfl
theorem spec_tgt (op a b c d : Int) (s : ByteArray) : spec_TargetOf.f op a b c d s = some (tgt op a) := by
  unfold spec_TargetOf.f tgt
  rw [spec_in]
  simp only [Option.bind_some, inB]
  by_cases h : 1 ≤ op ∧ op ≤ 7
  · rw [if_pos h, decide_eq_true h.1, decide_eq_true h.2]
    rfl
  · rw [if_neg h]
    by_cases h1 : 1 ≤ op
    · rw [decide_eq_false (fun h2 : op ≤ 7 => h ⟨h1, h2⟩), Bool.and_false]
      rfl
    · rw [decide_eq_false h1, Bool.false_and]
      rfl
theorem sameI (a b : List Int) (k : Nat) (hk : a.length < k) (h : a.length ≤ 40000000) : laws_sameInts.f k a b = some (decide (a = b)) :=
  Kit.eq_spec (0 : Int) laws_sameInts.l0 (fun _ _ _ _ => rfl) (f := laws_sameInts.f) (fun _ _ _ => rfl) a b (by omega) k hk
theorem impl_IsReg_ok (a : Int) : impl_IsReg.f a = some (regB a) := by
  unfold impl_IsReg.f
  rw [impl_reg]
  rfl
theorem j2_law (op a b c d : Int) (s : ByteArray) (hs : s.size ≤ 100) (k : Nat) (hk : 1000 ≤ k) : laws_FnInstructions.j2 (k + 1) (regsV op a b c d) op a b c d s = some true := by
  obtain ⟨k, rfl⟩ : ∃ m, k = m + 2 := ⟨k - 2, by omega⟩
  have hl := regs_len op a b c d
  simp only [laws_FnInstructions.j2]
  unfold impl_IsInstr.f
  rw [impl_instr op a b c d s (by omega) (k + 2) (by omega)]
  simp only [Option.bind_some]
  rw [spec_instr op a b c d s (by omega) (k + 2) (by omega)]
  simp only [Option.bind_some]
  rw [if_pos (by simp), spec_regs k op a b c d s]
  simp only [Option.bind_some]
  rw [sameI _ _ (k + 2) (by omega) (by omega), decide_eq_true rfl]
  simp only [Option.bind_some]
  rw [if_pos trivial, impl_tgt]
  simp only [Option.bind_some]
  rw [spec_tgt]
  simp
theorem l0_law (op a b c d : Int) (s : ByteArray) (hs : s.size ≤ 100) (hr : ∀ x ∈ regsV op a b c d, regB x = true) : ∀ (n k i : Nat), i ≤ (regsV op a b c d).length → (regsV op a b c d).length - i = n → 1100 + n ≤ k → laws_FnInstructions.l0 k (regsV op a b c d) (i : Int) op a b c d s = some true
  | 0, k, i, h0, h1, h2 => by
    obtain ⟨k, rfl⟩ : ∃ m, k = m + 2 := ⟨k - 2, by omega⟩
    simp only [laws_FnInstructions.l0]
    rw [if_neg (by omega)]
    exact j2_law op a b c d s hs k (by omega)
  | n + 1, k, i, h0, h1, h2 => by
    obtain ⟨k, rfl⟩ : ∃ m, k = m + 1 := ⟨k - 1, by omega⟩
    have hl := regs_len op a b c d
    have hi : i < (regsV op a b c d).length := by omega
    simp only [laws_FnInstructions.l0]
    rw [if_pos (by omega), if_pos (by omega), Kit.rd_lt _ i hi, impl_IsReg_ok, hr _ (List.getElem_mem hi)]
    simp only [Option.bind_some]
    rw [if_pos trivial, Kit.wrap_succ i (by omega)]
    exact l0_law op a b c d s hs hr n k (i + 1) (by omega) (by omega) (by omega)
theorem instructions_law (l0 : List Int) (m : Nat) (hm : 1048700 ≤ m) : laws_FnInstructions.f (m + 3) l0 = some true := by
  unfold laws_FnInstructions.f laws_big.f
  simp only [Option.bind_some]
  by_cases c0 : (l0.length : Int) > 1048576
  · rw [decide_eq_true c0, if_pos rfl]
  rw [decide_eq_false c0, if_neg (by simp)]
  have hl : l0.length ≤ 1048576 := by omega
  obtain ⟨t0, e0⟩ := new_ok l0 hl (m + 3) (by omega)
  obtain ⟨op, a, b, c, d, s, q, t, e, hs, _⟩ := l5any_ok l0 hl m 0 t0 (dpos0 l0)
  have d1 : spec_DrawIsInstr.f (m + 3) l0 = some (op, a, b, c, d, s) := by
    unfold spec_DrawIsInstr.f
    rw [e0]
    simp only [Option.bind_some]
    rw [e]
    rfl
  rw [d1]
  simp only [Option.bind_some]
  rw [impl_regs]
  simp only [Option.bind_some]
  have ei : impl_IsInstr.f (m + 3) op a b c d s = some (instrB op a b c d s) := by
    unfold impl_IsInstr.f
    rw [impl_instr op a b c d s (by omega) (m + 3) (by omega)]
    rfl
  rw [ei]
  simp only [Option.bind_some]
  cases hi : instrB op a b c d s with
  | false =>
    rw [if_neg (by simp)]
    exact j2_law op a b c d s hs (m + 2) (by omega)
  | true =>
    obtain ⟨h1, h2, h3⟩ := instr_regs op a b c d s hi
    have hloop : laws_FnInstructions.j0 (m + 3) (regsV op a b c d) false op a b c d s = some true := by
      simp only [laws_FnInstructions.j0]
      rw [if_neg (by simp)]
      have hl := regs_len op a b c d
      exact l0_law op a b c d s hs h2 _ (m + 2) 0 (by omega) rfl (by omega)
    rw [if_pos rfl, impl_op]
    simp only [Option.bind_some]
    rw [if_neg (opn_ne op h1.1 h1.2), impl_tgt]
    simp only [Option.bind_some]
    by_cases ht : tgt op a ≥ 0
    · rw [if_pos ht, impl_IsReg_ok]
      simp only [Option.bind_some]
      have : regB (tgt op a) = true := by
        unfold tgt at ht ⊢
        by_cases h7 : 1 ≤ op ∧ op ≤ 7
        · rw [if_pos h7]
          exact h3 h7.2
        · rw [if_neg h7] at ht
          exact absurd ht (by decide)
      rw [this]
      exact hloop
    · rw [if_neg ht]
      exact hloop
theorem FnInstructions : OpFnInstructions.Pure := by
  intro l0 hg
  exact ⟨1048700 + 3, instructions_law l0 1048700 (Nat.le_refl _)⟩

end Go.Proofs.YtmipaoobkjppdaaDoor.Pure
