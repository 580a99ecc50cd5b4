/- The plain law of Values. -/
import Derived.Test.YtbepcmocadakhaaQFnValuesx5
import Derived.Test.YtbepcmocadakhaaFunc
import Derived.Test.YtbepcmocadakhaaKit
set_option linter.unusedVariables false
set_option linter.unusedSimpArgs false
namespace Go.Proofs.Ytbepcmocadakhaa.Pure
open Go.RowKit Go.Proofs.Ytbepcmocadakhaa.QFnValues Go.Proofs.YtbepcmocadakhaaW.PrintWords Go.Proofs.YtbepcmocadakhaaW.PrintLast

theorem wf_u8 {x : Int} (h : (Lit.int .u8 x).wf = true) : 0 ≤ x ∧ x < 256 := by
  simp [Lit.wf, IntKind.min, IntKind.max, IntKind.signed, IntKind.bits] at h
  omega
theorem wf_i64 {x : Int} (h : (Lit.int .i64 x).wf = true) : -9223372036854775808 ≤ x ∧ x ≤ 9223372036854775807 := by
  simp [Lit.wf, IntKind.min, IntKind.max, IntKind.signed, IntKind.bits] at h
  omega
theorem and255 (n : Int) : Go.bits .and .i64 n 255 = n % 256 := by
  have h255 : (BitVec.ofInt 64 255).toNat = 2 ^ 8 - 1 := by decide
  have key : (BitVec.ofInt 64 n &&& BitVec.ofInt 64 255).toNat = (n % ((2 ^ 64 : Nat) : Int)).toNat % 2 ^ 8 := by
    rw [BitVec.toNat_and, BitVec.toNat_ofInt, h255, Nat.and_two_pow_sub_one_eq_mod]
  show IntKind.i64.wrap ((BitVec.ofInt 64 n &&& BitVec.ofInt 64 255).toNat : Nat) = n % 256
  rw [key, IntKind.wrap_i64]
  omega
/-- Where the drawer reads next. -/
def DPos (l : List Int) (p : Int) : Prop := 0 ≤ p ∧ p ≤ (l.length : Int)
theorem byte_ok (l : List Int) (hl : l.length ≤ 1048576) (p s : Int) (hp : DPos l p) : ∃ b q t, spec_l1Byte.f l p s = some (b, q, t) ∧ (0 ≤ b ∧ b < 256) ∧ DPos l q := by
  have h0 := hp.1
  have h1 := hp.2
  unfold spec_l1Byte.f
  by_cases c : p < (l.length : Int)
  · rw [if_pos c, if_pos h0]
    refine ⟨_, _, _, rfl, ?_, ?_⟩
    · rw [and255]
      exact ⟨Int.emod_nonneg _ (by decide), Int.emod_lt_of_pos _ (by decide)⟩
    · rw [Kit.wrap_id (p + 1) (by omega) (by omega)]
      exact ⟨by omega, by omega⟩
  · rw [if_neg c]
    refine ⟨_, _, _, rfl, ?_, hp⟩
    rw [and255]
    exact ⟨Int.emod_nonneg _ (by decide), Int.emod_lt_of_pos _ (by decide)⟩
theorem below_ok (l : List Int) (hl : l.length ≤ 1048576) (p s : Int) (hp : DPos l p) (a : Int) : ∃ v q t, spec_l1Below.f l p s a = some (v, q, t) ∧ (0 ≤ v ∧ (0 < a → v < a) ∧ (a ≤ 0 → v = 0)) ∧ DPos l q := by
  unfold spec_l1Below.f
  by_cases c : a ≤ 0
  · rw [if_pos c]
    exact ⟨0, p, s, rfl, ⟨by omega, by omega, fun _ => rfl⟩, hp⟩
  · rw [if_neg c]
    have hn : ¬ a = 0 := by omega
    by_cases c2 : a ≤ 256
    · rw [if_pos c2]
      obtain ⟨b, q, t, e, hb, hq⟩ := byte_ok l hl p s hp
      rw [e]
      simp only [Option.bind_some]
      rw [if_neg hn]
      exact ⟨_, _, _, rfl, ⟨Int.tmod_nonneg _ hb.1, fun _ => Int.tmod_lt_of_pos _ (by omega), fun h => absurd h c⟩, hq⟩
    · rw [if_neg c2]
      obtain ⟨b, q, t, e, hb, hq⟩ := byte_ok l hl p s hp
      rw [e]
      simp only [Option.bind_some]
      obtain ⟨b2, q2, t2, e2, hb2, hq2⟩ := byte_ok l hl q t hq
      rw [e2]
      simp only [Option.bind_some]
      obtain ⟨b3, q3, t3, e3, hb3, hq3⟩ := byte_ok l hl q2 t2 hq2
      rw [e3]
      simp only [Option.bind_some]
      rw [if_neg hn]
      have hv : 0 ≤ wrap64 ((wrap64 ((wrap64 (b * 65536)) + (wrap64 (b2 * 256)))) + b3) := by
        rw [Kit.wrap_id (b * 65536) (by omega) (by omega), Kit.wrap_id (b2 * 256) (by omega) (by omega), Kit.wrap_id (b * 65536 + b2 * 256) (by omega) (by omega), Kit.wrap_id _ (by omega) (by omega)]
        omega
      exact ⟨_, _, _, rfl, ⟨Int.tmod_nonneg _ hv, fun _ => Int.tmod_lt_of_pos _ (by omega), fun h => absurd h c⟩, hq3⟩
theorem int_ok (l : List Int) (hl : l.length ≤ 1048576) (p s : Int) (hp : DPos l p) (xs : List Int) (hx : xs ≠ []) : ∃ v q t, spec_l1Int.f l p s xs = some (v, q, t) ∧ v ∈ xs ∧ DPos l q := by
  obtain ⟨v, q, t, e, hv, hq⟩ := below_ok l hl p s hp (xs.length : Int)
  have hlen : 0 < xs.length := List.length_pos_iff.2 hx
  have hv1 := hv.2.1 (by omega)
  have hv0 := hv.1
  unfold spec_l1Int.f
  rw [e]
  simp only [Option.bind_some]
  rw [if_pos hv0, if_pos hv1]
  refine ⟨_, _, _, rfl, ?_, hq⟩
  obtain ⟨n, rfl⟩ := Int.eq_ofNat_of_zero_le hv0
  rw [Kit.rd_lt xs n (by omega)]
  exact List.getElem_mem _
theorem new_loop (l : List Int) (hl : l.length ≤ 1048576) (d : Nat) : ∀ (k i : Nat) (s : Int), i ≤ l.length → l.length - i = d → d < k → ∃ t, spec_l1New.l0 k l s (i : Int) = some (l, 0, t) := by
  induction d with
  | zero =>
    intro k i s h0 h1 h2
    obtain ⟨k, rfl⟩ : ∃ m, k = m + 1 := ⟨k - 1, by omega⟩
    simp only [spec_l1New.l0]
    rw [if_neg (by omega)]
    exact ⟨_, rfl⟩
  | succ d ih =>
    intro k i s h0 h1 h2
    obtain ⟨k, rfl⟩ : ∃ m, k = m + 1 := ⟨k - 1, by omega⟩
    simp only [spec_l1New.l0]
    rw [if_pos (by omega)]
    by_cases c : (i : Int) < 4000
    · rw [if_pos c, if_pos (by omega), Kit.wrap_succ i (by omega)]
      exact ih k (i + 1) _ (by omega) (by omega) (by omega)
    · rw [if_neg c]
      exact ⟨_, rfl⟩
theorem new_ok (l : List Int) (hl : l.length ≤ 1048576) (k : Nat) (hk : l.length < k) : ∃ t, spec_l1New.f k l = some (l, 0, t) := new_loop l hl l.length k 0 _ (by omega) (by omega) hk
theorem dpos0 (l : List Int) : DPos l 0 := ⟨by omega, by omega⟩
def valB (a b n : Int) : Bool := if a = 0 then (decide (0 ≤ b) && decide (b ≤ 999999)) else if a = 1 then (decide (0 ≤ b) && decide (b < n)) else if a = 2 then b == 0 else false
theorem impl_val (a b n : Int) (h0 : 0 ≤ n) (h1 : n ≤ 100) : impl_IsValue.f a b n = some (valB a b n) := by
  unfold impl_IsValue.f valB impl_in.f
  rw [Kit.wrap_id (n - 1) (by omega) (by omega)]
  by_cases c0 : a = 0
  · rw [if_pos c0, if_pos c0]
    by_cases c : 0 ≤ b
    · rw [if_pos c, decide_eq_true c, Bool.true_and]
      rfl
    · rw [if_neg c, decide_eq_false c, Bool.false_and]
      rfl
  · rw [if_neg c0, if_neg c0]
    by_cases c1 : a = 1
    · rw [if_pos c1, if_pos c1]
      by_cases c : 0 ≤ b
      · rw [if_pos c, decide_eq_true c, Bool.true_and]
        simp only [Option.bind_some]
        congr 1
        apply decide_eq_decide.2
        omega
      · rw [if_neg c, decide_eq_false c, Bool.false_and]
        rfl
    · rw [if_neg c1, if_neg c1]
      by_cases c2 : a = 2
      · rw [if_pos c2, if_pos c2]
      · rw [if_neg c2, if_neg c2]
theorem spec_val (a b n : Int) : spec_IsValue.f a b n = some (valB a b n) := by
  unfold spec_IsValue.f valB spec_l1In.f
  by_cases c0 : a = 0
  · rw [if_pos c0, if_pos c0]
    by_cases c : 0 ≤ b
    · rw [if_pos (show b ≥ 0 from c), decide_eq_true c, Bool.true_and]
      rfl
    · rw [if_neg (show ¬ b ≥ 0 from c), decide_eq_false c, Bool.false_and]
      rfl
  · rw [if_neg c0, if_neg c0]
    by_cases c1 : a = 1
    · rw [if_pos c1, if_pos c1]
      by_cases c : 0 ≤ b
      · rw [if_pos (show b ≥ 0 from c), decide_eq_true c, Bool.true_and]
      · rw [if_neg (show ¬ b ≥ 0 from c), decide_eq_false c, Bool.false_and]
    · rw [if_neg c1, if_neg c1]
      by_cases c2 : a = 2
      · rw [if_pos c2, if_pos c2]
      · rw [if_neg c2, if_neg c2]
/-- The number of an int value. -/
def intV (n : Int) : Int := Int.tmod (wrap64 (Int.tmod n 1000000 + 1000000)) 1000000
theorem intV_ok (n : Int) : 0 ≤ intV n ∧ intV n ≤ 999999 := by
  have hb : -1000000 < Int.tmod n 1000000 ∧ Int.tmod n 1000000 < 1000000 := by
    rcases Int.le_total 0 n with h | h
    · have h1 := Int.tmod_nonneg 1000000 h
      have h2 := Int.tmod_lt_of_pos n (show (0 : Int) < 1000000 by decide)
      omega
    · have h0 := Int.neg_tmod (-n) 1000000
      rw [Int.neg_neg] at h0
      have h1 := Int.tmod_nonneg 1000000 (show 0 ≤ -n by omega)
      have h2 := Int.tmod_lt_of_pos (-n) (show (0 : Int) < 1000000 by decide)
      omega
  unfold intV
  rw [Kit.wrap_id _ (by omega) (by omega)]
  have h1 := Int.tmod_nonneg 1000000 (show 0 ≤ Int.tmod n 1000000 + 1000000 by omega)
  have h2 := Int.tmod_lt_of_pos (Int.tmod n 1000000 + 1000000) (show (0 : Int) < 1000000 by decide)
  omega
theorem impl_int (n : Int) : impl_IntValue.f n = some (0, intV n) := by
  unfold impl_IntValue.f impl_Mod.f impl_in.f intV
  simp
theorem spec_int (n : Int) : spec_IntValue.f n = some (0, intV n) := by
  unfold spec_IntValue.f spec_Mod.f spec_l1In.f intV
  simp
theorem val_int (n : Int) : valB 0 (intV n) 0 = true := by
  have := intV_ok n
  unfold valB
  rw [if_pos rfl, decide_eq_true this.1, decide_eq_true this.2]
  rfl
def addV (a0 a1 b0 b1 : Int) : Int × Int := if a0 = 0 ∧ 0 ≤ a1 ∧ a1 ≤ 999999 ∧ b0 = 0 ∧ 0 ≤ b1 ∧ b1 ≤ 999999 then (0, intV (wrap64 (a1 + b1))) else (2, 0)
theorem impl_add (k : Nat) (a0 a1 b0 b1 : Int) : impl_AddInts.f (k + 1) a0 a1 b0 b1 = some (addV a0 a1 b0 b1) := by
  unfold impl_AddInts.f impl_isInt.f impl_in.f addV
  by_cases h0 : a0 = 0 <;> by_cases h1 : 0 ≤ a1 <;> by_cases h2 : a1 ≤ 999999 <;> by_cases h3 : b0 = 0 <;> by_cases h4 : 0 ≤ b1 <;> by_cases h5 : b1 ≤ 999999 <;> simp [h0, h1, h2, h3, h4, h5, impl_AddInts.j0, impl_int, impl_BrokenValue.f]
theorem spec_add (k : Nat) (a0 a1 b0 b1 : Int) : spec_AddInts.f (k + 1) a0 a1 b0 b1 = some (addV a0 a1 b0 b1) := by
  unfold spec_AddInts.f spec_l1In.f addV
  by_cases h0 : a0 = 0 <;> by_cases h1 : 0 ≤ a1 <;> by_cases h2 : a1 ≤ 999999 <;> by_cases h3 : b0 = 0 <;> by_cases h4 : 0 ≤ b1 <;> by_cases h5 : b1 ≤ 999999 <;> simp [h0, h1, h2, h3, h4, h5, spec_AddInts.j0, spec_int, spec_BrokenValue.f]
theorem addV_comm (a0 a1 b0 b1 : Int) : addV a0 a1 b0 b1 = addV b0 b1 a0 a1 := by
  unfold addV
  rw [Int.add_comm a1 b1]
  by_cases c : a0 = 0 ∧ 0 ≤ a1 ∧ a1 ≤ 999999 ∧ b0 = 0 ∧ 0 ≤ b1 ∧ b1 ≤ 999999
  · rw [if_pos c, if_pos ⟨c.2.2.2.1, c.2.2.2.2.1, c.2.2.2.2.2, c.1, c.2.1, c.2.2.1⟩]
  · rw [if_neg c, if_neg (fun d => c ⟨d.2.2.2.1, d.2.2.2.2.1, d.2.2.2.2.2, d.1, d.2.1, d.2.2.1⟩)]
theorem val_add (a0 a1 b0 b1 : Int) : valB (addV a0 a1 b0 b1).1 (addV a0 a1 b0 b1).2 0 = true := by
  unfold addV
  split
  · exact val_int _
  · rfl
theorem any_ok (l : List Int) (hl : l.length ≤ 1048576) (p s : Int) (hp : DPos l p) : ∃ a b q t, spec_l4Any.f l p s = some (a, b, q, t) ∧ DPos l q := by
  unfold spec_l4Any.f
  obtain ⟨v, q, t, e, _, hq⟩ := below_ok l hl p s hp 8
  rw [e]
  simp only [Option.bind_some]
  by_cases c0 : v = 0
  · rw [if_pos c0]
    obtain ⟨v1, q1, t1, e1, _, hq1⟩ := int_ok l hl q t hq [0, 1, 2, 5, (-1)] (by simp)
    rw [e1]
    exact ⟨_, _, _, _, rfl, hq1⟩
  · rw [if_neg c0]
    by_cases c1 : v = 1
    · rw [if_pos c1]
      exact ⟨_, _, _, _, rfl, hq⟩
    · rw [if_neg c1]
      by_cases c2 : v = 2
      · rw [if_pos c2]
        obtain ⟨v1, q1, t1, e1, _, hq1⟩ := int_ok l hl q t hq [0, 1, 2, 3, (-1)] (by simp)
        rw [e1]
        simp only [Option.bind_some]
        obtain ⟨v2, q2, t2, e2, _, hq2⟩ := int_ok l hl q1 t1 hq1 [0, (-1), 999999, 1000000] (by simp)
        rw [e2]
        exact ⟨_, _, _, _, rfl, hq2⟩
      · rw [if_neg c2]
        obtain ⟨v1, q1, t1, e1, _, hq1⟩ := below_ok l hl q t hq 50
        rw [e1]
        simp only [Option.bind_some]
        rw [spec_int]
        exact ⟨_, _, _, _, rfl, hq1⟩
theorem list_loop (l : List Int) (hl : l.length ≤ 1048576) (d : Nat) : ∀ (k : Nat) (x : List S34) (p s : Int), DPos l p → x.length + d ≤ 100 → d < k → ∃ y q t, spec_l4List.l0 k x (d : Int) l p s = some (y, q, t) ∧ y.length ≤ x.length + d ∧ DPos l q := by
  induction d with
  | zero =>
    intro k x p s hp hx hk
    obtain ⟨k, rfl⟩ : ∃ m, k = m + 1 := ⟨k - 1, by omega⟩
    simp only [spec_l4List.l0]
    rw [if_neg (by omega)]
    exact ⟨_, _, _, rfl, by omega, hp⟩
  | succ d ih =>
    intro k x p s hp hx hk
    obtain ⟨k, rfl⟩ : ∃ m, k = m + 1 := ⟨k - 1, by omega⟩
    obtain ⟨a, b, q, t, e, hq⟩ := any_ok l hl p s hp
    simp only [spec_l4List.l0]
    rw [if_pos (by omega), e]
    simp only [Option.bind_some]
    have ew : wrap64 (((d + 1 : Nat) : Int) - 1) = (d : Int) := by
      rw [Kit.wrap_id _ (by omega) (by omega)]
      omega
    rw [if_pos (by omega), ew]
    obtain ⟨y, q2, t2, e2, h2, h3⟩ := ih k (x ++ [(⟨a, b⟩ : S34)]) q t hq (by rw [List.length_append, List.length_singleton]; omega) (by omega)
    exact ⟨y, q2, t2, e2, by rw [List.length_append, List.length_singleton] at h2; omega, h3⟩
theorem are_spec (l : List S34) (n : Int) (hl : l.length ≤ 1000) (d : Nat) : ∀ (k i : Nat), i ≤ l.length → l.length - i = d → d < k → spec_AreValues.l0 k l n (i : Int) = some ((l.drop i).all fun x => valB x.f0 x.f1 n) := by
  induction d with
  | zero =>
    intro k i h0 h1 h2
    obtain ⟨k, rfl⟩ : ∃ m, k = m + 1 := ⟨k - 1, by omega⟩
    simp only [spec_AreValues.l0]
    rw [if_neg (by omega), List.drop_of_length_le (by omega)]
    rfl
  | succ d ih =>
    intro k i h0 h1 h2
    obtain ⟨k, rfl⟩ : ∃ m, k = m + 1 := ⟨k - 1, by omega⟩
    have hi : i < l.length := by omega
    have e : rd_T34 l (i : Int) = l[i] := by
      unfold rd_T34
      rw [Int.toNat_natCast, List.getD_eq_getElem?_getD, List.getElem?_eq_getElem hi]
      rfl
    simp only [spec_AreValues.l0]
    rw [if_pos (by omega), if_pos (by omega), e, spec_val, Kit.wrap_succ i (by omega), List.drop_eq_getElem_cons hi, List.all_cons]
    simp only [Option.bind_some]
    cases hv : valB l[i].f0 l[i].f1 n with
    | false => simp
    | true =>
      rw [if_pos rfl, ih k (i + 1) (by omega) (by omega) (by omega), Bool.true_and]
theorem are_impl (l : List S34) (n : Int) (hl : l.length ≤ 1000) (h0 : 0 ≤ n) (h1 : n ≤ 100) : impl_AreValues.f l n = some (l.all fun x => valB x.f0 x.f1 n) := by
  unfold impl_AreValues.f
  rw [if_pos (by omega)]
  obtain ⟨r, r1, r2⟩ := Func.idxO_any (fun x : S34 => !(valB x.f0 x.f1 n)) l 0 (by omega)
  have e := Func.idxO_congr (q := fun x : S34 => (impl_IsValue.f x.f0 x.f1 n).bind fun b => some (!b)) (q' := fun x => some (!(valB x.f0 x.f1 n))) l 0 (fun x _ => by
    rw [impl_val _ _ n h0 h1]
    rfl)
  rw [e, r1]
  simp only [Option.bind_some]
  rw [r2]
  congr 1
  induction l with
  | nil => rfl
  | cons x xs _ => simp [List.any_eq_not_all_not]
theorem s34_ext (x y : S34) : x = y ↔ (x.f0 = y.f0 ∧ x.f1 = y.f1) := by
  cases x; cases y; simp
instance : DecidableEq S34 := fun x y => decidable_of_iff _ (s34_ext x y).symm
theorem implEq (a b : List S34) (k : Nat) (hk : a.length < k) (h : a.length ≤ 40000000) : impl_EqualValues.f k a b = some (decide (a = b)) := by
  unfold impl_EqualValues.f
  rw [Kit.eqn_spec z34 impl_Value_72.l0 (fun k x0 x1 n i => by
    simp only [impl_Value_72.l0]
    show _ = if _ then (if _ then (if _ then (if _ then (if rd_T34 x0 i = rd_T34 x1 i then _ else _) else _) else _) else _) else _
    by_cases h0 : (rd_T34 x0 i).f0 = (rd_T34 x1 i).f0 <;> by_cases h1 : (rd_T34 x0 i).f1 = (rd_T34 x1 i).f1 <;> simp [h0, h1, s34_ext]) (f := impl_Value_72.f) (fun _ _ _ => rfl) a b (by omega) k hk]
  rfl
theorem values_law (l0 : List Int) (m : Nat) (hm : 1048700 ≤ m) : laws_FnValues.f (m + 1) l0 = some true := by
  unfold laws_FnValues.f laws_big.f
  simp only [Option.bind_some]
  by_cases c0 : (l0.length : Int) > 1048576
  · rw [decide_eq_true c0, if_pos rfl]
  rw [decide_eq_false c0, if_neg (by simp)]
  have hl : l0.length ≤ 1048576 := by omega
  obtain ⟨t0, e0⟩ := new_ok l0 hl (m + 1) (by omega)
  obtain ⟨a, b, q, t, e1, hq⟩ := any_ok l0 hl 0 t0 (dpos0 l0)
  obtain ⟨n, q2, t2, e2, hn, _⟩ := below_ok l0 hl q t hq 7
  have hn2 := hn.2.1 (by decide)
  obtain ⟨a', b', q3, t3, e3, _⟩ := any_ok l0 hl q t hq
  obtain ⟨n4, q4, t4, e4, hn4, hq4⟩ := below_ok l0 hl 0 t0 (dpos0 l0) 4
  have hn42 := hn4.2.1 (by decide)
  obtain ⟨d, rfl⟩ := Int.eq_ofNat_of_zero_le hn4.1
  obtain ⟨vs, q5, t5, e5, hvs, hq5⟩ := list_loop l0 hl d (m + 1) [] q4 t4 hq4 (by simp; omega) (by omega)
  obtain ⟨n6, q6, t6, e6, hn6, _⟩ := below_ok l0 hl q5 t5 hq5 7
  have hn62 := hn6.2.1 (by decide)
  have hvl : vs.length ≤ 1000 := by simp at hvs; omega
  have d1 : spec_DrawIsValue.f (m + 1) l0 = some (a, b, n) := by
    unfold spec_DrawIsValue.f
    rw [e0]
    simp only [Option.bind_some]
    rw [e1]
    simp only [Option.bind_some]
    rw [e2]
    rfl
  have d2 : spec_DrawAddInts.f (m + 1) l0 = some (a, b, a', b') := by
    unfold spec_DrawAddInts.f
    rw [e0]
    simp only [Option.bind_some]
    rw [e1]
    simp only [Option.bind_some]
    rw [e3]
    rfl
  have d3 : spec_DrawAreValues.f (m + 1) l0 = some (vs, n6) := by
    unfold spec_DrawAreValues.f spec_l4List.f
    rw [e0]
    simp only [Option.bind_some]
    rw [e4]
    simp only [Option.bind_some]
    rw [e5]
    simp only [Option.bind_some]
    rw [e6]
    rfl
  have d4 := are_spec vs n6 hvl vs.length (m + 1) 0 (by omega) (by omega) (by omega)
  have d5 : spec_AreValues.f (m + 1) vs n6 = some (vs.all fun x => valB x.f0 x.f1 n6) := by
    unfold spec_AreValues.f
    exact d4
  rw [d1]
  simp only [Option.bind_some]
  rw [d2]
  simp only [Option.bind_some]
  rw [impl_add, impl_add]
  simp only [Option.bind_some]
  rw [d3]
  simp only [Option.bind_some]
  rw [impl_val a b n hn.1 (by omega), spec_val]
  simp only [Option.bind_some]
  rw [if_pos (by simp), ← addV_comm a b a' b', if_pos (by simp), impl_val _ _ 0 (by omega) (by omega), val_add]
  simp only [Option.bind_some]
  rw [if_pos trivial, impl_int]
  simp only [Option.bind_some]
  rw [impl_val _ _ 0 (by omega) (by omega), val_int]
  simp only [Option.bind_some]
  rw [if_pos trivial, impl_int]
  simp only [Option.bind_some]
  have e7 : impl_IsNumber.f 0 (intV 7) 7 = some true := by decide +kernel
  rw [e7]
  simp only [Option.bind_some]
  rw [if_pos trivial, are_impl vs n6 hvl hn6.1 (by omega), d5]
  simp only [Option.bind_some]
  rw [if_pos (by simp), implEq vs vs (m + 1) (by omega) (by omega), decide_eq_true rfl]
  simp only [Option.bind_some]
  rw [if_pos trivial, spec_add]
  simp only [Option.bind_some]
  simp
theorem FnValues : laws_FnValues.Pure := by
  intro l0 _ _ w0
  exact ⟨1048700 + 1, values_law l0 1048700 (Nat.le_refl _)⟩

end Go.Proofs.Ytbepcmocadakhaa.Pure
