/- The pure side of the law FnExactReadUvarint: what the printed functions of the program and of the reference compute is the same, for every argument. -/
import Derived.Test.YtbaehdopmpnjoaaQFnExactReadUvarintx2
import Derived.Laws.BitsLemmas
import Derived.Test.YtbaehdopmpnjoaaKit
set_option linter.unusedVariables false
set_option linter.unusedSimpArgs false
namespace Go.Proofs.Ytbaehdopmpnjoaa.Pure
open Go.RowKit Go.Proofs.Ytbaehdopmpnjoaa.QFnExactReadUvarint Go.Proofs.YtbaehdopmpnjoaaW.PrintWords Go.Proofs.YtbaehdopmpnjoaaW.PrintLast

theorem toB (l : List Int) (k : Nat) (hk : l.length < k) (h : l.length ≤ 1048576) : laws_toByteS.f k l = some l := by
  have := Kit.copy_spec (fun x : Int => x) (0 : Int) laws_toByteS.l0 (fun _ _ _ _ => rfl) (f := laws_toByteS.f) (fun _ _ => rfl) l (by omega) (by omega) k hk
  simpa using this
theorem eqB (a b : List Int) (k : Nat) (hk : a.length < k) (h : a.length ≤ 40000000) : laws_eqByteS.f k a b = some (decide (a = b)) :=
  Kit.eq_spec (0 : Int) laws_eqByteS.l0 (fun _ _ _ _ => rfl) (f := laws_eqByteS.f) (fun _ _ _ => rfl) a b (by omega) k hk
theorem wf_u8 {x : Int} (h : (Lit.int .u8 x).wf = true) : 0 ≤ x ∧ x < 256 := by
  simp [Lit.wf, IntKind.min, IntKind.max, IntKind.signed, IntKind.bits] at h
  omega
theorem wf_i64 {x : Int} (h : (Lit.int .i64 x).wf = true) : -9223372036854775808 ≤ x ∧ x ≤ 9223372036854775807 := by
  simp [Lit.wf, IntKind.min, IntKind.max, IntKind.signed, IntKind.bits] at h
  omega
theorem wraps_i64 (n : Int) (h0 : 0 ≤ n) (h1 : n < 2 ^ 62) : IntKind.i64.wrap n = n := by rw [IntKind.wrap_i64]; omega
theorem and127_i64 (x : Int) (h0 : 0 ≤ x) (h1 : x < 256) : Go.bits .and .i64 x 127 = x % 128 := bits_mask .i64 62 (by decide) wraps_i64 7 (by decide) x h0 (by omega)
theorem and127_u8 (x : Int) (h0 : 0 ≤ x) (h1 : x < 256) : Go.bits .and .u8 x 127 = x % 128 := bits_mask .u8 8 (by decide) wraps_u8 7 (by decide) x h0 h1
theorem w_sub (n i : Nat) (h : n < 4611686018427387904) (h' : i < 4611686018427387904) : wrap64 ((n : Int) - (i : Int)) = (n : Int) - (i : Int) := Kit.wrap_id _ (by omega) (by omega)
theorem w_add (n i : Nat) (h : n < 2305843009213693952) (h' : i < 2305843009213693952) : wrap64 ((n : Int) + (i : Int)) = ((n + i : Nat) : Int) := by
  rw [Kit.wrap_id _ (by omega) (by omega)]
  omega
theorem w_mul7 (i : Nat) (h : i < 100) : wrap64 (7 * (i : Int)) = 7 * (i : Int) := Kit.wrap_id _ (by omega) (by omega)
theorem w_byte (x : Int) (h : 0 ≤ x ∧ x < 256) : wrap64 x = x := Kit.wrap_id _ (by omega) (by omega)
/-- One byte of a varint: what both readers do with it. -/
def ruBody (a i : Nat) (x v : Int) (rest : Option (Int × Int × Bool)) : Option (Int × Int × Bool) :=
  if x < 128 then (if x = 0 then (if (i : Int) > 0 then some (0, 0, false) else (if v > 1000000000000 then some (0, 0, false) else some (v, wrap64 (((a + i : Nat) : Int) + 1), true))) else (if v > 1000000000000 then some (0, 0, false) else some (v, wrap64 (((a + i : Nat) : Int) + 1), true))) else rest
def ruVal (n x : Int) (i : Nat) : Int := Go.bits .or .i64 n (shl .i64 (x % 128) (7 * (i : Int)))
theorem ru_spec_out (l : List Int) (hb : l.length ≤ 40000000) (a i k : Nat) (n : Int) (hi : i < 6) (c : ¬ a + i < l.length) : spec_ReadUvarint.l0 (k + 1 + 1) l (a : Int) n (i : Int) = some (0, 0, false) := by
  simp only [spec_ReadUvarint.l0]
  rw [if_pos (by omega), if_neg (by omega), w_sub _ _ (by omega) (by omega), decide_eq_true (by omega)]
  simp only [spec_ReadUvarint.j1, if_true]
theorem ru_spec_step (l : List Int) (hb : l.length ≤ 40000000) (w : ∀ x ∈ l, 0 ≤ x ∧ x < 256) (a i k : Nat) (n : Int) (hi : i < 6) (c : a + i < l.length) :
    spec_ReadUvarint.l0 (k + 1 + 1) l (a : Int) n (i : Int) = ruBody a i l[a + i] (ruVal n l[a + i] i) (spec_ReadUvarint.l0 k l (a : Int) (ruVal n l[a + i] i) ((i + 1 : Nat) : Int)) := by
  have hw := w l[a + i] (List.getElem_mem c)
  have hc : decide ((a : Int) ≥ (l.length : Int) - (i : Int)) = false := decide_eq_false (by omega)
  have p1 : (0 : Int) ≤ ((a + i : Nat) : Int) := by omega
  have p2 : ((a + i : Nat) : Int) < (l.length : Int) := by omega
  have p3 : (0 : Int) ≤ 7 * (i : Int) := by omega
  have h1 : (i : Int) < 6 := by omega
  have h2 : ¬ ((a : Int) < 0) := by omega
  simp only [spec_ReadUvarint.l0]
  rw [if_pos h1, if_neg h2, w_sub _ _ (by omega) (by omega), hc]
  simp only [spec_ReadUvarint.j1]
  rw [if_neg (by simp), w_add a i (by omega) (by omega), w_mul7 i (by omega), if_pos p1, if_pos p2, if_pos p3, Kit.rd_lt l (a + i) c, w_byte _ hw, and127_i64 _ hw.1 hw.2, Kit.wrap_succ i (by omega)]
  rfl
theorem ru_impl_out (s : List Int) (a i k : Nat) (n : Int) (c : ¬ i < s.length) : impl_ReadUvarint.l0 (k + 1) (a : Int) n s (s.length : Int) (i : Int) = some (0, 0, false) := by
  simp only [impl_ReadUvarint.l0]
  rw [if_neg (by omega)]
theorem ru_impl_six (s : List Int) (a k : Nat) (n : Int) : impl_ReadUvarint.l0 (k + 1) (a : Int) n s (s.length : Int) ((6 : Nat) : Int) = some (0, 0, false) := by
  simp only [impl_ReadUvarint.l0]
  by_cases c : ((6 : Nat) : Int) < (s.length : Int)
  · rw [if_pos c, if_pos (by omega), if_pos c, if_pos (by omega)]
  · rw [if_neg c]
theorem ru_impl_step (s : List Int) (w : ∀ x ∈ s, 0 ≤ x ∧ x < 256) (a i k : Nat) (n : Int) (hi : i < 6) (ha : a ≤ 40000000) (c : i < s.length) :
    impl_ReadUvarint.l0 (k + 1) (a : Int) n s (s.length : Int) (i : Int) = ruBody a i s[i] (ruVal n s[i] i) (impl_ReadUvarint.l0 k (a : Int) (ruVal n s[i] i) s (s.length : Int) ((i + 1 : Nat) : Int)) := by
  have hw := w s[i] (List.getElem_mem c)
  have p1 : (0 : Int) ≤ (i : Int) := by omega
  have p2 : (i : Int) < (s.length : Int) := by omega
  have p3 : (0 : Int) ≤ 7 * (i : Int) := by omega
  have p4 : ¬ ((i : Int) = 6) := by omega
  simp only [impl_ReadUvarint.l0]
  rw [if_pos p2, if_pos p1, if_pos p2, if_neg p4, w_mul7 i (by omega), if_pos p3, Kit.rd_lt s i c, and127_u8 _ hw.1 hw.2, w_byte (s[i] % 128) ⟨by omega, by omega⟩, w_add a i (by omega) (by omega), Kit.wrap_succ i (by omega)]
  rfl
theorem ru_loops (l : List Int) (hb : l.length ≤ 40000000) (w : ∀ x ∈ l, 0 ≤ x ∧ x < 256) (a : Nat) (ha : a < l.length) (d : Nat) : ∀ (k k' i : Nat) (n : Int), i ≤ 6 → 6 - i = d → 2 * d + 1 < k → d < k' →
    ∃ r, spec_ReadUvarint.l0 k l (a : Int) n (i : Int) = some r ∧ impl_ReadUvarint.l0 k' (a : Int) n (l.drop a) ((l.drop a).length : Int) (i : Int) = some r := by
  induction d with
  | zero =>
    intro k k' i n h0 h1 h2 h3
    obtain ⟨k, rfl⟩ : ∃ m, k = m + 1 := ⟨k - 1, by omega⟩
    obtain ⟨k', rfl⟩ : ∃ m, k' = m + 1 := ⟨k' - 1, by omega⟩
    obtain rfl : i = 6 := by omega
    refine ⟨(0, 0, false), ?_, ru_impl_six _ _ _ _⟩
    simp only [spec_ReadUvarint.l0]
    rw [if_neg (by omega)]
  | succ d ih =>
    intro k k' i n h0 h1 h2 h3
    obtain ⟨k, rfl⟩ : ∃ m, k = m + 1 + 1 := ⟨k - 2, by omega⟩
    obtain ⟨k', rfl⟩ : ∃ m, k' = m + 1 := ⟨k' - 1, by omega⟩
    by_cases c : a + i < l.length
    · have hi : i < (l.drop a).length := by rw [List.length_drop]; omega
      have e3 : (l.drop a)[i] = l[a + i] := by rw [List.getElem_drop]
      rw [ru_spec_step l hb w a i k n (by omega) c, ru_impl_step (l.drop a) (fun x hx => w x (List.mem_of_mem_drop hx)) a i k' n (by omega) (by omega) hi, e3]
      obtain ⟨r, r1, r2⟩ := ih k k' (i + 1) (ruVal n l[a + i] i) (by omega) (by omega) (by omega) (by omega)
      rw [r1, r2]
      obtain ⟨q, hq⟩ : ∃ q, ruBody a i l[a + i] (ruVal n l[a + i] i) (some r) = some q := by
        unfold ruBody
        split
        · split
          · split
            · exact ⟨_, rfl⟩
            · split <;> exact ⟨_, rfl⟩
          · split <;> exact ⟨_, rfl⟩
        · exact ⟨_, rfl⟩
      exact ⟨q, hq, hq⟩
    · exact ⟨(0, 0, false), ru_spec_out l hb a i k n (by omega) c, ru_impl_out _ a i k' n (by rw [List.length_drop]; omega)⟩
theorem ru_same (l : List Int) (hb : l.length ≤ 40000000) (w : ∀ x ∈ l, 0 ≤ x ∧ x < 256) (at_ : Int) (k : Nat) (hk : 20 ≤ k) :
    ∃ r, spec_ReadUvarint.f k l at_ = some r ∧ impl_ReadUvarint.f k l at_ = some r := by
  have e0 : wrap64 ((l.length : Int) - 1) = (l.length : Int) - 1 := Kit.wrap_id _ (by omega) (by omega)
  unfold spec_ReadUvarint.f impl_ReadUvarint.f impl_in.f
  rw [e0]
  by_cases c : 0 ≤ at_ ∧ at_ ≤ (l.length : Int) - 1
  · obtain ⟨a, rfl⟩ := Int.eq_ofNat_of_zero_le c.1
    obtain ⟨r, r1, r2⟩ := ru_loops l hb w a (by omega) 6 k k 0 0 (by omega) (by omega) (by omega) (by omega)
    refine ⟨r, r1, ?_⟩
    rw [if_pos c.1, decide_eq_true c.2]
    simp only [Option.bind_some, if_true]
    rw [if_pos c.1, if_pos (by omega), Int.toNat_natCast]
    exact r2
  · refine ⟨(0, 0, false), ?_, ?_⟩
    · obtain ⟨k, rfl⟩ : ∃ m, k = m + 1 + 1 := ⟨k - 2, by omega⟩
      simp only [spec_ReadUvarint.l0]
      rw [if_pos (by omega)]
      by_cases c1 : at_ < 0
      · rw [if_pos c1]
        simp only [spec_ReadUvarint.j1, if_true]
      · rw [if_neg c1, show wrap64 ((l.length : Int) - 0) = (l.length : Int) from by rw [Int.sub_zero]; exact Kit.wrap_id _ (by omega) (by omega), decide_eq_true (by omega)]
        simp only [spec_ReadUvarint.j1, if_true]
    · by_cases c1 : 0 ≤ at_
      · rw [if_pos c1, decide_eq_false (fun h => c ⟨c1, h⟩)]
        rfl
      · rw [if_neg c1]
        rfl
theorem FnExactReadUvarint : laws_FnExactReadUvarint.Pure := by
  intro l0 a1 _ _ w0 w1
  by_cases c0 : (l0.length : Int) > 1048576
  · exact ⟨0, by unfold laws_FnExactReadUvarint.f; rw [if_pos c0]⟩
  refine ⟨1048580, ?_⟩
  obtain ⟨r, e1, e2⟩ := ru_same l0 (by omega) (fun x hx => wf_u8 (w0 x hx)) a1 1048580 (by omega)
  unfold laws_FnExactReadUvarint.f
  rw [if_neg c0]
  simp only [toB l0 1048580 (by omega) (by omega), e1, e2, Option.bind_some, if_true, bne_self_eq_false]
  simp only [laws_FnExactReadUvarint.j0, toB l0 1048579 (by omega) (by omega), eqB l0 l0 1048579 (by omega) (by omega), Option.bind_some, decide_true, if_true, Bool.false_eq_true, if_false]

end Go.Proofs.Ytbaehdopmpnjoaa.Pure
