/- The pure side of the law FnExactEncodeInts: what the printed functions of the program and of the reference compute is the same, for every argument. -/
import Derived.Test.YtgggflbmcmalfaaQFnExactEncodeIntsx2
import Derived.Laws.BitsLemmas
import Derived.Test.YtgggflbmcmalfaaKit
set_option linter.unusedVariables false
set_option linter.unusedSimpArgs false
namespace Go.Proofs.Ytgggflbmcmalfaa.Pure
open Go.RowKit Go.Proofs.Ytgggflbmcmalfaa.QFnExactEncodeInts Go.Proofs.YtgggflbmcmalfaaW.PrintWords Go.Proofs.YtgggflbmcmalfaaW.PrintLast

theorem toI (l : List Int) (k : Nat) (hk : l.length < k) (h : l.length ≤ 1048576) : laws_toIntS.f k l = some l := by
  have := Kit.copy_spec (fun x : Int => x) (0 : Int) laws_toIntS.l0 (fun _ _ _ _ => rfl) (f := laws_toIntS.f) (fun _ _ => rfl) l (by omega) (by omega) k hk
  simpa using this
theorem eqI (a b : List Int) (k : Nat) (hk : a.length < k) (h : a.length ≤ 40000000) : laws_eqIntS.f k a b = some (decide (a = b)) :=
  Kit.eq_spec (0 : Int) laws_eqIntS.l0 (fun _ _ _ _ => rfl) (f := laws_eqIntS.f) (fun _ _ _ => rfl) a b (by omega) k hk
theorem eqB (a b : List Int) (k : Nat) (hk : a.length < k) (h : a.length ≤ 40000000) : laws_eqByteS.f k a b = some (decide (a = b)) :=
  Kit.eq_spec (0 : Int) laws_eqByteS.l0 (fun _ _ _ _ => rfl) (f := laws_eqByteS.f) (fun _ _ _ => rfl) a b (by omega) k hk
theorem markI (l : List Int) (k : Nat) (hk : l.length < k) (h : l.length ≤ 40000000) : laws_markIntS.f k l 1 = some (1 + (l.length : Int), Kit.marks (fun x => x) 1 l.length) := by
  have := Kit.mark_loop (fun x => x) laws_markIntS.l0 (fun _ _ _ _ => rfl) l.length k 0 1 l (by omega) (by omega) (by omega) (by omega) hk
  simpa [laws_markIntS.f] using this
theorem markB (l : List Int) (k : Nat) (hk : l.length < k) (h : l.length ≤ 40000000) : laws_markByteS.f k l 1 = some (1 + (l.length : Int), Kit.marks (fun x => x % 256) 1 l.length) := by
  have := Kit.mark_loop (fun x => x % 256) laws_markByteS.l0 (fun _ _ _ _ => rfl) l.length k 0 1 l (by omega) (by omega) (by omega) (by omega) hk
  simpa [laws_markByteS.f] using this
theorem heldB (n k : Nat) (hk : n < k) (h : n ≤ 40000000) : laws_heldByteS.f k (Kit.marks (fun x => x % 256) 1 n) 1 = some (1 + (n : Int)) := by
  have := Kit.held_loop (fun x => x % 256) laws_heldByteS.l0 (fun _ _ _ _ => rfl) n k 0 1 (Kit.marks (fun x => x % 256) 1 n) (by rw [Kit.marks_length]; omega) (by omega) (by omega) (by rw [Kit.marks_length]; omega) hk (by simp)
  simpa [laws_heldByteS.f] using this
theorem wf_u8 {x : Int} (h : (Lit.int .u8 x).wf = true) : 0 ≤ x ∧ x < 256 := by
  simp [Lit.wf, IntKind.min, IntKind.max, IntKind.signed, IntKind.bits] at h
  omega
theorem wf_i64 {x : Int} (h : (Lit.int .i64 x).wf = true) : -9223372036854775808 ≤ x ∧ x ≤ 9223372036854775807 := by
  simp [Lit.wf, IntKind.min, IntKind.max, IntKind.signed, IntKind.bits] at h
  omega
theorem wraps_i64 (n : Int) (h0 : 0 ≤ n) (h1 : n < 2 ^ 62) : IntKind.i64.wrap n = n := by rw [IntKind.wrap_i64]; omega
theorem and127_i64 (x : Int) (h0 : 0 ≤ x) (h1 : x < 256) : Go.bits .and .i64 x 127 = x % 128 := bits_mask .i64 62 (by decide) wraps_i64 7 (by decide) x h0 (by omega)
theorem and127_u8 (x : Int) (h0 : 0 ≤ x) (h1 : x < 256) : Go.bits .and .u8 x 127 = x % 128 := bits_mask .u8 8 (by decide) wraps_u8 7 (by decide) x h0 h1
/-- The bytes of a varint, with so many rounds. -/
def uvl : Nat → Nat → List Int
  | 0, n => [(n : Int)]
  | f + 1, n => if n ≥ 128 then ((n % 128 + 128 : Nat) : Int) :: uvl f (n / 128) else [(n : Int)]
theorem or128_nat : ∀ a, a < 256 → a ||| 128 = a % 128 + 128 := by decide +kernel
theorem or128_u8 (n : Nat) : Go.bits .or .u8 ((n : Int) % 256) 128 = ((n % 128 + 128 : Nat) : Int) := by
  have h : ((n : Int) % 256) = ((n % 256 : Nat) : Int) := by omega
  have h2 := (bits_nat .u8 8 (by decide) wraps_u8 (n % 256) 128 (by omega) (by omega)).2
  rw [h]
  refine h2.trans ?_
  rw [or128_nat (n % 256) (by omega)]
  congr 1
  omega
theorem or128_i64 (n : Nat) (hn : n < 4611686018427387904) : Go.bits .or .i64 (Go.bits .and .i64 (n : Int) 127) 128 % 256 = ((n % 128 + 128 : Nat) : Int) := by
  have h1 : Go.bits .and .i64 (n : Int) 127 = ((n % 128 : Nat) : Int) := by
    have := bits_mask .i64 62 (by decide) wraps_i64 7 (by decide) (n : Int) (by omega) (by omega)
    refine this.trans ?_
    omega
  have h2 := (bits_nat .i64 62 (by decide) wraps_i64 (n % 128) 128 (by omega) (by omega)).2
  rw [h1]
  have h3 : Go.bits .or .i64 ((n % 128 : Nat) : Int) 128 = ((n % 128 ||| 128 : Nat) : Int) := h2
  rw [h3, or128_nat (n % 128) (by omega)]
  omega
theorem uvl_bytes : ∀ (f n : Nat), n < 128 ^ (f + 1) → ∀ x ∈ uvl f n, 0 ≤ x ∧ x < 256
  | 0, n, hn, x, h => by
    have := List.mem_singleton.1 h
    omega
  | f + 1, n, hn, x, h => by
    unfold uvl at h
    by_cases c : n ≥ 128
    · rw [if_pos c] at h
      rcases List.mem_cons.1 h with rfl | h
      · omega
      · exact uvl_bytes f (n / 128) (by rw [Nat.div_lt_iff_lt_mul (by decide)]; exact hn) x h
    · rw [if_neg c] at h
      have := List.mem_singleton.1 h
      omega
theorem uvl_length : ∀ (f n : Nat), (uvl f n).length ≤ f + 1
  | 0, n => by simp [uvl]
  | f + 1, n => by
    unfold uvl
    have := uvl_length f (n / 128)
    by_cases c : n ≥ 128
    · rw [if_pos c, List.length_cons]
      omega
    · rw [if_neg c, List.length_singleton]
      omega
theorem spec_uv : ∀ (f n k : Nat) (x : List Int), n < 128 ^ (f + 1) → n < 4611686018427387904 → f < k → x.length + f < 140737488355328 → spec_AppendUvarint.l0 k (n : Int) x = some (x ++ uvl f n)
  | 0, n, k, x, h, _, hk, hx => by
    obtain ⟨k, rfl⟩ : ∃ m, k = m + 1 := ⟨k - 1, by omega⟩
    simp only [spec_AppendUvarint.l0, uvl]
    rw [if_neg (by omega), if_pos (by omega), show (n : Int) % 256 = (n : Int) by omega]
  | f + 1, n, k, x, h, h9, hk, hx => by
    obtain ⟨k, rfl⟩ : ∃ m, k = m + 1 := ⟨k - 1, by omega⟩
    simp only [spec_AppendUvarint.l0, uvl]
    by_cases c : n ≥ 128
    · have e : ((n : Int) / 128) = ((n / 128 : Nat) : Int) := by omega
      rw [if_pos c, if_pos (by omega), if_pos (by omega), or128_i64 n h9, e, spec_uv f (n / 128) k _ (by rw [Nat.div_lt_iff_lt_mul (by decide)]; exact h) (by omega) (by omega) (by rw [List.length_append, List.length_singleton]; omega), List.append_assoc]
      rfl
    · rw [if_neg c, if_neg (by omega), if_pos (by omega), show (n : Int) % 256 = (n : Int) by omega]
theorem impl_uv : ∀ (f n k : Nat) (x : List Int), n < 128 ^ (f + 1) → f < k → x.length + f < 140737488355328 → impl_AppendUvarint.l0 k (n : Int) x = some (x ++ uvl f n)
  | 0, n, k, x, h, hk, hx => by
    obtain ⟨k, rfl⟩ : ∃ m, k = m + 1 := ⟨k - 1, by omega⟩
    simp only [impl_AppendUvarint.l0, uvl]
    rw [if_neg (by omega), if_pos (by omega), show (n : Int) % 256 = (n : Int) by omega]
  | f + 1, n, k, x, h, hk, hx => by
    obtain ⟨k, rfl⟩ : ∃ m, k = m + 1 := ⟨k - 1, by omega⟩
    simp only [impl_AppendUvarint.l0, uvl]
    by_cases c : n ≥ 128
    · have e : ((n : Int) / 128) = ((n / 128 : Nat) : Int) := by omega
      rw [if_pos c, if_pos (by omega), if_pos (by omega), or128_u8 n, e, impl_uv f (n / 128) k _ (by rw [Nat.div_lt_iff_lt_mul (by decide)]; exact h) (by omega) (by rw [List.length_append, List.length_singleton]; omega), List.append_assoc]
      rfl
    · rw [if_neg c, if_neg (by omega), if_pos (by omega), show (n : Int) % 256 = (n : Int) by omega]
/-- What both answer. -/
def uvs (a : Int) : List Int := if 0 ≤ a ∧ a ≤ 1000000000000 then uvl 5 a.toNat else []
theorem uvs_length (a : Int) : (uvs a).length ≤ 6 := by
  unfold uvs
  split
  · exact uvl_length 5 _
  · simp
theorem uvs_bytes (a : Int) : ∀ x ∈ uvs a, 0 ≤ x ∧ x < 256 := by
  unfold uvs
  by_cases c : 0 ≤ a ∧ a ≤ 1000000000000
  · rw [if_pos c]
    exact uvl_bytes 5 a.toNat (by omega)
  · rw [if_neg c]
    intro x h
    exact absurd h (by simp)
theorem spec_append (l : List Int) (hl : l.length ≤ 40000000) (a : Int) (k : Nat) (hk : 6 < k) : spec_AppendUvarint.f k l a = some (l ++ uvs a) := by
  unfold spec_AppendUvarint.f spec_l1In.f uvs
  simp only [Option.bind_some, List.nil_append, List.length_nil]
  rw [if_pos (by omega)]
  by_cases c : 0 ≤ a
  · by_cases c' : a ≤ 1000000000000
    · obtain ⟨n, rfl⟩ := Int.eq_ofNat_of_zero_le c
      rw [if_pos c, decide_eq_true c', if_pos ⟨c, c'⟩]
      simp only [Option.bind_some, if_true, Int.toNat_natCast]
      exact spec_uv 5 n k l (by omega) (by omega) (by omega) (by omega)
    · rw [if_pos c, decide_eq_false c', if_neg (fun h => c' h.2)]
      simp
  · rw [if_neg c, if_neg (fun h => c h.1)]
    simp
theorem impl_append (l : List Int) (hl : l.length ≤ 40000000) (a : Int) (k : Nat) (hk : 6 < k) : impl_AppendUvarint.f k l a = some (l ++ uvs a) := by
  unfold impl_AppendUvarint.f impl_in.f uvs slices_Clone_byte_byte.f
  rw [if_pos (by omega)]
  simp only [Option.bind_some]
  by_cases c : 0 ≤ a
  · by_cases c' : a ≤ 1000000000000
    · obtain ⟨n, rfl⟩ := Int.eq_ofNat_of_zero_le c
      rw [if_pos c, decide_eq_true c', if_pos ⟨c, c'⟩]
      simp only [Option.bind_some, if_true, Int.toNat_natCast]
      exact impl_uv 5 n k l (by omega) (by omega) (by omega)
    · rw [if_pos c, decide_eq_false c', if_neg (fun h => c' h.2)]
      simp
  · rw [if_neg c, if_neg (fun h => c h.1)]
    simp
theorem nneg (n : Nat) : ¬ (1 + (n : Int) < 0) := by omega
theorem loops (l : List Int) (hb : l.length ≤ 1048576) (d : Nat) : ∀ (i : Nat) (x : List Int), i ≤ l.length → l.length - i = d → x.length ≤ 6 * i →
    ∃ r, r.length ≤ 6291456 ∧ ∀ k, 10 + d < k → spec_EncodeInts.l0 k l x (i : Int) = some r ∧ impl_EncodeInts.l0 k x l (l.length : Int) (i : Int) = some r := by
  induction d with
  | zero =>
    intro i x h0 h1 hx
    refine ⟨x, by omega, fun k hk => ?_⟩
    obtain ⟨k, rfl⟩ : ∃ m, k = m + 1 := ⟨k - 1, by omega⟩
    simp only [spec_EncodeInts.l0, impl_EncodeInts.l0]
    have p : ¬ ((i : Int) < (l.length : Int)) := by omega
    simp only [if_neg p, and_self]
  | succ d ih =>
    intro i x h0 h1 hx
    have hi : i < l.length := by omega
    have hu := uvs_length l[i]
    obtain ⟨q, hq, hq2⟩ := ih (i + 1) (x ++ uvs l[i]) (by omega) (by omega) (by rw [List.length_append]; omega)
    refine ⟨q, hq, fun k hk => ?_⟩
    obtain ⟨k, rfl⟩ : ∃ m, k = m + 1 := ⟨k - 1, by omega⟩
    simp only [spec_EncodeInts.l0, impl_EncodeInts.l0]
    have p : (i : Int) < (l.length : Int) := by omega
    have p2 : 0 ≤ (i : Int) := by omega
    simp only [if_pos p, if_pos p2, Kit.rd_lt l i hi, spec_append x (by omega) l[i] k (by omega), impl_append x (by omega) l[i] k (by omega), Option.bind_some, Kit.wrap_succ i (by omega)]
    exact hq2 k (by omega)
theorem FnExactEncodeInts : laws_FnExactEncodeInts.Pure := by
  intro l0 _ _ w0
  by_cases c0 : (l0.length : Int) > 1048576
  · exact ⟨0, by unfold laws_FnExactEncodeInts.f; rw [if_pos c0]⟩
  obtain ⟨r, hl, h⟩ := loops l0 (by omega) l0.length 0 [] (by omega) (by omega) (by simp)
  have e1 : ∀ k, 10 + l0.length < k → spec_EncodeInts.f k l0 = some r := fun k hk => (h k hk).1
  have e2 : ∀ k, 10 + l0.length < k → impl_EncodeInts.f k l0 = some r := fun k hk => (h k hk).2
  refine ⟨10000000, ?_⟩
  have hj : laws_FnExactEncodeInts.j0 10000000 l0 r r false = some true := by
    simp only [laws_FnExactEncodeInts.j0, markB r 9999999 (by omega) (by omega), heldB r.length 9999999 (by omega) (by omega), nneg, toI l0 9999999 (by omega) (by omega), e2 9999999 (by omega), eqB r r 9999999 (by omega) (by omega), Option.bind_some, Bool.false_eq_true, if_false, if_true, decide_true]
  unfold laws_FnExactEncodeInts.f
  rw [if_neg c0]
  simp only [toI l0 10000000 (by omega) (by omega), eqI l0 l0 10000000 (by omega) (by omega), markI l0 10000000 (by omega) (by omega), e1 10000000 (by omega), e2 10000000 (by omega), nneg, eqB r r 10000000 (by omega) (by omega), Option.bind_some, decide_true, if_true, if_false, Bool.not_true, hj]

end Go.Proofs.Ytgggflbmcmalfaa.Pure
