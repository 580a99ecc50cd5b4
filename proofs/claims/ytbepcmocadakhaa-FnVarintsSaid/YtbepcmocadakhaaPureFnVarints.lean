/- A varint that is laid is read again, and what is read was laid so. -/
import Derived.Test.YtbepcmocadakhaaQFnVarintsx4
import Derived.Test.YtbepcmocadakhaaKit
set_option linter.unusedVariables false
set_option linter.unusedSimpArgs false
namespace Go.Proofs.Ytbepcmocadakhaa.Pure
open Go.RowKit Go.Proofs.Ytbepcmocadakhaa.QFnVarints Go.Proofs.YtbepcmocadakhaaW.PrintWords Go.Proofs.YtbepcmocadakhaaW.PrintLast

theorem wf_u8 {x : Int} (h : (Lit.int .u8 x).wf = true) : 0 ≤ x ∧ x < 256 := by
  simp [Lit.wf, IntKind.min, IntKind.max, IntKind.signed, IntKind.bits] at h
  omega
theorem wf_i64 {x : Int} (h : (Lit.int .i64 x).wf = true) : -9223372036854775808 ≤ x ∧ x ≤ 9223372036854775807 := by
  simp [Lit.wf, IntKind.min, IntKind.max, IntKind.signed, IntKind.bits] at h
  omega
theorem wraps_i64 (n : Int) (h0 : 0 ≤ n) (h1 : n < 2 ^ 62) : IntKind.i64.wrap n = n := by rw [IntKind.wrap_i64]; omega
theorem and127_i64 (x : Int) (h0 : 0 ≤ x) (h1 : x < 256) : Go.bits .and .i64 x 127 = x % 128 := bits_mask .i64 62 (by decide) wraps_i64 7 (by decide) x h0 (by omega)
theorem and127_u8 (x : Int) (h0 : 0 ≤ x) (h1 : x < 256) : Go.bits .and .u8 x 127 = x % 128 := bits_mask .u8 8 (by decide) wraps_u8 7 (by decide) x h0 h1
theorem w_sub (n i : Nat) (h : n < 4611686018427387904) (h' : i < 4611686018427387904) : wrap64 ((n : Int) - (i : Int)) = (n : Int) - (i : Int) := Kit.wrap_id _ (by omega) (by omega)
theorem w_add (n i : Nat) (h : n < 2305843009213693952) (h' : i < 2305843009213693952) : wrap64 ((n : Int) + (i : Int)) = ((n + i : Nat) : Int) := by
  rw [Kit.wrap_id _ (by omega) (by omega)]
  omega
theorem w_mul7 (i : Nat) (h : i < 100) : wrap64 (7 * (i : Int)) = 7 * (i : Int) := Kit.wrap_id _ (by omega) (by omega)
theorem w_byte (x : Int) (h : 0 ≤ x ∧ x < 256) : wrap64 x = x := Kit.wrap_id _ (by omega) (by omega)
/-- One byte of a varint: what both readers do with it. -/
def ruBody (a i : Nat) (x v : Int) (rest : Option (Int × Int × Bool)) : Option (Int × Int × Bool) :=
  if x < 128 then (if x = 0 then (if (i : Int) > 0 then some (0, 0, false) else (if v > 1000000000000 then some (0, 0, false) else some (v, wrap64 (((a + i : Nat) : Int) + 1), true))) else (if v > 1000000000000 then some (0, 0, false) else some (v, wrap64 (((a + i : Nat) : Int) + 1), true))) else rest
def ruVal (n x : Int) (i : Nat) : Int := Go.bits .or .i64 n (shl .i64 (x % 128) (7 * (i : Int)))
theorem ru_spec_out (l : List Int) (hb : l.length ≤ 40000000) (a i k : Nat) (n : Int) (hi : i < 6) (c : ¬ a + i < l.length) : spec_ReadUvarint.l0 (k + 1 + 1) l (a : Int) n (i : Int) = some (0, 0, false) := by
  simp only [spec_ReadUvarint.l0]
  rw [if_pos (by omega), if_neg (by omega), w_sub _ _ (by omega) (by omega), decide_eq_true (by omega)]
  simp only [spec_ReadUvarint.j1, if_true]
theorem ru_spec_step (l : List Int) (hb : l.length ≤ 40000000) (w : ∀ x ∈ l, 0 ≤ x ∧ x < 256) (a i k : Nat) (n : Int) (hi : i < 6) (c : a + i < l.length) :
    spec_ReadUvarint.l0 (k + 1 + 1) l (a : Int) n (i : Int) = ruBody a i l[a + i] (ruVal n l[a + i] i) (spec_ReadUvarint.l0 k l (a : Int) (ruVal n l[a + i] i) ((i + 1 : Nat) : Int)) := by
  have hw := w l[a + i] (List.getElem_mem c)
  have hc : decide ((a : Int) ≥ (l.length : Int) - (i : Int)) = false := decide_eq_false (by omega)
  have p1 : (0 : Int) ≤ ((a + i : Nat) : Int) := by omega
  have p2 : ((a + i : Nat) : Int) < (l.length : Int) := by omega
  have p3 : (0 : Int) ≤ 7 * (i : Int) := by omega
  have h1 : (i : Int) < 6 := by omega
  have h2 : ¬ ((a : Int) < 0) := by omega
  simp only [spec_ReadUvarint.l0]
  rw [if_pos h1, if_neg h2, w_sub _ _ (by omega) (by omega), hc]
  simp only [spec_ReadUvarint.j1]
  rw [if_neg (by simp), w_add a i (by omega) (by omega), w_mul7 i (by omega), if_pos p1, if_pos p2, if_pos p3, Kit.rd_lt l (a + i) c, w_byte _ hw, and127_i64 _ hw.1 hw.2, Kit.wrap_succ i (by omega)]
  rfl
theorem ru_impl_out (s : List Int) (a i k : Nat) (n : Int) (c : ¬ i < s.length) : impl_ReadUvarint.l0 (k + 1) (a : Int) n s (s.length : Int) (i : Int) = some (0, 0, false) := by
  simp only [impl_ReadUvarint.l0]
  rw [if_neg (by omega)]
theorem ru_impl_six (s : List Int) (a k : Nat) (n : Int) : impl_ReadUvarint.l0 (k + 1) (a : Int) n s (s.length : Int) ((6 : Nat) : Int) = some (0, 0, false) := by
  simp only [impl_ReadUvarint.l0]
  by_cases c : ((6 : Nat) : Int) < (s.length : Int)
  · rw [if_pos c, if_pos (by omega), if_pos c, if_pos (by omega)]
  · rw [if_neg c]
theorem ru_impl_step (s : List Int) (w : ∀ x ∈ s, 0 ≤ x ∧ x < 256) (a i k : Nat) (n : Int) (hi : i < 6) (ha : a ≤ 40000000) (c : i < s.length) :
    impl_ReadUvarint.l0 (k + 1) (a : Int) n s (s.length : Int) (i : Int) = ruBody a i s[i] (ruVal n s[i] i) (impl_ReadUvarint.l0 k (a : Int) (ruVal n s[i] i) s (s.length : Int) ((i + 1 : Nat) : Int)) := by
  have hw := w s[i] (List.getElem_mem c)
  have p1 : (0 : Int) ≤ (i : Int) := by omega
  have p2 : (i : Int) < (s.length : Int) := by omega
  have p3 : (0 : Int) ≤ 7 * (i : Int) := by omega
  have p4 : ¬ ((i : Int) = 6) := by omega
  simp only [impl_ReadUvarint.l0]
  rw [if_pos p2, if_pos p1, if_pos p2, if_neg p4, w_mul7 i (by omega), if_pos p3, Kit.rd_lt s i c, and127_u8 _ hw.1 hw.2, w_byte (s[i] % 128) ⟨by omega, by omega⟩, w_add a i (by omega) (by omega), Kit.wrap_succ i (by omega)]
  rfl
theorem ru_loops (l : List Int) (hb : l.length ≤ 40000000) (w : ∀ x ∈ l, 0 ≤ x ∧ x < 256) (a : Nat) (ha : a < l.length) (d : Nat) : ∀ (k k' i : Nat) (n : Int), i ≤ 6 → 6 - i = d → 2 * d + 1 < k → d < k' →
    ∃ r, spec_ReadUvarint.l0 k l (a : Int) n (i : Int) = some r ∧ impl_ReadUvarint.l0 k' (a : Int) n (l.drop a) ((l.drop a).length : Int) (i : Int) = some r := by
  induction d with
  | zero =>
    intro k k' i n h0 h1 h2 h3
    obtain ⟨k, rfl⟩ : ∃ m, k = m + 1 := ⟨k - 1, by omega⟩
    obtain ⟨k', rfl⟩ : ∃ m, k' = m + 1 := ⟨k' - 1, by omega⟩
    obtain rfl : i = 6 := by omega
    refine ⟨(0, 0, false), ?_, ru_impl_six _ _ _ _⟩
    simp only [spec_ReadUvarint.l0]
    rw [if_neg (by omega)]
  | succ d ih =>
    intro k k' i n h0 h1 h2 h3
    obtain ⟨k, rfl⟩ : ∃ m, k = m + 1 + 1 := ⟨k - 2, by omega⟩
    obtain ⟨k', rfl⟩ : ∃ m, k' = m + 1 := ⟨k' - 1, by omega⟩
    by_cases c : a + i < l.length
    · have hi : i < (l.drop a).length := by rw [List.length_drop]; omega
      have e3 : (l.drop a)[i] = l[a + i] := by rw [List.getElem_drop]
      rw [ru_spec_step l hb w a i k n (by omega) c, ru_impl_step (l.drop a) (fun x hx => w x (List.mem_of_mem_drop hx)) a i k' n (by omega) (by omega) hi, e3]
      obtain ⟨r, r1, r2⟩ := ih k k' (i + 1) (ruVal n l[a + i] i) (by omega) (by omega) (by omega) (by omega)
      rw [r1, r2]
      obtain ⟨q, hq⟩ : ∃ q, ruBody a i l[a + i] (ruVal n l[a + i] i) (some r) = some q := by
        unfold ruBody
        split
        · split
          · split
            · exact ⟨_, rfl⟩
            · split <;> exact ⟨_, rfl⟩
          · split <;> exact ⟨_, rfl⟩
        · exact ⟨_, rfl⟩
      exact ⟨q, hq, hq⟩
    · exact ⟨(0, 0, false), ru_spec_out l hb a i k n (by omega) c, ru_impl_out _ a i k' n (by rw [List.length_drop]; omega)⟩
theorem ru_same (l : List Int) (hb : l.length ≤ 40000000) (w : ∀ x ∈ l, 0 ≤ x ∧ x < 256) (at_ : Int) (k : Nat) (hk : 20 ≤ k) :
    ∃ r, spec_ReadUvarint.f k l at_ = some r ∧ impl_ReadUvarint.f k l at_ = some r := by
  have e0 : wrap64 ((l.length : Int) - 1) = (l.length : Int) - 1 := Kit.wrap_id _ (by omega) (by omega)
  unfold spec_ReadUvarint.f impl_ReadUvarint.f impl_in.f
  rw [e0]
  by_cases c : 0 ≤ at_ ∧ at_ ≤ (l.length : Int) - 1
  · obtain ⟨a, rfl⟩ := Int.eq_ofNat_of_zero_le c.1
    obtain ⟨r, r1, r2⟩ := ru_loops l hb w a (by omega) 6 k k 0 0 (by omega) (by omega) (by omega) (by omega)
    refine ⟨r, r1, ?_⟩
    rw [if_pos c.1, decide_eq_true c.2]
    simp only [Option.bind_some, if_true]
    rw [if_pos c.1, if_pos (by omega), Int.toNat_natCast]
    exact r2
  · refine ⟨(0, 0, false), ?_, ?_⟩
    · obtain ⟨k, rfl⟩ : ∃ m, k = m + 1 + 1 := ⟨k - 2, by omega⟩
      simp only [spec_ReadUvarint.l0]
      rw [if_pos (by omega)]
      by_cases c1 : at_ < 0
      · rw [if_pos c1]
        simp only [spec_ReadUvarint.j1, if_true]
      · rw [if_neg c1, show wrap64 ((l.length : Int) - 0) = (l.length : Int) from by rw [Int.sub_zero]; exact Kit.wrap_id _ (by omega) (by omega), decide_eq_true (by omega)]
        simp only [spec_ReadUvarint.j1, if_true]
    · by_cases c1 : 0 ≤ at_
      · rw [if_pos c1, decide_eq_false (fun h => c ⟨c1, h⟩)]
        rfl
      · rw [if_neg c1]
        rfl
/-- The bytes of a varint, with so many rounds. -/
def uvl : Nat → Nat → List Int
  | 0, n => [(n : Int)]
  | f + 1, n => if n ≥ 128 then ((n % 128 + 128 : Nat) : Int) :: uvl f (n / 128) else [(n : Int)]
theorem or128_nat : ∀ a, a < 256 → a ||| 128 = a % 128 + 128 := by decide +kernel
theorem or128_u8 (n : Nat) : Go.bits .or .u8 ((n : Int) % 256) 128 = ((n % 128 + 128 : Nat) : Int) := by
  have h : ((n : Int) % 256) = ((n % 256 : Nat) : Int) := by omega
  have h2 := (bits_nat .u8 8 (by decide) wraps_u8 (n % 256) 128 (by omega) (by omega)).2
  rw [h]
  refine h2.trans ?_
  rw [or128_nat (n % 256) (by omega)]
  congr 1
  omega
theorem or128_i64 (n : Nat) (hn : n < 4611686018427387904) : Go.bits .or .i64 (Go.bits .and .i64 (n : Int) 127) 128 % 256 = ((n % 128 + 128 : Nat) : Int) := by
  have h1 : Go.bits .and .i64 (n : Int) 127 = ((n % 128 : Nat) : Int) := by
    have := bits_mask .i64 62 (by decide) wraps_i64 7 (by decide) (n : Int) (by omega) (by omega)
    refine this.trans ?_
    omega
  have h2 := (bits_nat .i64 62 (by decide) wraps_i64 (n % 128) 128 (by omega) (by omega)).2
  rw [h1]
  have h3 : Go.bits .or .i64 ((n % 128 : Nat) : Int) 128 = ((n % 128 ||| 128 : Nat) : Int) := h2
  rw [h3, or128_nat (n % 128) (by omega)]
  omega
theorem uvl_bytes : ∀ (f n : Nat), n < 128 ^ (f + 1) → ∀ x ∈ uvl f n, 0 ≤ x ∧ x < 256
  | 0, n, hn, x, h => by
    have := List.mem_singleton.1 h
    omega
  | f + 1, n, hn, x, h => by
    unfold uvl at h
    by_cases c : n ≥ 128
    · rw [if_pos c] at h
      rcases List.mem_cons.1 h with rfl | h
      · omega
      · exact uvl_bytes f (n / 128) (by rw [Nat.div_lt_iff_lt_mul (by decide)]; exact hn) x h
    · rw [if_neg c] at h
      have := List.mem_singleton.1 h
      omega
theorem uvl_length : ∀ (f n : Nat), (uvl f n).length ≤ f + 1
  | 0, n => by simp [uvl]
  | f + 1, n => by
    unfold uvl
    have := uvl_length f (n / 128)
    by_cases c : n ≥ 128
    · rw [if_pos c, List.length_cons]
      omega
    · rw [if_neg c, List.length_singleton]
      omega
theorem spec_uv : ∀ (f n k : Nat) (x : List Int), n < 128 ^ (f + 1) → n < 4611686018427387904 → f < k → x.length + f < 140737488355328 → spec_AppendUvarint.l0 k (n : Int) x = some (x ++ uvl f n)
  | 0, n, k, x, h, _, hk, hx => by
    obtain ⟨k, rfl⟩ : ∃ m, k = m + 1 := ⟨k - 1, by omega⟩
    simp only [spec_AppendUvarint.l0, uvl]
    rw [if_neg (by omega), if_pos (by omega), show (n : Int) % 256 = (n : Int) by omega]
  | f + 1, n, k, x, h, h9, hk, hx => by
    obtain ⟨k, rfl⟩ : ∃ m, k = m + 1 := ⟨k - 1, by omega⟩
    simp only [spec_AppendUvarint.l0, uvl]
    by_cases c : n ≥ 128
    · have e : ((n : Int) / 128) = ((n / 128 : Nat) : Int) := by omega
      rw [if_pos c, if_pos (by omega), if_pos (by omega), or128_i64 n h9, e, spec_uv f (n / 128) k _ (by rw [Nat.div_lt_iff_lt_mul (by decide)]; exact h) (by omega) (by omega) (by rw [List.length_append, List.length_singleton]; omega), List.append_assoc]
      rfl
    · rw [if_neg c, if_neg (by omega), if_pos (by omega), show (n : Int) % 256 = (n : Int) by omega]
theorem impl_uv : ∀ (f n k : Nat) (x : List Int), n < 128 ^ (f + 1) → f < k → x.length + f < 140737488355328 → impl_AppendUvarint.l0 k (n : Int) x = some (x ++ uvl f n)
  | 0, n, k, x, h, hk, hx => by
    obtain ⟨k, rfl⟩ : ∃ m, k = m + 1 := ⟨k - 1, by omega⟩
    simp only [impl_AppendUvarint.l0, uvl]
    rw [if_neg (by omega), if_pos (by omega), show (n : Int) % 256 = (n : Int) by omega]
  | f + 1, n, k, x, h, hk, hx => by
    obtain ⟨k, rfl⟩ : ∃ m, k = m + 1 := ⟨k - 1, by omega⟩
    simp only [impl_AppendUvarint.l0, uvl]
    by_cases c : n ≥ 128
    · have e : ((n : Int) / 128) = ((n / 128 : Nat) : Int) := by omega
      rw [if_pos c, if_pos (by omega), if_pos (by omega), or128_u8 n, e, impl_uv f (n / 128) k _ (by rw [Nat.div_lt_iff_lt_mul (by decide)]; exact h) (by omega) (by rw [List.length_append, List.length_singleton]; omega), List.append_assoc]
      rfl
    · rw [if_neg c, if_neg (by omega), if_pos (by omega), show (n : Int) % 256 = (n : Int) by omega]
/-- What both answer. -/
def uvs (a : Int) : List Int := if 0 ≤ a ∧ a ≤ 1000000000000 then uvl 5 a.toNat else []
theorem uvs_length (a : Int) : (uvs a).length ≤ 6 := by
  unfold uvs
  split
  · exact uvl_length 5 _
  · simp
theorem uvs_bytes (a : Int) : ∀ x ∈ uvs a, 0 ≤ x ∧ x < 256 := by
  unfold uvs
  by_cases c : 0 ≤ a ∧ a ≤ 1000000000000
  · rw [if_pos c]
    exact uvl_bytes 5 a.toNat (by omega)
  · rw [if_neg c]
    intro x h
    exact absurd h (by simp)
theorem spec_append (l : List Int) (hl : l.length ≤ 40000000) (a : Int) (k : Nat) (hk : 6 < k) : spec_AppendUvarint.f k l a = some (l ++ uvs a) := by
  unfold spec_AppendUvarint.f spec_l1In.f uvs
  simp only [Option.bind_some, List.nil_append, List.length_nil]
  rw [if_pos (by omega)]
  by_cases c : 0 ≤ a
  · by_cases c' : a ≤ 1000000000000
    · obtain ⟨n, rfl⟩ := Int.eq_ofNat_of_zero_le c
      rw [if_pos c, decide_eq_true c', if_pos ⟨c, c'⟩]
      simp only [Option.bind_some, if_true, Int.toNat_natCast]
      exact spec_uv 5 n k l (by omega) (by omega) (by omega) (by omega)
    · rw [if_pos c, decide_eq_false c', if_neg (fun h => c' h.2)]
      simp
  · rw [if_neg c, if_neg (fun h => c h.1)]
    simp
theorem impl_append (l : List Int) (hl : l.length ≤ 40000000) (a : Int) (k : Nat) (hk : 6 < k) : impl_AppendUvarint.f k l a = some (l ++ uvs a) := by
  unfold impl_AppendUvarint.f impl_in.f uvs slices_Clone_byte_byte.f
  rw [if_pos (by omega)]
  simp only [Option.bind_some]
  by_cases c : 0 ≤ a
  · by_cases c' : a ≤ 1000000000000
    · obtain ⟨n, rfl⟩ := Int.eq_ofNat_of_zero_le c
      rw [if_pos c, decide_eq_true c', if_pos ⟨c, c'⟩]
      simp only [Option.bind_some, if_true, Int.toNat_natCast]
      exact impl_uv 5 n k l (by omega) (by omega) (by omega)
    · rw [if_pos c, decide_eq_false c', if_neg (fun h => c' h.2)]
      simp
  · rw [if_neg c, if_neg (fun h => c h.1)]
    simp
theorem shl_nat (c i : Nat) (hc : c < 128) (hi : i < 6) : shl .i64 (c : Int) (7 * (i : Int)) = ((c * 2 ^ (7 * i) : Nat) : Int) := by
  unfold shl
  have e : (7 * (i : Int)).toNat = 7 * i := by omega
  rw [e, Nat.min_eq_left (by show 7 * i ≤ 64; omega)]
  have h2 : c * 2 ^ (7 * i) < 2 ^ 42 := by
    have h3 : 2 ^ (7 * i) ≤ 2 ^ 35 := Nat.pow_le_pow_right (by decide) (by omega)
    have h4 : c * 2 ^ (7 * i) ≤ 127 * 2 ^ 35 := Nat.mul_le_mul (by omega) h3
    omega
  have e2 : (c : Int) * 2 ^ (7 * i) = ((c * 2 ^ (7 * i) : Nat) : Int) := by simp
  rw [e2]
  exact wraps_i64 _ (by omega) (by omega)
theorem ruVal_nat (m : Nat) (x : Int) (i : Nat) (hm : m < 2 ^ (7 * i)) (hi : i < 6) (hx : 0 ≤ x) : ruVal (m : Int) x i = ((m + x.toNat % 128 * 2 ^ (7 * i) : Nat) : Int) := by
  unfold ruVal
  have e : x % 128 = ((x.toNat % 128 : Nat) : Int) := by omega
  rw [e, shl_nat _ i (by omega) hi]
  have h3 : 2 ^ (7 * i) ≤ 2 ^ 35 := Nat.pow_le_pow_right (by decide) (by omega)
  have h4 : x.toNat % 128 * 2 ^ (7 * i) ≤ 127 * 2 ^ 35 := Nat.mul_le_mul (by omega) h3
  have h5 := (bits_nat .i64 62 (by decide) wraps_i64 m (x.toNat % 128 * 2 ^ (7 * i)) (by omega) (by omega)).2
  rw [h5, Nat.or_comm, Nat.mul_comm, ← Nat.two_pow_add_eq_or_of_lt hm, Nat.mul_comm, Nat.add_comm]
theorem ruVal_lt (m i c : Nat) (hm : m < 2 ^ (7 * i)) : m + c % 128 * 2 ^ (7 * i) < 2 ^ (7 * (i + 1)) := by
  have h1 : (c % 128 + 1) * 2 ^ (7 * i) ≤ 128 * 2 ^ (7 * i) := Nat.mul_le_mul_right _ (by omega)
  have h2 : 2 ^ (7 * (i + 1)) = 128 * 2 ^ (7 * i) := by rw [Nat.mul_add, Nat.pow_add, Nat.mul_comm]
  rw [h2]
  rw [Nat.add_mul, Nat.one_mul] at h1
  omega
/-- What a good answer says. -/
def RuOk (l : List Int) (r : Int × Int × Bool) : Prop := (r.2.2 = true → 0 ≤ r.1 ∧ r.1 ≤ 1000000000000 ∧ 0 < r.2.1 ∧ r.2.1 ≤ (l.length : Int)) ∧ (r.2.2 = false → r = (0, 0, false))
theorem ruBody_ok (l : List Int) (a i : Nat) (x : Int) (v : Nat) (r : Int × Int × Bool) (hb : l.length ≤ 40000000) (hr : RuOk l r) (c : a + i < l.length) : ∃ q, ruBody a i x (v : Int) (some r) = some q ∧ RuOk l q := by
  have e : wrap64 (((a + i : Nat) : Int) + 1) = ((a + i + 1 : Nat) : Int) := Kit.wrap_succ (a + i) (by omega)
  have bad : RuOk l (0, 0, false) := ⟨fun h => absurd h (by simp), fun _ => rfl⟩
  have good : ¬ ((v : Int) > 1000000000000) → RuOk l ((v : Int), ((a + i + 1 : Nat) : Int), true) := fun h => ⟨fun _ => ⟨by show (0 : Int) ≤ (v : Int); omega, by show (v : Int) ≤ _; omega, by show (0 : Int) < ((a + i + 1 : Nat) : Int); omega, by show ((a + i + 1 : Nat) : Int) ≤ (l.length : Int); omega⟩, fun h => absurd h (by simp)⟩
  unfold ruBody
  rw [e]
  by_cases c1 : x < 128
  · rw [if_pos c1]
    by_cases c2 : x = 0
    · rw [if_pos c2]
      by_cases c3 : (i : Int) > 0
      · rw [if_pos c3]
        exact ⟨_, rfl, bad⟩
      · rw [if_neg c3]
        by_cases c4 : (v : Int) > 1000000000000
        · rw [if_pos c4]
          exact ⟨_, rfl, bad⟩
        · rw [if_neg c4]
          exact ⟨_, rfl, good c4⟩
    · rw [if_neg c2]
      by_cases c4 : (v : Int) > 1000000000000
      · rw [if_pos c4]
        exact ⟨_, rfl, bad⟩
      · rw [if_neg c4]
        exact ⟨_, rfl, good c4⟩
  · rw [if_neg c1]
    exact ⟨r, rfl, hr⟩
theorem ru_loops2 (l : List Int) (hb : l.length ≤ 40000000) (w : ∀ x ∈ l, 0 ≤ x ∧ x < 256) (a : Nat) (ha : a < l.length) (d : Nat) : ∀ (k k' i m : Nat), i ≤ 6 → 6 - i = d → 2 * d + 1 < k → d < k' → m < 2 ^ (7 * i) →
    ∃ r, spec_ReadUvarint.l0 k l (a : Int) (m : Int) (i : Int) = some r ∧ impl_ReadUvarint.l0 k' (a : Int) (m : Int) (l.drop a) ((l.drop a).length : Int) (i : Int) = some r ∧ RuOk l r := by
  have bad : RuOk l (0, 0, false) := ⟨fun h => absurd h (by simp), fun _ => rfl⟩
  induction d with
  | zero =>
    intro k k' i m h0 h1 h2 h3 hm
    obtain ⟨k, rfl⟩ : ∃ m, k = m + 1 := ⟨k - 1, by omega⟩
    obtain ⟨k', rfl⟩ : ∃ m, k' = m + 1 := ⟨k' - 1, by omega⟩
    obtain rfl : i = 6 := by omega
    refine ⟨(0, 0, false), ?_, ru_impl_six _ _ _ _, bad⟩
    simp only [spec_ReadUvarint.l0]
    rw [if_neg (by omega)]
  | succ d ih =>
    intro k k' i m h0 h1 h2 h3 hm
    obtain ⟨k, rfl⟩ : ∃ m, k = m + 1 + 1 := ⟨k - 2, by omega⟩
    obtain ⟨k', rfl⟩ : ∃ m, k' = m + 1 := ⟨k' - 1, by omega⟩
    by_cases c : a + i < l.length
    · have hi : i < (l.drop a).length := by rw [List.length_drop]; omega
      have e3 : (l.drop a)[i] = l[a + i] := by rw [List.getElem_drop]
      have hx := w l[a + i] (List.getElem_mem c)
      rw [ru_spec_step l hb w a i k _ (by omega) c, ru_impl_step (l.drop a) (fun x hx => w x (List.mem_of_mem_drop hx)) a i k' _ (by omega) (by omega) hi, e3, ruVal_nat m l[a + i] i hm (by omega) hx.1]
      obtain ⟨r, r1, r2, r3⟩ := ih k k' (i + 1) (m + l[a + i].toNat % 128 * 2 ^ (7 * i)) (by omega) (by omega) (by omega) (by omega) (ruVal_lt m i _ hm)
      rw [r1, r2]
      obtain ⟨q, hq, hq2⟩ := ruBody_ok l a i l[a + i] (m + l[a + i].toNat % 128 * 2 ^ (7 * i)) r hb r3 c
      exact ⟨q, hq, hq, hq2⟩
    · exact ⟨(0, 0, false), ru_spec_out l hb a i k _ (by omega) c, ru_impl_out _ a i k' _ (by rw [List.length_drop]; omega), bad⟩
theorem ru_good (l : List Int) (hb : l.length ≤ 40000000) (w : ∀ x ∈ l, 0 ≤ x ∧ x < 256) (at_ : Int) : ∃ r, (∀ k, 20 ≤ k → spec_ReadUvarint.f k l at_ = some r ∧ impl_ReadUvarint.f k l at_ = some r) ∧ RuOk l r := by
  have e0 : wrap64 ((l.length : Int) - 1) = (l.length : Int) - 1 := Kit.wrap_id _ (by omega) (by omega)
  by_cases c : 0 ≤ at_ ∧ at_ ≤ (l.length : Int) - 1
  · obtain ⟨a, rfl⟩ := Int.eq_ofNat_of_zero_le c.1
    obtain ⟨r, r1, r2, r3⟩ := ru_loops2 l hb w a (by omega) 6 20 20 0 0 (by omega) (by omega) (by omega) (by omega) (by decide)
    refine ⟨r, fun k hk => ?_, r3⟩
    obtain ⟨s, s1, s2⟩ := ru_same l hb w (a : Int) k hk
    have t1 : spec_ReadUvarint.f 20 l (a : Int) = some r := r1
    have hm : ∀ j, LeO (spec_ReadUvarint.f j l (a : Int)) (spec_ReadUvarint.f (j + 1) l (a : Int)) := fun j => spec_ReadUvarint.mono _ _ j
    have t2 := at_rounds hm hk t1
    rw [s1] at t2
    obtain rfl := Option.some.inj t2
    exact ⟨s1, s2⟩
  · refine ⟨(0, 0, false), fun k hk => ?_, ⟨fun h => absurd h (by simp), fun _ => rfl⟩⟩
    obtain ⟨s, s1, s2⟩ := ru_same l hb w at_ k hk
    have t : spec_ReadUvarint.f k l at_ = some (0, 0, false) := by
      unfold spec_ReadUvarint.f
      obtain ⟨k, rfl⟩ : ∃ m, k = m + 1 + 1 := ⟨k - 2, by omega⟩
      simp only [spec_ReadUvarint.l0]
      rw [if_pos (by omega)]
      by_cases c1 : at_ < 0
      · rw [if_pos c1]
        simp only [spec_ReadUvarint.j1, if_true]
      · rw [if_neg c1, show wrap64 ((l.length : Int) - 0) = (l.length : Int) from by rw [Int.sub_zero]; exact Kit.wrap_id _ (by omega) (by omega), decide_eq_true (by omega)]
        simp only [spec_ReadUvarint.j1, if_true]
    rw [s1] at t
    obtain rfl := Option.some.inj t
    exact ⟨s1, s2⟩
theorem and255 (n : Int) : Go.bits .and .i64 n 255 = n % 256 := by
  have h255 : (BitVec.ofInt 64 255).toNat = 2 ^ 8 - 1 := by decide
  have key : (BitVec.ofInt 64 n &&& BitVec.ofInt 64 255).toNat = (n % ((2 ^ 64 : Nat) : Int)).toNat % 2 ^ 8 := by
    rw [BitVec.toNat_and, BitVec.toNat_ofInt, h255, Nat.and_two_pow_sub_one_eq_mod]
  show IntKind.i64.wrap ((BitVec.ofInt 64 n &&& BitVec.ofInt 64 255).toNat : Nat) = n % 256
  rw [key, IntKind.wrap_i64]
  omega
/-- Where the drawer reads next. -/
def DPos (l : List Int) (p : Int) : Prop := 0 ≤ p ∧ p ≤ (l.length : Int)
theorem byte_ok (l : List Int) (hl : l.length ≤ 1048576) (p s : Int) (hp : DPos l p) : ∃ b q t, spec_l1Byte.f l p s = some (b, q, t) ∧ (0 ≤ b ∧ b < 256) ∧ DPos l q := by
  have h0 := hp.1
  have h1 := hp.2
  unfold spec_l1Byte.f
  by_cases c : p < (l.length : Int)
  · rw [if_pos c, if_pos h0]
    refine ⟨_, _, _, rfl, ?_, ?_⟩
    · rw [and255]
      exact ⟨Int.emod_nonneg _ (by decide), Int.emod_lt_of_pos _ (by decide)⟩
    · rw [Kit.wrap_id (p + 1) (by omega) (by omega)]
      exact ⟨by omega, by omega⟩
  · rw [if_neg c]
    refine ⟨_, _, _, rfl, ?_, hp⟩
    rw [and255]
    exact ⟨Int.emod_nonneg _ (by decide), Int.emod_lt_of_pos _ (by decide)⟩
theorem below_ok (l : List Int) (hl : l.length ≤ 1048576) (p s : Int) (hp : DPos l p) (a : Int) : ∃ v q t, spec_l1Below.f l p s a = some (v, q, t) ∧ (0 ≤ v ∧ (0 < a → v < a) ∧ (a ≤ 0 → v = 0)) ∧ DPos l q := by
  unfold spec_l1Below.f
  by_cases c : a ≤ 0
  · rw [if_pos c]
    exact ⟨0, p, s, rfl, ⟨by omega, by omega, fun _ => rfl⟩, hp⟩
  · rw [if_neg c]
    have hn : ¬ a = 0 := by omega
    by_cases c2 : a ≤ 256
    · rw [if_pos c2]
      obtain ⟨b, q, t, e, hb, hq⟩ := byte_ok l hl p s hp
      rw [e]
      simp only [Option.bind_some]
      rw [if_neg hn]
      exact ⟨_, _, _, rfl, ⟨Int.tmod_nonneg _ hb.1, fun _ => Int.tmod_lt_of_pos _ (by omega), fun h => absurd h c⟩, hq⟩
    · rw [if_neg c2]
      obtain ⟨b, q, t, e, hb, hq⟩ := byte_ok l hl p s hp
      rw [e]
      simp only [Option.bind_some]
      obtain ⟨b2, q2, t2, e2, hb2, hq2⟩ := byte_ok l hl q t hq
      rw [e2]
      simp only [Option.bind_some]
      obtain ⟨b3, q3, t3, e3, hb3, hq3⟩ := byte_ok l hl q2 t2 hq2
      rw [e3]
      simp only [Option.bind_some]
      rw [if_neg hn]
      have hv : 0 ≤ wrap64 ((wrap64 ((wrap64 (b * 65536)) + (wrap64 (b2 * 256)))) + b3) := by
        rw [Kit.wrap_id (b * 65536) (by omega) (by omega), Kit.wrap_id (b2 * 256) (by omega) (by omega), Kit.wrap_id (b * 65536 + b2 * 256) (by omega) (by omega), Kit.wrap_id _ (by omega) (by omega)]
        omega
      exact ⟨_, _, _, rfl, ⟨Int.tmod_nonneg _ hv, fun _ => Int.tmod_lt_of_pos _ (by omega), fun h => absurd h c⟩, hq3⟩
theorem once_ok (l : List Int) (hl : l.length ≤ 1048576) (p s : Int) (hp : DPos l p) (a : Int) : ∃ v q t, spec_l1Once.f l p s a = some (v, q, t) ∧ DPos l q := by
  obtain ⟨v, q, t, e, _, hq⟩ := below_ok l hl p s hp a
  unfold spec_l1Once.f
  rw [e]
  exact ⟨_, _, _, rfl, hq⟩
theorem int_ok (l : List Int) (hl : l.length ≤ 1048576) (p s : Int) (hp : DPos l p) (xs : List Int) (hx : xs ≠ []) : ∃ v q t, spec_l1Int.f l p s xs = some (v, q, t) ∧ v ∈ xs ∧ DPos l q := by
  obtain ⟨v, q, t, e, hv, hq⟩ := below_ok l hl p s hp (xs.length : Int)
  have hlen : 0 < xs.length := List.length_pos_iff.2 hx
  have hv1 := hv.2.1 (by omega)
  have hv0 := hv.1
  unfold spec_l1Int.f
  rw [e]
  simp only [Option.bind_some]
  rw [if_pos hv0, if_pos hv1]
  refine ⟨_, _, _, rfl, ?_, hq⟩
  obtain ⟨n, rfl⟩ := Int.eq_ofNat_of_zero_le hv0
  rw [Kit.rd_lt xs n (by omega)]
  exact List.getElem_mem _
theorem new_loop (l : List Int) (hl : l.length ≤ 1048576) (d : Nat) : ∀ (k i : Nat) (s : Int), i ≤ l.length → l.length - i = d → d < k → ∃ t, spec_l1New.l0 k l s (i : Int) = some (l, 0, t) := by
  induction d with
  | zero =>
    intro k i s h0 h1 h2
    obtain ⟨k, rfl⟩ : ∃ m, k = m + 1 := ⟨k - 1, by omega⟩
    simp only [spec_l1New.l0]
    rw [if_neg (by omega)]
    exact ⟨_, rfl⟩
  | succ d ih =>
    intro k i s h0 h1 h2
    obtain ⟨k, rfl⟩ : ∃ m, k = m + 1 := ⟨k - 1, by omega⟩
    simp only [spec_l1New.l0]
    rw [if_pos (by omega)]
    by_cases c : (i : Int) < 4000
    · rw [if_pos c, if_pos (by omega), Kit.wrap_succ i (by omega)]
      exact ih k (i + 1) _ (by omega) (by omega) (by omega)
    · rw [if_neg c]
      exact ⟨_, rfl⟩
theorem new_ok (l : List Int) (hl : l.length ≤ 1048576) (k : Nat) (hk : l.length < k) : ∃ t, spec_l1New.f k l = some (l, 0, t) := new_loop l hl l.length k 0 _ (by omega) (by omega) hk
theorem dpos0 (l : List Int) : DPos l 0 := ⟨by omega, by omega⟩
theorem bytes_loop (l : List Int) (hl : l.length ≤ 1048576) (a : Int) (ha : a ≤ 1000000) (d : Nat) : ∀ (k i : Nat) (x : List Int) (p s : Int), DPos l p → (∀ y ∈ x, 0 ≤ y ∧ y < 256) → x.length = i → i ≤ a.toNat → a.toNat - i = d → d < k → ∃ y q t, spec_l1Bytes.l0 k a x (i : Int) l p s = some (y, q, t) ∧ (∀ z ∈ y, 0 ≤ z ∧ z < 256) ∧ y.length = a.toNat ∧ DPos l q := by
  induction d with
  | zero =>
    intro k i x p s hp hx h0 h1 h2 h3
    obtain ⟨k, rfl⟩ : ∃ m, k = m + 1 := ⟨k - 1, by omega⟩
    simp only [spec_l1Bytes.l0]
    rw [if_neg (by omega)]
    exact ⟨_, _, _, rfl, hx, by omega, hp⟩
  | succ d ih =>
    intro k i x p s hp hx h0 h1 h2 h3
    obtain ⟨k, rfl⟩ : ∃ m, k = m + 1 := ⟨k - 1, by omega⟩
    obtain ⟨b, q, t, e, hb, hq⟩ := byte_ok l hl p s hp
    simp only [spec_l1Bytes.l0]
    rw [if_pos (by omega), e]
    simp only [Option.bind_some]
    rw [if_pos (by omega), Kit.wrap_succ i (by omega), show b % 256 = b by omega]
    refine ih k (i + 1) (x ++ [b]) q t hq ?_ (by simp; omega) (by omega) (by omega) (by omega)
    intro y hy
    rcases List.mem_append.1 hy with h | h
    · exact hx y h
    · obtain rfl := List.mem_singleton.1 h
      exact hb
theorem bytes_ok (l : List Int) (hl : l.length ≤ 1048576) (p s : Int) (hp : DPos l p) (a : Int) (ha : a ≤ 1000000) (k : Nat) (hk : a.toNat < k) : ∃ y q t, spec_l1Bytes.f k l p s a = some (y, q, t) ∧ (∀ z ∈ y, 0 ≤ z ∧ z < 256) ∧ y.length = a.toNat ∧ DPos l q :=
  bytes_loop l hl a ha a.toNat k 0 [] p s hp (by simp) rfl (by omega) (by omega) hk
theorem same_eq (a b : List Int) (k : Nat) (hk : a.length < k) (h : a.length ≤ 40000000) : laws_sameBytes.f k a b = some (decide (a = b)) :=
  Kit.eq_spec (0 : Int) laws_sameBytes.l0 (fun _ _ _ _ => rfl) (f := laws_sameBytes.f) (fun _ _ _ => rfl) a b (by omega) k hk
theorem raw_ok (l : List Int) (hl : l.length ≤ 1048576) (p s : Int) (hp : DPos l p) : ∃ v q t, spec_l1Raw.f l p s = some (v, q, t) ∧ DPos l q := by
  unfold spec_l1Raw.f
  obtain ⟨b, q, t, e, hq⟩ := once_ok l hl p s hp 2
  rw [e]
  simp only [Option.bind_some]
  by_cases c : b = true
  · rw [if_pos c]
    unfold spec_l1Odd.f
    obtain ⟨v, q2, t2, e2, _, hq2⟩ := int_ok l hl q t hq [(-1), 0, 1, 2, 255, 256, 65535, 2147483647, 2147483648, 4294967295, 4294967296, (-2147483648), 9223372036854775807, (-9223372036854775808)] (by simp)
    rw [e2]
    exact ⟨_, _, _, rfl, hq2⟩
  · rw [if_neg c]
    obtain ⟨v, q2, t2, e2, _, hq2⟩ := int_ok l hl q t hq [(-1), 1000000000000, 1000000000001] (by simp)
    rw [e2]
    exact ⟨_, _, _, rfl, hq2⟩
theorem num_ok (l : List Int) (hl : l.length ≤ 1048576) (p s : Int) (hp : DPos l p) : ∃ v q t, spec_l1Num.f l p s = some (v, q, t) ∧ DPos l q := by
  unfold spec_l1Num.f
  obtain ⟨b, q, t, e, _, hq⟩ := below_ok l hl p s hp 4
  rw [e]
  simp only [Option.bind_some]
  by_cases c0 : b = 0
  · rw [if_pos c0]
    obtain ⟨v, q2, t2, e2, _, hq2⟩ := below_ok l hl q t hq 2000
    rw [e2]
    exact ⟨_, _, _, rfl, hq2⟩
  · rw [if_neg c0]
    by_cases c1 : b = 1
    · rw [if_pos c1]
      obtain ⟨v, q2, t2, e2, _, hq2⟩ := int_ok l hl q t hq [0, 1, 127, 128, 2147483646, 2147483647, 1000000000000] (by simp)
      rw [e2]
      exact ⟨_, _, _, rfl, hq2⟩
    · rw [if_neg c1]
      by_cases c2 : b = 2
      · rw [if_pos c2]
        obtain ⟨v, q2, t2, e2, _, hq2⟩ := below_ok l hl q t hq 1000000
        rw [e2]
        simp only [Option.bind_some]
        obtain ⟨v3, q3, t3, e3, _, hq3⟩ := below_ok l hl q2 t2 hq2 1000000
        rw [e3]
        exact ⟨_, _, _, rfl, hq3⟩
      · rw [if_neg c2]
        obtain ⟨v, q2, t2, e2, _, hq2⟩ := below_ok l hl q t hq 20
        rw [e2]
        exact ⟨_, _, _, rfl, hq2⟩
theorem one_ok (l : List Int) (hl : l.length ≤ 1048576) (p s : Int) (hp : DPos l p) : ∃ v q t, spec_l1One.f l p s = some (v, q, t) ∧ DPos l q := by
  unfold spec_l1One.f
  obtain ⟨b, q, t, e, hq⟩ := once_ok l hl p s hp 6
  rw [e]
  simp only [Option.bind_some]
  by_cases c : b = true
  · rw [if_pos c]
    obtain ⟨v, q2, t2, e2, hq2⟩ := raw_ok l hl q t hq
    rw [e2]
    exact ⟨_, _, _, rfl, hq2⟩
  · rw [if_neg c]
    obtain ⟨v, q2, t2, e2, hq2⟩ := num_ok l hl q t hq
    rw [e2]
    exact ⟨_, _, _, rfl, hq2⟩
theorem drawA_ok (l : List Int) (hl : l.length ≤ 1048576) (k : Nat) (hk : l.length + 20 < k) : ∃ y n, spec_DrawAppendUvarint.f k l = some (y, n) ∧ (∀ z ∈ y, 0 ≤ z ∧ z < 256) ∧ y.length ≤ 8 := by
  unfold spec_DrawAppendUvarint.f
  obtain ⟨t0, e0⟩ := new_ok l hl k (by omega)
  rw [e0]
  simp only [Option.bind_some]
  obtain ⟨v2, q2, t2, e2, hv2, hq2⟩ := below_ok l hl 0 t0 (dpos0 l) 3
  have := hv2.2.1 (by decide)
  rw [e2]
  simp only [Option.bind_some]
  obtain ⟨y, q3, t3, e3, hy, hy2, hq3⟩ := bytes_ok l hl q2 t2 hq2 v2 (by omega) k (by omega)
  rw [e3]
  simp only [Option.bind_some]
  obtain ⟨v, q, t, e, hq⟩ := one_ok l hl q3 t3 hq3
  rw [e]
  exact ⟨_, _, rfl, hy, by show y.length ≤ 8; omega⟩
theorem dr_loop (l : List Int) (hl : l.length ≤ 1048576) : ∀ (n k : Nat) (x : List Int) (p s : Int), DPos l p → (∀ y ∈ x, 0 ≤ y ∧ y < 256) → x.length + n ≤ 10 → n < k → ∃ y a, spec_DrawReadUvarint.l0 k x (n : Int) l p s = some (y, a) ∧ (∀ z ∈ y, 0 ≤ z ∧ z < 256) ∧ y.length ≤ 10
  | 0, k, x, p, s, hp, hx, h0, h1 => by
    obtain ⟨k, rfl⟩ : ∃ m, k = m + 1 := ⟨k - 1, by omega⟩
    simp only [spec_DrawReadUvarint.l0]
    rw [if_neg (by omega)]
    obtain ⟨v2, q2, t2, e2, _, hq2⟩ := below_ok l hl p s hp 4
    rw [e2]
    exact ⟨_, _, rfl, hx, by show x.length ≤ 10; omega⟩
  | n + 1, k, x, p, s, hp, hx, h0, h1 => by
    obtain ⟨k, rfl⟩ : ∃ m, k = m + 1 := ⟨k - 1, by omega⟩
    simp only [spec_DrawReadUvarint.l0]
    rw [if_pos (by omega)]
    obtain ⟨b, q, t, e, _, hq⟩ := int_ok l hl p s hp [128, 255, 0, 1, 127] (by simp)
    rw [e]
    simp only [Option.bind_some]
    rw [if_pos (by omega), Kit.wrap_id (((n + 1 : Nat) : Int) - 1) (by omega) (by omega), show ((n + 1 : Nat) : Int) - 1 = (n : Int) by omega]
    refine dr_loop l hl n k (x ++ [b % 256]) q t hq ?_ (by simp; omega) (by omega)
    intro y hy
    rcases List.mem_append.1 hy with h | h
    · exact hx y h
    · obtain rfl := List.mem_singleton.1 h
      exact ⟨Int.emod_nonneg _ (by decide), Int.emod_lt_of_pos _ (by decide)⟩
theorem drawR_ok (l : List Int) (hl : l.length ≤ 1048576) (k : Nat) (hk : l.length + 20 < k) : ∃ y a, spec_DrawReadUvarint.f k l = some (y, a) ∧ (∀ z ∈ y, 0 ≤ z ∧ z < 256) ∧ y.length ≤ 10 := by
  unfold spec_DrawReadUvarint.f
  obtain ⟨t0, e0⟩ := new_ok l hl k (by omega)
  rw [e0]
  simp only [Option.bind_some]
  obtain ⟨b, q, t, e, hq⟩ := once_ok l hl 0 t0 (dpos0 l) 2
  rw [e]
  simp only [Option.bind_some]
  by_cases c : b = true
  · rw [if_pos c]
    obtain ⟨y, q3, t3, e3, hy, hy2, hq3⟩ := bytes_ok l hl q t hq 1 (by omega) k (by omega)
    rw [e3]
    simp only [Option.bind_some]
    obtain ⟨n, q4, t4, e4, hq4⟩ := num_ok l hl q3 t3 hq3
    rw [e4]
    simp only [Option.bind_some]
    have hy1 : y.length = 1 := hy2
    rw [spec_append y (by omega) n k (by omega)]
    refine ⟨_, _, rfl, ?_, ?_⟩
    · intro z hz
      rcases List.mem_append.1 hz with h | h
      · exact hy z h
      · exact uvs_bytes n z h
    · have := uvs_length n
      rw [List.length_append]
      omega
  · rw [if_neg c]
    obtain ⟨v2, q2, t2, e2, hv2, hq2⟩ := below_ok l hl q t hq 8
    have h8 := hv2.2.1 (by decide)
    rw [e2]
    simp only [Option.bind_some]
    obtain ⟨m, rfl⟩ := Int.eq_ofNat_of_zero_le hv2.1
    exact dr_loop l hl m k [] q2 t2 hq2 (by simp) (by simp; omega) (by omega)
/-- A varint that was laid is read again. -/
theorem ru_back (l : List Int) (hb : l.length ≤ 40000000) (w : ∀ x ∈ l, 0 ≤ x ∧ x < 256) (a : Nat) : ∀ (f n i m k : Nat), i + f = 5 → n < 128 ^ (f + 1) → (0 < i → 0 < n) → m < 2 ^ (7 * i) → m + n * 2 ^ (7 * i) ≤ 1000000000000 → l.drop (a + i) = uvl f n → 2 * f + 3 < k →
    spec_ReadUvarint.l0 k l (a : Int) (m : Int) (i : Int) = some (((m + n * 2 ^ (7 * i) : Nat) : Int), (l.length : Int), true)
  | f, n, i, m, k, hif, hn, hpos, hm, hv, hd, hk => by
    obtain ⟨k, rfl⟩ : ∃ m, k = m + 1 + 1 := ⟨k - 2, by omega⟩
    have hne : 0 < (uvl f n).length := by
      cases f with
      | zero => simp [uvl]
      | succ f => unfold uvl; split <;> simp
    have hlen : l.length - (a + i) = (uvl f n).length := by rw [← hd, List.length_drop]
    have c : a + i < l.length := by omega
    rw [ru_spec_step l hb w a i k _ (by omega) c]
    have hx := w l[a + i] (List.getElem_mem c)
    rw [ruVal_nat m l[a + i] i hm (by omega) hx.1]
    rw [Kit.drop_get l (a + i) c] at hd
    have small : n < 128 → l[a + i] = (n : Int) ∧ l.drop (a + i + 1) = [] := by
      intro h
      have h2 : uvl f n = [(n : Int)] := by
        cases f with
        | zero => rfl
        | succ f => unfold uvl; rw [if_neg (by omega)]
      rw [h2] at hd
      exact ⟨(List.cons.inj hd).1, (List.cons.inj hd).2⟩
    have hw1 : a + i < 4611686018427387904 := by omega
    by_cases cn : n < 128
    · obtain ⟨e1, e2⟩ := small cn
      have hl2 : l.length - (a + i + 1) = 0 := by rw [← List.length_drop, e2]; rfl
      have hn2 : l[a + i].toNat % 128 = n := by rw [e1]; omega
      rw [hn2]
      have r1 : ruBody a i l[a + i] ((m + n * 2 ^ (7 * i) : Nat) : Int) (spec_ReadUvarint.l0 k l (a : Int) ((m + n * 2 ^ (7 * i) : Nat) : Int) ((i + 1 : Nat) : Int)) = some (((m + n * 2 ^ (7 * i) : Nat) : Int), ((a + i + 1 : Nat) : Int), true) := by
        unfold ruBody
        have g1 : l[a + i] < 128 := by omega
        have g2 : ¬ (((m + n * 2 ^ (7 * i) : Nat) : Int) > 1000000000000) := by omega
        rw [if_pos g1, Kit.wrap_succ (a + i) hw1]
        by_cases z : l[a + i] = 0
        · have z2 : ¬ ((i : Int) > 0) := by omega
          rw [if_pos z, if_neg z2, if_neg g2]
        · rw [if_neg z, if_neg g2]
      rw [r1]
      have : a + i + 1 = l.length := by omega
      rw [this]
    · cases f with
      | zero => omega
      | succ f =>
        have h2 : uvl (f + 1) n = ((n % 128 + 128 : Nat) : Int) :: uvl f (n / 128) := by
          rw [uvl, if_pos (by omega)]
        rw [h2] at hd
        obtain ⟨e1, e2⟩ := List.cons.inj hd
        have hn2 : l[a + i].toNat % 128 = n % 128 := by rw [e1]; omega
        have g1 : ¬ l[a + i] < 128 := by omega
        have hp2 : 2 ^ (7 * (i + 1)) = 128 * 2 ^ (7 * i) := by rw [Nat.mul_add, Nat.pow_add, Nat.mul_comm]
        have hsum : m + n % 128 * 2 ^ (7 * i) + n / 128 * 2 ^ (7 * (i + 1)) = m + n * 2 ^ (7 * i) := by
          rw [hp2, ← Nat.mul_assoc, Nat.add_assoc, ← Nat.add_mul]
          congr 2
          omega
        have hlt := ruVal_lt m i n hm
        unfold ruBody
        rw [if_neg g1, hn2]
        have := ru_back l hb w a f (n / 128) (i + 1) (m + n % 128 * 2 ^ (7 * i)) k (by omega) (by rw [Nat.div_lt_iff_lt_mul (by decide)]; exact hn) (by omega) hlt (by omega) e2 (by omega)
        rw [this, hsum]
/-- What is read was laid so. -/
theorem ru_canon (l : List Int) (hb : l.length ≤ 40000000) (w : ∀ x ∈ l, 0 ≤ x ∧ x < 256) (a : Nat) : ∀ (f i m k : Nat) (v next : Int), i + f = 5 → m < 2 ^ (7 * i) → 2 * f + 5 < k → spec_ReadUvarint.l0 k l (a : Int) (m : Int) (i : Int) = some (v, next, true) →
    ∃ n e : Nat, v = ((m + n * 2 ^ (7 * i) : Nat) : Int) ∧ next = (e : Int) ∧ a + i < e ∧ e ≤ l.length ∧ (l.take e).drop (a + i) = uvl f n ∧ (0 < i → 0 < n)
  | f, i, m, k, v, next, hif, hm, hk, h => by
    obtain ⟨k, rfl⟩ : ∃ m, k = m + 1 + 1 := ⟨k - 2, by omega⟩
    by_cases c : a + i < l.length
    · rw [ru_spec_step l hb w a i k _ (by omega) c] at h
      have hx := w l[a + i] (List.getElem_mem c)
      rw [ruVal_nat m l[a + i] i hm (by omega) hx.1] at h
      unfold ruBody at h
      rw [Kit.wrap_succ (a + i) (by omega)] at h
      by_cases g1 : l[a + i] < 128
      · rw [if_pos g1] at h
        have one : (l.take (a + i + 1)).drop (a + i) = uvl f l[a + i].toNat := by
          have h2 : uvl f l[a + i].toNat = [(l[a + i].toNat : Int)] := by
            cases f with
            | zero => rfl
            | succ f => unfold uvl; rw [if_neg (by omega)]
          rw [h2, List.take_succ_eq_append_getElem c, List.drop_left' (by rw [List.length_take]; omega)]
          congr 1
          omega
        have hmod : l[a + i].toNat % 128 = l[a + i].toNat := by omega
        by_cases z : l[a + i] = 0
        · rw [if_pos z] at h
          by_cases z2 : (i : Int) > 0
          · rw [if_pos z2] at h
            simp at h
          · rw [if_neg z2] at h
            split at h
            · simp at h
            · simp only [Option.some.injEq, Prod.mk.injEq, and_true] at h
              exact ⟨l[a + i].toNat, a + i + 1, by rw [← h.1, hmod], h.2.symm, by omega, by omega, one, by omega⟩
        · rw [if_neg z] at h
          split at h
          · simp at h
          · simp only [Option.some.injEq, Prod.mk.injEq, and_true] at h
            exact ⟨l[a + i].toNat, a + i + 1, by rw [← h.1, hmod], h.2.symm, by omega, by omega, one, by omega⟩
      · rw [if_neg g1] at h
        cases f with
        | zero =>
          obtain rfl : i = 5 := by omega
          obtain ⟨k, rfl⟩ : ∃ m, k = m + 1 := ⟨k - 1, by omega⟩
          simp only [spec_ReadUvarint.l0] at h
          rw [if_neg (by decide)] at h
          simp at h
        | succ f =>
          have hlt := ruVal_lt m i l[a + i].toNat hm
          obtain ⟨n, e2, h1, h2, h3, h4, h5, h6⟩ := ru_canon l hb w a f (i + 1) _ k v next (by omega) hlt (by omega) h
          have hn0 := h6 (by omega)
          have hp2 : 2 ^ (7 * (i + 1)) = 128 * 2 ^ (7 * i) := by rw [Nat.mul_add, Nat.pow_add, Nat.mul_comm]
          have hsum : m + l[a + i].toNat % 128 * 2 ^ (7 * i) + n * 2 ^ (7 * (i + 1)) = m + (l[a + i].toNat % 128 + n * 128) * 2 ^ (7 * i) := by
            rw [hp2, ← Nat.mul_assoc, Nat.add_assoc, ← Nat.add_mul]
          refine ⟨l[a + i].toNat % 128 + n * 128, e2, by rw [h1, hsum], h2, by omega, h4, ?_, by omega⟩
          have hc2 : a + i < (l.take e2).length := by rw [List.length_take]; omega
          rw [Kit.drop_get (l.take e2) (a + i) hc2, List.getElem_take]
          have h7 : uvl (f + 1) (l[a + i].toNat % 128 + n * 128) = (((l[a + i].toNat % 128 + n * 128) % 128 + 128 : Nat) : Int) :: uvl f ((l[a + i].toNat % 128 + n * 128) / 128) := by
            rw [uvl, if_pos (by omega)]
          rw [h7, show a + i + 1 = a + (i + 1) by omega, h5, show (l[a + i].toNat % 128 + n * 128) / 128 = n by omega]
          congr 1
          omega
    · rw [ru_spec_out l hb a i k _ (by omega) c] at h
      simp at h
theorem same_ok (l : List Int) (hb : l.length ≤ 40000000) (w : ∀ x ∈ l, 0 ≤ x ∧ x < 256) (at_ : Int) (r : Int × Int × Bool) (k : Nat) (hk : 40 ≤ k) (h : impl_ReadUvarint.f k l at_ = some r) : spec_ReadUvarint.l0 k l at_ 0 0 = some r := by
  obtain ⟨s, s1, s2⟩ := ru_same l hb w at_ k (by omega)
  rw [h] at s2
  obtain rfl := Option.some.inj s2
  exact s1
theorem j1_ok (l0 : List Int) (hl : l0.length ≤ 1048576) (k : Nat) (hk : l0.length + 60 < k) : laws_FnVarints.j1 k l0 = some true := by
  obtain ⟨k, rfl⟩ : ∃ m, k = m + 1 := ⟨k - 1, by omega⟩
  obtain ⟨y, a, e, hy, hy2⟩ := drawR_ok l0 hl k (by omega)
  simp only [laws_FnVarints.j1]
  rw [e]
  simp only [Option.bind_some]
  obtain ⟨r, r1, r2⟩ := ru_good y (by omega) hy a
  have e1 := (r1 k (by omega)).1
  have e2 := (r1 k (by omega)).2
  obtain ⟨v, next, ok⟩ := r
  rw [e2]
  simp only [Option.bind_some]
  cases ok with
  | true =>
    obtain ⟨g1, g2, g3, g4⟩ := r2.1 rfl
    have g4' : next ≤ (y.length : Int) := g4
    have e3 : spec_ReadUvarint.l0 k y a 0 0 = some (v, next, true) := e1
    have ha : 0 ≤ a := by
      by_cases c : 0 ≤ a
      · exact c
      · exfalso
        obtain ⟨k, rfl⟩ : ∃ m, k = m + 1 + 1 := ⟨k - 2, by omega⟩
        simp only [spec_ReadUvarint.l0] at e3
        rw [if_pos (by decide), if_pos (by omega)] at e3
        simp [spec_ReadUvarint.j1] at e3
    obtain ⟨a, rfl⟩ := Int.eq_ofNat_of_zero_le ha
    obtain ⟨n, e4, h1, h2, h3, h4, h5, h6⟩ := ru_canon y (by omega) hy a 5 0 0 k v next rfl (by decide) (by omega) e3
    subst h1
    subst h2
    have h1' : ((0 + n * 2 ^ (7 * 0) : Nat) : Int) = (n : Int) := by simp
    rw [h1'] at g1 g2 ⊢
    have hn : n ≤ 1000000000000 := by
      have : (n : Int) ≤ 1000000000000 := g2
      omega
    have e5 := impl_append [] (by simp) (n : Int) k (by omega)
    have e6 : uvs (n : Int) = uvl 5 n := by
      unfold uvs
      rw [if_pos ⟨by omega, by omega⟩]
      rfl
    rw [e6, List.nil_append] at e5
    simp only [if_true]
    rw [if_pos (by omega), if_pos (by omega), if_pos (by omega), e5]
    simp only [Option.bind_some]
    rw [if_pos (by omega), if_pos (by omega)]
    have h5' : (y.take e4).drop a = uvl 5 n := h5
    rw [Int.toNat_natCast, Int.toNat_natCast, h5']
    have := uvl_length 5 n
    rw [same_eq (uvl 5 n) (uvl 5 n) k (by omega) (by omega), decide_eq_true rfl]
    rfl
  | false =>
    have := r2.2 rfl
    simp only [Prod.mk.injEq, and_true] at this
    obtain ⟨rfl, rfl⟩ := this
    rw [if_neg (by simp), e1]
    rfl
theorem FnVarints : laws_FnVarints.Pure := by
  intro l0 _ _ w0
  refine ⟨1048700, ?_⟩
  unfold laws_FnVarints.f laws_big.f
  simp only [Option.bind_some]
  by_cases c0 : (l0.length : Int) > 1048576
  · rw [decide_eq_true c0, if_pos rfl]
  rw [decide_eq_false c0, if_neg (by simp)]
  obtain ⟨y, n, e, hy, hl⟩ := drawA_ok l0 (by omega) 1048700 (by omega)
  have hj := j1_ok l0 (by omega) 1048699 (by omega)
  rw [e]
  simp only [Option.bind_some]
  have hu := uvs_length n
  have hub := uvs_bytes n
  have hz : ∀ z ∈ y ++ uvs n, 0 ≤ z ∧ z < 256 := by
    intro z hz
    rcases List.mem_append.1 hz with h | h
    · exact hy z h
    · exact hub z h
  have hlen : (y ++ uvs n).length ≤ 14 := by rw [List.length_append]; omega
  rw [impl_append y (by omega) n 1048700 (by omega)]
  simp only [Option.bind_some]
  obtain ⟨r, r1, r2⟩ := ru_good (y ++ uvs n) (by omega) hz (y.length : Int)
  have e2 := (r1 1048700 (by omega)).2
  have e1 : spec_ReadUvarint.l0 1048700 (y ++ uvs n) (y.length : Int) 0 0 = some r := (r1 1048700 (by omega)).1
  rw [e2]
  simp only [Option.bind_some]
  by_cases c : 0 ≤ n ∧ n ≤ 1000000000000
  · rw [if_neg (by omega), decide_eq_false (by omega)]
    obtain ⟨n, rfl⟩ := Int.eq_ofNat_of_zero_le c.1
    have e6 : uvs (n : Int) = uvl 5 n := by
      unfold uvs
      rw [if_pos c]
      rfl
    have e7 := ru_back (y ++ uvs (n : Int)) (by omega) hz y.length 5 n 0 0 1048700 rfl (by omega) (by omega) (by decide) (by simp; omega) (by rw [e6]; simp) (by omega)
    have e8 : some r = some (((0 + n * 2 ^ (7 * 0) : Nat) : Int), ((y ++ uvs (n : Int)).length : Int), true) := by
      rw [← e1]
      exact e7
    obtain rfl := Option.some.inj e8
    have h1' : ((0 + n * 2 ^ (7 * 0) : Nat) : Int) = (n : Int) := by simp
    rw [h1']
    simp only [laws_FnVarints.j0]
    rw [if_neg (by simp), if_pos trivial, if_pos trivial, if_pos trivial]
    exact hj
  · have e6 : uvs n = [] := by
      unfold uvs
      rw [if_neg c]
    have e7 : r = (0, 0, false) := by
      have e1' := e1
      rw [e6, List.append_nil] at e1'
      have := ru_spec_out y (by omega) y.length 0 1048698 0 (by omega) (by omega)
      have e9 : some r = some ((0 : Int), (0 : Int), false) := by
        rw [← e1']
        exact this
      exact Option.some.inj e9
    subst e7
    rw [e6, List.append_nil]
    have hjj : laws_FnVarints.j0 1048700 l0 y n y 0 0 false true = some true := by
      simp only [laws_FnVarints.j0]
      rw [if_pos trivial, if_neg (by simp), same_eq y y 1048699 (by omega) (by omega), decide_eq_true rfl]
      simp only [Option.bind_some, if_true]
      exact hj
    by_cases c1 : n < 0
    · rw [if_pos c1]
      exact hjj
    · rw [if_neg c1, decide_eq_true (by omega)]
      exact hjj

end Go.Proofs.Ytbepcmocadakhaa.Pure
