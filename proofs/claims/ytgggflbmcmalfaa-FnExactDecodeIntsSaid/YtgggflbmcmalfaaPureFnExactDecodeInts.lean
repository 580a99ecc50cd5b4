/- The pure side of the law FnExactDecodeInts: what the printed functions of the program and of the reference compute is the same, for every argument. -/
import Derived.Test.YtgggflbmcmalfaaQFnExactDecodeIntsx3
import Derived.Laws.BitsLemmas
import Derived.Test.YtgggflbmcmalfaaKit
set_option linter.unusedVariables false
set_option linter.unusedSimpArgs false
namespace Go.Proofs.Ytgggflbmcmalfaa.Pure
open Go.RowKit Go.Proofs.Ytgggflbmcmalfaa.QFnExactDecodeInts Go.Proofs.YtgggflbmcmalfaaW.PrintWords Go.Proofs.YtgggflbmcmalfaaW.PrintLast

theorem toB (l : List Int) (k : Nat) (hk : l.length < k) (h : l.length ≤ 1048576) : laws_toByteS.f k l = some l := by
  have := Kit.copy_spec (fun x : Int => x) (0 : Int) laws_toByteS.l0 (fun _ _ _ _ => rfl) (f := laws_toByteS.f) (fun _ _ => rfl) l (by omega) (by omega) k hk
  simpa using this
theorem eqB (a b : List Int) (k : Nat) (hk : a.length < k) (h : a.length ≤ 40000000) : laws_eqByteS.f k a b = some (decide (a = b)) :=
  Kit.eq_spec (0 : Int) laws_eqByteS.l0 (fun _ _ _ _ => rfl) (f := laws_eqByteS.f) (fun _ _ _ => rfl) a b (by omega) k hk
theorem eqI (a b : List Int) (k : Nat) (hk : a.length < k) (h : a.length ≤ 40000000) : laws_eqIntS.f k a b = some (decide (a = b)) :=
  Kit.eq_spec (0 : Int) laws_eqIntS.l0 (fun _ _ _ _ => rfl) (f := laws_eqIntS.f) (fun _ _ _ => rfl) a b (by omega) k hk
theorem markB (l : List Int) (k : Nat) (hk : l.length < k) (h : l.length ≤ 40000000) : laws_markByteS.f k l 1 = some (1 + (l.length : Int), Kit.marks (fun x => x % 256) 1 l.length) := by
  have := Kit.mark_loop (fun x => x % 256) laws_markByteS.l0 (fun _ _ _ _ => rfl) l.length k 0 1 l (by omega) (by omega) (by omega) (by omega) hk
  simpa [laws_markByteS.f] using this
theorem markI (l : List Int) (k : Nat) (hk : l.length < k) (h : l.length ≤ 40000000) : laws_markIntS.f k l 1 = some (1 + (l.length : Int), Kit.marks (fun x => x) 1 l.length) := by
  have := Kit.mark_loop (fun x => x) laws_markIntS.l0 (fun _ _ _ _ => rfl) l.length k 0 1 l (by omega) (by omega) (by omega) (by omega) hk
  simpa [laws_markIntS.f] using this
theorem heldI (n k : Nat) (hk : n < k) (h : n ≤ 40000000) : laws_heldIntS.f k (Kit.marks (fun x => x) 1 n) 1 = some (1 + (n : Int)) := by
  have := Kit.held_loop (fun x => x) laws_heldIntS.l0 (fun _ _ _ _ => rfl) n k 0 1 (Kit.marks (fun x => x) 1 n) (by rw [Kit.marks_length]; omega) (by omega) (by omega) (by rw [Kit.marks_length]; omega) hk (by simp)
  simpa [laws_heldIntS.f] using this
theorem wf_u8 {x : Int} (h : (Lit.int .u8 x).wf = true) : 0 ≤ x ∧ x < 256 := by
  simp [Lit.wf, IntKind.min, IntKind.max, IntKind.signed, IntKind.bits] at h
  omega
theorem wf_i64 {x : Int} (h : (Lit.int .i64 x).wf = true) : -9223372036854775808 ≤ x ∧ x ≤ 9223372036854775807 := by
  simp [Lit.wf, IntKind.min, IntKind.max, IntKind.signed, IntKind.bits] at h
  omega
theorem wraps_i64 (n : Int) (h0 : 0 ≤ n) (h1 : n < 2 ^ 62) : IntKind.i64.wrap n = n := by rw [IntKind.wrap_i64]; omega
theorem and127_i64 (x : Int) (h0 : 0 ≤ x) (h1 : x < 256) : Go.bits .and .i64 x 127 = x % 128 := bits_mask .i64 62 (by decide) wraps_i64 7 (by decide) x h0 (by omega)
theorem and127_u8 (x : Int) (h0 : 0 ≤ x) (h1 : x < 256) : Go.bits .and .u8 x 127 = x % 128 := bits_mask .u8 8 (by decide) wraps_u8 7 (by decide) x h0 h1
theorem w_sub (n i : Nat) (h : n < 4611686018427387904) (h' : i < 4611686018427387904) : wrap64 ((n : Int) - (i : Int)) = (n : Int) - (i : Int) := Kit.wrap_id _ (by omega) (by omega)
theorem w_add (n i : Nat) (h : n < 2305843009213693952) (h' : i < 2305843009213693952) : wrap64 ((n : Int) + (i : Int)) = ((n + i : Nat) : Int) := by
  rw [Kit.wrap_id _ (by omega) (by omega)]
  omega
theorem w_mul7 (i : Nat) (h : i < 100) : wrap64 (7 * (i : Int)) = 7 * (i : Int) := Kit.wrap_id _ (by omega) (by omega)
theorem w_byte (x : Int) (h : 0 ≤ x ∧ x < 256) : wrap64 x = x := Kit.wrap_id _ (by omega) (by omega)
/-- One byte of a varint: what both readers do with it. -/
def ruBody (a i : Nat) (x v : Int) (rest : Option (Int × Int × Bool)) : Option (Int × Int × Bool) :=
  if x < 128 then (if x = 0 then (if (i : Int) > 0 then some (0, 0, false) else (if v > 1000000000000 then some (0, 0, false) else some (v, wrap64 (((a + i : Nat) : Int) + 1), true))) else (if v > 1000000000000 then some (0, 0, false) else some (v, wrap64 (((a + i : Nat) : Int) + 1), true))) else rest
def ruVal (n x : Int) (i : Nat) : Int := Go.bits .or .i64 n (shl .i64 (x % 128) (7 * (i : Int)))
theorem ru_spec_out (l : List Int) (hb : l.length ≤ 40000000) (a i k : Nat) (n : Int) (hi : i < 6) (c : ¬ a + i < l.length) : spec_ReadUvarint.l0 (k + 1 + 1) l (a : Int) n (i : Int) = some (0, 0, false) := by
  simp only [spec_ReadUvarint.l0]
  rw [if_pos (by omega), if_neg (by omega), w_sub _ _ (by omega) (by omega), decide_eq_true (by omega)]
  simp only [spec_ReadUvarint.j1, if_true]
theorem ru_spec_step (l : List Int) (hb : l.length ≤ 40000000) (w : ∀ x ∈ l, 0 ≤ x ∧ x < 256) (a i k : Nat) (n : Int) (hi : i < 6) (c : a + i < l.length) :
    spec_ReadUvarint.l0 (k + 1 + 1) l (a : Int) n (i : Int) = ruBody a i l[a + i] (ruVal n l[a + i] i) (spec_ReadUvarint.l0 k l (a : Int) (ruVal n l[a + i] i) ((i + 1 : Nat) : Int)) := by
  have hw := w l[a + i] (List.getElem_mem c)
  have hc : decide ((a : Int) ≥ (l.length : Int) - (i : Int)) = false := decide_eq_false (by omega)
  have p1 : (0 : Int) ≤ ((a + i : Nat) : Int) := by omega
  have p2 : ((a + i : Nat) : Int) < (l.length : Int) := by omega
  have p3 : (0 : Int) ≤ 7 * (i : Int) := by omega
  have h1 : (i : Int) < 6 := by omega
  have h2 : ¬ ((a : Int) < 0) := by omega
  simp only [spec_ReadUvarint.l0]
  rw [if_pos h1, if_neg h2, w_sub _ _ (by omega) (by omega), hc]
  simp only [spec_ReadUvarint.j1]
  rw [if_neg (by simp), w_add a i (by omega) (by omega), w_mul7 i (by omega), if_pos p1, if_pos p2, if_pos p3, Kit.rd_lt l (a + i) c, w_byte _ hw, and127_i64 _ hw.1 hw.2, Kit.wrap_succ i (by omega)]
  rfl
theorem ru_impl_out (s : List Int) (a i k : Nat) (n : Int) (c : ¬ i < s.length) : impl_ReadUvarint.l0 (k + 1) (a : Int) n s (s.length : Int) (i : Int) = some (0, 0, false) := by
  simp only [impl_ReadUvarint.l0]
  rw [if_neg (by omega)]
theorem ru_impl_six (s : List Int) (a k : Nat) (n : Int) : impl_ReadUvarint.l0 (k + 1) (a : Int) n s (s.length : Int) ((6 : Nat) : Int) = some (0, 0, false) := by
  simp only [impl_ReadUvarint.l0]
  by_cases c : ((6 : Nat) : Int) < (s.length : Int)
  · rw [if_pos c, if_pos (by omega), if_pos c, if_pos (by omega)]
  · rw [if_neg c]
theorem ru_impl_step (s : List Int) (w : ∀ x ∈ s, 0 ≤ x ∧ x < 256) (a i k : Nat) (n : Int) (hi : i < 6) (ha : a ≤ 40000000) (c : i < s.length) :
    impl_ReadUvarint.l0 (k + 1) (a : Int) n s (s.length : Int) (i : Int) = ruBody a i s[i] (ruVal n s[i] i) (impl_ReadUvarint.l0 k (a : Int) (ruVal n s[i] i) s (s.length : Int) ((i + 1 : Nat) : Int)) := by
  have hw := w s[i] (List.getElem_mem c)
  have p1 : (0 : Int) ≤ (i : Int) := by omega
  have p2 : (i : Int) < (s.length : Int) := by omega
  have p3 : (0 : Int) ≤ 7 * (i : Int) := by omega
  have p4 : ¬ ((i : Int) = 6) := by omega
  simp only [impl_ReadUvarint.l0]
  rw [if_pos p2, if_pos p1, if_pos p2, if_neg p4, w_mul7 i (by omega), if_pos p3, Kit.rd_lt s i c, and127_u8 _ hw.1 hw.2, w_byte (s[i] % 128) ⟨by omega, by omega⟩, w_add a i (by omega) (by omega), Kit.wrap_succ i (by omega)]
  rfl
theorem ru_loops (l : List Int) (hb : l.length ≤ 40000000) (w : ∀ x ∈ l, 0 ≤ x ∧ x < 256) (a : Nat) (ha : a < l.length) (d : Nat) : ∀ (k k' i : Nat) (n : Int), i ≤ 6 → 6 - i = d → 2 * d + 1 < k → d < k' →
    ∃ r, spec_ReadUvarint.l0 k l (a : Int) n (i : Int) = some r ∧ impl_ReadUvarint.l0 k' (a : Int) n (l.drop a) ((l.drop a).length : Int) (i : Int) = some r := by
  induction d with
  | zero =>
    intro k k' i n h0 h1 h2 h3
    obtain ⟨k, rfl⟩ : ∃ m, k = m + 1 := ⟨k - 1, by omega⟩
    obtain ⟨k', rfl⟩ : ∃ m, k' = m + 1 := ⟨k' - 1, by omega⟩
    obtain rfl : i = 6 := by omega
    refine ⟨(0, 0, false), ?_, ru_impl_six _ _ _ _⟩
    simp only [spec_ReadUvarint.l0]
    rw [if_neg (by omega)]
  | succ d ih =>
    intro k k' i n h0 h1 h2 h3
    obtain ⟨k, rfl⟩ : ∃ m, k = m + 1 + 1 := ⟨k - 2, by omega⟩
    obtain ⟨k', rfl⟩ : ∃ m, k' = m + 1 := ⟨k' - 1, by omega⟩
    by_cases c : a + i < l.length
    · have hi : i < (l.drop a).length := by rw [List.length_drop]; omega
      have e3 : (l.drop a)[i] = l[a + i] := by rw [List.getElem_drop]
      rw [ru_spec_step l hb w a i k n (by omega) c, ru_impl_step (l.drop a) (fun x hx => w x (List.mem_of_mem_drop hx)) a i k' n (by omega) (by omega) hi, e3]
      obtain ⟨r, r1, r2⟩ := ih k k' (i + 1) (ruVal n l[a + i] i) (by omega) (by omega) (by omega) (by omega)
      rw [r1, r2]
      obtain ⟨q, hq⟩ : ∃ q, ruBody a i l[a + i] (ruVal n l[a + i] i) (some r) = some q := by
        unfold ruBody
        split
        · split
          · split
            · exact ⟨_, rfl⟩
            · split <;> exact ⟨_, rfl⟩
          · split <;> exact ⟨_, rfl⟩
        · exact ⟨_, rfl⟩
      exact ⟨q, hq, hq⟩
    · exact ⟨(0, 0, false), ru_spec_out l hb a i k n (by omega) c, ru_impl_out _ a i k' n (by rw [List.length_drop]; omega)⟩
theorem ru_same (l : List Int) (hb : l.length ≤ 40000000) (w : ∀ x ∈ l, 0 ≤ x ∧ x < 256) (at_ : Int) (k : Nat) (hk : 20 ≤ k) :
    ∃ r, spec_ReadUvarint.f k l at_ = some r ∧ impl_ReadUvarint.f k l at_ = some r := by
  have e0 : wrap64 ((l.length : Int) - 1) = (l.length : Int) - 1 := Kit.wrap_id _ (by omega) (by omega)
  unfold spec_ReadUvarint.f impl_ReadUvarint.f impl_in.f
  rw [e0]
  by_cases c : 0 ≤ at_ ∧ at_ ≤ (l.length : Int) - 1
  · obtain ⟨a, rfl⟩ := Int.eq_ofNat_of_zero_le c.1
    obtain ⟨r, r1, r2⟩ := ru_loops l hb w a (by omega) 6 k k 0 0 (by omega) (by omega) (by omega) (by omega)
    refine ⟨r, r1, ?_⟩
    rw [if_pos c.1, decide_eq_true c.2]
    simp only [Option.bind_some, if_true]
    rw [if_pos c.1, if_pos (by omega), Int.toNat_natCast]
    exact r2
  · refine ⟨(0, 0, false), ?_, ?_⟩
    · obtain ⟨k, rfl⟩ : ∃ m, k = m + 1 + 1 := ⟨k - 2, by omega⟩
      simp only [spec_ReadUvarint.l0]
      rw [if_pos (by omega)]
      by_cases c1 : at_ < 0
      · rw [if_pos c1]
        simp only [spec_ReadUvarint.j1, if_true]
      · rw [if_neg c1, show wrap64 ((l.length : Int) - 0) = (l.length : Int) from by rw [Int.sub_zero]; exact Kit.wrap_id _ (by omega) (by omega), decide_eq_true (by omega)]
        simp only [spec_ReadUvarint.j1, if_true]
    · by_cases c1 : 0 ≤ at_
      · rw [if_pos c1, decide_eq_false (fun h => c ⟨c1, h⟩)]
        rfl
      · rw [if_neg c1]
        rfl
theorem shl_nat (c i : Nat) (hc : c < 128) (hi : i < 6) : shl .i64 (c : Int) (7 * (i : Int)) = ((c * 2 ^ (7 * i) : Nat) : Int) := by
  unfold shl
  have e : (7 * (i : Int)).toNat = 7 * i := by omega
  rw [e, Nat.min_eq_left (by show 7 * i ≤ 64; omega)]
  have h2 : c * 2 ^ (7 * i) < 2 ^ 42 := by
    have h3 : 2 ^ (7 * i) ≤ 2 ^ 35 := Nat.pow_le_pow_right (by decide) (by omega)
    have h4 : c * 2 ^ (7 * i) ≤ 127 * 2 ^ 35 := Nat.mul_le_mul (by omega) h3
    omega
  have e2 : (c : Int) * 2 ^ (7 * i) = ((c * 2 ^ (7 * i) : Nat) : Int) := by simp
  rw [e2]
  exact wraps_i64 _ (by omega) (by omega)
theorem ruVal_nat (m : Nat) (x : Int) (i : Nat) (hm : m < 2 ^ (7 * i)) (hi : i < 6) (hx : 0 ≤ x) : ruVal (m : Int) x i = ((m + x.toNat % 128 * 2 ^ (7 * i) : Nat) : Int) := by
  unfold ruVal
  have e : x % 128 = ((x.toNat % 128 : Nat) : Int) := by omega
  rw [e, shl_nat _ i (by omega) hi]
  have h3 : 2 ^ (7 * i) ≤ 2 ^ 35 := Nat.pow_le_pow_right (by decide) (by omega)
  have h4 : x.toNat % 128 * 2 ^ (7 * i) ≤ 127 * 2 ^ 35 := Nat.mul_le_mul (by omega) h3
  have h5 := (bits_nat .i64 62 (by decide) wraps_i64 m (x.toNat % 128 * 2 ^ (7 * i)) (by omega) (by omega)).2
  rw [h5, Nat.or_comm, Nat.mul_comm, ← Nat.two_pow_add_eq_or_of_lt hm, Nat.mul_comm, Nat.add_comm]
theorem ruVal_lt (m i c : Nat) (hm : m < 2 ^ (7 * i)) : m + c % 128 * 2 ^ (7 * i) < 2 ^ (7 * (i + 1)) := by
  have h1 : (c % 128 + 1) * 2 ^ (7 * i) ≤ 128 * 2 ^ (7 * i) := Nat.mul_le_mul_right _ (by omega)
  have h2 : 2 ^ (7 * (i + 1)) = 128 * 2 ^ (7 * i) := by rw [Nat.mul_add, Nat.pow_add, Nat.mul_comm]
  rw [h2]
  rw [Nat.add_mul, Nat.one_mul] at h1
  omega
/-- What a good answer says. -/
def RuOk (l : List Int) (r : Int × Int × Bool) : Prop := (r.2.2 = true → 0 ≤ r.1 ∧ r.1 ≤ 1000000000000 ∧ 0 < r.2.1 ∧ r.2.1 ≤ (l.length : Int)) ∧ (r.2.2 = false → r = (0, 0, false))
theorem ruBody_ok (l : List Int) (a i : Nat) (x : Int) (v : Nat) (r : Int × Int × Bool) (hb : l.length ≤ 40000000) (hr : RuOk l r) (c : a + i < l.length) : ∃ q, ruBody a i x (v : Int) (some r) = some q ∧ RuOk l q := by
  have e : wrap64 (((a + i : Nat) : Int) + 1) = ((a + i + 1 : Nat) : Int) := Kit.wrap_succ (a + i) (by omega)
  have bad : RuOk l (0, 0, false) := ⟨fun h => absurd h (by simp), fun _ => rfl⟩
  have good : ¬ ((v : Int) > 1000000000000) → RuOk l ((v : Int), ((a + i + 1 : Nat) : Int), true) := fun h => ⟨fun _ => ⟨by show (0 : Int) ≤ (v : Int); omega, by show (v : Int) ≤ _; omega, by show (0 : Int) < ((a + i + 1 : Nat) : Int); omega, by show ((a + i + 1 : Nat) : Int) ≤ (l.length : Int); omega⟩, fun h => absurd h (by simp)⟩
  unfold ruBody
  rw [e]
  by_cases c1 : x < 128
  · rw [if_pos c1]
    by_cases c2 : x = 0
    · rw [if_pos c2]
      by_cases c3 : (i : Int) > 0
      · rw [if_pos c3]
        exact ⟨_, rfl, bad⟩
      · rw [if_neg c3]
        by_cases c4 : (v : Int) > 1000000000000
        · rw [if_pos c4]
          exact ⟨_, rfl, bad⟩
        · rw [if_neg c4]
          exact ⟨_, rfl, good c4⟩
    · rw [if_neg c2]
      by_cases c4 : (v : Int) > 1000000000000
      · rw [if_pos c4]
        exact ⟨_, rfl, bad⟩
      · rw [if_neg c4]
        exact ⟨_, rfl, good c4⟩
  · rw [if_neg c1]
    exact ⟨r, rfl, hr⟩
theorem ru_loops2 (l : List Int) (hb : l.length ≤ 40000000) (w : ∀ x ∈ l, 0 ≤ x ∧ x < 256) (a : Nat) (ha : a < l.length) (d : Nat) : ∀ (k k' i m : Nat), i ≤ 6 → 6 - i = d → 2 * d + 1 < k → d < k' → m < 2 ^ (7 * i) →
    ∃ r, spec_ReadUvarint.l0 k l (a : Int) (m : Int) (i : Int) = some r ∧ impl_ReadUvarint.l0 k' (a : Int) (m : Int) (l.drop a) ((l.drop a).length : Int) (i : Int) = some r ∧ RuOk l r := by
  have bad : RuOk l (0, 0, false) := ⟨fun h => absurd h (by simp), fun _ => rfl⟩
  induction d with
  | zero =>
    intro k k' i m h0 h1 h2 h3 hm
    obtain ⟨k, rfl⟩ : ∃ m, k = m + 1 := ⟨k - 1, by omega⟩
    obtain ⟨k', rfl⟩ : ∃ m, k' = m + 1 := ⟨k' - 1, by omega⟩
    obtain rfl : i = 6 := by omega
    refine ⟨(0, 0, false), ?_, ru_impl_six _ _ _ _, bad⟩
    simp only [spec_ReadUvarint.l0]
    rw [if_neg (by omega)]
  | succ d ih =>
    intro k k' i m h0 h1 h2 h3 hm
    obtain ⟨k, rfl⟩ : ∃ m, k = m + 1 + 1 := ⟨k - 2, by omega⟩
    obtain ⟨k', rfl⟩ : ∃ m, k' = m + 1 := ⟨k' - 1, by omega⟩
    by_cases c : a + i < l.length
    · have hi : i < (l.drop a).length := by rw [List.length_drop]; omega
      have e3 : (l.drop a)[i] = l[a + i] := by rw [List.getElem_drop]
      have hx := w l[a + i] (List.getElem_mem c)
      rw [ru_spec_step l hb w a i k _ (by omega) c, ru_impl_step (l.drop a) (fun x hx => w x (List.mem_of_mem_drop hx)) a i k' _ (by omega) (by omega) hi, e3, ruVal_nat m l[a + i] i hm (by omega) hx.1]
      obtain ⟨r, r1, r2, r3⟩ := ih k k' (i + 1) (m + l[a + i].toNat % 128 * 2 ^ (7 * i)) (by omega) (by omega) (by omega) (by omega) (ruVal_lt m i _ hm)
      rw [r1, r2]
      obtain ⟨q, hq, hq2⟩ := ruBody_ok l a i l[a + i] (m + l[a + i].toNat % 128 * 2 ^ (7 * i)) r hb r3 c
      exact ⟨q, hq, hq, hq2⟩
    · exact ⟨(0, 0, false), ru_spec_out l hb a i k _ (by omega) c, ru_impl_out _ a i k' _ (by rw [List.length_drop]; omega), bad⟩
theorem ru_good (l : List Int) (hb : l.length ≤ 40000000) (w : ∀ x ∈ l, 0 ≤ x ∧ x < 256) (at_ : Int) : ∃ r, (∀ k, 20 ≤ k → spec_ReadUvarint.f k l at_ = some r ∧ impl_ReadUvarint.f k l at_ = some r) ∧ RuOk l r := by
  have e0 : wrap64 ((l.length : Int) - 1) = (l.length : Int) - 1 := Kit.wrap_id _ (by omega) (by omega)
  by_cases c : 0 ≤ at_ ∧ at_ ≤ (l.length : Int) - 1
  · obtain ⟨a, rfl⟩ := Int.eq_ofNat_of_zero_le c.1
    obtain ⟨r, r1, r2, r3⟩ := ru_loops2 l hb w a (by omega) 6 20 20 0 0 (by omega) (by omega) (by omega) (by omega) (by decide)
    refine ⟨r, fun k hk => ?_, r3⟩
    obtain ⟨s, s1, s2⟩ := ru_same l hb w (a : Int) k hk
    have t1 : spec_ReadUvarint.f 20 l (a : Int) = some r := r1
    have hm : ∀ j, LeO (spec_ReadUvarint.f j l (a : Int)) (spec_ReadUvarint.f (j + 1) l (a : Int)) := fun j => spec_ReadUvarint.mono _ _ j
    have t2 := at_rounds hm hk t1
    rw [s1] at t2
    obtain rfl := Option.some.inj t2
    exact ⟨s1, s2⟩
  · refine ⟨(0, 0, false), fun k hk => ?_, ⟨fun h => absurd h (by simp), fun _ => rfl⟩⟩
    obtain ⟨s, s1, s2⟩ := ru_same l hb w at_ k hk
    have t : spec_ReadUvarint.f k l at_ = some (0, 0, false) := by
      unfold spec_ReadUvarint.f
      obtain ⟨k, rfl⟩ : ∃ m, k = m + 1 + 1 := ⟨k - 2, by omega⟩
      simp only [spec_ReadUvarint.l0]
      rw [if_pos (by omega)]
      by_cases c1 : at_ < 0
      · rw [if_pos c1]
        simp only [spec_ReadUvarint.j1, if_true]
      · rw [if_neg c1, show wrap64 ((l.length : Int) - 0) = (l.length : Int) from by rw [Int.sub_zero]; exact Kit.wrap_id _ (by omega) (by omega), decide_eq_true (by omega)]
        simp only [spec_ReadUvarint.j1, if_true]
    rw [s1] at t
    obtain rfl := Option.some.inj t
    exact ⟨s1, s2⟩
theorem nneg (n : Nat) : ¬ (1 + (n : Int) < 0) := by omega
theorem loops (l : List Int) (hb : l.length ≤ 1048576) (w : ∀ x ∈ l, 0 ≤ x ∧ x < 256) (n : Nat) (hn : n ≤ 100) (d : Nat) : ∀ (i : Nat) (a : Int) (x : List Int), i ≤ n → n - i = d → x.length ≤ i →
    ∃ r, r.1.length ≤ 100 ∧ ∀ k, 20 + d < k → spec_DecodeInts.l0 k l a (n : Int) x (i : Int) = some r ∧ impl_DecodeInts.l0 k l a x (n : Int) (i : Int) = some r := by
  induction d with
  | zero =>
    intro i a x h0 h1 hx
    refine ⟨(x, a, true), by show x.length ≤ 100; omega, fun k hk => ?_⟩
    obtain ⟨k, rfl⟩ : ∃ m, k = m + 1 := ⟨k - 1, by omega⟩
    simp only [spec_DecodeInts.l0, impl_DecodeInts.l0]
    have p : ¬ ((i : Int) < (n : Int)) := by omega
    simp only [if_neg p, and_self]
  | succ d ih =>
    intro i a x h0 h1 hx
    obtain ⟨r, hr, ok⟩ := ru_good l (by omega) w a
    by_cases c : r.2.2 = true
    · obtain ⟨q, hq, hq2⟩ := ih (i + 1) r.2.1 (x ++ [r.1]) (by omega) (by omega) (by rw [List.length_append, List.length_singleton]; omega)
      refine ⟨q, hq, fun k hk => ?_⟩
      obtain ⟨k, rfl⟩ : ∃ m, k = m + 1 := ⟨k - 1, by omega⟩
      simp only [spec_DecodeInts.l0, impl_DecodeInts.l0]
      have p : (i : Int) < (n : Int) := by omega
      have p2 : x.length < 17592186044416 := by omega
      simp only [if_pos p, (hr k (by omega)).1, (hr k (by omega)).2, Option.bind_some, if_pos c, if_pos p2, Kit.wrap_succ i (by omega)]
      exact hq2 k (by omega)
    · refine ⟨([], 0, false), by simp, fun k hk => ?_⟩
      obtain ⟨k, rfl⟩ : ∃ m, k = m + 1 := ⟨k - 1, by omega⟩
      simp only [spec_DecodeInts.l0, impl_DecodeInts.l0]
      have p : (i : Int) < (n : Int) := by omega
      simp only [if_pos p, (hr k (by omega)).1, (hr k (by omega)).2, Option.bind_some, if_neg c, and_self]
theorem both (l : List Int) (hb : l.length ≤ 1048576) (w : ∀ x ∈ l, 0 ≤ x ∧ x < 256) (a1 a2 : Int) :
    ∃ r, r.1.length ≤ 100 ∧ ∀ k, 200 ≤ k → spec_DecodeInts.f k l a1 a2 = some r ∧ impl_DecodeInts.f k l a1 a2 = some r := by
  by_cases c : (0 ≤ a2 ∧ a2 ≤ 100) ∧ 0 ≤ a1 ∧ a1 ≤ (l.length : Int)
  · obtain ⟨n, rfl⟩ := Int.eq_ofNat_of_zero_le c.1.1
    obtain ⟨r, h1, h2⟩ := loops l hb w n (by omega) n 0 a1 [] (by omega) (by omega) (by simp)
    refine ⟨r, h1, fun k hk => ?_⟩
    obtain ⟨k, rfl⟩ : ∃ m, k = m + 1 := ⟨k - 1, by omega⟩
    unfold spec_DecodeInts.f impl_DecodeInts.f spec_l1In.f impl_in.f
    simp only [Option.bind_some]
    rw [if_pos c.1.1, if_pos c.2.1, decide_eq_true c.1.2, decide_eq_true c.2.2]
    simp only [Option.bind_some, if_true, if_pos c.1.1, if_pos c.2.1, Bool.not_true]
    simp only [spec_DecodeInts.j0, impl_DecodeInts.j0, Bool.false_eq_true, if_false]
    exact h2 k (by omega)
  · refine ⟨([], 0, false), by simp, fun k hk => ?_⟩
    obtain ⟨k, rfl⟩ : ∃ m, k = m + 1 := ⟨k - 1, by omega⟩
    unfold spec_DecodeInts.f impl_DecodeInts.f spec_l1In.f impl_in.f
    simp only [Option.bind_some]
    by_cases c1 : 0 ≤ a2 <;> by_cases c2 : a2 ≤ 100 <;> by_cases c3 : 0 ≤ a1 <;> by_cases c4 : a1 ≤ (l.length : Int) <;> simp [c1, c2, c3, c4, spec_DecodeInts.j0, impl_DecodeInts.j0] <;> exact absurd ⟨⟨c1, c2⟩, c3, c4⟩ c
theorem FnExactDecodeInts : laws_FnExactDecodeInts.Pure := by
  intro l0 a1 a2 _ _ w0 _ _
  by_cases c0 : (l0.length : Int) > 1048576
  · exact ⟨0, by unfold laws_FnExactDecodeInts.f; rw [if_pos c0]⟩
  obtain ⟨r, hl, h⟩ := both l0 (by omega) (fun x hx => wf_u8 (w0 x hx)) a1 a2
  refine ⟨1048600, ?_⟩
  have hj2 : laws_FnExactDecodeInts.j2 1048598 (Kit.marks (fun x => x) 1 r.1.length) (1 + (r.1.length : Int)) false = some true := by
    simp only [laws_FnExactDecodeInts.j2, heldI r.1.length 1048597 (by omega) (by omega), nneg, Option.bind_some, Bool.false_eq_true, if_false, if_true]
  have hj1 : laws_FnExactDecodeInts.j1 1048599 l0 a1 a2 r.1 r.2.1 r.2.2 r.1 false = some true := by
    simp only [laws_FnExactDecodeInts.j1, markI r.1 1048598 (by omega) (by omega), heldI r.1.length 1048598 (by omega) (by omega), nneg, toB l0 1048598 (by omega) (by omega), (h 1048598 (by omega)).2, eqI r.1 r.1 1048598 (by omega) (by omega), Option.bind_some, Bool.false_eq_true, if_false, if_true, decide_true, bne_self_eq_false, hj2]
  have hj0 : laws_FnExactDecodeInts.j0 1048600 l0 a1 a2 r.1 r.2.1 r.2.2 l0 r.1 r.2.1 r.2.2 false = some true := by
    simp only [laws_FnExactDecodeInts.j0, markB l0 1048599 (by omega) (by omega), nneg, toB l0 1048599 (by omega) (by omega), eqB l0 l0 1048599 (by omega) (by omega), eqI r.1 r.1 1048599 (by omega) (by omega), Option.bind_some, Bool.false_eq_true, if_false, if_true, decide_true, bne_self_eq_false, hj1]
  unfold laws_FnExactDecodeInts.f
  rw [if_neg c0]
  simp only [toB l0 1048600 (by omega) (by omega), (h 1048600 (by omega)).1, (h 1048600 (by omega)).2, eqI r.1 r.1 1048600 (by omega) (by omega), Option.bind_some, decide_true, if_true, bne_self_eq_false, hj0]

end Go.Proofs.Ytgggflbmcmalfaa.Pure
