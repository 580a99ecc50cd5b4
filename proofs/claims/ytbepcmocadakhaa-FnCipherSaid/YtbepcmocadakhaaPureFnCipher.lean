/- The cipher undoes itself. -/
import Derived.Test.YtbepcmocadakhaaQFnCipherx3
import Derived.Test.YtbepcmocadakhaaKit
set_option linter.unusedVariables false
set_option linter.unusedSimpArgs false
namespace Go.Proofs.Ytbepcmocadakhaa.Pure
open Go.RowKit Go.Proofs.Ytbepcmocadakhaa.QFnCipher Go.Proofs.YtbepcmocadakhaaW.PrintWords Go.Proofs.YtbepcmocadakhaaW.PrintLast

theorem wf_u8 {x : Int} (h : (Lit.int .u8 x).wf = true) : 0 ≤ x ∧ x < 256 := by
  simp [Lit.wf, IntKind.min, IntKind.max, IntKind.signed, IntKind.bits] at h
  omega
theorem wf_i64 {x : Int} (h : (Lit.int .i64 x).wf = true) : -9223372036854775808 ≤ x ∧ x ≤ 9223372036854775807 := by
  simp [Lit.wf, IntKind.min, IntKind.max, IntKind.signed, IntKind.bits] at h
  omega
def hmod (v : Int) : Int := Int.tmod (wrap64 ((Int.tmod v 2147483647) + 2147483647)) 2147483647
theorem impl_hmod (v : Int) : impl_Mod.f v 2147483647 = some (hmod v) := by
  unfold impl_Mod.f impl_in.f hmod
  simp
def hstep (h v : Int) : Int := Int.tmod (wrap64 ((wrap64 ((wrap64 (h * 1000003)) + hmod v)) + 13)) 2147483647
theorem hash_loop (l : List Int) (hb : l.length ≤ 40000000) (d : Nat) : ∀ (k i : Nat) (h : Int), i ≤ l.length → l.length - i = d → d < k → impl_Hash.l0 k h l (l.length : Int) (i : Int) = some ((l.drop i).foldl hstep h) := by
  induction d with
  | zero =>
    intro k i h h0 h1 h2
    obtain ⟨k, rfl⟩ : ∃ m, k = m + 1 := ⟨k - 1, by omega⟩
    obtain rfl : i = l.length := by omega
    simp only [impl_Hash.l0]
    rw [if_neg (by omega)]
    simp
  | succ d ih =>
    intro k i h h0 h1 h2
    obtain ⟨k, rfl⟩ : ∃ m, k = m + 1 := ⟨k - 1, by omega⟩
    have hi : i < l.length := by omega
    have r2 := ih k (i + 1) (hstep h l[i]) (by omega) (by omega) (by omega)
    rw [Kit.drop_get l i hi, List.foldl_cons]
    simp only [impl_Hash.l0]
    rw [if_pos (by omega), if_pos (by omega), if_pos (by omega), Kit.rd_lt l i hi, impl_hmod, Kit.wrap_succ i (by omega)]
    exact r2
def hash (l : List Int) : Int := l.foldl hstep 11
theorem impl_hash (l : List Int) (hb : l.length ≤ 40000000) (k : Nat) (hk : l.length < k) : impl_Hash.f k l = some (hash l) := hash_loop l hb l.length k 0 11 (by omega) (by omega) hk
def khash (a : Int) (l : List Int) : Int := hash ([a] ++ l ++ [a])
theorem impl_khash (a : Int) (l : List Int) (hb : l.length ≤ 4000000) (k : Nat) (hk : l.length + 2 < k) : impl_KeyedHash.f k a l = some (khash a l) := by
  have h1 : slices_Concat_int_int_sm [[a], l, [a]] ([[a], l, [a]] : List (List Int)).length ≤ 17592186044415 := by
    unfold slices_Concat_int_int_sm
    simp
    omega
  have h2 : ([[a], l, [a]] : List (List Int)).flatten = [a] ++ l ++ [a] := by simp
  unfold impl_KeyedHash.f slices_Concat_int_int.f khash
  rw [if_pos h1, h2]
  simp only [Option.bind_some]
  rw [impl_hash _ (by simp; omega) k (by simp; omega)]
  rfl
theorem tm (a : Int) : ∃ q, Int.tmod a 256 = a - 256 * q ∧ -256 < Int.tmod a 256 ∧ Int.tmod a 256 < 256 :=
  ⟨Int.tdiv a 256, Int.tmod_def a 256, Int.lt_tmod_of_pos a (by decide), Int.tmod_lt_of_pos a (by decide)⟩
/-- The stream added, or taken away. -/
def crypt (s key : Int) : Nat → List Int → List Int
  | _, [] => []
  | i, b :: bs => ((b + s * khash key [(i : Int)]) % 256) :: crypt s key (i + 1) bs
theorem crypt_length (s key : Int) : ∀ (l : List Int) (i : Nat), (crypt s key i l).length = l.length
  | [], _ => rfl
  | b :: bs, i => by simp [crypt, crypt_length s key bs (i + 1)]
theorem rd_mid (p : List Int) (b : Int) (bs : List Int) : rd (p ++ b :: bs) (p.length : Int) = b := by
  rw [Kit.rd_lt _ _ (by simp)]
  simp
theorem set_mid (p : List Int) (b v : Int) (bs : List Int) : (p ++ b :: bs).set p.length v = (p ++ [v]) ++ bs := by
  simp
theorem impl_enc (key : Int) : ∀ (rest p : List Int) (k : Nat), p.length + rest.length ≤ 1048576 → rest.length + 5 < k → impl_Encrypt.l0 k key (p ++ rest) ((p.length + rest.length : Nat) : Int) (p.length : Int) = some (p ++ crypt 1 key p.length rest)
  | [], p, k, hb, hk => by
    obtain ⟨k, rfl⟩ : ∃ m, k = m + 1 := ⟨k - 1, by omega⟩
    simp only [impl_Encrypt.l0]
    rw [if_neg (by simp)]
    simp [crypt]
  | b :: bs, p, k, hb, hk => by
    obtain ⟨k, rfl⟩ : ∃ m, k = m + 1 := ⟨k - 1, by omega⟩
    simp only [List.length_cons] at hb hk
    simp only [impl_Encrypt.l0, crypt]
    rw [if_pos (by simp; omega), if_pos (by omega), if_pos (by simp; omega), impl_khash key _ (by simp) k (by simp; omega)]
    simp only [Option.bind_some]
    rw [rd_mid, Int.toNat_natCast, set_mid, Kit.wrap_succ p.length (by omega)]
    have e : (b + khash key [(p.length : Int)] % 256) % 256 = (b + 1 * khash key [(p.length : Int)]) % 256 := by omega
    rw [e]
    have := impl_enc key bs (p ++ [(b + 1 * khash key [(p.length : Int)]) % 256]) k (by simp; omega) (by omega)
    rw [show (p ++ [(b + 1 * khash key [(p.length : Int)]) % 256]).length = p.length + 1 by simp] at this
    rw [show p.length + (b :: bs).length = p.length + 1 + bs.length by simp; omega, this]
    simp
theorem implEnc (key : Int) (l : List Int) (hb : l.length ≤ 1048576) (k : Nat) (hk : l.length + 5 < k) : impl_Encrypt.f k key l = some (crypt 1 key 0 l) := by
  have := impl_enc key l [] k (by simpa using hb) hk
  unfold impl_Encrypt.f slices_Clone_byte_byte.f
  rw [if_pos (by omega)]
  simp only [Option.bind_some]
  simpa using this
theorem impl_dec (key : Int) : ∀ (rest p : List Int) (k : Nat), p.length + rest.length ≤ 1048576 → rest.length + 5 < k → impl_Decrypt.l0 k key (p ++ rest) ((p.length + rest.length : Nat) : Int) (p.length : Int) = some (p ++ crypt (-1) key p.length rest)
  | [], p, k, hb, hk => by
    obtain ⟨k, rfl⟩ : ∃ m, k = m + 1 := ⟨k - 1, by omega⟩
    simp only [impl_Decrypt.l0]
    rw [if_neg (by simp)]
    simp [crypt]
  | b :: bs, p, k, hb, hk => by
    obtain ⟨k, rfl⟩ : ∃ m, k = m + 1 := ⟨k - 1, by omega⟩
    simp only [List.length_cons] at hb hk
    simp only [impl_Decrypt.l0, crypt]
    rw [if_pos (by simp; omega), if_pos (by omega), if_pos (by simp; omega), impl_khash key _ (by simp) k (by simp; omega)]
    simp only [Option.bind_some]
    rw [rd_mid, Int.toNat_natCast, set_mid, Kit.wrap_succ p.length (by omega)]
    have e : (b - khash key [(p.length : Int)] % 256) % 256 = (b + (-1) * khash key [(p.length : Int)]) % 256 := by omega
    rw [e]
    have := impl_dec key bs (p ++ [(b + (-1) * khash key [(p.length : Int)]) % 256]) k (by simp; omega) (by omega)
    rw [show (p ++ [(b + (-1) * khash key [(p.length : Int)]) % 256]).length = p.length + 1 by simp] at this
    rw [show p.length + (b :: bs).length = p.length + 1 + bs.length by simp; omega, this]
    simp
theorem implDec (key : Int) (l : List Int) (hb : l.length ≤ 1048576) (k : Nat) (hk : l.length + 5 < k) : impl_Decrypt.f k key l = some (crypt (-1) key 0 l) := by
  have := impl_dec key l [] k (by simpa using hb) hk
  unfold impl_Decrypt.f slices_Clone_byte_byte.f
  rw [if_pos (by omega)]
  simp only [Option.bind_some]
  simpa using this
theorem and255 (n : Int) : Go.bits .and .i64 n 255 = n % 256 := by
  have h255 : (BitVec.ofInt 64 255).toNat = 2 ^ 8 - 1 := by decide
  have key : (BitVec.ofInt 64 n &&& BitVec.ofInt 64 255).toNat = (n % ((2 ^ 64 : Nat) : Int)).toNat % 2 ^ 8 := by
    rw [BitVec.toNat_and, BitVec.toNat_ofInt, h255, Nat.and_two_pow_sub_one_eq_mod]
  show IntKind.i64.wrap ((BitVec.ofInt 64 n &&& BitVec.ofInt 64 255).toNat : Nat) = n % 256
  rw [key, IntKind.wrap_i64]
  omega
/-- Where the drawer reads next. -/
def DPos (l : List Int) (p : Int) : Prop := 0 ≤ p ∧ p ≤ (l.length : Int)
theorem byte_ok (l : List Int) (hl : l.length ≤ 1048576) (p s : Int) (hp : DPos l p) : ∃ b q t, spec_l1Byte.f l p s = some (b, q, t) ∧ (0 ≤ b ∧ b < 256) ∧ DPos l q := by
  have h0 := hp.1
  have h1 := hp.2
  unfold spec_l1Byte.f
  by_cases c : p < (l.length : Int)
  · rw [if_pos c, if_pos h0]
    refine ⟨_, _, _, rfl, ?_, ?_⟩
    · rw [and255]
      exact ⟨Int.emod_nonneg _ (by decide), Int.emod_lt_of_pos _ (by decide)⟩
    · rw [Kit.wrap_id (p + 1) (by omega) (by omega)]
      exact ⟨by omega, by omega⟩
  · rw [if_neg c]
    refine ⟨_, _, _, rfl, ?_, hp⟩
    rw [and255]
    exact ⟨Int.emod_nonneg _ (by decide), Int.emod_lt_of_pos _ (by decide)⟩
theorem below_ok (l : List Int) (hl : l.length ≤ 1048576) (p s : Int) (hp : DPos l p) (a : Int) : ∃ v q t, spec_l1Below.f l p s a = some (v, q, t) ∧ (0 ≤ v ∧ (0 < a → v < a) ∧ (a ≤ 0 → v = 0)) ∧ DPos l q := by
  unfold spec_l1Below.f
  by_cases c : a ≤ 0
  · rw [if_pos c]
    exact ⟨0, p, s, rfl, ⟨by omega, by omega, fun _ => rfl⟩, hp⟩
  · rw [if_neg c]
    have hn : ¬ a = 0 := by omega
    by_cases c2 : a ≤ 256
    · rw [if_pos c2]
      obtain ⟨b, q, t, e, hb, hq⟩ := byte_ok l hl p s hp
      rw [e]
      simp only [Option.bind_some]
      rw [if_neg hn]
      exact ⟨_, _, _, rfl, ⟨Int.tmod_nonneg _ hb.1, fun _ => Int.tmod_lt_of_pos _ (by omega), fun h => absurd h c⟩, hq⟩
    · rw [if_neg c2]
      obtain ⟨b, q, t, e, hb, hq⟩ := byte_ok l hl p s hp
      rw [e]
      simp only [Option.bind_some]
      obtain ⟨b2, q2, t2, e2, hb2, hq2⟩ := byte_ok l hl q t hq
      rw [e2]
      simp only [Option.bind_some]
      obtain ⟨b3, q3, t3, e3, hb3, hq3⟩ := byte_ok l hl q2 t2 hq2
      rw [e3]
      simp only [Option.bind_some]
      rw [if_neg hn]
      have hv : 0 ≤ wrap64 ((wrap64 ((wrap64 (b * 65536)) + (wrap64 (b2 * 256)))) + b3) := by
        rw [Kit.wrap_id (b * 65536) (by omega) (by omega), Kit.wrap_id (b2 * 256) (by omega) (by omega), Kit.wrap_id (b * 65536 + b2 * 256) (by omega) (by omega), Kit.wrap_id _ (by omega) (by omega)]
        omega
      exact ⟨_, _, _, rfl, ⟨Int.tmod_nonneg _ hv, fun _ => Int.tmod_lt_of_pos _ (by omega), fun h => absurd h c⟩, hq3⟩
theorem once_ok (l : List Int) (hl : l.length ≤ 1048576) (p s : Int) (hp : DPos l p) (a : Int) : ∃ v q t, spec_l1Once.f l p s a = some (v, q, t) ∧ DPos l q := by
  obtain ⟨v, q, t, e, _, hq⟩ := below_ok l hl p s hp a
  unfold spec_l1Once.f
  rw [e]
  exact ⟨_, _, _, rfl, hq⟩
theorem int_ok (l : List Int) (hl : l.length ≤ 1048576) (p s : Int) (hp : DPos l p) (xs : List Int) (hx : xs ≠ []) : ∃ v q t, spec_l1Int.f l p s xs = some (v, q, t) ∧ v ∈ xs ∧ DPos l q := by
  obtain ⟨v, q, t, e, hv, hq⟩ := below_ok l hl p s hp (xs.length : Int)
  have hlen : 0 < xs.length := List.length_pos_iff.2 hx
  have hv1 := hv.2.1 (by omega)
  have hv0 := hv.1
  unfold spec_l1Int.f
  rw [e]
  simp only [Option.bind_some]
  rw [if_pos hv0, if_pos hv1]
  refine ⟨_, _, _, rfl, ?_, hq⟩
  obtain ⟨n, rfl⟩ := Int.eq_ofNat_of_zero_le hv0
  rw [Kit.rd_lt xs n (by omega)]
  exact List.getElem_mem _
theorem new_loop (l : List Int) (hl : l.length ≤ 1048576) (d : Nat) : ∀ (k i : Nat) (s : Int), i ≤ l.length → l.length - i = d → d < k → ∃ t, spec_l1New.l0 k l s (i : Int) = some (l, 0, t) := by
  induction d with
  | zero =>
    intro k i s h0 h1 h2
    obtain ⟨k, rfl⟩ : ∃ m, k = m + 1 := ⟨k - 1, by omega⟩
    simp only [spec_l1New.l0]
    rw [if_neg (by omega)]
    exact ⟨_, rfl⟩
  | succ d ih =>
    intro k i s h0 h1 h2
    obtain ⟨k, rfl⟩ : ∃ m, k = m + 1 := ⟨k - 1, by omega⟩
    simp only [spec_l1New.l0]
    rw [if_pos (by omega)]
    by_cases c : (i : Int) < 4000
    · rw [if_pos c, if_pos (by omega), Kit.wrap_succ i (by omega)]
      exact ih k (i + 1) _ (by omega) (by omega) (by omega)
    · rw [if_neg c]
      exact ⟨_, rfl⟩
theorem new_ok (l : List Int) (hl : l.length ≤ 1048576) (k : Nat) (hk : l.length < k) : ∃ t, spec_l1New.f k l = some (l, 0, t) := new_loop l hl l.length k 0 _ (by omega) (by omega) hk
theorem dpos0 (l : List Int) : DPos l 0 := ⟨by omega, by omega⟩
theorem bytes_loop (l : List Int) (hl : l.length ≤ 1048576) (a : Int) (ha : a ≤ 1000000) (d : Nat) : ∀ (k i : Nat) (x : List Int) (p s : Int), DPos l p → (∀ y ∈ x, 0 ≤ y ∧ y < 256) → x.length = i → i ≤ a.toNat → a.toNat - i = d → d < k → ∃ y q t, spec_l1Bytes.l0 k a x (i : Int) l p s = some (y, q, t) ∧ (∀ z ∈ y, 0 ≤ z ∧ z < 256) ∧ y.length = a.toNat ∧ DPos l q := by
  induction d with
  | zero =>
    intro k i x p s hp hx h0 h1 h2 h3
    obtain ⟨k, rfl⟩ : ∃ m, k = m + 1 := ⟨k - 1, by omega⟩
    simp only [spec_l1Bytes.l0]
    rw [if_neg (by omega)]
    exact ⟨_, _, _, rfl, hx, by omega, hp⟩
  | succ d ih =>
    intro k i x p s hp hx h0 h1 h2 h3
    obtain ⟨k, rfl⟩ : ∃ m, k = m + 1 := ⟨k - 1, by omega⟩
    obtain ⟨b, q, t, e, hb, hq⟩ := byte_ok l hl p s hp
    simp only [spec_l1Bytes.l0]
    rw [if_pos (by omega), e]
    simp only [Option.bind_some]
    rw [if_pos (by omega), Kit.wrap_succ i (by omega), show b % 256 = b by omega]
    refine ih k (i + 1) (x ++ [b]) q t hq ?_ (by simp; omega) (by omega) (by omega) (by omega)
    intro y hy
    rcases List.mem_append.1 hy with h | h
    · exact hx y h
    · obtain rfl := List.mem_singleton.1 h
      exact hb
theorem bytes_ok (l : List Int) (hl : l.length ≤ 1048576) (p s : Int) (hp : DPos l p) (a : Int) (ha : a ≤ 1000000) (k : Nat) (hk : a.toNat < k) : ∃ y q t, spec_l1Bytes.f k l p s a = some (y, q, t) ∧ (∀ z ∈ y, 0 ≤ z ∧ z < 256) ∧ y.length = a.toNat ∧ DPos l q :=
  bytes_loop l hl a ha a.toNat k 0 [] p s hp (by simp) rfl (by omega) (by omega) hk
theorem same_eq (a b : List Int) (k : Nat) (hk : a.length < k) (h : a.length ≤ 40000000) : laws_sameBytes.f k a b = some (decide (a = b)) :=
  Kit.eq_spec (0 : Int) laws_sameBytes.l0 (fun _ _ _ _ => rfl) (f := laws_sameBytes.f) (fun _ _ _ => rfl) a b (by omega) k hk
theorem crypt_inv (s key : Int) (hs : s = 1 ∨ s = -1) : ∀ (l : List Int) (i : Nat), (∀ x ∈ l, 0 ≤ x ∧ x < 256) → crypt (-s) key i (crypt s key i l) = l
  | [], _, _ => rfl
  | b :: bs, i, w => by
    have h1 := w b (List.mem_cons_self ..)
    have e : ((b + s * khash key [(i : Int)]) % 256 + -s * khash key [(i : Int)]) % 256 = b := by
      rcases hs with rfl | rfl <;> omega
    simp only [crypt]
    rw [e, crypt_inv s key hs bs (i + 1) (fun x hx => w x (List.mem_cons_of_mem _ hx))]
theorem word_ok (l : List Int) (hl : l.length ≤ 1048576) (p s : Int) (hp : DPos l p) : ∃ v q t, spec_l3Word.f l p s = some (v, q, t) ∧ DPos l q := by
  unfold spec_l3Word.f
  obtain ⟨b, q, t, e, hq⟩ := once_ok l hl p s hp 10
  rw [e]
  simp only [Option.bind_some]
  by_cases c : b = true
  · rw [if_pos c]
    obtain ⟨v, q2, t2, e2, _, hq2⟩ := int_ok l hl q t hq [(-1), 2147483647, 2147483648] (by simp)
    rw [e2]
    exact ⟨_, _, _, rfl, hq2⟩
  · rw [if_neg c]
    obtain ⟨b2, q2, t2, e2, hq2⟩ := once_ok l hl q t hq 4
    rw [e2]
    simp only [Option.bind_some]
    by_cases c2 : b2 = true
    · rw [if_pos c2]
      obtain ⟨v, q3, t3, e3, _, hq3⟩ := int_ok l hl q2 t2 hq2 [0, 1, 2147483646] (by simp)
      rw [e3]
      exact ⟨_, _, _, rfl, hq3⟩
    · rw [if_neg c2]
      obtain ⟨v, q3, t3, e3, _, hq3⟩ := below_ok l hl q2 t2 hq2 1000000
      rw [e3]
      simp only [Option.bind_some]
      obtain ⟨v4, q4, t4, e4, _, hq4⟩ := below_ok l hl q3 t3 hq3 2000
      rw [e4]
      exact ⟨_, _, _, rfl, hq4⟩
theorem draw_ok (l : List Int) (hl : l.length ≤ 1048576) (k : Nat) (hk : l.length + 20 < k) : ∃ a y, spec_DrawEncrypt.f k l = some (a, y) ∧ (∀ z ∈ y, 0 ≤ z ∧ z < 256) ∧ y.length ≤ 8 := by
  unfold spec_DrawEncrypt.f
  obtain ⟨t0, e0⟩ := new_ok l hl k (by omega)
  rw [e0]
  simp only [Option.bind_some]
  obtain ⟨v, q, t, e, hq⟩ := word_ok l hl 0 t0 (dpos0 l)
  rw [e]
  simp only [Option.bind_some]
  obtain ⟨v2, q2, t2, e2, hv2, hq2⟩ := below_ok l hl q t hq 8
  have := hv2.2.1 (by decide)
  rw [e2]
  simp only [Option.bind_some]
  obtain ⟨y, q3, t3, e3, hy, hy2, hq3⟩ := bytes_ok l hl q2 t2 hq2 v2 (by omega) k (by omega)
  rw [e3]
  exact ⟨_, _, rfl, hy, by show y.length ≤ 8; omega⟩
theorem FnCipher : laws_FnCipher.Pure := by
  intro l0 _ _ w0
  refine ⟨1048700, ?_⟩
  unfold laws_FnCipher.f laws_big.f
  simp only [Option.bind_some]
  by_cases c0 : (l0.length : Int) > 1048576
  · rw [decide_eq_true c0, if_pos rfl]
  rw [decide_eq_false c0, if_neg (by simp)]
  obtain ⟨a, y, e, hy, hl⟩ := draw_ok l0 (by omega) 1048700 (by omega)
  rw [e]
  simp only [Option.bind_some]
  have l1 : (crypt 1 a 0 y).length = y.length := crypt_length 1 a y 0
  have l2 : (crypt (-1) a 0 y).length = y.length := crypt_length (-1) a y 0
  have i1 : crypt (-1) a 0 (crypt 1 a 0 y) = y := crypt_inv 1 a (.inl rfl) y 0 hy
  have i2 : crypt 1 a 0 (crypt (-1) a 0 y) = y := crypt_inv (-1) a (.inr rfl) y 0 hy
  have e1 := implEnc a y (by omega) 1048700 (by omega)
  have e2 := implDec a (crypt 1 a 0 y) (by omega) 1048700 (by omega)
  have e3 := implDec a y (by omega) 1048700 (by omega)
  have e4 := implEnc a (crypt (-1) a 0 y) (by omega) 1048700 (by omega)
  rw [i1] at e2
  rw [i2] at e4
  have e5 := same_eq y y 1048700 (by omega) (by omega)
  rw [e1]
  simp only [Option.bind_some]
  rw [e2]
  simp only [Option.bind_some]
  rw [e5, decide_eq_true rfl]
  simp only [Option.bind_some, if_true]
  rw [e3]
  simp only [Option.bind_some]
  rw [e4]
  simp only [Option.bind_some]
  rw [e5, decide_eq_true rfl]
  simp only [Option.bind_some, if_true]
  rw [l1]
  simp

end Go.Proofs.Ytbepcmocadakhaa.Pure
