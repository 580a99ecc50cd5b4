/- The pure side of the law FnExactDecrypt: what the printed functions of the program and of the reference compute is the same, for every argument. -/
import Derived.Test.YtgggflbmcmalfaaQFnExactDecryptx3
import Derived.Test.YtgggflbmcmalfaaKit
set_option linter.unusedVariables false
set_option linter.unusedSimpArgs false
namespace Go.Proofs.Ytgggflbmcmalfaa.Pure
open Go.RowKit Go.Proofs.Ytgggflbmcmalfaa.QFnExactDecrypt Go.Proofs.YtgggflbmcmalfaaW.PrintWords Go.Proofs.YtgggflbmcmalfaaW.PrintLast

theorem toB (l : List Int) (k : Nat) (hk : l.length < k) (h : l.length ≤ 1048576) : laws_toByteS.f k l = some l := by
  have := Kit.copy_spec (fun x : Int => x) (0 : Int) laws_toByteS.l0 (fun _ _ _ _ => rfl) (f := laws_toByteS.f) (fun _ _ => rfl) l (by omega) (by omega) k hk
  simpa using this
theorem eqB (a b : List Int) (k : Nat) (hk : a.length < k) (h : a.length ≤ 40000000) : laws_eqByteS.f k a b = some (decide (a = b)) :=
  Kit.eq_spec (0 : Int) laws_eqByteS.l0 (fun _ _ _ _ => rfl) (f := laws_eqByteS.f) (fun _ _ _ => rfl) a b (by omega) k hk
theorem markB (l : List Int) (k : Nat) (hk : l.length < k) (h : l.length ≤ 40000000) : laws_markByteS.f k l 1 = some (1 + (l.length : Int), Kit.marks (fun x => x % 256) 1 l.length) := by
  have := Kit.mark_loop (fun x => x % 256) laws_markByteS.l0 (fun _ _ _ _ => rfl) l.length k 0 1 l (by omega) (by omega) (by omega) (by omega) hk
  simpa [laws_markByteS.f] using this
theorem heldB (n k : Nat) (hk : n < k) (h : n ≤ 40000000) : laws_heldByteS.f k (Kit.marks (fun x => x % 256) 1 n) 1 = some (1 + (n : Int)) := by
  have := Kit.held_loop (fun x => x % 256) laws_heldByteS.l0 (fun _ _ _ _ => rfl) n k 0 1 (Kit.marks (fun x => x % 256) 1 n) (by rw [Kit.marks_length]; omega) (by omega) (by omega) (by rw [Kit.marks_length]; omega) hk (by simp)
  simpa [laws_heldByteS.f] using this
theorem wf_u8 {x : Int} (h : (Lit.int .u8 x).wf = true) : 0 ≤ x ∧ x < 256 := by
  simp [Lit.wf, IntKind.min, IntKind.max, IntKind.signed, IntKind.bits] at h
  omega
theorem wf_i64 {x : Int} (h : (Lit.int .i64 x).wf = true) : -9223372036854775808 ≤ x ∧ x ≤ 9223372036854775807 := by
  simp [Lit.wf, IntKind.min, IntKind.max, IntKind.signed, IntKind.bits] at h
  omega
def hmod (v : Int) : Int := Int.tmod (wrap64 ((Int.tmod v 2147483647) + 2147483647)) 2147483647
theorem spec_hmod (v : Int) : spec_Mod.f v 2147483647 = some (hmod v) := by
  unfold spec_Mod.f spec_l1In.f hmod
  simp
theorem impl_hmod (v : Int) : impl_Mod.f v 2147483647 = some (hmod v) := by
  unfold impl_Mod.f impl_in.f hmod
  simp
def hstep (h v : Int) : Int := Int.tmod (wrap64 ((wrap64 ((wrap64 (h * 1000003)) + hmod v)) + 13)) 2147483647
theorem hash_loops (l : List Int) (hb : l.length ≤ 40000000) (d : Nat) : ∀ (k i : Nat) (h : Int), i ≤ l.length → l.length - i = d → d < k → spec_Hash.l0 k l h (i : Int) = some ((l.drop i).foldl hstep h) ∧ impl_Hash.l0 k h l (l.length : Int) (i : Int) = some ((l.drop i).foldl hstep h) := by
  induction d with
  | zero =>
    intro k i h h0 h1 h2
    obtain ⟨k, rfl⟩ : ∃ m, k = m + 1 := ⟨k - 1, by omega⟩
    obtain rfl : i = l.length := by omega
    constructor
    · simp only [spec_Hash.l0]
      rw [if_neg (by omega)]
      simp
    · simp only [impl_Hash.l0]
      rw [if_neg (by omega)]
      simp
  | succ d ih =>
    intro k i h h0 h1 h2
    obtain ⟨k, rfl⟩ : ∃ m, k = m + 1 := ⟨k - 1, by omega⟩
    have hi : i < l.length := by omega
    obtain ⟨r1, r2⟩ := ih k (i + 1) (hstep h l[i]) (by omega) (by omega) (by omega)
    rw [Kit.drop_get l i hi, List.foldl_cons]
    constructor
    · simp only [spec_Hash.l0]
      rw [if_pos (by omega), if_pos (by omega), Kit.rd_lt l i hi, spec_hmod, Kit.wrap_succ i (by omega)]
      exact r1
    · simp only [impl_Hash.l0]
      rw [if_pos (by omega), if_pos (by omega), if_pos (by omega), Kit.rd_lt l i hi, impl_hmod, Kit.wrap_succ i (by omega)]
      exact r2
def hash (l : List Int) : Int := l.foldl hstep 11
theorem spec_hash (l : List Int) (hb : l.length ≤ 40000000) (k : Nat) (hk : l.length < k) : spec_Hash.f k l = some (hash l) := (hash_loops l hb l.length k 0 11 (by omega) (by omega) hk).1
theorem impl_hash (l : List Int) (hb : l.length ≤ 40000000) (k : Nat) (hk : l.length < k) : impl_Hash.f k l = some (hash l) := (hash_loops l hb l.length k 0 11 (by omega) (by omega) hk).2
def khash (a : Int) (l : List Int) : Int := hash ([a] ++ l ++ [a])
theorem spec_khash (a : Int) (l : List Int) (hb : l.length ≤ 4000000) (k : Nat) (hk : l.length + 2 < k) : spec_KeyedHash.f k a l = some (khash a l) := by
  have h1 : ([a] : List Int).length + l.length < 17592186044416 := by show 1 + l.length < _; omega
  have h2 : ([a] ++ l : List Int).length < 17592186044416 := by rw [List.length_append]; exact h1
  unfold spec_KeyedHash.f khash
  simp only [Option.bind_some]
  rw [if_pos h1, if_pos h2, spec_hash _ (by simp; omega) k (by simp; omega)]
  rfl
theorem impl_khash (a : Int) (l : List Int) (hb : l.length ≤ 4000000) (k : Nat) (hk : l.length + 2 < k) : impl_KeyedHash.f k a l = some (khash a l) := by
  have h1 : slices_Concat_int_int_sm [[a], l, [a]] ([[a], l, [a]] : List (List Int)).length ≤ 17592186044415 := by
    unfold slices_Concat_int_int_sm
    simp
    omega
  have h2 : ([[a], l, [a]] : List (List Int)).flatten = [a] ++ l ++ [a] := by simp
  unfold impl_KeyedHash.f slices_Concat_int_int.f khash
  rw [if_pos h1, h2]
  simp only [Option.bind_some]
  rw [impl_hash _ (by simp; omega) k (by simp; omega)]
  rfl
theorem tm (a : Int) : ∃ q, Int.tmod a 256 = a - 256 * q ∧ -256 < Int.tmod a 256 ∧ Int.tmod a 256 < 256 :=
  ⟨Int.tdiv a 256, Int.tmod_def a 256, Int.lt_tmod_of_pos a (by decide), Int.tmod_lt_of_pos a (by decide)⟩
/-- The stream added, or taken away. -/
def crypt (s key : Int) : Nat → List Int → List Int
  | _, [] => []
  | i, b :: bs => ((b + s * khash key [(i : Int)]) % 256) :: crypt s key (i + 1) bs
theorem crypt_length (s key : Int) : ∀ (l : List Int) (i : Nat), (crypt s key i l).length = l.length
  | [], _ => rfl
  | b :: bs, i => by simp [crypt, crypt_length s key bs (i + 1)]
theorem rd_mid (p : List Int) (b : Int) (bs : List Int) : rd (p ++ b :: bs) (p.length : Int) = b := by
  rw [Kit.rd_lt _ _ (by simp)]
  simp
theorem set_mid (p : List Int) (b v : Int) (bs : List Int) : (p ++ b :: bs).set p.length v = (p ++ [v]) ++ bs := by
  simp
theorem spec_dec (key : Int) (l : List Int) (hb : l.length ≤ 1048576) (w : ∀ x ∈ l, 0 ≤ x ∧ x < 256) (d : Nat) : ∀ (k i : Nat) (x : List Int), i ≤ l.length → l.length - i = d → d + 5 < k → x.length = i → spec_Decrypt.l0 k key l x (i : Int) = some (x ++ crypt (-1) key i (l.drop i)) := by
  induction d with
  | zero =>
    intro k i x h0 h1 h2 h3
    obtain ⟨k, rfl⟩ : ∃ m, k = m + 1 := ⟨k - 1, by omega⟩
    have hi : i = l.length := by omega
    subst hi
    simp only [spec_Decrypt.l0]
    rw [if_neg (by omega), List.drop_length]
    simp [crypt]
  | succ d ih =>
    intro k i x h0 h1 h2 h3
    obtain ⟨k, rfl⟩ : ∃ m, k = m + 1 := ⟨k - 1, by omega⟩
    have hi : i < l.length := by omega
    have hw := w l[i] (List.getElem_mem hi)
    have e1 : wrap64 l[i] = l[i] := Kit.wrap_id _ (by omega) (by omega)
    have e2 : ∃ m, spec_Mod.f (wrap64 (l[i] - Int.tmod (khash key [(i : Int)]) 256)) 256 = some m ∧ m % 256 = (l[i] + (-1) * khash key [(i : Int)]) % 256 := by
      obtain ⟨q, h1, h2, h3⟩ := tm (khash key [(i : Int)])
      rw [Kit.wrap_id _ (by omega) (by omega)]
      obtain ⟨q2, h4, h5, h6⟩ := tm (l[i] - Int.tmod (khash key [(i : Int)]) 256)
      obtain ⟨q3, h7, _, _⟩ := tm (Int.tmod (l[i] - Int.tmod (khash key [(i : Int)]) 256) 256 + 256)
      refine ⟨Int.tmod (Int.tmod (l[i] - Int.tmod (khash key [(i : Int)]) 256) 256 + 256) 256, ?_, ?_⟩
      · unfold spec_Mod.f spec_l1In.f
        rw [Kit.wrap_id _ (by omega) (by omega)]
        simp
      · rw [h7, h4, h1]
        omega
    obtain ⟨m, e3, e4⟩ := e2
    rw [Kit.drop_get l i hi]
    simp only [spec_Decrypt.l0, crypt]
    rw [if_pos (by omega), if_pos (by omega), spec_khash key _ (by simp) k (by simp; omega)]
    simp only [Option.bind_some]
    rw [Kit.rd_lt l i hi, e1, e3]
    simp only [Option.bind_some]
    rw [if_pos (by omega), e4, Kit.wrap_succ i (by omega), ih k (i + 1) _ (by omega) (by omega) (by omega) (by simp [h3])]
    simp
theorem impl_dec (key : Int) : ∀ (rest p : List Int) (k : Nat), p.length + rest.length ≤ 1048576 → rest.length + 5 < k → impl_Decrypt.l0 k key (p ++ rest) ((p.length + rest.length : Nat) : Int) (p.length : Int) = some (p ++ crypt (-1) key p.length rest)
  | [], p, k, hb, hk => by
    obtain ⟨k, rfl⟩ : ∃ m, k = m + 1 := ⟨k - 1, by omega⟩
    simp only [impl_Decrypt.l0]
    rw [if_neg (by simp)]
    simp [crypt]
  | b :: bs, p, k, hb, hk => by
    obtain ⟨k, rfl⟩ : ∃ m, k = m + 1 := ⟨k - 1, by omega⟩
    simp only [List.length_cons] at hb hk
    simp only [impl_Decrypt.l0, crypt]
    rw [if_pos (by simp; omega), if_pos (by omega), if_pos (by simp; omega), impl_khash key _ (by simp) k (by simp; omega)]
    simp only [Option.bind_some]
    rw [rd_mid, Int.toNat_natCast, set_mid, Kit.wrap_succ p.length (by omega)]
    have e : (b - khash key [(p.length : Int)] % 256) % 256 = (b + (-1) * khash key [(p.length : Int)]) % 256 := by omega
    rw [e]
    have := impl_dec key bs (p ++ [(b + (-1) * khash key [(p.length : Int)]) % 256]) k (by simp; omega) (by omega)
    rw [show (p ++ [(b + (-1) * khash key [(p.length : Int)]) % 256]).length = p.length + 1 by simp] at this
    rw [show p.length + (b :: bs).length = p.length + 1 + bs.length by simp; omega, this]
    simp
theorem specDec (key : Int) (l : List Int) (hb : l.length ≤ 1048576) (w : ∀ x ∈ l, 0 ≤ x ∧ x < 256) (k : Nat) (hk : l.length + 5 < k) : spec_Decrypt.f k key l = some (crypt (-1) key 0 l) := by
  have := spec_dec key l hb w l.length k 0 [] (by omega) (by omega) (by omega) rfl
  simpa [spec_Decrypt.f] using this
theorem implDec (key : Int) (l : List Int) (hb : l.length ≤ 1048576) (k : Nat) (hk : l.length + 5 < k) : impl_Decrypt.f k key l = some (crypt (-1) key 0 l) := by
  have := impl_dec key l [] k (by simpa using hb) hk
  unfold impl_Decrypt.f slices_Clone_byte_byte.f
  rw [if_pos (by omega)]
  simp only [Option.bind_some]
  simpa using this
theorem nneg (n : Nat) : ¬ (1 + (n : Int) < 0) := by omega
theorem FnExactDecrypt : laws_FnExactDecrypt.Pure := by
  intro a0 l1 _ _ _ w1
  by_cases c0 : (l1.length : Int) > 1048576
  · exact ⟨0, by unfold laws_FnExactDecrypt.f; rw [if_pos c0]⟩
  refine ⟨1048600, ?_⟩
  have e1 := specDec a0 l1 (by omega) (fun x hx => wf_u8 (w1 x hx)) 1048600 (by omega)
  have e2 := implDec a0 l1 (by omega) 1048600 (by omega)
  have e3 := implDec a0 l1 (by omega) 1048599 (by omega)
  have hr : (crypt (-1) a0 0 l1).length = l1.length := crypt_length _ _ _ _
  generalize crypt (-1) a0 0 l1 = r at e1 e2 e3 hr
  have hj : laws_FnExactDecrypt.j0 1048600 a0 l1 r r false = some true := by
    simp only [laws_FnExactDecrypt.j0, markB r 1048599 (by omega) (by omega), heldB r.length 1048599 (by omega) (by omega), nneg, toB l1 1048599 (by omega) (by omega), e3, eqB r r 1048599 (by omega) (by omega), Option.bind_some, Bool.false_eq_true, if_false, if_true, decide_true]
  unfold laws_FnExactDecrypt.f
  rw [if_neg c0]
  simp only [toB l1 1048600 (by omega) (by omega), eqB l1 l1 1048600 (by omega) (by omega), markB l1 1048600 (by omega) (by omega), e1, e2, nneg, eqB r r 1048600 (by omega) (by omega), Option.bind_some, decide_true, if_true, if_false, Bool.not_true, hj]

end Go.Proofs.Ytgggflbmcmalfaa.Pure
