/- The pure side of the law FnExactBytesToInts: what the printed functions of the program and of the reference compute is the same, for every argument. -/
import Derived.Test.YtbaehdopmpnjoaaPFnExactBytesToIntsx2
import Derived.Laws.BitsLemmas
import Derived.Test.YtbaehdopmpnjoaaKit
namespace Go.Proofs.Ytbaehdopmpnjoaa.Pure
open Go.RowKit Go.Proofs.Ytbaehdopmpnjoaa.PFnExactBytesToInts Go.Proofs.YtbaehdopmpnjoaaW.PrintWords Go.Proofs.YtbaehdopmpnjoaaW.PrintLast

theorem toB (l : List Int) (k : Nat) (hk : l.length < k) (h : l.length ≤ 1048576) : laws_toByteS.f k l = some l := by
  have := Kit.copy_spec (fun x : Int => x) (0 : Int) laws_toByteS.l0 (fun _ _ _ _ => rfl) (f := laws_toByteS.f) (fun _ _ => rfl) l (by omega) (by omega) k hk
  simpa using this
theorem eqB (a b : List Int) (k : Nat) (hk : a.length < k) (h : a.length ≤ 40000000) : laws_eqByteS.f k a b = some (decide (a = b)) :=
  Kit.eq_spec (0 : Int) laws_eqByteS.l0 (fun _ _ _ _ => rfl) (f := laws_eqByteS.f) (fun _ _ _ => rfl) a b (by omega) k hk
theorem eqI (a b : List Int) (k : Nat) (hk : a.length < k) (h : a.length ≤ 40000000) : laws_eqIntS.f k a b = some (decide (a = b)) :=
  Kit.eq_spec (0 : Int) laws_eqIntS.l0 (fun _ _ _ _ => rfl) (f := laws_eqIntS.f) (fun _ _ _ => rfl) a b (by omega) k hk
theorem markB (l : List Int) (k : Nat) (hk : l.length < k) (h : l.length ≤ 40000000) : laws_markByteS.f k l 1 = some (1 + (l.length : Int), Kit.marks (fun x => x % 256) 1 l.length) := by
  have := Kit.mark_loop (fun x => x % 256) laws_markByteS.l0 (fun _ _ _ _ => rfl) l.length k 0 1 l (by omega) (by omega) (by omega) (by omega) hk
  simpa [laws_markByteS.f] using this
theorem markI (l : List Int) (k : Nat) (hk : l.length < k) (h : l.length ≤ 40000000) : laws_markIntS.f k l 1 = some (1 + (l.length : Int), Kit.marks (fun x => x) 1 l.length) := by
  have := Kit.mark_loop (fun x => x) laws_markIntS.l0 (fun _ _ _ _ => rfl) l.length k 0 1 l (by omega) (by omega) (by omega) (by omega) hk
  simpa [laws_markIntS.f] using this
theorem heldI (n k : Nat) (hk : n < k) (h : n ≤ 40000000) : laws_heldIntS.f k (Kit.marks (fun x => x) 1 n) 1 = some (1 + (n : Int)) := by
  have := Kit.held_loop (fun x => x) laws_heldIntS.l0 (fun _ _ _ _ => rfl) n k 0 1 (Kit.marks (fun x => x) 1 n) (by rw [Kit.marks_length]; omega) (by omega) (by omega) (by rw [Kit.marks_length]; omega) hk (by simp)
  simpa [laws_heldIntS.f] using this
theorem wf_u8 {x : Int} (h : (Lit.int .u8 x).wf = true) : 0 ≤ x ∧ x < 256 := by
  simp [Lit.wf, IntKind.min, IntKind.max, IntKind.signed, IntKind.bits] at h
  omega
theorem wf_i64 {x : Int} (h : (Lit.int .i64 x).wf = true) : -9223372036854775808 ≤ x ∧ x ≤ 9223372036854775807 := by
  simp [Lit.wf, IntKind.min, IntKind.max, IntKind.signed, IntKind.bits] at h
  omega
theorem loops (l : List Int) (hb : l.length ≤ 1048576) (w : ∀ x ∈ l, 0 ≤ x ∧ x < 256) (d : Nat) : ∀ (k i : Nat) (x : List Int), i ≤ l.length → l.length - i = d → d < k → x.length ≤ 1048577 + i → spec_BytesToInts.l0 k l x (i : Int) = some (x ++ l.drop i) ∧ impl_BytesToInts.l0 k x l (l.length : Int) (i : Int) = some (x ++ l.drop i) := by
  induction d with
  | zero =>
    intro k i x h0 h1 h2 h3
    obtain ⟨k, rfl⟩ : ∃ m, k = m + 1 := ⟨k - 1, by omega⟩
    have hi : i = l.length := by omega
    subst hi
    constructor
    · simp only [spec_BytesToInts.l0]
      rw [if_neg (by omega), List.drop_length, List.append_nil]
    · simp only [impl_BytesToInts.l0]
      rw [if_neg (by omega), List.drop_length, List.append_nil]
  | succ d ih =>
    intro k i x h0 h1 h2 h3
    obtain ⟨k, rfl⟩ : ∃ m, k = m + 1 := ⟨k - 1, by omega⟩
    have hi : i < l.length := by omega
    have hc := w l[i] (List.getElem_mem hi)
    obtain ⟨r1, r2⟩ := ih k (i + 1) (x ++ [l[i]]) (by omega) (by omega) (by omega) (by rw [List.length_append, List.length_singleton]; omega)
    have e : x ++ l.drop i = (x ++ [l[i]]) ++ l.drop (i + 1) := by rw [Kit.drop_get l i hi, List.append_assoc]; rfl
    rw [e]
    constructor
    · simp only [spec_BytesToInts.l0]
      rw [if_pos (by omega), if_pos (by omega), if_pos (by omega), Kit.rd_lt l i hi, Kit.wrap_id _ (by omega) (by omega), Kit.wrap_succ i (by omega)]
      exact r1
    · simp only [impl_BytesToInts.l0]
      rw [if_pos (by omega), if_pos (by omega), if_pos (by omega), if_pos (by omega), Kit.rd_lt l i hi, Kit.wrap_id _ (by omega) (by omega), Kit.wrap_succ i (by omega)]
      exact r2
theorem FnExactBytesToInts : laws_FnExactBytesToInts.Pure := by
  intro l0 _ _ w0
  by_cases c0 : (l0.length : Int) > 1048576
  · exact ⟨0, by unfold laws_FnExactBytesToInts.f; rw [if_pos c0]⟩
  refine ⟨1048580, ?_⟩
  have hl := loops l0 (by omega) (fun x hx => wf_u8 (w0 x hx)) l0.length 1048580 0 [(l0.length : Int)] (by omega) (by omega) (by omega) (by simp)
  have hl' := loops l0 (by omega) (fun x hx => wf_u8 (w0 x hx)) l0.length 1048579 0 [(l0.length : Int)] (by omega) (by omega) (by omega) (by simp)
  have e1 : spec_BytesToInts.f 1048580 l0 = some ((l0.length : Int) :: l0) := hl.1
  have e2 : impl_BytesToInts.f 1048580 l0 = some ((l0.length : Int) :: l0) := hl.2
  have e3 : impl_BytesToInts.f 1048579 l0 = some ((l0.length : Int) :: l0) := hl'.2
  have hn : ((l0.length : Int) :: l0).length = l0.length + 1 := rfl
  have hj : laws_FnExactBytesToInts.j0 1048580 l0 ((l0.length : Int) :: l0) ((l0.length : Int) :: l0) false = some true := by
    simp only [laws_FnExactBytesToInts.j0]
    simp only [markI ((l0.length : Int) :: l0) 1048579 (by omega) (by omega), Option.bind_some, Bool.false_eq_true, if_false]
    simp only [heldI ((l0.length : Int) :: l0).length 1048579 (by omega) (by omega), Option.bind_some]
    rw [if_neg (by omega)]
    simp only [if_true, toB l0 1048579 (by omega) (by omega), e3, eqI ((l0.length : Int) :: l0) ((l0.length : Int) :: l0) 1048579 (by omega) (by omega), Option.bind_some, decide_true]
    rw [if_neg (by omega)]
  unfold laws_FnExactBytesToInts.f
  rw [if_neg c0]
  simp only [toB l0 1048580 (by omega) (by omega), eqB l0 l0 1048580 (by omega) (by omega), markB l0 1048580 (by omega) (by omega), e1, e2, eqI ((l0.length : Int) :: l0) ((l0.length : Int) :: l0) 1048580 (by omega) (by omega), Option.bind_some, decide_true, if_true, Bool.not_true]
  rw [if_neg (by omega)]
  exact hj

end Go.Proofs.Ytbaehdopmpnjoaa.Pure
