/- The plain law of RegsOf. -/
import Derived.Test.YtmipaoobkjppdaaOpFnExactRegsOf
import Derived.Test.YtmipaoobkjppdaaKit
set_option linter.unusedVariables false
set_option linter.unusedSimpArgs false
namespace Go.Proofs.Ytmipaoobkjppdaa.Pure
open Go.RowKit Go.Proofs.Ytmipaoobkjppdaa.QFnExactRegsOf Go.Proofs.YtmipaoobkjppdaaW.PrintWords Go.Proofs.YtmipaoobkjppdaaW.PrintLast Go.Proofs.Ytmipaoobkjppdaa.OpFnExactRegsOf

theorem eqI (a b : List Int) (k : Nat) (hk : a.length < k) (h : a.length ≤ 40000000) : laws_eqIntS.f k a b = some (decide (a = b)) :=
  Kit.eq_spec (0 : Int) laws_eqIntS.l0 (fun _ _ _ _ => rfl) (f := laws_eqIntS.f) (fun _ _ _ => rfl) a b (by omega) k hk
theorem markI (l : List Int) (k : Nat) (hk : l.length < k) (h : l.length ≤ 40000000) : laws_markIntS.f k l 1 = some (1 + (l.length : Int), Kit.marks (fun x => x) 1 l.length) := by
  have := Kit.mark_loop (fun x => x) laws_markIntS.l0 (fun _ _ _ _ => rfl) l.length k 0 1 l (by omega) (by omega) (by omega) (by omega) hk
  simpa [laws_markIntS.f] using this
theorem heldI (n k : Nat) (hk : n < k) (h : n ≤ 40000000) : laws_heldIntS.f k (Kit.marks (fun x => x) 1 n) 1 = some (1 + (n : Int)) := by
  have := Kit.held_loop (fun x => x) laws_heldIntS.l0 (fun _ _ _ _ => rfl) n k 0 1 (Kit.marks (fun x => x) 1 n) (by rw [Kit.marks_length]; omega) (by omega) (by omega) (by rw [Kit.marks_length]; omega) hk (by simp)
  simpa [laws_heldIntS.f] using this
def smL (c d : Int) : List Int := [c, d].filter fun x => !(x == -1)
def regsV (op a b c d : Int) : List Int := if op = 5 then [b, c] else if op = 6 then [b] ++ smL c d else if op = 7 then smL c d else if op = 8 then [b] else if op = 9 then [a] else if op = 10 then [a] else []
theorem smL_len (c d : Int) : (smL c d).length ≤ 2 := List.length_filter_le _ _
theorem regs_len (op a b c d : Int) : (regsV op a b c d).length ≤ 3 := by
  have := smL_len c d
  unfold regsV
  repeat' split
  all_goals simp
  all_goals omega
theorem impl_regs (op a b c d : Int) (s : ByteArray) : impl_RegsOf.f op a b c d s = some (regsV op a b c d) := by
  have h := smL_len c d
  have e : impl_some.f [c, d] = some (smL c d) := rfl
  unfold impl_RegsOf.f regsV
  by_cases c5 : op = 5
  · rw [if_pos c5, if_pos c5]
  rw [if_neg c5, if_neg c5]
  by_cases c6 : op = 6
  · rw [if_pos c6, if_pos c6, e]
    simp only [Option.bind_some]
    rw [if_pos (by simp; omega)]
  rw [if_neg c6, if_neg c6]
  by_cases c7 : op = 7
  · rw [if_pos c7, if_pos c7, e]
    rfl
  rw [if_neg c7, if_neg c7]
  by_cases c8 : op = 8
  · rw [if_pos c8, if_pos c8]
  rw [if_neg c8, if_neg c8]
  by_cases c9 : op = 9
  · rw [if_pos c9, if_pos c9]
  rw [if_neg c9, if_neg c9]
  by_cases c10 : op = 10
  · rw [if_pos c10, if_pos c10]
  rw [if_neg c10, if_neg c10]
theorem spec_twoR (k : Nat) (x : List Int) (hx : x.length ≤ 100) (op a b c d : Int) (s : ByteArray) : spec_RegsOf.j1 (k + 1) x true op a b c d s = some (x ++ smL c d) := by
  simp only [spec_RegsOf.j1]
  rw [if_pos trivial]
  by_cases h1 : c = -1
  · rw [if_pos h1]
    by_cases h2 : d = -1
    · rw [if_pos h2]
      simp [smL, h1, h2]
    · rw [if_neg h2, if_pos (by omega)]
      simp [smL, h1, h2]
  · rw [if_neg h1, if_pos (by omega)]
    simp only [Option.bind_some]
    by_cases h2 : d = -1
    · rw [if_pos h2]
      simp [smL, h1, h2]
    · rw [if_neg h2, if_pos (by simp; omega)]
      simp [smL, h1, h2]
theorem spec_regs (k : Nat) (op a b c d : Int) (s : ByteArray) : spec_RegsOf.f (k + 2) op a b c d s = some (regsV op a b c d) := by
  unfold spec_RegsOf.f regsV
  simp only [Option.bind_some]
  by_cases c5 : op = 5
  · rw [if_pos c5, if_pos c5]
  rw [if_neg c5, if_neg c5]
  by_cases c6 : op = 6
  · rw [if_pos c6, if_pos c6, if_pos (by simp)]
    simp only [spec_RegsOf.j0]
    rw [if_pos c6, List.nil_append, spec_twoR k [b] (by simp)]
  rw [if_neg c6, if_neg c6]
  by_cases c7 : op = 7
  · rw [if_pos c7, if_neg (by omega), if_neg (by omega), if_neg (by omega)]
    simp only [spec_RegsOf.j0]
    rw [if_neg c6, show (op == 7) = true from by rw [c7]; rfl, spec_twoR k [] (by simp), List.nil_append]
  rw [if_neg c7]
  by_cases c8 : op = 8
  · rw [if_pos c8, if_pos c8]
  rw [if_neg c8, if_neg c8]
  by_cases c9 : op = 9
  · rw [if_pos c9, if_pos c9]
  rw [if_neg c9, if_neg c9]
  by_cases c10 : op = 10
  · rw [if_pos c10, if_pos c10]
  rw [if_neg c10, if_neg c10]
  simp only [spec_RegsOf.j0]
  rw [if_neg c6, show (op == 7) = false from by simpa using c7]
  simp only [spec_RegsOf.j1]
  rw [if_neg (by simp)]
theorem FnExactRegsOf : OpFnExactRegsOf.Pure := by
  intro y0 hg
  refine ⟨1000, ?_⟩
  have hl := regs_len y0.f0 y0.f1 y0.f2 y0.f3 y0.f4
  unfold laws_FnExactRegsOf.f laws_szInstr.f laws_toInstr.f
  simp only [Option.bind_some]
  by_cases c : wrap64 (1048576 - (y0.f5.size : Int)) < 0
  · rw [if_pos c]
    simp only [Option.bind_some]
    rw [if_pos (by decide)]
  rw [if_neg c]
  simp only [Option.bind_some]
  rw [if_neg c]
  have e1 := spec_regs 998 y0.f0 y0.f1 y0.f2 y0.f3 y0.f4 y0.f5
  have e2 := impl_regs y0.f0 y0.f1 y0.f2 y0.f3 y0.f4 y0.f5
  generalize regsV y0.f0 y0.f1 y0.f2 y0.f3 y0.f4 = L at hl e1 e2
  rw [e1]
  simp only [Option.bind_some]
  rw [e2]
  simp only [Option.bind_some]
  rw [eqI L L 1000 (by omega) (by omega), decide_eq_true rfl]
  simp only [Option.bind_some]
  rw [if_pos trivial, markI L 1000 (by omega) (by omega)]
  simp only [Option.bind_some]
  rw [heldI L.length 1000 (by omega) (by omega)]
  simp only [Option.bind_some]
  rw [if_neg (by omega), if_pos trivial]
  rw [if_pos trivial]
  rw [if_neg (by omega), if_pos trivial]

end Go.Proofs.Ytmipaoobkjppdaa.Pure
